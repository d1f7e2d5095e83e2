/- Parts. -/
import Derived.Test.YtklklgfpkpglgaaGreatDoorQ27
set_option linter.all false
set_option maxRecDepth 100000
set_option maxHeartbeats 0
namespace Go.Proofs.YtklklgfpkpglgaaGreatDoor
open Go.RowKit Go.Proofs.Tryz Sc
variable (gl:List (Nat × List D))
section
def Tw:List Nat:=[0,1,2,6,7,8,9,10,11,12,13,14,22,34,35,36]
variable {mm:Int}
noncomputable def evN (ev:List (ByteArray × Bool))(l:List ByteArray):Nat->List (ByteArray × Bool)
 |0=>ev
 |j+1=>if (l.take j).any (Sc.isB (l.getD j ByteArray.empty)) then evN ev l j++[(l.getD j ByteArray.empty,true)] else evN ev l j
theorem ro4 (ev:List (ByteArray × Bool))(l:List ByteArray):∀ j,evN ev l j=ev++(((List.range j).filter λi=>(l.take i).any (Sc.isB (l.getD i ByteArray.empty))).map λi=>(l.getD i ByteArray.empty,true))
 |0=>by simp[evN]
 |j+1=>by
  rw[evN,ro4 ev l j,List.range_succ,List.filter_append,Av];split
  ·rename_i h;rw[List.filter_cons_of_pos (p:=λi=>(l.take i).any (Sc.isB (l.getD i ByteArray.empty))) h,List.filter_nil,List.map_cons,Bj,Eg]
  ·rename_i h;rw[List.filter_cons_of_neg (p:=λi=>(l.take i).any (Sc.isB (l.getD i ByteArray.empty))) h,List.filter_nil,Bj,Ey]
theorem ql0 (ev:List (ByteArray × Bool))(l:List ByteArray):∀ j,(evN ev l j).length<=ev.length+j
 |0=>Ap _
 |j+1=>by
  have:=ql0 ev l j;rw[evN];split
  ·simp;omega
  ·omega
theorem rv7 (l:List ByteArray)(j:Nat)(hj:j<l.length):l.getD j ByteArray.empty=l[j]:=by rw[List.getD_eq_getElem?_getD,Ar hj];rfl
theorem re4 (ev:List (ByteArray × Bool))(l:List ByteArray)(j:Nat)(hj:j<l.length):evN ev l (j+1)=if (l.take j).any (Sc.isB l[j]) then evN ev l j++[(l[j],true)] else evN ev l j:=by
 rw[evN,rv7 l j hj]
theorem mg2:∀ (l:List (Bool × List ByteArray)) (σ:W) (j:Nat) (hj:j<l.length),
 Da σ (l.take (j+1))=((Da σ (l.take j)).1++[⟨(Co (Da σ (l.take j)).2).1,l[j].1,l[j].2⟩],(Co (Da σ (l.take j)).2).2)
 |[],_,_,h=>by simp at h
 |x::l,σ,0,_=>by simp[Da]
 |x::l,σ,j+1,h=>by
  have:=mg2 l (Co σ).2 j (by simpa using h);simp only[Ez,Da,this,Fb,Ac]
def Met (gl:List (Nat × List D))(σ:W)(s:ByteArray):Sc.Kind->Prop
 |.free=>FnE prog gl 30 [.d (.str s),.d (.bool true),.ptr 903 0] (jb3 .free σ) (λv H1=>v=.tup []/\H1=jb3 .free (Sc.step σ s true))
 |.check ns=>FnE prog gl 61 [.d (.str s),.d (.bool true),.ptr 905 0,.ptr 904 0,.ptr 903 0] (jb3 (.check ns) σ) (λv H1=>v=.tup []/\H1=jb3 (.check ns) (Sc.step σ s true))
 |.none=>FnE prog gl 35 [.d (.str s),.d (.bool true)] [] (λv H1=>v=.tup []/\H1=[])
theorem vh7 (σ:W)(s:ByteArray)(h:σ.ev.length<=1000000000):∀ k,Met gl σ s k
 |.free=>mr8 gl σ s true h
 |.check ns=>md9 gl ns σ s true
 |.none=>kq8 gl s true
theorem Sc.Tg:∀ (l:List (Bool × List ByteArray)) (σ:W),(Da σ l).1.length=l.length
 |[],σ=>rfl
 |x::l,σ=>by simp only[Da,Aj,Tg l]
def vo7:Sc.Ent:=⟨ByteArray.empty,false,[]⟩
attribute [local irreducible] TR TC
theorem kr5 {fc:Nat}[TFun prog fc](gl:List (Nat × List D))(k:Sc.Kind)(σ:W)(nn:List ByteArray)(ds:List (Bool × List ByteArray))(s:Sp)(hle1:nn.length<=ds.length)(hle2:ds.length<=nn.length)(hn9:nn.length<=1000000000)(hr:σ.room nn.length)
 (hof:∀ (j:Nat) (hj:j<ds.length),FnE prog gl fc [.d (.int .i64 j),.ptr 1002 0,.ptr 1003 0] ((1002,.box [.ptr 900 0])::(1003,.box (sv s))::HW k (Da (Cr σ nn) (ds.take j)).2)
   (λv H1=>v=.d (Lj ⟨(Co (Da (Cr σ nn) (ds.take j)).2).1,ds[j].1,ds[j].2⟩)/\H1=(1002,.box [.ptr 900 0])::(1003,.box (sv s))::HW k (Co (Da (Cr σ nn) (ds.take j)).2).2)):
 FnE prog gl 80 [.ptr 900 0,.d (.list 1 (nn.map .str)),.clo (.func fc) [] [.ptr 1002 0,.ptr 1003 0]] ((1002,.box [.ptr 900 0])::(1003,.box (sv s))::HW k σ)
  (λv H1=>v=.d (.list 3 ((Da (Cr σ nn) ds).1.map Lj))/\H1=(1002,.box [.ptr 900 0])::(1003,.box (sv s))::HW k (Da (Cr σ nn) ds).2):=by
 have htw:Cr σ nn={σ with ev:=evN σ.ev nn nn.length}:=by rw[ro4];rfl
 rw[htw]at hof ⊢;unfold W.room at hr;obtain⟨env,tk,c,ev⟩:=σ;dsimp only at hof hr ⊢;clear htw;have tg:k=k:=rfl;cases k
 all_goals dsimp only[HW,je0,jb3]at hof ⊢
 all_goals
  (refine j3 func80 ntmps80 results80 λw M E b0=>?_)
  simp only[List.map_cons,Bj]
  (repeat' first|refine yyp ?_;try refine Ce ?_ ?_<;>intro hb|refine yy ?_|apply ah;refine Cc Tw ?_|refine Cb λK hK=>?_|apply_assumption -exfalso -symm)
  refine k9 [7,8,13,14,15,16,17,18,19,20,21,22,23,24,25,26,27,28,29] [903,904,905] (λj:Nat=>[(13,.d (.int .i64 j))]) (λj=>jb3 (kof tg) ⟨env,tk,c,evN ev nn j⟩) (λj=>j<=nn.length) (λj=>nn.length - j) 0 (Ak _) λj hj=>?_;dsimp only[Ac,Ae,jb3,kof];rcases Ai j nn.length with hj2|hj2
  ·have hlen:=ql0 ev nn j;have hm:=vh7 gl ⟨env,tk,c,evN ev nn j⟩ nn[j] (by dsimp only;omega) (kof tg);have hc:=ji4 gl (nn.take j) nn[j];have hst:=re4 ev nn j hj2;dsimp only[Met,kof,jb3,Sc.step]at hm;generalize (nn.take j).any (Sc.isB nn[j])=b at hc hst;rw[Fc]at hc
   (repeat' first|apply Ca 28;refine Ch (hc:=hm) ?_|refine yyp ?_;try refine Ce ?_ ?_<;>intro hb|refine yy ?_|apply Cf 62;refine Ci (hc:=hc) ?_;try refine Ce ?_ ?_<;>intro hb|apply ah;refine Cc Tw ?_|refine Cb λK hK=>?_|apply_assumption -exfalso -symm)
   all_goals
    refine⟨j+1,by omega,by omega,?_⟩
    try simp only[hst,hb,if_true,if_false,Bb]
    exact v6
  obtain rfl:j=nn.length:=by omega
  (repeat' first|apply Ca 32;(refine ve5 32 ?_)|refine yyp ?_;try refine Ce ?_ ?_<;>intro hb|refine yy ?_|apply ah;refine Cc Tw ?_|refine Cb λK hK=>?_|apply_assumption -exfalso -symm)
  refine k9 [10,35,36,37,38,39,40,41,42,43,44] [32,900,901,902,903,904,905] (λj:Nat=>[(35,.d (.int .i64 j))]) (λj=>(32,.row 112 3 false ((Da ⟨env,tk,c,evN ev nn nn.length⟩ (ds.take j)).1.map Lj++List.replicate (nn.length - j) (Lj vo7)) 0)::HW (kof tg) (Da ⟨env,tk,c,evN ev nn nn.length⟩ (ds.take j)).2) (λj=>j<=nn.length) (λj=>nn.length - j) 0 (Ak _) λj hj=>?_;dsimp only[Ac,Ae,HW,je0,jb3,kof];have hlen:=Tg (ds.take j) ⟨env,tk,c,evN ev nn nn.length⟩;rw[Aq]at hlen;rcases Ai j nn.length with hj2|hj2
  ·have hone:=hof j (by omega);have hset:∀ x,((Da ⟨env,tk,c,evN ev nn nn.length⟩ (ds.take j)).1.map Lj++List.replicate (nn.length - j) (Lj vo7)).set j x=(Da ⟨env,tk,c,evN ev nn nn.length⟩ (ds.take j)).1.map Lj++[x]++List.replicate (nn.length - (j+1)) (Lj vo7):=λx=>by
    rw[List.set_append_right _ _ (by rw[Ab];omega),show j - ((Da ⟨env,tk,c,evN ev nn nn.length⟩ (ds.take j)).1.map Lj).length=0 by rw[Ab];omega,show nn.length - j=nn.length - (j+1)+1 by omega,List.replicate_succ,List.set_cons_zero,Eg];rfl
   have hin:j<((Da ⟨env,tk,c,evN ev nn nn.length⟩ (ds.take j)).1.map Lj++List.replicate (nn.length - j) (Lj vo7)).length:=by rw[Ag,Ab,Ff];omega
   have htk:=mg2 ds ⟨env,tk,c,evN ev nn nn.length⟩ j (by omega)
   (repeat' first|apply Ca 42;refine Ch (hc:=hone) ?_|refine yyp ?_;try refine Ce ?_ ?_<;>intro hb|refine yy ?_|apply ah;refine Cc Tw ?_|refine Cb λK hK=>?_|apply_assumption -exfalso -symm)
   refine⟨j+1,by omega,by omega,?_⟩;rw[htk];dsimp only;rw[Av,List.map_cons,Bj,<-hset];exact v6
  obtain rfl:j=nn.length:=by omega
  rw[Nat.sub_self,List.replicate_zero,Ey,Ba hle2]
  (repeat' first|refine yyp ?_;try refine Ce ?_ ?_<;>intro hb|refine yy ?_|apply ah;refine Cc Tw ?_|refine Cb λK hK=>?_|apply_assumption -exfalso -symm)
  refine ra0 32 rfl ?_
  (refine j1 (j8 ⟨?_,rfl⟩))
  rfl
end
section
def Wy:List Nat:=[0,1,4,5,7,10,14,15,16,17]
variable {mm:Int}
theorem Tryz.elI:ve2 prog 33 3 1 8:=qf8 (z:=.int .i64 0) (by kernel_rfl) Tryz.underlying33 rfl (by decide)
theorem Tryz.elK:ve2 prog 122 25 1 1:=qf8 (z:=.int .u8 0) (by kernel_rfl) Tryz.underlying122 rfl (by decide)
theorem Reads.rd {w:World}{M:Nat->Nat->Prop}{a:Option Addr}{ys:List Value}(h:Reads w M a ys):Rd w w.heap.size a ys:=λj x hj=>by
 obtain⟨b,o,e,_,hc⟩:=h j x hj;exact⟨b,o,e,World.block_lt_of_cell? w ⟨b,o+j,none⟩ hc,hc⟩
theorem ql1 {w:World}{M:Nat->Nat->Prop}{sz:Nat}{xs:List D}{v:Value}(h:Gv w M (.list sz xs) v):∃ (a:Option Addr) (c:Nat) (ys:List Value),v=.slice a xs.length c/\Gb w M sz xs ys/\Sl w w.heap.size a xs.length c sz ys:=by
 obtain⟨a,c,ys,h1,h2,h3,h4,h5,h6⟩:=h;exact⟨a,c,ys,h1,h5,h5.length,h6.rd,h2,h3,h4⟩
theorem mt6 {w w':World}{M:Nat->Nat->Prop}{e sz:TypeId}{xs:List D}{ys:List Value}{a:Option Addr}{c n:Nat}(hM:∀ b o,M b o->b<w.heap.size)(hn:n=xs.length)(h:w'.ownsRow w.heap.size e sz (.slice a n c) n ys)(hr:Gb w' M sz xs ys):Gv w' M (.list sz xs) (.slice a n c):=by
 subst hn;have hs:=Sl.Rm h;refine⟨a,c,ys,rfl,hs.cap,hs.max,hs.nil,hr,λj y hj=>?_⟩;obtain⟨b,o,e',_,hc⟩:=hs.rd j y hj;rcases h.2 with ⟨q1,q2⟩|⟨g,cap,cur,q,q0,q1,q2,q3,q4,q5⟩
 ·have h1:=h.1;simp only[Value.slice.injEq]at q1;obtain⟨_,q1,_⟩:=q1;have:ys.length=0:=by rw[h1,q1];simp
  have:=(Ay.1 hj).1;omega
 ·simp only[Value.slice.injEq]at q;obtain⟨rfl,_,rfl⟩:=q;cases e';exact⟨_,_,rfl,λhm=>by have:=hM _ _ hm;omega,hc⟩
attribute [local irreducible] TR TC
theorem kj1 (l:List Int)(hl:l.length<=10000000):FnD prog gl 51 [.d (.list 1 (l.map (.int .i64)))] (λv=>v=.d (.list 1 (l.map (.int .i64)))):=by
 intro w M us hM hus _;simp only[Cs]at hus;obtain⟨v,r,rfl,hv,rfl⟩:=hus;obtain⟨a,c,ys,rfl,h1,hs⟩:=ql1 hv;have hn:(l.map (D.int .i64)).length=l.length:=Ab _;rw[hn]at hs ⊢;generalize hnl:l.length=n at *;have hk:=λw=>Lib.run_eql_slice_nil (P:=prog) w 33 3 a n c 0 0 Tryz.underlying33;have hone:=Gb.one h1;have hyl:ys.length=n * 1:=hs.len;cases a with
 |none=>
  have hc:=hs.nil rfl;subst hc;have hn0:n=0:=by have:=hs.cap;omega
  subst hn0;have hx:l=[]:=Bg hnl;subst hx
  go_enter func51,ntmps51
  go_wp2
  go_ret
  exact⟨_,_,rfl,.d _,rfl,Below.refl _ _,none,0,[],rfl,Ap _,Ak _,λ_=>rfl,rfl,Reads.nil _ _ _⟩
 |some ad=>
  have ho:=kv3 w [] 3 0 1 w.heap.size rfl (Ak _) (Ap _)
  go_enter func51,ntmps51
  go_wp2_with (at_builtin;go_must (refine qf9 rfl (.tmp 5) (.tmp 6) 33 rfl Tryz.elI rfl ho rfl (hs.below ((Below.refl _ _).alloc (Ap _) _) (Ap _)) hone (by omega) (by omega) (by simp) ?_))
  intro a' c' w' h1' _ h3
  go_wp2
  go_ret
  have hb:=((Below.refl _ _).alloc (Ap _) _).trans h3;exact⟨_,_,rfl,.d _,rfl,hb,mt6 hM (by rw[hn]) h1' (Gb.keep (aI.below hb) _ _ _ h1)⟩
theorem re5 (l:List Int)(hl:l.length<=10000000):FnD prog gl 91 [.d (.list 1 (l.map (.int .u8)))] (λv=>v=.d (.list 1 (l.map (.int .u8)))):=by
 intro w M us hM hus _;simp only[Cs]at hus;obtain⟨v,r,rfl,hv,rfl⟩:=hus;obtain⟨a,c,ys,rfl,h1,hs⟩:=ql1 hv;have hn:(l.map (D.int .u8)).length=l.length:=Ab _;rw[hn]at hs ⊢;generalize hnl:l.length=n at *;have hk:=λw=>Lib.run_eql_slice_nil (P:=prog) w 122 25 a n c 0 0 Tryz.underlying122;have hone:=Gb.one h1;have hyl:ys.length=n * 1:=hs.len;cases a with
 |none=>
  have hc:=hs.nil rfl;subst hc;have hn0:n=0:=by have:=hs.cap;omega
  subst hn0;have hx:l=[]:=Bg hnl;subst hx
  go_enter func91,ntmps91
  go_wp2
  go_ret
  exact⟨_,_,rfl,.d _,rfl,Below.refl _ _,none,0,[],rfl,Ap _,Ak _,λ_=>rfl,rfl,Reads.nil _ _ _⟩
 |some ad=>
  have ho:=kv3 w [] 25 0 1 w.heap.size rfl (Ak _) (Ap _)
  go_enter func91,ntmps91
  go_wp2_with (at_builtin;go_must (refine qf9 rfl (.tmp 5) (.tmp 6) 122 rfl Tryz.elK rfl ho rfl (hs.below ((Below.refl _ _).alloc (Ap _) _) (Ap _)) hone (by omega) (by omega) (by simp) ?_))
  intro a' c' w' h1' _ h3
  go_wp2
  go_ret
  have hb:=((Below.refl _ _).alloc (Ap _) _).trans h3;exact⟨_,_,rfl,.d _,rfl,hb,mt6 hM (by rw[hn]) h1' (Gb.keep (aI.below hb) _ _ _ h1)⟩
theorem re6 (v:Va)(hv:v.items.length<=10000000):FnD prog gl 90 [.d (dVa v)] (λr=>r=.d (dVa v)):=by
 have h:=re5 gl v.items hv
 (refine j4 func90 ntmps90 results90 λw M=>?_)
 (repeat' first|apply Ca 1;(refine Ck 1 ?_)|apply Ca 2;(refine j2 2 ?_)|refine yyp ?_;try refine Ce ?_ ?_<;>intro hb|refine yy ?_|apply Cf 91;refine Ci (hc:=h) ?_|apply ah;refine Cc [0,1,2,3,4,5,6,124] ?_|refine Cb λK hK=>?_|apply_assumption -exfalso -symm)
 (refine j1 (j7 ?_))
 rfl
theorem mz8 (l:List Va)(hl:l.length<=1000000000)(hv:∀ v∈l,v.items.length<=10000000):FnD prog gl 89 [.d (.list 2 (l.map dVa)),.clo (.func 90) [] []] (λr=>r=.d (.list 2 (l.map dVa))):=by
 (refine j4 func89 ntmps89 results89 λw M=>?_)
 (repeat' first|apply Ca 13;(refine ka3 13 ?_)|refine yyp ?_;try refine Ce ?_ ?_<;>intro hb|refine yy ?_|refine yy2 ?_ ?_<;>intro hcmp|apply ah;refine Cc Wy ?_|refine Cb λK hK=>?_|apply_assumption -exfalso -symm)
 ·have h0:l=[]:=Bg (by omega);subst h0
  (refine j1 (j7 ?_))
  rfl
 refine k9 [5,7,16,17,18,19,20,21,22,23,24,25,26] [13] (λx:Nat × Nat=>[(16,.d (.int .i64 x.1)),(5,.own 13 x.2)]) (λx=>[(13,.row 124 2 true ((l.take x.1).map dVa) x.2)]) (λx=>x.1<=l.length) (λx=>l.length - x.1) (0,0) (Ak _) λ⟨j,kv⟩ hj=>?_;dsimp only[Ac,Ae]at hj ⊢;have hlen:(l.take j).length=j:=by rw[Aq];omega
 rcases Ai j l.length with hj2|hj2
 ·have hone:=re6 gl l[j] (hv _ (Ao hj2))
  (repeat' first|apply Ca 7;(refine j2 7 ?_)|apply Ca 23;refine Qo (hc:=FnE.ofD hone (by(repeat (first|exact aM.nil|apply aM.cons (Pure.d _)|apply aM.cons (Pure.nils _)));fail_if_success intros)) ?_|apply Ca 24;(refine Fu 24 ?_)|refine yyp ?_;try refine Ce ?_ ?_<;>intro hb|refine yy ?_|(apply Dw;first|(refine Gj (λkv=>?_))|(refine ai (λsx sp kv hsx hsp hsl=>?_)))|apply ah;refine Cc Wy ?_|refine Cb λK hK=>?_|apply_assumption -exfalso -symm)
  refine⟨(j+1,kv),by dsimp only;omega,by dsimp only;omega,?_⟩;dsimp only;rw[An hj2];simp only[Av,List.map_cons,Bj];exact v6
 (repeat' first|refine yyp ?_;try refine Ce ?_ ?_<;>intro hb|refine yy ?_|apply ah;refine Cc Wy ?_|refine Cb λK hK=>?_|apply_assumption -exfalso -symm)
 rw[Ba hj2]
 (refine j1 (j7 ?_))
 rfl
end
end Go.Proofs.YtklklgfpkpglgaaGreatDoor
