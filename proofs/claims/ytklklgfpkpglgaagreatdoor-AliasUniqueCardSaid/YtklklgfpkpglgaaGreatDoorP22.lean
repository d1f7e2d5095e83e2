/- Parts: S20, S21, S22. -/
import Derived.Test.YtklklgfpkpglgaaGreatDoorP16
import Derived.Test.YtklklgfpkpglgaaGreatDoorP20
set_option linter.all false
set_option maxRecDepth 100000
set_option maxHeartbeats 16000000
namespace Go.Proofs.YtklklgfpkpglgaaGreatDoor
open Go.RowKit Go.Proofs.Tryz
section
open Go.RowKit Go.Sort
variable {mm:Int}
theorem mx6 (w:World)(n:Nat):Below w.heap.size w (w.drewN n):=⟨rfl,rfl,rfl,Au _,fun _ _=>rfl⟩
theorem mx7 (w:World)(os:Array Obj):Below w.heap.size w (grow w os):=⟨rfl,rfl,rfl,by simp[grow],fun b hb=>by
 unfold grow;simp[Array.getElem?_append_left hb]⟩
theorem kv7:∀ n:Nat,Lib.decDigits n=Sc.dec n:=fun n=>by
 induction n using Nat.strongRecOn with
 |ind n ih=>
  rw[Lib.decDigits,Sc.dec];split
  ·rfl
  ·rw[ih (n / 10) (by omega)]
theorem md8 {w:World}{M:Nat->Nat->Prop}{k:IntKind}:∀ {l:List Int} {vs:List Value},Gc w M (l.map fun z=>D.int k z) vs->vs=l.map fun z=>Value.int k z
 |[],_,h=>h
 |x::l,_,h=>by
  simp only[Aq,Gc]at h;obtain⟨v,r,rfl,_,h3,h4⟩:=h;simp only[Gw]at h3;rw[h3,md8 h4];rfl
theorem mm0 (n:Nat)(hn:n<1000000000000000000):FnD prog (glS mm) 79 [.d (.int .i64 n)] (fun v=>v=.d (.str ⟨(Sc.dec n).toArray⟩)):=by
 intro w M us hM hus hg;simp only[Cv]at hus;obtain⟨v,r,rfl,hv,rfl⟩:=hus;have hv':v=.int .i64 n:=hv;subst hv';obtain⟨v1,t1,f1,q1,_,q2⟩:=hg 3 _ rfl;have q5:=md8 q2;subst q5;refine(Tryz.strconv_Itoa n (by omega) (by omega) w ?_).mono ?_
 ·show World.var? _ _ _=_;unfold World.var?;rw[show prog.globalNamed "internal/strconv.uint64pow10"=some 3 from by kernel_rfl];simp only[Option.bind_some,q1];rfl
 ·rintro e w' ⟨rfl,k,os,rfl⟩;refine⟨_,_,rfl,.d _,rfl,?_,?_⟩
  ·have h1:=mx6 w k;have h2:=mx7 (w.drewN k) os;exact h1.trans h2
  ·show Value.string _=Value.string _;unfold Lib.itoa;rw[Ae (by omega),Int.toNat_natCast,kv7]
end
section
def Rt:List Nat:=[0,2,3,4,5,6,23]
def qf9:List Nat:=[2,3,4,5,6,7,8,9,10,11,12,13,14,15,16,17,18,19,20,21,22,23,24]
variable {mm:Int}
def Sc.W.Wx (σ:Sc.W):Prop:=∀ x∈σ.tk,x.2≠0
def Sc.W.Vn (σ:Sc.W)(m:Nat):Prop:=0<=σ.count/\σ.count+m * (σ.tk.length+1)<1000000000000000000
theorem qg0 (tk:List (ByteArray × Int))(s:ByteArray):∀ y∈Sc.tkK tk,Comp .str (.str s) y:=fun y hy=>by
 obtain⟨x,_,rfl⟩:=Bl.1 hy;exact .str _ _
theorem rv6 (tk:List (ByteArray × Int)):(Sc.tkV tk).length=(Sc.tkK tk).length:=by simp[Sc.tkV,Sc.tkK]
section
variable {E:Set}{Q:Exit->Sd->Prop}{ops:Array Oper}{draw:Bool}{rest:Todo}{way:Jh}{ty:TypeId}{pos:String}{af:Array Edge}{gd:Option (Nat × Bool)}
variable {env:List (Nat × V)}{H:List (Nat × Ob)}{gl:List (Nat × List D)}{d:Nat}
theorem jo2 {t k e b:Nat}{x y:Operand}{tk:List (ByteArray × Int)}{s:ByteArray}[ht:TMap E.P t k e][hkk:TKey E.P k .str][hz:Jp E.P e (.d (.int .i64 0))](hx:Sd.ev ⟨env,H,gl⟩ x=some (.map b))(hox:Cn x=true)(hl:look b H=some (.map (Sc.tkK tk) (Sc.tkV tk)))(hy:Sd.ev ⟨env,H,gl⟩ y=some (.d (.str s)))(hoy:Cn y=true)
 (hd:d<E.C.nt) (hg:Sd.gd ⟨env,H,gl⟩ ops ⟨some d,.lookup t x y false,ty,pos,af,gd⟩=some true) (hw:way.known=false)
 (h1:∀ (i:Nat) z,tk[i]? =some z->z.1=s->(∀ j:Nat,j<i->∀ u,tk[j]? =some u->u.1≠s)->TR E draw ops Q rest ⟨(d,.d (.int .i64 z.2))::env,H,gl⟩)
 (h2:s∉tk.map (·.1)->TR E draw ops Q rest ⟨(d,.d (.int .i64 0))::env,H,gl⟩):TR E draw ops Q (.step ⟨some d,.lookup t x y false,ty,pos,af,gd⟩ way rest) ⟨env,H,gl⟩:=by
 refine mb2 (kk:=.str) hx hox hl hy hoy (.str _ _) hd hg hw (qg0 _ _) (rv6 _) (fun i z q1 q2 q3=>?_) (fun hm=>h2 fun hs=>hm ?_)
 ·unfold Sc.tkK at q1 q3;unfold Sc.tkV at q2;rw[Bp]at q1 q2;cases h3:tk[i]? with
  |none=>rw[h3]at q1;cases q1
  |some u=>
   rw[h3]at q1 q2;simp only[Ey,Bf,D.str.injEq]at q1 q2;subst q2;exact h1 i u h3 q1 fun j hj v hv e=>q3 j hj (by rw[Bp,hv,<-e];rfl)
 ·obtain⟨u,hu,rfl⟩:=Bl.1 hs;exact Bl.2 ⟨u,hu,rfl⟩
end
theorem Qh:∀ n:Nat,(Sc.dec n).length<=n+1:=fun n=>by
 induction n using Nat.strongRecOn with
 |ind n ih=>
  rw[Sc.dec];split
  ·simp
  ·have:=ih (n / 10) (by omega);simp only[Ag,An,Av];omega
theorem ju9 (n:Nat):(⟨#[110]⟩:ByteArray)++⟨(Sc.dec n).toArray⟩=Sc.newName n:=by
 have h:∀ s t:ByteArray,s.data.toList=t.data.toList->s=t:=fun s t h=>by
  cases s with|mk a=>cases t with|mk b=>cases a with|mk a=>cases b with|mk b=>exact congrArg (fun l=>ByteArray.mk (Array.mk l)) h
 apply h;simp[Sc.newName,ByteArray.data_append]
attribute [local irreducible] TR TC
theorem jl0 (k:Sc.Kind)(σ:Sc.W)(ht:σ.Wx)(hn:σ.Vn 1):FnE prog (glS mm) 52 [.ptr 900 0] (HW k σ)
 (fun v H1=>v=.d (.str (Sc.Cu σ).1)/\H1=HW k (Sc.Cu σ).2):=by
 obtain⟨hn0,hn1⟩:=hn;have hfree:=Sc.Qi σ (σ.count.toNat+1);have hhas:=Sc.Qe σ (σ.tk.length+1) (σ.count.toNat+1);have hle:=Sc.Ue σ (σ.count.toNat+1);unfold Sc.Cu;obtain⟨env,tk,c,ev⟩:=σ;dsimp only at *;obtain⟨n,rfl⟩:∃ n:Nat,c=n:=⟨c.toNat,by omega⟩;simp only[Int.toNat_natCast]at *;generalize Sc.skip ⟨env,tk,n,ev⟩ (tk.length+1) (n+1)=nk at *;cases k
 all_goals dsimp only[HW,ja0,z6]
 case free=>
  (refine j2 func52 ntmps52 results52 fun w M E b0=>?_)
  (repeat' first|refine yyp ?_;try refine Ce ?_ ?_<;>intro hb|refine yy ?_|refine at_nil ?_;refine Cc Rt ?_|refine Cb fun K hK=>?_|apply_assumption -exfalso -symm)
  refine j6 qf9 [900] (fun j:Nat=>[]) (fun j=>[(900,.box [.map 901,.map 902,.d (.int .i64 (n+j:Nat)),ja0 .free])]) (fun j=>j<=nk) (fun j=>nk - j) 0 (Ai _) fun j hj=>?_;dsimp only[Ac,Af,ja0];have hi:=mm0 (mm:=mm) (n+1+j) (by omega);rw[show((n+1+j:Nat):Int)=(n+j:Nat)+1 by omega]at hi;have hsz:(⟨(Sc.dec (n+1+j)).toArray⟩:ByteArray).size<=1000000000000000001:=by
   have:=Qh (n+1+j);show(Sc.dec (n+1+j)).toArray.size<=_;simp only[List.size_toArray];omega
  have hz:(⟨#[110]⟩:ByteArray).size=1:=rfl;have hap:=ju9 (n+1+j)
  (repeat' first|refine Ca 22 ?_;(refine jo2 rfl rfl rfl rfl rfl (ltd rfl) rfl rfl (fun zi z hz1 hz2 hz3=>?_) (fun hmiss=>?_))|refine yyp ?_;try refine Ce ?_ ?_<;>intro hb|refine yy ?_|refine yy2 ?_ ?_<;>intro hcmp|refine Ch 79 ?_;refine Ck (hc:=hi) ?_|refine at_nil ?_;refine Cc Rt ?_|refine Cb fun K hK=>?_|apply_assumption -exfalso -symm)
  ·exact absurd hcmp (ht z (Bu hz1))
  ·have hmem:Sc.newName (n+1+j)∈tk.map (·.1):=by
    rw[<-hap,<-hz2];exact Bl.2 ⟨z,Bu hz1,rfl⟩
   rcases Ah j nk with hlt|hge
   ·refine⟨j+1,hlt,by omega,?_⟩;rw[show((n+(j+1):Nat):Int)=(n+j:Nat)+1 by omega];exact k8
   ·exfalso;obtain rfl:j=nk:=by omega
    exact hfree hmem
  ·rcases Ah j nk with hlt|hge
   ·exfalso;rw[hap]at hmiss;exact hmiss (hhas j hlt)
   ·obtain rfl:j=nk:=by omega
    rw[hap,show((n+1+j:Nat):Int)=(n+j:Nat)+1 by omega]
    (refine j1 (j4 ⟨?_,rfl⟩))
    rfl
 case check ns=>
  (refine j2 func52 ntmps52 results52 fun w M E b0=>?_)
  (repeat' first|refine yyp ?_;try refine Ce ?_ ?_<;>intro hb|refine yy ?_|refine at_nil ?_;refine Cc Rt ?_|refine Cb fun K hK=>?_|apply_assumption -exfalso -symm)
  refine j6 qf9 [900] (fun j:Nat=>[]) (fun j=>[(900,.box [.map 901,.map 902,.d (.int .i64 (n+j:Nat)),ja0 (.check ns)])]) (fun j=>j<=nk) (fun j=>nk - j) 0 (Ai _) fun j hj=>?_;dsimp only[Ac,Af,ja0];have hi:=mm0 (mm:=mm) (n+1+j) (by omega);rw[show((n+1+j:Nat):Int)=(n+j:Nat)+1 by omega]at hi;have hsz:(⟨(Sc.dec (n+1+j)).toArray⟩:ByteArray).size<=1000000000000000001:=by
   have:=Qh (n+1+j);show(Sc.dec (n+1+j)).toArray.size<=_;simp only[List.size_toArray];omega
  have hz:(⟨#[110]⟩:ByteArray).size=1:=rfl;have hap:=ju9 (n+1+j)
  (repeat' first|refine Ca 22 ?_;(refine jo2 rfl rfl rfl rfl rfl (ltd rfl) rfl rfl (fun zi z hz1 hz2 hz3=>?_) (fun hmiss=>?_))|refine yyp ?_;try refine Ce ?_ ?_<;>intro hb|refine yy ?_|refine yy2 ?_ ?_<;>intro hcmp|refine Ch 79 ?_;refine Ck (hc:=hi) ?_|refine at_nil ?_;refine Cc Rt ?_|refine Cb fun K hK=>?_|apply_assumption -exfalso -symm)
  ·exact absurd hcmp (ht z (Bu hz1))
  ·have hmem:Sc.newName (n+1+j)∈tk.map (·.1):=by
    rw[<-hap,<-hz2];exact Bl.2 ⟨z,Bu hz1,rfl⟩
   rcases Ah j nk with hlt|hge
   ·refine⟨j+1,hlt,by omega,?_⟩;rw[show((n+(j+1):Nat):Int)=(n+j:Nat)+1 by omega];exact k8
   ·exfalso;obtain rfl:j=nk:=by omega
    exact hfree hmem
  ·rcases Ah j nk with hlt|hge
   ·exfalso;rw[hap]at hmiss;exact hmiss (hhas j hlt)
   ·obtain rfl:j=nk:=by omega
    rw[hap,show((n+1+j:Nat):Int)=(n+j:Nat)+1 by omega]
    (refine j1 (j4 ⟨?_,rfl⟩))
    rfl
 case none=>
  (refine j2 func52 ntmps52 results52 fun w M E b0=>?_)
  (repeat' first|refine yyp ?_;try refine Ce ?_ ?_<;>intro hb|refine yy ?_|refine at_nil ?_;refine Cc Rt ?_|refine Cb fun K hK=>?_|apply_assumption -exfalso -symm)
  refine j6 qf9 [900] (fun j:Nat=>[]) (fun j=>[(900,.box [.map 901,.map 902,.d (.int .i64 (n+j:Nat)),ja0 .none])]) (fun j=>j<=nk) (fun j=>nk - j) 0 (Ai _) fun j hj=>?_;dsimp only[Ac,Af,ja0];have hi:=mm0 (mm:=mm) (n+1+j) (by omega);rw[show((n+1+j:Nat):Int)=(n+j:Nat)+1 by omega]at hi;have hsz:(⟨(Sc.dec (n+1+j)).toArray⟩:ByteArray).size<=1000000000000000001:=by
   have:=Qh (n+1+j);show(Sc.dec (n+1+j)).toArray.size<=_;simp only[List.size_toArray];omega
  have hz:(⟨#[110]⟩:ByteArray).size=1:=rfl;have hap:=ju9 (n+1+j)
  (repeat' first|refine Ca 22 ?_;(refine jo2 rfl rfl rfl rfl rfl (ltd rfl) rfl rfl (fun zi z hz1 hz2 hz3=>?_) (fun hmiss=>?_))|refine yyp ?_;try refine Ce ?_ ?_<;>intro hb|refine yy ?_|refine yy2 ?_ ?_<;>intro hcmp|refine Ch 79 ?_;refine Ck (hc:=hi) ?_|refine at_nil ?_;refine Cc Rt ?_|refine Cb fun K hK=>?_|apply_assumption -exfalso -symm)
  ·exact absurd hcmp (ht z (Bu hz1))
  ·have hmem:Sc.newName (n+1+j)∈tk.map (·.1):=by
    rw[<-hap,<-hz2];exact Bl.2 ⟨z,Bu hz1,rfl⟩
   rcases Ah j nk with hlt|hge
   ·refine⟨j+1,hlt,by omega,?_⟩;rw[show((n+(j+1):Nat):Int)=(n+j:Nat)+1 by omega];exact k8
   ·exfalso;obtain rfl:j=nk:=by omega
    exact hfree hmem
  ·rcases Ah j nk with hlt|hge
   ·exfalso;rw[hap]at hmiss;exact hmiss (hhas j hlt)
   ·obtain rfl:j=nk:=by omega
    rw[hap,show((n+1+j:Nat):Int)=(n+j:Nat)+1 by omega]
    (refine j1 (j4 ⟨?_,rfl⟩))
    rfl
end
section
def Vb:List Nat:=[0,1,3,4,5,6,7,14,26]
def Vd:List Nat:=[0,2,3,5,6,7,8,9]
def Oy:List Nat:=[0,1,3,4,5,6,7,17]
def qg1:Plan:=lin [0,4,8,13,16,20,24,28,36,33,41,44,48,53,58,60,64]
variable {mm:Int}
theorem md9 (gl:List (Nat × List D))(k:Sc.Kind)(σ:Sc.W)(s:ByteArray)(x:Sc.Ent)(h:(σ.env s).getLast?=some x):FnE prog gl 78 [.ptr 900 0,.d (.str s)] (HW k σ)
 (fun v H1=>v=.tup [.d (Gd x),.d (.bool true)]/\H1=HW k σ):=by
 have hf:=mk8 gl k σ s;have he:(σ.env s).isEmpty=false:=by
  cases hl:σ.env s with
  |nil=>rw[hl]at h;cases h
  |cons=>rfl
 rw[h,he]at hf;exact hf
theorem me0 (gl:List (Nat × List D))(k:Sc.Kind)(σ:Sc.W)(s:ByteArray)(h:(σ.env s).getLast?=none):FnE prog gl 78 [.ptr 900 0,.d (.str s)] (HW k σ)
 (fun v H1=>v=.tup [.d (Gd ⟨ByteArray.empty,false,[]⟩),.d (.bool false)]/\H1=HW k σ):=by
 have hf:=mk8 gl k σ s;rw[List.getLast?_eq_none_iff.1 h]at hf;exact hf
attribute [local irreducible] TR TC
theorem kq9 (gl:List (Nat × List D))(k:Sc.Kind)(σ:Sc.W)(t:Ty):FnE prog gl 82 [.ptr 900 0,.d (dTy t)] (HW k σ)
 (fun v H1=>v=.d (.list 1 ((Sc.Ct σ.env t).map .str))/\H1=HW k σ):=by
 unfold Sc.Ct;cases hx:(σ.env t.proto).getLast? with
 |none=>
  have hf:=me0 gl k σ t.proto hx;simp only[ite_self];cases k
  all_goals dsimp only[HW,ja0,z6]at hf ⊢
  all_goals (refine j2 func82 ntmps82 results82 fun w M E b0=>?_)
  all_goals (repeat' first|refine Ca 3 ?_;(refine Cq 3 ?_)|refine Ca 10 ?_;refine yyp ?_;try refine Ce ?_ ?_<;>intro hb|refine Ca 14 ?_;refine yyp ?_;try refine Ce ?_ ?_<;>intro hb|refine Ca 19 ?_;refine Cg (hc:=hf) ?_|refine Ca 5 ?_;(refine j3 5 ?_)|refine Ca 23 ?_;refine yyp ?_;try refine Ce ?_ ?_<;>intro hb|refine Ca 26 ?_;refine yyp ?_;try refine Ce ?_ ?_<;>intro hb|refine yyp ?_|refine yy ?_|refine yy2 ?_ ?_<;>intro hcmp|refine at_nil ?_;refine Cc Vb ?_|refine Cb fun K hK=>?_|apply_assumption -exfalso -symm)
  all_goals (refine j1 (j4 ⟨?_,rfl⟩))
  all_goals rfl
 |some x=>
  have hf:=md9 gl k σ t.proto x hx;obtain⟨xf,xp,xt⟩:=x;dsimp only;by_cases hk:t.kind=4/\t.proto≠ByteArray.empty
  ·rw[Ad hk];cases xp
   all_goals simp only[if_true,if_false,Ba]
   all_goals cases k
   all_goals dsimp only[HW,ja0,z6,Gd]at hf ⊢
   all_goals (refine j2 func82 ntmps82 results82 fun w M E b0=>?_)
   all_goals (repeat' first|refine Ca 3 ?_;(refine Cq 3 ?_)|refine Ca 10 ?_;refine yyp ?_;try refine Ce ?_ ?_<;>intro hb|refine Ca 14 ?_;refine yyp ?_;try refine Ce ?_ ?_<;>intro hb|refine Ca 19 ?_;refine Cg (hc:=hf) ?_|refine Ca 5 ?_;(refine j3 5 ?_)|refine Ca 23 ?_;refine yyp ?_;try refine Ce ?_ ?_<;>intro hb|refine Ca 26 ?_;refine yyp ?_;try refine Ce ?_ ?_<;>intro hb|refine yyp ?_|refine yy ?_|refine yy2 ?_ ?_<;>intro hcmp|refine at_nil ?_;refine Cc Vb ?_|refine Cb fun K hK=>?_|apply_assumption -exfalso -symm)
   all_goals first
    |(exfalso;exact absurd hk.1 (by assumption))
    |(exfalso;exact hk.2 (by assumption))
    |((refine j1 (j4 ⟨?_,rfl⟩))
      rfl)
  ·rw[Ae hk];cases xp
   all_goals cases k
   all_goals dsimp only[HW,ja0,z6,Gd]at hf ⊢
   all_goals (refine j2 func82 ntmps82 results82 fun w M E b0=>?_)
   all_goals (repeat' first|refine Ca 3 ?_;(refine Cq 3 ?_)|refine Ca 10 ?_;refine yyp ?_;try refine Ce ?_ ?_<;>intro hb|refine Ca 14 ?_;refine yyp ?_;try refine Ce ?_ ?_<;>intro hb|refine Ca 19 ?_;refine Cg (hc:=hf) ?_|refine Ca 5 ?_;(refine j3 5 ?_)|refine Ca 23 ?_;refine yyp ?_;try refine Ce ?_ ?_<;>intro hb|refine Ca 26 ?_;refine yyp ?_;try refine Ce ?_ ?_<;>intro hb|refine yyp ?_|refine yy ?_|refine yy2 ?_ ?_<;>intro hcmp|refine at_nil ?_;refine Cc Vb ?_|refine Cb fun K hK=>?_|apply_assumption -exfalso -symm)
   all_goals first
    |(exfalso;exact hk ⟨by assumption,by assumption⟩)
    |((refine j1 (j4 ⟨?_,rfl⟩))
      rfl)
theorem mr7 (gl:List (Nat × List D))(k:Sc.Kind)(σ:Sc.W)(t:Ty)(hr:σ.room 1):FnE prog gl 85 [.ptr 900 0,.d (dTy t)] (HW k σ)
 (fun v H1=>v=.d (dTy (Sc.Dm σ t).1)/\H1=HW k (Sc.Dm σ t).2):=by
 have hn:=jm7 gl k σ t.proto hr;unfold Sc.Dm;by_cases h0:t.proto=ByteArray.empty
 ·rw[Ad h0];clear hn;cases k
  all_goals dsimp only[HW,ja0,z6]
  all_goals (refine j2 func85 ntmps85 results85 fun w M E b0=>?_)
  all_goals (repeat' first|refine Ca 3 ?_;(refine Cq 3 ?_)|refine Ca 4 ?_;(refine j3 4 ?_)|refine yyp ?_;try refine Ce ?_ ?_<;>intro hb|refine yy ?_|refine yy2 ?_ ?_<;>intro hcmp|refine at_nil ?_;refine Cc [0,1,3,4,5,6,7,36] ?_|refine Cb fun K hK=>?_|apply_assumption -exfalso -symm)
  all_goals first
   |(exfalso;exact absurd h0 (by assumption))
   |((refine j1 (j4 ⟨?_,rfl⟩))
     rfl)
 ·rw[Ae h0];dsimp only;generalize Sc.nameOf σ t.proto=r at hn ⊢;cases k
  all_goals dsimp only[HW,ja0,z6]at hn ⊢
  all_goals (refine j2 func85 ntmps85 results85 fun w M E b0=>?_)
  all_goals (repeat' first|refine Ca 3 ?_;(refine Cq 3 ?_)|refine Ca 4 ?_;(refine j3 4 ?_)|refine Ca 11 ?_;refine Cg (hc:=hn) ?_|refine yyp ?_;try refine Ce ?_ ?_<;>intro hb|refine yy ?_|refine yy2 ?_ ?_<;>intro hcmp|refine at_nil ?_;refine Cc [0,1,3,4,5,6,7,36] ?_|refine Cb fun K hK=>?_|apply_assumption -exfalso -symm)
  all_goals first
   |(exfalso;exact h0 (by assumption))
   |((refine j1 (j4 ⟨?_,rfl⟩))
     rfl)
theorem qg2 (gl:List (Nat × List D))(l:List Sc.Ent)(hl:l.length<=1000000000):FnD prog gl 84 [.d (.list 3 (l.map Gd))] (fun v=>v=.d (.list 1 ((l.map (·.fresh)).map .str))):=by
 (refine j7 func84 ntmps84 results84 fun w M=>?_)
 (repeat' first|refine yyp ?_;try refine Ce ?_ ?_<;>intro hb|refine yy ?_|refine at_nil ?_;refine Cc Vd ?_|refine Cb fun K hK=>?_|apply_assumption -exfalso -symm)
 refine mw6 (t:=3) (e:=9) (sz:=1) rfl rfl ?_;refine j6 [3,5,8,9,10,11,12,13,14,15,16,17] [3] (fun x:Nat × Nat=>[(8,.d (.int .i64 x.1)),(3,.own 3 x.2)]) (fun x=>[(3,.row 9 1 true (((l.take x.1).map (·.fresh)).map .str) x.2)]) (fun x=>x.1<=l.length) (fun x=>l.length - x.1) (0,0) (Ai _) fun⟨j,kv⟩ hj=>?_;dsimp only[Ac,Af]at hj ⊢;have hlen:((l.take j).map (·.fresh)).length=j:=by simp;omega
 rcases Ah j l.length with hj2|hj2
 ·(repeat' first|refine Ca 5 ?_;(refine j3 5 ?_)|refine Ca 15 ?_;(refine Dn 15 ?_)|refine yyp ?_;try refine Ce ?_ ?_<;>intro hb|refine yy ?_|(refine Da ?_;first|(refine Df (fun kv=>?_))|(refine z_append_suf (fun sx sp kv hsx hsp hsl=>?_)))|refine at_nil ?_;refine Cc Vd ?_|refine Cb fun K hK=>?_|apply_assumption -exfalso -symm)
  refine⟨(j+1,kv),by dsimp only;omega,by dsimp only;omega,?_⟩;dsimp only;rw[Ao hj2];simp only[As,Aq,Ax];exact k8
 ·(repeat' first|refine yyp ?_;try refine Ce ?_ ?_<;>intro hb|refine yy ?_|refine at_nil ?_;refine Cc Vd ?_|refine Cb fun K hK=>?_|apply_assumption -exfalso -symm)
  have:l.take j=l:=Am hj2;rw[this]
  (refine j1 (k7 ?_))
  rfl
def dPx (p:Pr):D:=.agg [.int .u8 p.kind,.str p.name,
    .int .u8 p.chan.kind,.int .u8 p.chan.op,.int .u8 p.chan.ty,.int .i32 p.chan.n,.str p.chan.s,.list 6 (p.chan.l.map dEx),
    .list 6 (p.targets.map dEx),.list 6 (p.exprs.map dE),
    .str p.rep.name,.int .u8 p.rep.base.kind,.int .u8 p.rep.base.op,.int .u8 p.rep.base.ty,.int .i32 p.rep.base.n,.str p.rep.base.s,.list 6 (p.rep.base.l.map dEx),
    .int .u8 p.rep.count.kind,.int .u8 p.rep.count.op,.int .u8 p.rep.count.ty,.int .i32 p.rep.count.n,.str p.rep.count.s,.list 6 (p.rep.count.l.map dEx),
    .list 23 (p.guards.map dGu),.list 42 (p.l.map dPr),.list 1 (p.procs.map (.int .i64)),
    .int .u8 p.spec.kind,.int .u8 p.spec.type.kind,.int .i64 p.spec.type.dim,.int .u8 p.spec.type.item,.str p.spec.type.proto,.list 1 (p.spec.names.map .str),
    .int .u8 p.spec.e.kind,.int .u8 p.spec.e.op,.int .u8 p.spec.e.ty,.int .i32 p.spec.e.n,.str p.spec.e.s,.list 6 (p.spec.e.l.map dEx),
    .bool p.spec.proto.cases,.list 2 (p.spec.proto.l.map dVa),.list 6 (p.spec.formals.map dFo),.list 42 (p.spec.body.map dPr)]
theorem qg3:dPr=dPx:=by
 rw[j9];funext p;unfold dP dPx;rw[k9]
theorem mx8 (env:ByteArray->List Sc.Ent)(kind:Int)(chan:Ex)(e:Ex)(l:List Ex)(hx:(env chan.s).getLast?=none):Sc.Db env kind chan (e::l)=false:=by
 unfold Sc.Db;split
 ·dsimp only;rw[hx,Bo]
 ·rfl
theorem mm1 (env:ByteArray->List Sc.Ent)(kind:Int)(chan:Ex)(e:Ex)(l:List Ex)(x:Sc.Ent)(hx:(env chan.s).getLast?=some x):Sc.Db env kind chan (e::l)=(decide (kind=5) && (decide (e.kind=4) && (!x.proto && x.tags.any (Sc.isB e.s)))):=by
 unfold Sc.Db;split
 ·rename_i h;dsimp only;rw[hx,Eb h,Bi]
 ·rename_i h;rw[Ee h,Bj]
theorem jh1 (gl:List (Nat × List D))(k:Sc.Kind)(σ:Sc.W)(p:Pr)(hp:p.kind=5->0<p.exprs.length):FnE prog gl 47 [.ptr 900 0,.d (dPr p)] (HW k σ)
 (fun v H1=>v=.d (.bool (Sc.Db σ.env p.kind p.chan p.exprs))/\H1=HW k σ):=by
 rw[qg3];by_cases h5:p.kind=5
 ·have hpos:=hp h5;obtain⟨e,l,hel⟩:∃ e l,p.exprs=e::l:=by
   cases h:p.exprs with
   |nil=>rw[h]at hpos;simp at hpos
   |cons e l=>exact⟨e,l,rfl⟩
  have h0:p.exprs[0]=e:=by simp only[hel,List.getElem_cons_zero]
  cases hx:(σ.env p.chan.s).getLast? with
  |none=>
   have hf:=me0 gl k σ p.chan.s hx;rw[hel,mx8 _ _ _ _ _ hx];cases k
   all_goals dsimp only[HW,ja0,z6]at hf ⊢
   all_goals (refine j2 func47 ntmps47 results47 fun w M E b0=>?_)
   all_goals (repeat' first|refine Ca 3 ?_;(refine Cq 3 ?_)|refine Ca 10 ?_;(first|refine yyp ?_;try refine Ce ?_ ?_<;>intro hb|refine yy2 ?_ ?_<;>intro hcmp);all_goals try refine Nb true 10 17 Oy ?_|refine Ca 17 ?_;refine yyp ?_;try refine Ce ?_ ?_<;>intro hb|refine Ca 23 ?_;refine Cg (hc:=hf) ?_|refine Ca 5 ?_;(refine j3 5 ?_)|refine Ca 27 ?_;(first|refine yyp ?_;try refine Ce ?_ ?_<;>intro hb|refine yy2 ?_ ?_<;>intro hcmp);all_goals try refine Nb false 27 4 Oy ?_|refine yyp ?_|refine yy ?_|refine yy2 ?_ ?_<;>intro hcmp|refine at_nil ?_;refine Cc Oy ?_|refine Cb fun K hK=>?_|refine Cf 4 ?_;refine j0 [] qg1 ?_|apply_assumption -exfalso -symm)
   all_goals (refine j1 (j4 ⟨?_,rfl⟩))
   all_goals rfl
  |some x=>
   have hf:=md9 gl k σ p.chan.s x hx;have hc:=y7 gl x.tags p.exprs[0].s;rw[hel,mm1 _ _ _ _ _ _ hx,<-h0];generalize x.tags.any (Sc.isB p.exprs[0].s)=b at hc ⊢;obtain⟨xf,xp,xt⟩:=x;dsimp only at hc ⊢;cases k
   all_goals dsimp only[HW,ja0,z6,Gd]at hf ⊢
   all_goals (refine j2 func47 ntmps47 results47 fun w M E b0=>?_)
   all_goals (repeat' first|refine Ca 3 ?_;(refine Cq 3 ?_)|refine Ca 10 ?_;(first|refine yyp ?_;try refine Ce ?_ ?_<;>intro hb|refine yy2 ?_ ?_<;>intro hcmp);all_goals try refine Nb true 10 17 Oy ?_|refine Ca 17 ?_;refine yyp ?_;try refine Ce ?_ ?_<;>intro hb|refine Ca 23 ?_;refine Cg (hc:=hf) ?_|refine Ca 5 ?_;(refine j3 5 ?_)|refine Ca 27 ?_;(first|refine yyp ?_;try refine Ce ?_ ?_<;>intro hb|refine yy2 ?_ ?_<;>intro hcmp);all_goals try refine Nb false 27 4 Oy ?_|refine Ca 32 ?_;(first|refine yyp ?_;try refine Ce ?_ ?_<;>intro hb|refine yy2 ?_ ?_<;>intro hcmp);all_goals try refine Nb false 32 4 Oy ?_|refine yyp ?_|refine yy ?_|refine yy2 ?_ ?_<;>intro hcmp|refine Ch 62 ?_;refine Ck (hc:=hc) ?_|refine at_nil ?_;refine Cc Oy ?_|refine Cb fun K hK=>?_|refine Cf 4 ?_;refine j0 [] qg1 ?_|apply_assumption -exfalso -symm)
   all_goals (refine j1 (j4 ⟨?_,rfl⟩))
   all_goals (clear hc hf;(repeat (rename (∀ S:Sd,TC _ _ _ S->_)=>hX;clear hX));simp_all;try rfl)
 ·have hfalse:Sc.Db σ.env p.kind p.chan p.exprs=false:=by unfold Sc.Db;rw[Ae h5]
  rw[hfalse];cases k
  all_goals dsimp only[HW,ja0,z6]
  all_goals (refine j2 func47 ntmps47 results47 fun w M E b0=>?_)
  all_goals (repeat' first|refine Ca 3 ?_;(refine Cq 3 ?_)|refine Ca 10 ?_;(first|refine yyp ?_;try refine Ce ?_ ?_<;>intro hb|refine yy2 ?_ ?_<;>intro hcmp);all_goals try refine Nb true 10 17 Oy ?_|refine yyp ?_|refine yy ?_|refine at_nil ?_;refine Cc Oy ?_|refine Cb fun K hK=>?_|refine Cf 4 ?_;refine j0 [] qg1 ?_|apply_assumption -exfalso -symm)
  all_goals (refine j1 (j4 ⟨?_,rfl⟩))
  all_goals rfl
end
end Go.Proofs.YtklklgfpkpglgaaGreatDoor
