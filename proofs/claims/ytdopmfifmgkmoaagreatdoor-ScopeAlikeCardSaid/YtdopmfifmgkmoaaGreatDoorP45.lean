/- Parts: R7. -/
import Derived.Test.YtdopmfifmgkmoaaGreatDoorP44
set_option linter.all false
set_option maxRecDepth 100000
set_option maxHeartbeats 16000000
namespace Go.Proofs.YtdopmfifmgkmoaaGreatDoor
open Go.RowKit Go.Proofs.Tryz
section
def Ub:List Nat:=[0,1,2,3,4,6,7,8,30,138]
def Nk:List Nat:=[0,1,2,4,6,7,8,9,10,11,12,13,14,15,16,17,18,19,20,25,43,48,64,76,104,142,154,163]
def jz8:Plan:=lin [0,8,12,20,5,17,24,28,33,38,43,44,51]
variable {mm:Int}
namespace Sc
theorem qh8 (σ:W)(e:List (ByteArray × Bool)):∀ f n,skip {σ with ev:=e} f n=skip σ f n
 |0,_=>rfl
 |f+1,n=>by
  unfold skip;rw[qh8 σ e f];rfl
theorem mh8 (σ:W)(l:List ByteArray):Ct (Cu σ l)=((Ct σ).1,Cu (Ct σ).2 l):=by
 unfold Ct Cu;dsimp only;rw[qh8]
theorem Tm:∀ (xs:List (Bool × List ByteArray)) (σ:W) (l:List ByteArray),Co (Cu σ l) xs=((Co σ xs).1,Cu (Co σ xs).2 l)
 |[],_,_=>rfl
 |x::xs,σ,l=>by
  simp only[Co];rw[mh8];dsimp only;rw[Tm xs]
end Sc
theorem ku1 {α β:Type}(l:List α)(m:List β)(x:β)(j:Nat)(hj:j<l.length)(hm:m.length=j):(l.take (j+1)).zip (m++[x])=(l.take j).zip m++[(l[j],x)]:=by
 rw[Ba hj,List.zip_append (by rw[Aj];omega)];rfl
theorem kp2:∀ (l:List Fo) (ns:List ByteArray) (f:Fo) (s:ByteArray),l.length=ns.length->Sc.named (l++[f]) (ns++[s])=Sc.named l ns++[{f with name:=s}]
 |[],[],_,_,_=>rfl
 |[],_::_,_,_,h=>by cases h
 |_::_,[],_,_,h=>by cases h
 |g::l,t::ns,f,s,h=>by
  simp only[Ac,Sc.named];rw[kp2 l ns f s (by simpa using h)]
theorem ma7:∀ (l:List Fo) (ns:List ByteArray) (j:Nat) (f:Fo) (hj:j<ns.length),l.length=ns.length->Sc.named (l.set j f) ns=(Sc.named l ns).set j {f with name:=ns[j]}
 |[],[],_,_,h,_=>by simp at h
 |[],_::_,_,_,_,h=>by cases h
 |_::_,[],_,_,_,h=>by cases h
 |g::l,t::ns,0,f,_,_=>by simp only[Ff,Sc.named,Ez]
 |g::l,t::ns,j+1,f,hj,h=>by
  simp only[List.set_cons_succ,Sc.named,Bz];rw[ma7 l ns j f (by simpa using hj) (by simpa using h)]
theorem Kz:∀ (l:List Fo) (ns:List ByteArray),l.length=ns.length->(Sc.named l ns).length=l.length
 |[],[],_=>rfl
 |[],_::_,h=>by cases h
 |_::_,[],h=>by cases h
 |g::l,t::ns,h=>by simp only[Sc.named,Ai,Kz l ns (by simpa using h)]
theorem ma8:∀ (l:List Fo) (ns:List ByteArray) (j:Nat) (hj:j<l.length) (h:l.length=ns.length),(Sc.named l ns)[j]'(by rw[Kz l ns h];exact hj)={l[j]with name:=ns[j]}
 |[],_,_,hj,_=>by simp at hj
 |_::_,[],_,_,h=>by cases h
 |g::l,t::ns,0,_,_=>rfl
 |g::l,t::ns,j+1,hj,h=>by
  simp only[Sc.named,Bz];exact ma8 l ns j (by simpa using hj) (by simpa using h)
def kj4 (τ:Sc.W)(fs:List Fo)(ns:List ByteArray)(j:Nat):List Fo:=Sc.named ((Cv Sc.Cx τ (fs.take j)).1++fs.drop j) ns
theorem kj5 (τ:Sc.W)(fs:List Fo)(ns:List ByteArray)(j:Nat)(hj:j<=fs.length)(hn:fs.length=ns.length):(kj4 τ fs ns j).length=fs.length:=by
 have h:=z8 Sc.Cx (fs.take j) τ;rw[Aj]at h;unfold kj4;rw[Kz _ _ (by rw[Ag,Bl];omega),Ag,Bl];omega
theorem qh9 (τ:Sc.W)(fs:List Fo)(ns:List ByteArray)(j:Nat)(hj:j<fs.length)(hn:fs.length=ns.length):(kj4 τ fs ns j)[j]'(by rw[kj5 τ fs ns j (by omega) hn];exact hj)={fs[j]with name:=ns[j]}:=by
 have h:=z8 Sc.Cx (fs.take j) τ;rw[Aj]at h;have h2:((Cv Sc.Cx τ (fs.take j)).1++fs.drop j).length=ns.length:=by rw[Ag,Bl];omega
 have:=ma8 _ ns j (by rw[h2];omega) h2;have hA:(Cv Sc.Cx τ (fs.take j)).1.length=j:=by rw[h];omega
 have h3:((Cv Sc.Cx τ (fs.take j)).1++fs.drop j)[j]'(by rw[h2];omega)=fs[j]:=by
  rw[List.getElem_append_right (by omega)];simp only[hA,Nat.sub_self,List.getElem_drop,Nat.add_zero]
 unfold kj4;rw[this,h3]
theorem mt4 (τ:Sc.W)(fs:List Fo)(ns:List ByteArray)(j:Nat)(hj:j<fs.length)(hn:fs.length=ns.length):kj4 τ fs ns (j+1)=(kj4 τ fs ns j).set j {(Sc.Cx (Cv Sc.Cx τ (fs.take j)).2 fs[j]).1 with name:=ns[j]}:=by
 have h:=z8 Sc.Cx (fs.take j) τ;rw[Aj]at h;have h2:((Cv Sc.Cx τ (fs.take j)).1++fs.drop j).length=ns.length:=by rw[Ag,Bl];omega
 unfold kj4;rw[<-ma7 _ ns j _ (by omega) h2,z7 Sc.Cx fs τ j hj,Fe _ _ (by omega)];dsimp only;rw[show j - (Cv Sc.Cx τ (fs.take j)).1.length=0 by omega,Bd hj,Ff,Bb];rfl
theorem ku2 (l:List Fo)(σ:Sc.W)(j:Nat):Sc.Grow σ (Cv Sc.Cx σ (l.take j)).2 j:=by
 have h:=Sc.Oo (fun _=>1) (fun f σ=>Sc.Ko σ f) (l.take j) σ;have h8:∀ l:List Fo,(l.map fun _=>1).sum=l.length:=fun l=>by
  induction l with
  |nil=>rfl
  |cons x l ih=>simp only[Am,List.sum_cons,Ai,ih];omega
 rw[h8,Aj]at h;exact h.mono (by omega)
attribute [local irreducible] TR TC
theorem mh9 (gl:List (Nat × List D))(a b:ByteArray)(c:Bool)(t:Ty)(l:List (ByteArray × Sc.Ent))(h4:t.kind≠4):FnD prog gl 122 [.d (.agg [.str a,.str b,.bool c,.nil 1]),.d (dTy t),.d (.list 4 (l.map dEn))]
 (fun v=>v=.d (.agg [.str a,.str b,.bool c,.nil 1])):=by
 cases hx:(Gh l t.proto).getLast? with
 |none=>
  have hf:=jl8 gl l t.proto hx
  (refine j3 func122 ntmps122 results122 fun w M=>?_)
  ((repeat' first|refine Ca 3 ?_;(refine j6 3 ?_)|refine Ca 4 ?_;(refine j6 4 ?_)|refine Ca 6 ?_;(refine Cj 6 ?_)|refine Ca 7 ?_;(refine Cj 7 ?_)|refine Ca 19 ?_;(first|refine yyp ?_;try refine Cc ?_ ?_<;>intro hb|refine yy2 ?_ ?_<;>intro hcmp);all_goals try refine Db false 19 30 Ub ?_|refine Ck 4 ?_;refine halt ?_|refine yyp ?_|refine yy ?_|refine Cf 119 ?_;refine Cg (hc:=hf) ?_|refine at_nil ?_;refine Ce Ub ?_|refine Cb fun K hK=>?_|apply_assumption -exfalso -symm);all_goals try refine unhalt ?_)
  all_goals
   refine jd9 (jl3 3 3 rfl rfl) ?_
   (repeat' first|refine yyp ?_;try refine Cc ?_ ?_<;>intro hb|refine yy ?_|refine at_nil ?_;refine Ce Ub ?_|refine Cb fun K hK=>?_|apply_assumption -exfalso -symm)
   refine jd9 (jl3 6 3 rfl rfl) ?_
   (refine j0 (j5 ?_))
   rfl
 |some x=>
  have hf:=jl7 gl l t.proto x hx;obtain⟨xf,xp,xt⟩:=x
  (refine j3 func122 ntmps122 results122 fun w M=>?_)
  ((repeat' first|refine Ca 3 ?_;(refine j6 3 ?_)|refine Ca 4 ?_;(refine j6 4 ?_)|refine Ca 6 ?_;(refine Cj 6 ?_)|refine Ca 7 ?_;(refine Cj 7 ?_)|refine Ca 19 ?_;(first|refine yyp ?_;try refine Cc ?_ ?_<;>intro hb|refine yy2 ?_ ?_<;>intro hcmp);all_goals try refine Db false 19 30 Ub ?_|refine Ck 4 ?_;refine halt ?_|refine yyp ?_|refine yy ?_|refine Cf 119 ?_;refine Cg (hc:=hf) ?_|refine at_nil ?_;refine Ce Ub ?_|refine Cb fun K hK=>?_|apply_assumption -exfalso -symm);all_goals try refine unhalt ?_)
  all_goals
   refine jd9 (jl3 3 3 rfl rfl) ?_
   (repeat' first|refine yyp ?_;try refine Cc ?_ ?_<;>intro hb|refine yy ?_|refine at_nil ?_;refine Ce Ub ?_|refine Cb fun K hK=>?_|apply_assumption -exfalso -symm)
   refine jd9 (jl3 6 3 rfl rfl) ?_
   (refine j0 (j5 ?_))
   rfl
theorem qs9 (gl:List (Nat × List D))(tk:List ByteArray)(l:List (ByteArray × Sc.Ent))(s:Sp)(σ σb:Sc.W)(b:List Pr)(he:σ.env=Gh l)(htk:σ.tk.map (·.1)=tk)(hf:σ.fit (Sc.Nc s+1))(h4:s.kind=4->s.type.kind≠4)(hpl:s.proto.l.length<=1000000000)(hll:l.length<=1000000000)
 (hE:FnE prog gl 80 [.ptr 900 0,.d (.list 42 (s.body.map dPr)),.d (.list 4 ((l++(s.formals.map (·.name)).zip (Sc.Fu σ s).1.inner).map dEn))] (RW tk (Sc.Fu σ s).2) (fun v H1=>v=.d (.list 42 (b.map dPr))/\H1=RW tk σb)):
 FnE prog gl 78 [.ptr 900 0,.d (dSp s),.d (.list 4 (l.map dEn))] (RW tk σ)
  (fun v H1=>v=.tup [.d (dSp (s.with' (Sc.Fu σ s).1 b)),.d (.list 4 ((s.names.zip (Sc.Fu σ s).1.own).map dEn))]/\H1=RW tk σb):=by
 have hN:Sc.Nc s=2 * s.names.length+3 * s.formals.length+exN s.e+1:=rfl;have hfr:=hf.room;unfold Sc.W.room at hfr;rw[hN]at hf hfr;have hw1:=ma5 gl tk σ s.names (by omega) (by unfold Sc.W.room;omega);have gw1:=Sc.Lm σ s.names;have fw1:=r8 gw1 (m:=s.names.length+3 * s.formals.length+exN s.e+2) (hf.mono (by omega));have hw2:=ma5 gl tk (Sc.Cu σ s.names) (s.formals.map (·.name)) (by rw[Aa];omega) (by rw[Aa];exact(fw1.mono (by omega)).room);have gw2:=Sc.Lm (Sc.Cu σ s.names) (s.formals.map (·.name));rw[Aa]at gw2;have fw2:=r8 gw2 (m:=s.names.length+2 * s.formals.length+exN s.e+2) (fw1.mono (by omega));have hdt:=Sc.Tm (s.names.map fun _=>Sc.Dy σ.env s) (Sc.Cu σ s.names) (s.formals.map (·.name));unfold Sc.Fu at hE ⊢;dsimp only at hE ⊢;obtain⟨τ0,hτ0⟩:∃ τ,τ=Sc.Cu (Sc.Cu σ s.names) (s.formals.map (·.name)):=⟨_,rfl⟩;rw[<-hτ0]at hw2 gw2 fw2 hdt;obtain⟨xs,hxs⟩:∃ xs,xs=s.names.map fun _=>Sc.Dy σ.env s:=⟨_,rfl⟩;rw[<-hxs]at hdt hE ⊢;have hxl:xs.length=s.names.length:=by rw[hxs,Aa]
 have hxj:∀ (j:Nat) (hj:j<xs.length),xs[j]=Sc.Dy σ.env s:=fun j hj=>by simp only[hxs,List.getElem_map]
 obtain⟨o,ho⟩:∃ o,o=Sc.Co (Sc.Cu σ s.names) xs:=⟨_,rfl⟩;rw[<-ho]at hdt hE ⊢;obtain⟨τ1,hτ1⟩:∃ τ,τ=Sc.Cu o.2 (s.formals.map (·.name)):=⟨_,rfl⟩;rw[<-hτ1]at hdt hE ⊢;have hol:o.1.length=s.names.length:=by rw[ho,Sc.Jv,hxl]
 have gD:∀ j,j<=s.names.length->Sc.Grow τ0 (Sc.Co τ0 (xs.take j)).2 j:=fun j hj=>by
  have h:=Sc.Jo (xs.take j) τ0
  rwa [Aj,Nat.min_eq_left (by omega)]at h
 have lD:∀ j,j<=s.names.length->(Sc.Co τ0 (xs.take j)).1.length=j:=fun j hj=>by rw[Sc.Jv,Aj];omega
 have e0:τ0.env=Gh l:=(gw2.env.trans gw1.env).trans he;have t0:τ0.tk.map (·.1)=tk:=by rw[gw2.tk,gw1.tk];exact htk
 have gD1:=gD s.names.length (As _);rw[Ao (by omega),hdt]at gD1;have fD1:=r8 gD1 (m:=2 * s.formals.length+exN s.e+2) (fw2.mono (by omega));have e1:τ1.env=Gh l:=gD1.env.trans e0;have t1:τ1.tk.map (·.1)=tk:=by rw[gD1.tk];exact t0
 obtain⟨ys,hys⟩:∃ ys,ys=s.formals.map fun f=>(false,Sc.Cz σ.env f.type):=⟨_,rfl⟩;rw[<-hys]at hE ⊢;have hyl:ys.length=s.formals.length:=by rw[hys,Aa]
 have hyj:∀ (j:Nat) (hj:j<s.formals.length),ys[j]'(by omega)=(false,Sc.Cz σ.env s.formals[j].type):=fun j hj=>by simp only[hys,List.getElem_map]
 obtain⟨i,hi⟩:∃ i,i=Sc.Co τ1 ys:=⟨_,rfl⟩;rw[<-hi]at hE ⊢;have hil:i.1.length=s.formals.length:=by rw[hi,Sc.Jv,hyl]
 have gF:∀ j,j<=s.formals.length->Sc.Grow τ1 (Sc.Co τ1 (ys.take j)).2 j:=fun j hj=>by
  have h:=Sc.Jo (ys.take j) τ1
  rwa [Aj,Nat.min_eq_left (by omega)]at h
 have lF:∀ j,j<=s.formals.length->(Sc.Co τ1 (ys.take j)).1.length=j:=fun j hj=>by rw[Sc.Jv,Aj];omega
 have gF1:=gF s.formals.length (As _);rw[Ao (by omega),<-hi]at gF1;have fF1:=r8 gF1 (m:=s.formals.length+exN s.e+2) (fD1.mono (by omega));have e2:i.2.env=Gh l:=gF1.env.trans e1;have hty:=jr1 gl tk l i.2 s.type.proto e2 (fF1.mono (m:=1) (by omega)).room;have g3:=Sc.Na i.2 s.type;have ht0:s.type.proto=ByteArray.empty->Sc.Gn i.2 s.type=(s.type,i.2):=fun h=>by unfold Sc.Gn;rw[Ae h]
 have ht1:s.type.proto≠ByteArray.empty->Sc.Gn i.2 s.type=({s.type with proto:=(Sc.nameOf i.2 s.type.proto).1},(Sc.nameOf i.2 s.type.proto).2):=fun h=>by unfold Sc.Gn;rw[Af h]
 obtain⟨t,ht⟩:∃ t,t=Sc.Gn i.2 s.type:=⟨_,rfl⟩;rw[<-ht]at g3 ht0 ht1 hE ⊢;have f3:=r8 g3 (m:=s.formals.length+exN s.e+1) (fF1.mono (by omega));have e3:t.2.env=Gh l:=g3.env.trans e2;have g4:=fun j=>ku2 s.formals t.2 j;have g5:=g4 s.formals.length;rw[Au]at g5;obtain⟨f,hff⟩:∃ f,f=Cv Sc.Cx t.2 s.formals:=⟨_,rfl⟩;rw[<-hff]at g5 hE ⊢;have e5:f.2.env=Gh l:=g5.env.trans e3;have h5:=js0 gl tk l s.e f.2 e5 (by have:=(r8 g5 (m:=exN s.e+1) (f3.mono (by omega))).room;unfold Sc.W.room at this ⊢;omega);obtain⟨e,hee⟩:∃ e,e=j2 f.2 s.e:=⟨_,rfl⟩;rw[<-hee]at h5 hE ⊢;have hwi:=mh7 gl l ((s.formals.map (·.name)).zip i.1) hll (by rw[List.length_zip,Aa];omega);have hb9:s.names.length<=1000000000/\s.formals.length<=1000000000:=⟨by omega,by omega⟩;obtain⟨hb1,hb2⟩:=hb9;clear hN;simp only[r9]at h5;dsimp only[RW]at hw1 hw2 hty h5 hE ⊢
 (refine j4 func78 ntmps78 results78 fun w M E b0=>?_)
 (repeat' first|refine Ca 4 ?_;(refine j6 4 ?_)|refine Ca 6 ?_;(refine Cj 6 ?_)|refine yyp ?_;try refine Cc ?_ ?_<;>intro hb|refine yy ?_|refine at_nil ?_;refine Ce Nk ?_|(apply Dp (x:=.region 13 _ _);focus ((refine Ck 13 ?_;refine j1 [12] (Cm [0,4,12,28,36,9,16,21,33] (.two 6 (.two 10 (lin [46,51]) 11 (lin [42,51])) 11 (lin [26,42,51]))) ?_);(repeat' (first|refine Ca 4 ?_;(refine j6 4 ?_)));(all_goals first|exact Wk.refl _ _|exact v6);done))|(apply Dp (x:=.region 26 _ _);focus ((refine Ck 26 ?_;refine j1 [15] (Cm [0,4,8,12,24,32,48,17,29,36,40,45] (.two 5 (.two 13 (lin [58,63]) 14 (lin [54,63])) 14 (lin [22,54,63]))) ?_);(repeat' (first|refine Ca 4 ?_;(refine j6 4 ?_)));(all_goals first|exact Wk.refl _ _|exact v6);done))|refine Cb fun K hK=>?_|refine Ck 13 ?_;refine j1 [12] (Cm [0,4,12,28,36,9,16,21,33] (.two 6 (.two 10 (lin [46,51]) 11 (lin [42,51])) 11 (lin [26,42,51]))) ?_|refine Ck 19 ?_;refine j1 [10,12] jz8 ?_|refine Ck 26 ?_;refine j1 [15] (Cm [0,4,8,12,24,32,48,17,29,36,40,45] (.two 5 (.two 13 (lin [58,63]) 14 (lin [54,63])) 14 (lin [22,54,63]))) ?_|refine Ck 41 ?_;refine j1 [8] qr7_3 ?_|apply_assumption -exfalso -symm)
 refine jf1 (t:=8) (e:=9) (sz:=1) rfl rfl ?_;refine j8 [8,9,21,22,23,24,25,26,27,28,29,30,31,32,33,34,35,36] [8] (fun x:Nat × Nat=>[(9,.d (.int .i64 x.1)),(8,.own 8 x.2)]) (fun x=>[(8,.row 9 1 true (((s.formals.take x.1).map (·.name)).map .str) x.2)]) (fun x=>x.1<=s.formals.length) (fun x=>s.formals.length - x.1) (0,0) (Ak _) fun⟨j,kv⟩ hj=>?_;dsimp only[Ac,Ad]at hj ⊢;have hlen:((s.formals.take j).map (·.name)).length=j:=by rw[Aa,Aj];omega
 rcases Ah j s.formals.length with hj2|hj2
 ·(repeat' first|refine Ca 35 ?_;(refine Dh 35 ?_)|refine yyp ?_;try refine Cc ?_ ?_<;>intro hb|refine yy ?_|(refine Cq ?_;first|(refine Cs (fun kv=>?_))|(refine z_append_suf (fun sx sp kv hsx hsp hsl=>?_)))|refine at_nil ?_;refine Ce Nk ?_|(apply Dp (x:=.region 13 _ _);focus ((refine Ck 13 ?_;refine j1 [12] (Cm [0,4,12,28,36,9,16,21,33] (.two 6 (.two 10 (lin [46,51]) 11 (lin [42,51])) 11 (lin [26,42,51]))) ?_);(repeat' (first|refine Ca 4 ?_;(refine j6 4 ?_)));(all_goals first|exact Wk.refl _ _|exact v6);done))|(apply Dp (x:=.region 26 _ _);focus ((refine Ck 26 ?_;refine j1 [15] (Cm [0,4,8,12,24,32,48,17,29,36,40,45] (.two 5 (.two 13 (lin [58,63]) 14 (lin [54,63])) 14 (lin [22,54,63]))) ?_);(repeat' (first|refine Ca 4 ?_;(refine j6 4 ?_)));(all_goals first|exact Wk.refl _ _|exact v6);done))|refine Cb fun K hK=>?_|refine Ck 13 ?_;refine j1 [12] (Cm [0,4,12,28,36,9,16,21,33] (.two 6 (.two 10 (lin [46,51]) 11 (lin [42,51])) 11 (lin [26,42,51]))) ?_|refine Ck 19 ?_;refine j1 [10,12] jz8 ?_|refine Ck 26 ?_;refine j1 [15] (Cm [0,4,8,12,24,32,48,17,29,36,40,45] (.two 5 (.two 13 (lin [58,63]) 14 (lin [54,63])) 14 (lin [22,54,63]))) ?_|refine Ck 41 ?_;refine j1 [8] qr7_3 ?_|apply_assumption -exfalso -symm)
  refine⟨(j+1,kv),by dsimp only;omega,by dsimp only;omega,?_⟩;dsimp only;rw[Ba hj2];simp only[Ap,Am,Aw];exact v6
 rw[Ao hj2];clear hlen
 (repeat' first|refine Ca 40 ?_;refine Ch (hc:=hw1) ?_|refine Ca 43 ?_;refine Ch (hc:=hw2) ?_|refine yyp ?_;try refine Cc ?_ ?_<;>intro hb|refine yy ?_|refine at_nil ?_;refine Ce Nk ?_|(apply Dp (x:=.region 13 _ _);focus ((refine Ck 13 ?_;refine j1 [12] (Cm [0,4,12,28,36,9,16,21,33] (.two 6 (.two 10 (lin [46,51]) 11 (lin [42,51])) 11 (lin [26,42,51]))) ?_);(repeat' (first|refine Ca 4 ?_;(refine j6 4 ?_)));(all_goals first|exact Wk.refl _ _|exact v6);done))|(apply Dp (x:=.region 26 _ _);focus ((refine Ck 26 ?_;refine j1 [15] (Cm [0,4,8,12,24,32,48,17,29,36,40,45] (.two 5 (.two 13 (lin [58,63]) 14 (lin [54,63])) 14 (lin [22,54,63]))) ?_);(repeat' (first|refine Ca 4 ?_;(refine j6 4 ?_)));(all_goals first|exact Wk.refl _ _|exact v6);done))|refine Cb fun K hK=>?_|refine Ck 13 ?_;refine j1 [12] (Cm [0,4,12,28,36,9,16,21,33] (.two 6 (.two 10 (lin [46,51]) 11 (lin [42,51])) 11 (lin [26,42,51]))) ?_|refine Ck 19 ?_;refine j1 [10,12] jz8 ?_|refine Ck 26 ?_;refine j1 [15] (Cm [0,4,8,12,24,32,48,17,29,36,40,45] (.two 5 (.two 13 (lin [58,63]) 14 (lin [54,63])) 14 (lin [22,54,63]))) ?_|refine Ck 41 ?_;refine j1 [8] qr7_3 ?_|apply_assumption -exfalso -symm)
 refine jf1 (t:=10) (e:=138) (sz:=4) rfl rfl ?_;refine jf1 (t:=12) (e:=9) (sz:=1) rfl rfl ?_;refine j8 [10,12,13,14,15,44,45,46,47,48,49,50,51,52,53,54,55,56,57,58,59,60,61,62,63,64,65,66,67,68,69,70,71,72,73,74,75,76,77,78,79,80,81,82,83,84,85,86,87,88,89,90,91,92,93,94,95,96,97,98,99] [10,12,900] (fun x:Nat × Nat × Nat=>[(13,.d (.int .i64 x.1)),(10,.own 10 x.2.1),(12,.own 12 x.2.2)]) (fun x=>(10,.row 138 4 true (((s.names.take x.1).zip (Sc.Co τ0 (xs.take x.1)).1).map dEn) x.2.1)::(12,.row 9 1 true (((Sc.Co τ0 (xs.take x.1)).1.map (·.fresh)).map .str) x.2.2)::RW tk (Sc.Co τ0 (xs.take x.1)).2) (fun x=>x.1<=s.names.length) (fun x=>s.names.length - x.1) (0,0,0) (Ak _) fun⟨n,ka,kb⟩ hn=>?_;dsimp only[Ac,Ad,RW]at hn ⊢;rcases Ah n s.names.length with hn2|hn2
 ·have hst:=je3 xs τ0 n (by omega);rw[hxj n (by omega)]at hst;have gj:=gD n hn;have lj:=lD n hn;have fj:=r8 gj (m:=1) (fw2.mono (by omega));have hz9:((s.names.take n).zip (Sc.Co τ0 (xs.take n)).1).length<=1000000000:=by rw[List.length_zip,Aj];omega
  have ej:=gj.env.trans e0;have tj:(Sc.Co τ0 (xs.take n)).2.tk.map (·.1)=tk:=by rw[gj.tk];exact t0
  generalize Sc.Co τ0 (xs.take n)=d at *;by_cases hk:s.kind=4
  ·have hown:Sc.Dy σ.env s=(true,Sc.Ky s):=Ae hk;rw[hown]at hst;have hd:=ma6 gl tk d.2 s.names[n] (.nil 1) (.inr rfl) tj fj.num;have hq:=mh9 gl s.names[n] (Sc.Ct d.2).1 false s.type l (h4 hk);dsimp only[RW]at hd
   (repeat' first|refine yyp ?_;try refine Cc ?_ ?_<;>intro hb|refine yy ?_|refine at_nil ?_;refine Ce Nk ?_|(apply Dp (x:=.region 13 _ _);focus ((refine Ck 13 ?_;refine j1 [6,12] (Cm [0,4,12,28,36,9,16,21] (.or (Cm [27,33] (.two 10 (lin [46,51]) 11 (lin [42,51]))) (.or (Cm [34] (.mid 11 (lin [27,42,51]) 6 (.two 10 (lin [46,51]) 11 (lin [42,51])))) (Cm [46] (.mid 8 (lin [27,42,51]) 6 (lin [33,42,51])))))) ?_);(repeat' (first|refine Ca 57 ?_;refine Ch (hc:=hd) ?_|refine Ca 14 ?_;(refine Cj 14 ?_)|refine yyp ?_|refine yy ?_|refine Cf 122 ?_;refine Cg (hc:=hq) ?_|refine at_nil ?_;refine Ce Nk ?_|refine Oh ?_ ?_|refine n9 ?_ ?_|refine jo7 ?_ ?_));(all_goals first|exact Wk.refl _ _|exact v6);done))|(apply Dp (x:=.region 26 _ _);focus ((refine Ck 26 ?_;refine j1 [15] (Cm [0,4,8,12,24,32,48,17,29,36,40,45] (.two 5 (.two 13 (lin [58,63]) 14 (lin [54,63])) 14 (lin [22,54,63]))) ?_);(repeat' (first|refine Ca 4 ?_;(refine j6 4 ?_)));(all_goals first|exact Wk.refl _ _|exact v6);done))|refine Cb fun K hK=>?_|refine Ck 13 ?_;refine j1 [6,12] (Cm [0,4,12,28,36,9,16,21] (.or (Cm [27,33] (.two 10 (lin [46,51]) 11 (lin [42,51]))) (.or (Cm [34] (.mid 11 (lin [27,42,51]) 6 (.two 10 (lin [46,51]) 11 (lin [42,51])))) (Cm [46] (.mid 8 (lin [27,42,51]) 6 (lin [33,42,51])))))) ?_|refine Ck 19 ?_;refine j1 [10,12] jz8 ?_|refine Ck 26 ?_;refine j1 [15] (Cm [0,4,8,12,24,32,48,17,29,36,40,45] (.two 5 (.two 13 (lin [58,63]) 14 (lin [54,63])) 14 (lin [22,54,63]))) ?_|refine Ck 41 ?_;refine j1 [8] qr7_3 ?_|apply_assumption -exfalso -symm)
   refine ji5 14 140 3 (e:=9) (sz:=1) rfl rfl rfl ?_;refine j8 [15,66,67,68,69,70,71,72,73,74,75,76,77,78,79,80,81,82,83,84,85,86,87,88,89,90] [14,140] (fun x:Nat × Nat=>[(15,.d (.int .i64 x.1))]) (fun x=>[(14,.box [.d (.str s.names[n]),.d (.str (Sc.Ct d.2).1),.d (.bool true),.own 140 x.2]),(140,.row 9 1 true (((s.proto.l.take x.1).map (·.tag)).map .str) x.2)]) (fun x=>x.1<=s.proto.l.length/\(s.proto.cases=false->x.1=0)) (fun x=>s.proto.l.length - x.1) (0,0) ⟨Ak _,fun _=>rfl⟩ fun⟨m,kt⟩ hm=>?_;obtain⟨hm,hmc⟩:=hm;dsimp only[Ac,Ad]at hm hmc ⊢;rcases Ah m s.proto.l.length with hm2|hm2
   all_goals (repeat' first|refine Ca 88 ?_;(refine Dh 88 ?_)|refine Ca 89 ?_;refine Cs (fun ku=>?_)|refine Ca 93 ?_;(refine Dh 93 ?_)|refine Ca 94 ?_;refine Cs (fun kc=>?_)|refine Ca 98 ?_;(refine Dh 98 ?_)|refine Ca 99 ?_;refine Cs (fun kd=>?_)|refine yyp ?_;try refine Cc ?_ ?_<;>intro hb|refine yy ?_|refine at_nil ?_;refine Ce Nk ?_|(apply Dp (x:=.region 13 _ _);focus ((refine Ck 13 ?_;refine j1 [12] (Cm [0,4,12,28,36,9,16,21,33] (.two 6 (.two 10 (lin [46,51]) 11 (lin [42,51])) 11 (lin [26,42,51]))) ?_);(repeat' (first|refine Ca 4 ?_;(refine j6 4 ?_)));(all_goals first|exact Wk.refl _ _|exact v6);done))|(apply Dp (x:=.region 26 _ _);focus ((refine Ck 26 ?_;refine j1 [15] (Cm [0,4,8,12,24,32,48,17,29,36,40,45] (.two 5 (.two 13 (lin [58,63]) 14 (lin [54,63])) 14 (lin [22,54,63]))) ?_);(repeat' (first|refine Ca 4 ?_;(refine j6 4 ?_)));(all_goals first|exact Wk.refl _ _|exact v6);done))|refine Cb fun K hK=>?_|refine Ck 13 ?_;refine j1 [12] (Cm [0,4,12,28,36,9,16,21,33] (.two 6 (.two 10 (lin [46,51]) 11 (lin [42,51])) 11 (lin [26,42,51]))) ?_|refine Ck 19 ?_;refine j1 [10,12] jz8 ?_|refine Ck 26 ?_;refine j1 [15] (Cm [0,4,8,12,24,32,48,17,29,36,40,45] (.two 5 (.two 13 (lin [58,63]) 14 (lin [54,63])) 14 (lin [22,54,63]))) ?_|refine Ck 41 ?_;refine j1 [8] qr7_3 ?_|apply_assumption -exfalso -symm)
   all_goals first
    |(refine⟨(m+1,ku),⟨by dsimp only;omega,fun h=>by rw[hb]at h;cases h⟩,by dsimp only;omega,?_⟩
      dsimp only;rw[Ba hm2];simp only[Ap,Am,Aw];exact v6)
    |(have hpt:(s.proto.l.take m).map (·.tag)=Sc.Ky s:=by
       unfold Sc.Ky
       first
        |(rw[hb,Af Ef,hmc hb];rfl)
        |(cases hpc:s.proto.cases with
          |true=>rw[Ae rfl,Ao hm2]
          |false=>rw[Af Ef,hmc hpc];rfl)
      rw[hpt];refine⟨(n+1,kc,kd),by dsimp only;omega,by dsimp only;omega,?_⟩;dsimp only;rw[hst];dsimp only;rw[ku1 s.names d.1 _ n hn2 lj];simp only[Ap,Am,Aw];exact v6)
  ·have hown:Sc.Dy σ.env s=(false,Sc.Cz σ.env s.type):=Af hk;rw[hown,he]at hst;have hd:=ku0 gl tk d.2 s.names[n] tj fj.num;have hq:=ma4 gl (s.names[n],⟨(Sc.Ct d.2).1,false,[]⟩) s.type l rfl;dsimp only[RW,dEn]at hd hq;simp only[Aw]at hd hq
   (repeat' first|refine Ca 93 ?_;(refine Dh 93 ?_)|refine Ca 94 ?_;refine Cs (fun kc=>?_)|refine Ca 98 ?_;(refine Dh 98 ?_)|refine Ca 99 ?_;refine Cs (fun kd=>?_)|refine yyp ?_;try refine Cc ?_ ?_<;>intro hb|refine yy ?_|refine at_nil ?_;refine Ce Nk ?_|(apply Dp (x:=.region 13 _ _);focus ((refine Ck 13 ?_;refine j1 [6,12] (Cm [0,4,12,28,36,9,16,21] (.or (Cm [27,33] (.two 10 (lin [46,51]) 11 (lin [42,51]))) (.or (Cm [34] (.mid 11 (lin [27,42,51]) 6 (.two 10 (lin [46,51]) 11 (lin [42,51])))) (Cm [46] (.mid 8 (lin [27,42,51]) 6 (lin [33,42,51])))))) ?_);(repeat' (first|refine Ca 57 ?_;refine Ch (hc:=hd) ?_|refine Ca 14 ?_;(refine Cj 14 ?_)|refine yyp ?_|refine yy ?_|refine Cf 122 ?_;refine Cg (hc:=hq) ?_|refine at_nil ?_;refine Ce Nk ?_|refine Oh ?_ ?_|refine n9 ?_ ?_|refine jo7 ?_ ?_));(all_goals first|exact Wk.refl _ _|exact v6);done))|(apply Dp (x:=.region 26 _ _);focus ((refine Ck 26 ?_;refine j1 [15] (Cm [0,4,8,12,24,32,48,17,29,36,40,45] (.two 5 (.two 13 (lin [58,63]) 14 (lin [54,63])) 14 (lin [22,54,63]))) ?_);(repeat' (first|refine Ca 4 ?_;(refine j6 4 ?_)));(all_goals first|exact Wk.refl _ _|exact v6);done))|refine Cb fun K hK=>?_|refine Ck 13 ?_;refine j1 [6,12] (Cm [0,4,12,28,36,9,16,21] (.or (Cm [27,33] (.two 10 (lin [46,51]) 11 (lin [42,51]))) (.or (Cm [34] (.mid 11 (lin [27,42,51]) 6 (.two 10 (lin [46,51]) 11 (lin [42,51])))) (Cm [46] (.mid 8 (lin [27,42,51]) 6 (lin [33,42,51])))))) ?_|refine Ck 19 ?_;refine j1 [10,12] jz8 ?_|refine Ck 26 ?_;refine j1 [15] (Cm [0,4,8,12,24,32,48,17,29,36,40,45] (.two 5 (.two 13 (lin [58,63]) 14 (lin [54,63])) 14 (lin [22,54,63]))) ?_|refine Ck 41 ?_;refine j1 [8] qr7_3 ?_|apply_assumption -exfalso -symm)
   refine⟨(n+1,kc,kd),by dsimp only;omega,by dsimp only;omega,?_⟩;dsimp only;rw[hst];dsimp only;rw[ku1 s.names d.1 _ n hn2 lj];simp only[Ap,Am,Aw];exact v6
 obtain rfl:n=s.names.length:=by omega
 rw[Au,Ao (show xs.length<=s.names.length by omega),hdt];dsimp only
 (repeat' first|refine yyp ?_;try refine Cc ?_ ?_<;>intro hb|refine yy ?_|refine at_nil ?_;refine Ce Nk ?_|(apply Dp (x:=.region 13 _ _);focus ((refine Ck 13 ?_;refine j1 [12] (Cm [0,4,12,28,36,9,16,21,33] (.two 6 (.two 10 (lin [46,51]) 11 (lin [42,51])) 11 (lin [26,42,51]))) ?_);(repeat' (first|refine Ca 4 ?_;(refine j6 4 ?_)));(all_goals first|exact Wk.refl _ _|exact v6);done))|(apply Dp (x:=.region 26 _ _);focus ((refine Ck 26 ?_;refine j1 [15] (Cm [0,4,8,12,24,32,48,17,29,36,40,45] (.two 5 (.two 13 (lin [58,63]) 14 (lin [54,63])) 14 (lin [22,54,63]))) ?_);(repeat' (first|refine Ca 4 ?_;(refine j6 4 ?_)));(all_goals first|exact Wk.refl _ _|exact v6);done))|refine Cb fun K hK=>?_|refine Ck 13 ?_;refine j1 [12] (Cm [0,4,12,28,36,9,16,21,33] (.two 6 (.two 10 (lin [46,51]) 11 (lin [42,51])) 11 (lin [26,42,51]))) ?_|refine Ck 19 ?_;refine j1 [10,12] jz8 ?_|refine Ck 26 ?_;refine j1 [15] (Cm [0,4,8,12,24,32,48,17,29,36,40,45] (.two 5 (.two 13 (lin [58,63]) 14 (lin [54,63])) 14 (lin [22,54,63]))) ?_|refine Ck 41 ?_;refine j1 [8] qr7_3 ?_|apply_assumption -exfalso -symm)
 refine jf1 (t:=11) (e:=138) (sz:=4) rfl rfl ?_;refine jf1 (t:=16) (e:=98) (sz:=6) rfl rfl ?_;refine jd9 (jq1 16 rfl) ?_;refine j8 [11,16,17,18,19,100,101,102,103,104,105,106,107,108,109,110,111,112,113,114,115,116,117,118,119,120,121,122,123,124,125,126,127,128,129,130,131,132,133,134,135,136] [11,16,900] (fun x:Nat × Nat × Nat=>[(17,.d (.int .i64 x.1)),(11,.own 11 x.2.1),(16,.own 16 x.2.2)]) (fun x=>(11,.row 138 4 true ((((s.formals.map (·.name)).take x.1).zip (Sc.Co τ1 (ys.take x.1)).1).map dEn) x.2.1)::(16,.row 98 6 false ((Sc.named (s.formals.take x.1) ((Sc.Co τ1 (ys.take x.1)).1.map (·.fresh))).map dFo) x.2.2)::RW tk (Sc.Co τ1 (ys.take x.1)).2) (fun x=>x.1<=s.formals.length) (fun x=>s.formals.length - x.1) (0,0,0) (Ak _) fun⟨n,kc,kd⟩ hn=>?_;dsimp only[Ac,Ad,RW]at hn ⊢;rcases Ah n s.formals.length with hn2|hn2
 ·have hst:=je3 ys τ1 n (by omega);rw[hyj n hn2,he]at hst;have gj:=gF n hn;have lj:=lF n hn;have fj:=r8 gj (m:=1) (fD1.mono (by omega));have hz9:(((s.formals.map (·.name)).take n).zip (Sc.Co τ1 (ys.take n)).1).length<=1000000000:=by rw[List.length_zip,Aj,Aa];omega
  have hz8:(Sc.named (s.formals.take n) ((Sc.Co τ1 (ys.take n)).1.map (·.fresh))).length<=1000000000:=by rw[Kz _ _ (by rw[Aj,Aa];omega),Aj];omega
  have ej:=gj.env.trans e1;have tj:(Sc.Co τ1 (ys.take n)).2.tk.map (·.1)=tk:=by rw[gj.tk];exact t1
  generalize Sc.Co τ1 (ys.take n)=d at *;have hnl:n<(s.formals.map (·.name)).length:=by rw[Aa];exact hn2
  have hd:=ku0 gl tk d.2 (s.formals.map (·.name))[n] tj fj.num;have hq:=ma4 gl ((s.formals.map (·.name))[n],⟨(Sc.Ct d.2).1,false,[]⟩) s.formals[n].type l rfl;dsimp only[RW,dEn]at hd hq;simp only[Aw]at hd hq
  (repeat' first|refine Ca 123 ?_;(refine Dh 123 ?_)|refine Ca 124 ?_;refine Cs (fun ke=>?_)|refine Ca 19 ?_;(refine Cj 19 ?_)|refine Ca 135 ?_;(refine Dh 135 ?_)|refine Ca 136 ?_;refine Cs (fun kf=>?_)|refine yyp ?_;try refine Cc ?_ ?_<;>intro hb|refine yy ?_|refine at_nil ?_;refine Ce Nk ?_|(apply Dp (x:=.region 13 _ _);focus ((refine Ck 13 ?_;refine j1 [12] (Cm [0,4,12,28,36,9,16,21,33] (.two 6 (.two 10 (lin [46,51]) 11 (lin [42,51])) 11 (lin [26,42,51]))) ?_);(repeat' (first|refine Ca 4 ?_;(refine j6 4 ?_)));(all_goals first|exact Wk.refl _ _|exact v6);done))|(apply Dp (x:=.region 26 _ _);focus ((refine Ck 26 ?_;refine j1 [5,15] (Cm [0,4,8,12,24,32,48,17] (.or (Cm [23,29,36,40,45] (.two 13 (lin [58,63]) 14 (lin [54,63]))) (.or (Cm [30,36,40] (.or (Cm [23,45] (.two 13 (lin [58,63]) 14 (lin [54,63]))) (.or (Cm [46] (.mid 14 (lin [23,54,63]) 5 (.two 13 (lin [58,63]) 14 (lin [54,63])))) (Cm [58] (.mid 11 (lin [23,54,63]) 5 (lin [45,54,63])))))) (Cm [58] (.mid 7 (Cm [36,40] (.mid 11 (lin [23,54,63]) 5 (lin [45,54,63]))) 5 (lin [29,36,40,45,54,63])))))) ?_);(repeat' (first|refine Ca 112 ?_;refine Ch (hc:=hd) ?_|refine Ca 18 ?_;(refine Cj 18 ?_)|refine yyp ?_|refine yy ?_|refine Cf 122 ?_;refine Cg (hc:=hq) ?_|refine at_nil ?_;refine Ce Nk ?_|refine Oh ?_ ?_|refine n9 ?_ ?_|refine jo7 ?_ ?_));(all_goals first|exact Wk.refl _ _|exact v6);done))|refine Cb fun K hK=>?_|refine Ck 13 ?_;refine j1 [12] (Cm [0,4,12,28,36,9,16,21,33] (.two 6 (.two 10 (lin [46,51]) 11 (lin [42,51])) 11 (lin [26,42,51]))) ?_|refine Ck 19 ?_;refine j1 [10,12] jz8 ?_|refine Ck 26 ?_;refine j1 [5,15] (Cm [0,4,8,12,24,32,48,17] (.or (Cm [23,29,36,40,45] (.two 13 (lin [58,63]) 14 (lin [54,63]))) (.or (Cm [30,36,40] (.or (Cm [23,45] (.two 13 (lin [58,63]) 14 (lin [54,63]))) (.or (Cm [46] (.mid 14 (lin [23,54,63]) 5 (.two 13 (lin [58,63]) 14 (lin [54,63])))) (Cm [58] (.mid 11 (lin [23,54,63]) 5 (lin [45,54,63])))))) (Cm [58] (.mid 7 (Cm [36,40] (.mid 11 (lin [23,54,63]) 5 (lin [45,54,63]))) 5 (lin [29,36,40,45,54,63])))))) ?_|refine Ck 41 ?_;refine j1 [8] qr7_3 ?_|apply_assumption -exfalso -symm)
  refine⟨(n+1,ke,kf),by dsimp only;omega,by dsimp only;omega,?_⟩;dsimp only;rw[hst];dsimp only;rw[ku1 (s.formals.map (·.name)) d.1 _ n hnl lj,Ba hn2];simp only[Ap,Am,Aw];rw[kp2 _ _ _ _ (by rw[Aj,Aa];omega)];simp only[Ap,Am,Aw];exact v6
 obtain rfl:n=s.formals.length:=by omega
 rw[Ao (show(s.formals.map (·.name)).length<=s.formals.length by rw[Aa];exact As _),Au,Ao (show ys.length<=s.formals.length by omega),<-hi];obtain⟨ns,hns⟩:∃ ns,ns=i.1.map (·.fresh):=⟨_,rfl⟩;rw[<-hns];have hnsl:s.formals.length=ns.length:=by rw[hns,Aa];exact hil.symm
 by_cases hp:s.type.proto=ByteArray.empty
 case' pos=>
  obtain rfl:=ht0 hp;dsimp only at e3 f3 g4 hff ⊢
  (repeat' first|refine yyp ?_;try refine Cc ?_ ?_<;>intro hb|refine yy ?_|refine yy2 ?_ ?_<;>intro hcmp|refine at_nil ?_;refine Ce Nk ?_|(apply Dp (x:=.region 13 _ _);focus ((refine Ck 13 ?_;refine j1 [12] (Cm [0,4,12,28,36,9,16,21,33] (.two 6 (.two 10 (lin [46,51]) 11 (lin [42,51])) 11 (lin [26,42,51]))) ?_);(repeat' (first|refine Ca 4 ?_;(refine j6 4 ?_)));(all_goals first|exact Wk.refl _ _|exact v6);done))|(apply Dp (x:=.region 26 _ _);focus ((refine Ck 26 ?_;refine j1 [15] (Cm [0,4,8,12,24,32,48,17,29,36,40,45] (.two 5 (.two 13 (lin [58,63]) 14 (lin [54,63])) 14 (lin [22,54,63]))) ?_);(repeat' (first|refine Ca 4 ?_;(refine j6 4 ?_)));(all_goals first|exact Wk.refl _ _|exact v6);done))|refine Cb fun K hK=>?_|refine Ck 13 ?_;refine j1 [12] (Cm [0,4,12,28,36,9,16,21,33] (.two 6 (.two 10 (lin [46,51]) 11 (lin [42,51])) 11 (lin [26,42,51]))) ?_|refine Ck 19 ?_;refine j1 [10,12] jz8 ?_|refine Ck 26 ?_;refine j1 [15] (Cm [0,4,8,12,24,32,48,17,29,36,40,45] (.two 5 (.two 13 (lin [58,63]) 14 (lin [54,63])) 14 (lin [22,54,63]))) ?_|refine Ck 41 ?_;refine j1 [8] qr7_3 ?_|apply_assumption -exfalso -symm)
  all_goals try (exfalso;exact absurd hp (by assumption))
  obtain⟨ρ,hρ⟩:∃ ρ,ρ=i.2:=⟨_,rfl⟩;rw[<-hρ]at e3 f3 g4 hff ⊢
 case' neg=>
  obtain rfl:=ht1 hp;dsimp only at e3 f3 g4 hff ⊢
  (repeat' first|refine Ca 148 ?_;refine Ch (hc:=hty) ?_|refine yyp ?_;try refine Cc ?_ ?_<;>intro hb|refine yy ?_|refine yy2 ?_ ?_<;>intro hcmp|refine at_nil ?_;refine Ce Nk ?_|(apply Dp (x:=.region 13 _ _);focus ((refine Ck 13 ?_;refine j1 [12] (Cm [0,4,12,28,36,9,16,21,33] (.two 6 (.two 10 (lin [46,51]) 11 (lin [42,51])) 11 (lin [26,42,51]))) ?_);(repeat' (first|refine Ca 4 ?_;(refine j6 4 ?_)));(all_goals first|exact Wk.refl _ _|exact v6);done))|(apply Dp (x:=.region 26 _ _);focus ((refine Ck 26 ?_;refine j1 [15] (Cm [0,4,8,12,24,32,48,17,29,36,40,45] (.two 5 (.two 13 (lin [58,63]) 14 (lin [54,63])) 14 (lin [22,54,63]))) ?_);(repeat' (first|refine Ca 4 ?_;(refine j6 4 ?_)));(all_goals first|exact Wk.refl _ _|exact v6);done))|refine Cb fun K hK=>?_|refine Ck 13 ?_;refine j1 [12] (Cm [0,4,12,28,36,9,16,21,33] (.two 6 (.two 10 (lin [46,51]) 11 (lin [42,51])) 11 (lin [26,42,51]))) ?_|refine Ck 19 ?_;refine j1 [10,12] jz8 ?_|refine Ck 26 ?_;refine j1 [15] (Cm [0,4,8,12,24,32,48,17,29,36,40,45] (.two 5 (.two 13 (lin [58,63]) 14 (lin [54,63])) 14 (lin [22,54,63]))) ?_|refine Ck 41 ?_;refine j1 [8] qr7_3 ?_|apply_assumption -exfalso -symm)
  all_goals try (exfalso;exact hp (by assumption))
  obtain⟨ρ,hρ⟩:∃ ρ,ρ=(Sc.nameOf i.2 s.type.proto).2:=⟨_,rfl⟩;rw[<-hρ]at e3 f3 g4 hff ⊢
 all_goals
  refine j8 [20,151,152,153,154,155,156,157,158,159,160,161,162,163,164,165,166,167,168,169,170,171,172,173,174,175,176,177] [16,900] (fun x:Nat=>[(20,.d (.int .i64 x))]) (fun x=>(16,.row 98 6 false ((kj4 ρ s.formals ns x).map dFo) kd)::RW tk (Cv Sc.Cx ρ (s.formals.take x)).2) (fun x=>x<=s.formals.length) (fun x=>s.formals.length - x) 0 (Ak _) fun m hm=>?_;dsimp only[Ac,Ad,RW]at hm ⊢;have gG:=g4 m;have eG:=gG.env.trans e3;have fG:=r8 gG (m:=exN s.e+1) (f3.mono (by omega));have hXl:=kj5 ρ s.formals ns m hm hnsl;rcases Ah m s.formals.length with hm2|hm2
  ·have hnx:=mt4 ρ s.formals ns m hm2 hnsl;have hG:=z7 Sc.Cx s.formals ρ m hm2;obtain⟨X,hXe⟩:∃ X,X=kj4 ρ s.formals ns m:=⟨_,rfl⟩;rw[<-hXe]at hXl hnx ⊢;have hm3:m<X.length:=by omega
   have hX:X[m]={s.formals[m]with name:=ns[m]}:=by subst hXe;exact qh9 ρ s.formals ns m hm2 hnsl
   clear hXe;generalize Cv Sc.Cx ρ (s.formals.take m)=G at gG eG fG hnx hG ⊢;have hXp:X[m].type.proto=s.formals[m].type.proto:=by rw[hX]
   have hnm:=jr1 gl tk l G.2 X[m].type.proto eG (fG.mono (m:=1) (by omega)).room;dsimp only[RW]at hnm;by_cases hq:X[m].type.proto=ByteArray.empty
   ·have hfo:Sc.Cx G.2 s.formals[m]=(s.formals[m],G.2):=by
     unfold Sc.Cx Sc.Gn;rw[Ae (hXp ▸ hq)]
    rw[hfo]at hnx hG;dsimp only at hnx hG;rw[<-hX,List.set_getElem_self]at hnx
    (repeat' first|refine yyp ?_;try refine Cc ?_ ?_<;>intro hb|refine yy ?_|refine yy2 ?_ ?_<;>intro hcmp|refine at_nil ?_;refine Ce Nk ?_|(apply Dp (x:=.region 13 _ _);focus ((refine Ck 13 ?_;refine j1 [12] (Cm [0,4,12,28,36,9,16,21,33] (.two 6 (.two 10 (lin [46,51]) 11 (lin [42,51])) 11 (lin [26,42,51]))) ?_);(repeat' (first|refine Ca 4 ?_;(refine j6 4 ?_)));(all_goals first|exact Wk.refl _ _|exact v6);done))|(apply Dp (x:=.region 26 _ _);focus ((refine Ck 26 ?_;refine j1 [15] (Cm [0,4,8,12,24,32,48,17,29,36,40,45] (.two 5 (.two 13 (lin [58,63]) 14 (lin [54,63])) 14 (lin [22,54,63]))) ?_);(repeat' (first|refine Ca 4 ?_;(refine j6 4 ?_)));(all_goals first|exact Wk.refl _ _|exact v6);done))|refine Cb fun K hK=>?_|refine Ck 13 ?_;refine j1 [12] (Cm [0,4,12,28,36,9,16,21,33] (.two 6 (.two 10 (lin [46,51]) 11 (lin [42,51])) 11 (lin [26,42,51]))) ?_|refine Ck 19 ?_;refine j1 [10,12] jz8 ?_|refine Ck 26 ?_;refine j1 [15] (Cm [0,4,8,12,24,32,48,17,29,36,40,45] (.two 5 (.two 13 (lin [58,63]) 14 (lin [54,63])) 14 (lin [22,54,63]))) ?_|refine Ck 41 ?_;refine j1 [8] qr7_3 ?_|apply_assumption -exfalso -symm)
    all_goals first
     |(exfalso;exact absurd hq (by assumption))
     |(refine⟨m+1,by omega,by omega,?_⟩
       rw[hnx,hG];exact v6)
   ·have hfo:Sc.Cx G.2 s.formals[m]=({s.formals[m]with type:={s.formals[m].type with proto:=(Sc.nameOf G.2 X[m].type.proto).1}},(Sc.nameOf G.2 X[m].type.proto).2):=by
     unfold Sc.Cx Sc.Gn;rw[Af (hXp ▸ hq),hXp]
    rw[hfo]at hnx hG;dsimp only at hnx hG
    (repeat' first|refine Ca 174 ?_;refine Ch (hc:=hnm) ?_|refine jr6 14 ?_;(refine mg4 (i:=m) (o:=4) (cs:=[.bool X[m].val,.int .u8 X[m].type.kind,.int .i64 X[m].type.dim,.int .u8 X[m].type.item,.str X[m].type.proto,.str X[m].name]) rfl rfl rfl rfl rfl (ToD.d _) (by first|exact Gy.agg _|constructor) (by rw[Bx,Be hm3];rfl) (by decide) rfl rfl ?_)|refine yyp ?_;try refine Cc ?_ ?_<;>intro hb|refine yy ?_|refine yy2 ?_ ?_<;>intro hcmp|refine at_nil ?_;refine Ce Nk ?_|(apply Dp (x:=.region 13 _ _);focus ((refine Ck 13 ?_;refine j1 [12] (Cm [0,4,12,28,36,9,16,21,33] (.two 6 (.two 10 (lin [46,51]) 11 (lin [42,51])) 11 (lin [26,42,51]))) ?_);(repeat' (first|refine Ca 4 ?_;(refine j6 4 ?_)));(all_goals first|exact Wk.refl _ _|exact v6);done))|(apply Dp (x:=.region 26 _ _);focus ((refine Ck 26 ?_;refine j1 [15] (Cm [0,4,8,12,24,32,48,17,29,36,40,45] (.two 5 (.two 13 (lin [58,63]) 14 (lin [54,63])) 14 (lin [22,54,63]))) ?_);(repeat' (first|refine Ca 4 ?_;(refine j6 4 ?_)));(all_goals first|exact Wk.refl _ _|exact v6);done))|refine Cb fun K hK=>?_|refine Ck 13 ?_;refine j1 [12] (Cm [0,4,12,28,36,9,16,21,33] (.two 6 (.two 10 (lin [46,51]) 11 (lin [42,51])) 11 (lin [26,42,51]))) ?_|refine Ck 19 ?_;refine j1 [10,12] jz8 ?_|refine Ck 26 ?_;refine j1 [15] (Cm [0,4,8,12,24,32,48,17,29,36,40,45] (.two 5 (.two 13 (lin [58,63]) 14 (lin [54,63])) 14 (lin [22,54,63]))) ?_|refine Ck 41 ?_;refine j1 [8] qr7_3 ?_|apply_assumption -exfalso -symm)
    all_goals first
     |(exfalso;exact hq (by assumption))
     |(refine⟨m+1,by omega,by omega,?_⟩
       rw[hnx,hG,List.map_set];simp only[hX];exact v6)
  obtain rfl:m=s.formals.length:=by omega
  have hfe:kj4 ρ s.formals ns s.formals.length=Sc.named f.1 ns:=by
   unfold kj4;rw[Au,Eu,Bp,hff]
  have hfl:(Sc.named f.1 ns).length=s.formals.length:=by rw[<-hfe];exact kj5 ρ s.formals ns _ (As _) hnsl
  rw[hfe,Au,<-hff];refine jk2 16 rfl ?_
  (repeat' first|refine Ca 184 ?_;refine Ch (hc:=h5) ?_|refine Ca 192 ?_;refine Ch (hc:=hE) ?_|refine yyp ?_;try refine Cc ?_ ?_<;>intro hb|refine yy ?_|refine Cf 77 ?_;refine Cg (hc:=hwi) ?_|refine at_nil ?_;refine Ce Nk ?_|(apply Dp (x:=.region 13 _ _);focus ((refine Ck 13 ?_;refine j1 [12] (Cm [0,4,12,28,36,9,16,21,33] (.two 6 (.two 10 (lin [46,51]) 11 (lin [42,51])) 11 (lin [26,42,51]))) ?_);(repeat' (first|refine Ca 4 ?_;(refine j6 4 ?_)));(all_goals first|exact Wk.refl _ _|exact v6);done))|(apply Dp (x:=.region 26 _ _);focus ((refine Ck 26 ?_;refine j1 [15] (Cm [0,4,8,12,24,32,48,17,29,36,40,45] (.two 5 (.two 13 (lin [58,63]) 14 (lin [54,63])) 14 (lin [22,54,63]))) ?_);(repeat' (first|refine Ca 4 ?_;(refine j6 4 ?_)));(all_goals first|exact Wk.refl _ _|exact v6);done))|refine Cb fun K hK=>?_|refine Ck 13 ?_;refine j1 [12] (Cm [0,4,12,28,36,9,16,21,33] (.two 6 (.two 10 (lin [46,51]) 11 (lin [42,51])) 11 (lin [26,42,51]))) ?_|refine Ck 19 ?_;refine j1 [10,12] jz8 ?_|refine Ck 26 ?_;refine j1 [15] (Cm [0,4,8,12,24,32,48,17,29,36,40,45] (.two 5 (.two 13 (lin [58,63]) 14 (lin [54,63])) 14 (lin [22,54,63]))) ?_|refine Ck 41 ?_;refine j1 [6,8] (lin [0,4,12,16,9,22,27,28,35]) ?_|apply_assumption -exfalso -symm)
  (refine j0 (j7 ⟨?_,rfl⟩))
  subst hns;rfl
end
end Go.Proofs.YtdopmfifmgkmoaaGreatDoor
