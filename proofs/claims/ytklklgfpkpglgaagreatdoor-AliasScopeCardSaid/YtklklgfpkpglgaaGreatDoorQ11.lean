/- Parts. -/
import Derived.Test.YtklklgfpkpglgaaGreatDoorQ10
set_option linter.all false
set_option maxRecDepth 100000
set_option maxHeartbeats 0
namespace Go.Proofs.YtklklgfpkpglgaaGreatDoor
open Go.RowKit
section
section
variable {E:Set}{Q:Exit->Sd->Prop}{ops:Array Oper}{draw:Bool}{rest:Todo}
variable {env:List (Nat × V)}{H:List (Nat × Ob)}{gl:List (Nat × List D)}
theorem rs2 {C:Ctx}(ts:List Nat){env':List (Nat × V)}{H':List (Nat × Ob)}(hts:kh1 ts=true)(hk:Keep ts env env')(hh:Lh [] H H'):Wk C ⟨env,H,gl⟩ ⟨env',H',gl⟩:=λa w ⟨β,hB⟩=>⟨β,hB.weak (λt v hl=>hk.look (ka0 hts) hl) (λn ob hl=>by
 have:=hh.look (n:=n) (by simp);dsimp only at hl ⊢;rw[<-this];exact hl) (λ_ _ h=>h) (λn hn=>by
 have:=hh.look (n:=n) (by simp);dsimp only;rw[this];exact hB.has n hn)⟩
theorem Od (ts:List Nat){env':List (Nat × V)}{H':List (Nat × Ob)}(h:TR E draw ops Q rest ⟨env',H',gl⟩)(hts:kh1 ts=true:=by exact rfl)(hk:Keep ts env env':=by(repeat (first|exact Keep.nil _|apply Keep.drop rfl rfl|apply Keep.take rfl|apply Keep.ghost rfl));fail_if_success intros)(hh:Lh [] H H':=by(repeat (first|exact Lh.nil _|apply Lh.take rfl|apply Lh.drop rfl));fail_if_success intros):TR E draw ops Q rest ⟨env,H,gl⟩:=
 λa w hS=>h a w (rs2 ts hts hk hh a w hS)
theorem qg2 {S S':Sd}(hw:Wk E.C S S')(h:TR E draw ops Q rest S'):TR E draw ops Q rest S:=λa w hS=>h a w (hw a w hS)
inductive Drop {α:Type}(ts:List Nat):List (Nat × α)->List (Nat × α)->Prop
 |nil:Drop ts [] []
 |take {t:Nat} {v:α} {l r:List (Nat × α)} (h:Rl t ts=false) (k:Drop ts l r):Drop ts ((t,v)::l) ((t,v)::r)
 |drop {t:Nat} {v:α} {l r:List (Nat × α)} (h:Rl t ts=true) (k:Drop ts l r):Drop ts ((t,v)::l) r
theorem rs3 {c:Code}{ι:Type}(ts ns:List Nat)(ch:ι->List (Nat × V))(oh:ι->List (Nat × Ob))(P:ι->Prop)(m:ι->Nat)(i0:ι){env':List (Nat × V)}{H':List (Nat × Ob)}(hp:P i0)(_hd:Drop ts env env')(_hn:Drop ns H H')
 (h0:Wk E.C ⟨env,H,gl⟩ ⟨ch i0++env',oh i0++H',gl⟩) (round:∀ i,P i->TC E c (Exit.Oc (λS'=>∃ j,P j/\m j<m i/\Wk E.C S' ⟨ch j++env',oh j++H',gl⟩) Q) ⟨ch i++env',oh i++H',gl⟩):TC E (.loop c) Q ⟨env,H,gl⟩:=
 kp0 (λi=>⟨ch i++env',oh i++H',gl⟩) P m i0 hp h0 round
end
inductive aM:List V->Prop
 |nil:aM []
 |cons {v:V} {vs:List V} (h:Pure v) (t:aM vs):aM (v::vs)
theorem aM.all {vs:List V}(h:aM vs):∀ v∈vs,Pure v:=by
 induction h with
 |nil=>intro v hv;cases hv
 |cons h _ ih=>
  intro v hv;rcases Bc.1 hv with rfl|hv
  ·exact h
  ·exact ih v hv
theorem Drop.look {α:Type}{ts:List Nat}{l r:List (Nat × α)}(h:Drop ts l r):∀ {n:Nat} {v:α},Go.Proofs.YtklklgfpkpglgaaGreatDoor.look n r=some v->Go.Proofs.YtklklgfpkpglgaaGreatDoor.look n l=some v:=by
 have key:∀ {n:Nat} {v:α},Go.Proofs.YtklklgfpkpglgaaGreatDoor.look n r=some v->Rl n ts=false/\Go.Proofs.YtklklgfpkpglgaaGreatDoor.look n l=some v:=by
  induction h with
  |nil=>intro n v h;cases h
  |@take t u l r h k ih=>
   intro n v hl;rw[j6]at hl ⊢;split at hl
   ·rename_i e;subst e;exact⟨h,by rw[Ad rfl];exact hl⟩
   ·rename_i e;rw[Af e];exact ih hl
  |@drop t u l r h k ih=>
   intro n v hl;obtain⟨h1,h2⟩:=ih hl;refine⟨h1,?_⟩;rw[j6,Af]
   ·exact h2
   ·rintro rfl;rw[h]at h1;cases h1
 intro n v hl;exact(key hl).2
section
variable {E:Set}{Q:Exit->Sd->Prop}{ops:Array Oper}{draw:Bool}{rest:Todo}{way:Ji}{ty:TypeId}{pos:String}{af:Array Edge}{gd:Option (Nat × Bool)}
variable {env:List (Nat × V)}{H:List (Nat × Ob)}{gl:List (Nat × List D)}{d:Nat}
theorem rs4 {f:Nat}{fx:Operand}{xs:List Operand}{ats:Array TypeId}{fs gs vs args:List V}{R:V->List (Nat × Ob)->Prop}[hf:TFun E.P f](hfx:Sd.ev ⟨env,H,gl⟩ fx=some (.clo (.func f) fs gs))(hof:Cm fx=true)(hx:Evs ⟨env,H,gl⟩ xs vs)(ha:Jm H (fs++vs++gs) args)
 (hc:FnE E.P gl f args [] R) (hp:aM args) (hd:d<E.C.nt) (hg:Sd.gd ⟨env,H,gl⟩ ops ⟨some d,.call {callee:=.value fx,args:=xs.toArray,argTypes:=ats},ty,pos,af,gd⟩=some true) (hw:way.loud=true)
 (h:∀ v H1,R v H1->Nk ⟨env,H,gl⟩ [] H1=true/\TR E draw ops Q rest ⟨(d,v)::env,H1++H,gl⟩):TR E draw ops Q (.step ⟨some d,.call {callee:=.value fx,args:=xs.toArray,argTypes:=ats},ty,pos,af,gd⟩ way rest) ⟨env,H,gl⟩:=λa w hS=>by
 have hS0:=hS;have key:∀ w1,aG w w1->∀ K:Act->World->Prop,(∀ v H1 a2 w2,R v H1->aG w1 w2->St E.C ⟨(d,v)::env,H1++H,gl⟩ a2 w2->K a2 w2)->(⟨some d,.call {callee:=.value fx,args:=xs.toArray,argTypes:=ats},ty,pos,af,gd⟩:Oper).wp E.P a w1 K (Qof E.C Q):=λw1 g K hK=>by
  obtain⟨β,hB⟩:=hS.later g;obtain⟨fs',gs',h1,h2,h3⟩:=hB.ev hfx hof;unfold Oper.wp;rw[ml4 hf a h1 xs ats (some d) w1,Oper.upon_enter]
  let M:Nat->Nat->Prop:=λb o=>E.C.M0 b o\/∃ m ob,look m H=some ob/\look m ([]:List (Nat × Ob))=none/\own (β m) ob b/\ob.mut o
  have hMut:Mut M β []=Mut E.C.M0 β H:=by
   funext b o;apply propext;constructor
   ·rintro((hm|⟨m,ob,q1,_,q2,q3⟩)|⟨n,ob,q1,q2,q3⟩)
    ·exact .inl hm
    ·exact .inr ⟨m,ob,q1,q2,q3⟩
    ·cases q1
   ·rintro(hm|⟨n,ob,q1,q2,q3⟩)
    ·exact .inl (.inl hm)
    ·exact .inl (.inr ⟨n,ob,q1,rfl,q2,q3⟩)
  have hargs:=ha.rep hB (Cs.app (Cs.app h2 (hx.rep hB)) h3);refine(hc w1 M β _ ?_ ?_ ⟨(λn ob hl=>by cases hl),(λn m b ob ob' hne q1 q2=>by cases q1),(λn ob b o hl hb' hm=>by cases hl)⟩ ?_).mono ?_
  ·rintro b o (hm|⟨m,ob,q1,_,q2,_⟩)
   ·have:=hB.low b o hm;have:=hB.frame.size;omega
   ·exact hB.old q1 q2
  ·rw[hMut];exact Cs.pure (λv hv u hu=>(hp.all v hv).keep (aI.refl _ _) u hu) hargs
  ·rw[hMut];exact hB.glob
  ·rintro e w' ⟨v,x,H1,β1,hR,hok,rfl,hfr,hβ,hnew,ho,hv⟩;obtain⟨hf',_⟩:=h v H1 hR;obtain⟨β',hB',hv'⟩:=hB.called (H0:=[]) (λn ob hl=>by cases hl) rfl rfl hok hfr hβ hnew ho hf' hv;refine hK v H1 _ _ hR ?_ ⟨β',hB'.put hd hv'⟩;have e0:kp2 β []=[]:=rfl;rw[e0]at hfr;exact hfr.below
 cases draw with
 |true=>
  dsimp only;cases way with
  |pure=>cases hw
  |quiet=>cases hw
  |grow=>
   simp only[x5];intro n;rw[Sd.Dv hS0 hg,Ad rfl];exact key n.w n.grows _ λv H1 a2 w2 hr g2 hs2=>⟨g2,(h v H1 hr).2 _ _ hs2⟩
  |bar=>
   simp only[x5];intro n;rw[Sd.Dv hS0 hg,Ad rfl];exact key n.w n.grows _ λv H1 a2 w2 hr g2 hs2=>(h v H1 hr).2 _ _ hs2
 |false=>exact l5 hS0 hg rfl λK hK=>key w (aG.refl w) K λv H1 a2 w2 hr _ hs2=>hK _ _ ((h v H1 hr).2 _ _ hs2)
end
end
section
structure EndsW (C:Ctx)(P:Program)(rs:List ResultVar)(H0:List (Nat × Ob))(R:V->List (Nat × Ob)->Prop)(e:Exit)(S:Sd):Prop where
 out:∃ S',Wk C S S'/\Pm P rs H0 R e S'
class TMixed (P:Program):Prop where
 h:P.follows .mixedOrders=true
def vu6:Nat->Ji
 |0=>.pure
 |1=>.quiet
 |2=>.grow
 |_=>.bar
def Cj:List Nat->Plan->Plan
 |[],p=>p
 |n::r,p=>.step (n / 4) (vu6 (n % 4)) (Cj r p)
def lin (l:List Nat):Plan:=Cj l .nil
structure Halt (p:Prop):Prop where
 go:p
theorem halt {p:Prop}(h:Halt p):p:=h.go
theorem unhalt {p:Prop}(h:p):Halt p:=⟨h⟩
structure Step (A G:Prop):Prop where
 go:A->G
structure Pn (A B G:Prop):Prop where
 go:A->B->G
inductive Unk:Bool->Prop
 |t:Unk true
 |f:Unk false
 |u (b:Bool):Unk b
section
variable {E:Set}{Q:Exit->Sd->Prop}{S:Sd}{ops:Array Oper}{draw:Bool}{rest:Todo}{way:Ji}{o:Oper}{v:V}{ty:TypeId}{pos:String}{af:Array Edge}{gd:Option (Nat × Bool)}{dst:Option Tmp}
variable {env:List (Nat × V)}{H:List (Nat × Ob)}{gl:List (Nat × List D)}{d:Nat}{k:IntKind}{p q r:Int}{xt yt:TypeId}{x y:Operand}
theorem Ca (d:Nat){op:Op}(h:TR E draw ops Q (.step ⟨some d,op,ty,pos,af,gd⟩ way rest) S):TR E draw ops Q (.step ⟨some d,op,ty,pos,af,gd⟩ way rest) S:=h
theorem zas (l:List Nat){d:Nat}{op:Op}(h:TR E draw ops Q (.step ⟨some d,op,ty,pos,af,gd⟩ way rest) S)(hm:l.elem d=true:=by exact rfl):TR E draw ops Q (.step ⟨some d,op,ty,pos,af,gd⟩ way rest) S:=h
theorem Dw {xs:Array Operand}{ats:Array TypeId}(h:TR E draw ops Q (.step ⟨dst,.call {callee:=.builtin .append,args:=xs,argTypes:=ats},ty,pos,af,gd⟩ way rest) S):TR E draw ops Q (.step ⟨dst,.call {callee:=.builtin .append,args:=xs,argTypes:=ats},ty,pos,af,gd⟩ way rest) S:=h
theorem Cf (f:Nat){xs:Array Operand}{ats:Array TypeId}(h:TR E draw ops Q (.step ⟨dst,.call {callee:=.value (.func f),args:=xs,argTypes:=ats},ty,pos,af,gd⟩ way rest) S):TR E draw ops Q (.step ⟨dst,.call {callee:=.value (.func f),args:=xs,argTypes:=ats},ty,pos,af,gd⟩ way rest) S:=h
theorem ah (h:TR E draw ops Q .nil S):TR E draw ops Q .nil S:=h
theorem ke4 (i:Nat)(h:TR E draw ops Q (.step o way rest) S)(hi:nth ops.toList i=some o:=by exact rfl):TR E draw ops Q (.step o way rest) S:=h
theorem Cg (id:Nat){dr:Bool}(h:TC E (.region id ops dr) Q S):TC E (.region id ops dr) Q S:=h
inductive Uj:Bool->Prop->Prop->Prop
 |dec (p:Prop) [Decidable p]:Uj (decide p) p (¬p)
 |any (b:Bool):Uj b (b=true) (b=false)
theorem Ce {b:Bool}{p q:Prop}(h1:p->TR E draw ops Q rest ⟨(d,.d (.bool true))::env,H,gl⟩)(h2:q->TR E draw ops Q rest ⟨(d,.d (.bool false))::env,H,gl⟩)(hu:Unk b:=by(fail_if_success exact Unk.t);(fail_if_success exact Unk.f);exact Unk.u _)(hp:Uj b p q:=by first|(with_reducible exact Uj.dec _)|exact .any _):TR E draw ops Q rest ⟨(d,.d (.bool b))::env,H,gl⟩:=by
 cases hp with
 |dec=>exact vu4 (λh=>h1 (of_decide_eq_true h)) (λh=>h2 (of_decide_eq_false h))
 |any=>exact vu4 h1 h2
inductive Td (x y:Int):BinOp->Prop->Prop
 |eql:Td x y .eql (x=y)
 |neq:Td x y .neq (¬x=y)
 |lss:Td x y .lss (x<y)
 |leq:Td x y .leq (x<=y)
 |gtr:Td x y .gtr (y<x)
 |geq:Td x y .geq (y<=x)
theorem vu7 (hdst:o.dst=some d)(hg:Sd.gd ⟨env,H,gl⟩ ops o=some true)(hq:aH E ⟨env,H,gl⟩ o v)(hd:d<E.C.nt)(hdf:p9 o=false):Step (TR E draw ops Q rest ⟨(d,v)::env,H,gl⟩) (TR E draw ops Q (.step o way rest) ⟨env,H,gl⟩):=Step.mk λh=>s_p hq hdst hd hg hdf h
theorem vu8 (hdst:o.dst=some d)(hg:Sd.gd ⟨env,H,gl⟩ ops o=some true)(hq:Quiet E ⟨env,H,gl⟩ o v)(hd:d<E.C.nt)(hdf:p9 o=false)(hw:way.known=false):Step (TR E draw ops Q rest ⟨(d,v)::env,H,gl⟩) (TR E draw ops Q (.step o way rest) ⟨env,H,gl⟩):=Step.mk λh=>s_q hq hdst hd hg hdf hw h
theorem rs5 {o:Oper}(hdst:o.dst=some d)(hd:d<E.C.nt)(hg:Sd.gd ⟨env,H,gl⟩ ops o=some false):Step (TR E draw ops Q rest ⟨(d,.tup [])::env,H,gl⟩) (TR E draw ops Q (.step o way rest) ⟨env,H,gl⟩):=Step.mk λh=>ve4 h (hdst:=hdst) (hd:=hd) (hg:=hg)
theorem ra7 {t n off m:Nat}{x y:Operand}{v:V}{vs cs cs':List V}[ht:TSize E.P t m](hx:Sd.ev ⟨env,H,gl⟩ x=some (.ptr n off))(hox:Cm x=true)(hy:Sd.ev ⟨env,H,gl⟩ y=some v)(hoy:Cm y=true)(hown:Pp ⟨env,H,gl⟩ v=true)(hl:look n H=some (.box cs))(hc:Ij v vs)(hm:vs.length=m)(hr:Repl cs off vs cs')(hg:Sd.gd ⟨env,H,gl⟩ ops ⟨none,.store t x y,ty,pos,af,gd⟩=some true)(hw:Jv draw way=true):Step (TR E draw ops Q rest ⟨env,(n,.box cs')::H,gl⟩) (TR E draw ops Q (.step ⟨none,.store t x y,ty,pos,af,gd⟩ way rest) ⟨env,H,gl⟩):=Step.mk λh=>rs0 h (hx:=hx) (hox:=hox) (hy:=hy) (hoy:=hoy) (hown:=hown) (hl:=hl) (hc:=hc) (hm:=hm) (hr:=hr) (hg:=hg) (hw:=hw)
theorem mm0 {t n k i e sz:Nat}{x y:Operand}{v:V}{z:D}{xs zs:List D}[ht:TSize E.P t sz](hx:Sd.ev ⟨env,H,gl⟩ x=some (.el n k i 0))(hox:Cm x=true)(hl:look n H=some (.row e sz false xs k))(hy:Sd.ev ⟨env,H,gl⟩ y=some v)(hoy:Cm y=true)(hz:ToD H v z)(hc:Fv z zs)(hm:zs.length=sz)(hi:i<xs.length)(hg:Sd.gd ⟨env,H,gl⟩ ops ⟨none,.store t x y,ty,pos,af,gd⟩=some true)(hw:Jv draw way=true):Step (TR E draw ops Q rest ⟨env,(n,.row e sz false (xs.set i z) k)::H,gl⟩) (TR E draw ops Q (.step ⟨none,.store t x y,ty,pos,af,gd⟩ way rest) ⟨env,H,gl⟩):=Step.mk λh=>my5 h (hx:=hx) (hox:=hox) (hl:=hl) (hy:=hy) (hoy:=hoy) (hz:=hz) (hc:=hc) (hm:=hm) (hi:=hi) (hg:=hg) (hw:=hw)
theorem ve6 {op:BinOp}{xt yt:TypeId}{x y:Operand}{k:IntKind}{p q:Int}(hop:Qs op=true)(hx:Sd.ev ⟨env,H,gl⟩ x=some (.d (.int k p)))(hy:Sd.ev ⟨env,H,gl⟩ y=some (.d (.int k q)))(hox:Cm x=true)(hoy:Cm y=true)(hd:d<E.C.nt)(hg:Sd.gd ⟨env,H,gl⟩ ops ⟨some d,.binOp op xt x y yt,ty,pos,af,gd⟩=some true):Pn (cmp op p q->TR E draw ops Q rest ⟨(d,.d (.bool true))::env,H,gl⟩) (¬cmp op p q->TR E draw ops Q rest ⟨(d,.d (.bool false))::env,H,gl⟩) (TR E draw ops Q (.step ⟨some d,.binOp op xt x y yt,ty,pos,af,gd⟩ way rest) ⟨env,H,gl⟩):=Pn.mk λh1 h2=>vp2 h1 h2 (hop:=hop) (hx:=hx) (hy:=hy) (hox:=hox) (hoy:=hoy) (hd:=hd) (hg:=hg)
theorem rs6 {c:Prop}{op:BinOp}{xt yt:TypeId}{x y:Operand}{k:IntKind}{p q:Int}(hop:Qs op=true)(hci:Td p q op c)(hx:Sd.ev ⟨env,H,gl⟩ x=some (.d (.int k p)))(hy:Sd.ev ⟨env,H,gl⟩ y=some (.d (.int k q)))(hox:Cm x=true)(hoy:Cm y=true)(hd:d<E.C.nt)(hg:Sd.gd ⟨env,H,gl⟩ ops ⟨some d,.binOp op xt x y yt,ty,pos,af,gd⟩=some true):Pn (c->TR E draw ops Q rest ⟨(d,.d (.bool true))::env,H,gl⟩) (¬c->TR E draw ops Q rest ⟨(d,.d (.bool false))::env,H,gl⟩) (TR E draw ops Q (.step ⟨some d,.binOp op xt x y yt,ty,pos,af,gd⟩ way rest) ⟨env,H,gl⟩):=by cases hci<;>exact ve6 hop hx hy hox hoy hd hg
theorem qg3 {xt yt:TypeId}{x y:Operand}{s t:ByteArray}(hx:Sd.ev ⟨env,H,gl⟩ x=some (.d (.str s)))(hy:Sd.ev ⟨env,H,gl⟩ y=some (.d (.str t)))(hox:Cm x=true)(hoy:Cm y=true)(hd:d<E.C.nt)(hg:Sd.gd ⟨env,H,gl⟩ ops ⟨some d,.binOp .eql xt x y yt,ty,pos,af,gd⟩=some true):Pn (s=t->TR E draw ops Q rest ⟨(d,.d (.bool true))::env,H,gl⟩) (¬s=t->TR E draw ops Q rest ⟨(d,.d (.bool false))::env,H,gl⟩) (TR E draw ops Q (.step ⟨some d,.binOp .eql xt x y yt,ty,pos,af,gd⟩ way rest) ⟨env,H,gl⟩):=Pn.mk λh1 h2=>ra2 h1 h2 (hx:=hx) (hy:=hy) (hox:=hox) (hoy:=hoy) (hd:=hd) (hg:=hg)
theorem qg4 {xt yt:TypeId}{x y:Operand}{s t:ByteArray}(hx:Sd.ev ⟨env,H,gl⟩ x=some (.d (.str s)))(hy:Sd.ev ⟨env,H,gl⟩ y=some (.d (.str t)))(hox:Cm x=true)(hoy:Cm y=true)(hd:d<E.C.nt)(hg:Sd.gd ⟨env,H,gl⟩ ops ⟨some d,.binOp .neq xt x y yt,ty,pos,af,gd⟩=some true):Pn (s=t->TR E draw ops Q rest ⟨(d,.d (.bool false))::env,H,gl⟩) (¬s=t->TR E draw ops Q rest ⟨(d,.d (.bool true))::env,H,gl⟩) (TR E draw ops Q (.step ⟨some d,.binOp .neq xt x y yt,ty,pos,af,gd⟩ way rest) ⟨env,H,gl⟩):=Pn.mk λh1 h2=>ra3 h1 h2 (hx:=hx) (hy:=hy) (hox:=hox) (hoy:=hoy) (hd:=hd) (hg:=hg)
theorem qg5 {t:Nat}{yt:TypeId}{x y:Operand}{ls:List Nat}{ds es:List D}{p:Prop}[ht:TEq E.P t ls][hs:TAgg E.P t ls.length](hx:Sd.ev ⟨env,H,gl⟩ x=some (.d (.agg ds)))(hy:Sd.ev ⟨env,H,gl⟩ y=some (.d (.agg es)))(hox:Cm x=true)(hoy:Cm y=true)(hE:EqC ls ds es p)(hd:d<E.C.nt)(hg:Sd.gd ⟨env,H,gl⟩ ops ⟨some d,.binOp .eql t x y yt,ty,pos,af,gd⟩=some true):Pn (p->TR E draw ops Q rest ⟨(d,.d (.bool true))::env,H,gl⟩) (¬p->TR E draw ops Q rest ⟨(d,.d (.bool false))::env,H,gl⟩) (TR E draw ops Q (.step ⟨some d,.binOp .eql t x y yt,ty,pos,af,gd⟩ way rest) ⟨env,H,gl⟩):=Pn.mk λh1 h2=>ra4 h1 h2 (hx:=hx) (hy:=hy) (hox:=hox) (hoy:=hoy) (hE:=hE) (hd:=hd) (hg:=hg)
theorem qg6 {t:Nat}{yt:TypeId}{x y:Operand}{ls:List Nat}{ds es:List D}{p:Prop}[ht:TEq E.P t ls][hs:TAgg E.P t ls.length](hx:Sd.ev ⟨env,H,gl⟩ x=some (.d (.agg ds)))(hy:Sd.ev ⟨env,H,gl⟩ y=some (.d (.agg es)))(hox:Cm x=true)(hoy:Cm y=true)(hE:EqC ls ds es p)(hd:d<E.C.nt)(hg:Sd.gd ⟨env,H,gl⟩ ops ⟨some d,.binOp .neq t x y yt,ty,pos,af,gd⟩=some true):Pn (p->TR E draw ops Q rest ⟨(d,.d (.bool false))::env,H,gl⟩) (¬p->TR E draw ops Q rest ⟨(d,.d (.bool true))::env,H,gl⟩) (TR E draw ops Q (.step ⟨some d,.binOp .neq t x y yt,ty,pos,af,gd⟩ way rest) ⟨env,H,gl⟩):=Pn.mk λh1 h2=>ra5 h1 h2 (hx:=hx) (hy:=hy) (hox:=hox) (hoy:=hoy) (hE:=hE) (hd:=hd) (hg:=hg)
theorem ra8 {id:Nat}{c:Code}:Step (TC E c (Exit.Ri id Q) S) (TC E (.block id c) Q S):=Step.mk rh0
theorem qg7 {c:Operand}{x y:Code}(hc:S.ev c=some (.d (.bool true)))(ho:Cm c=true):Step (TC E x Q S) (TC E (.cond c x y) Q S):=Step.mk (qz0 hc ho)
theorem qg8 {c:Operand}{x y:Code}(hc:S.ev c=some (.d (.bool false)))(ho:Cm c=true):Step (TC E y Q S) (TC E (.cond c x y) Q S):=Step.mk (qz1 hc ho)
theorem rs7 {id:Nat}:Step (Q (.exit id) S) (TC E (.exit id) Q S):=Step.mk rx2
theorem rs8:Step (Q .normal S) (TC E .skip Q S):=Step.mk rx1
theorem ra9 {l:Nat}:Step (Q .normal S) (TC E (.label l) Q S):=Step.mk rg9
theorem qg9 {id:Nat}{l:List Oper}:Step (TR E false l.toArray Q (vi0 l) S) (TC E (.region id l.toArray false) Q S):=Step.mk y6
theorem yyp {A G:Prop}(h:A)(hs:Step A G:=by first|(apply vu7;exact rfl;exact rfl;(first|(apply vd5)|(apply q_m_bool)|(apply q_m_str)|(apply qu9;exact rfl;exact rfl)|(apply qv2;exact rfl;exact rfl;exact rfl;exact rfl;exact rfl;(focus (first|(simp only[cmp]<;>omega)|(simp only[cmp];exact not_not_intro trivial))))|(apply qv3;exact rfl;exact rfl;exact rfl;exact rfl;exact rfl;(focus (first|(simp only[cmp]<;>omega)|(simp only[cmp];exact not_not_intro trivial))))|(apply vd3)|(apply rm4)|(apply vr2)|(apply vd4)|(apply jy9;exact rfl;exact rfl)|(apply vr6;exact rfl;exact rfl;(focus (first|exact Ab ..|rfl)))|(apply qv6;exact rfl;exact rfl;exact rfl;(focus (first|exact Ab ..|rfl)))|(apply q_len_nils;exact rfl;exact rfl)|(apply q_len_sl;exact rfl;exact rfl)|(apply q_len_suf;exact rfl;exact rfl;exact rfl;(focus (first|exact Ab ..|rfl)))|(apply qv7;exact rfl;exact rfl)|(apply qv5;exact rfl;exact rfl;exact rfl)|(apply mq2;exact rfl)|(apply mq3;exact rfl)|(apply qe3;exact rfl;exact rfl;exact rfl)|(apply vr3;exact rfl;exact rfl;exact rfl;exact rfl;(focus (simp only[inK];omega)))|(apply va5;exact rfl;exact rfl;exact rfl;exact rfl)|(apply vr4;exact rfl;exact rfl;exact rfl;exact rfl;(focus (simp only[inK];omega)))|(apply q_sub_w;exact rfl;exact rfl;exact rfl;exact rfl)|(apply va8;exact rfl;exact rfl;exact rfl;exact rfl;(focus (first|with_reducible exact n8|exact rfl|exact(Ep (by omega)).symm));(focus (first|assumption|exact ko9 (by first|omega|(simp only[Aj,Az,Ag,Ab,Aq,Bx];omega))|exact jz7 (by first|omega|(simp only[Aj,Az,Ag,Ab,Aq,Bx];omega))|rfl));(focus (first|exact Fv.agg _|constructor)))|(apply mq4;exact rfl;exact rfl;exact rfl;exact rfl;exact rfl;(focus (first|with_reducible exact n8|exact rfl|exact(Ep (by omega)).symm));(focus (first|omega|(simp only[Aj,Az,Ag,Ab,Aq,Bx];omega))))|(apply q_index_arr;exact rfl;exact rfl;exact rfl;exact rfl;(focus (first|with_reducible exact n8|exact rfl|exact(Ep (by omega)).symm));(focus (first|omega|(simp only[Aj,Az,Ag,Ab,Aq,Bx];omega))))|(apply q_index_suf;exact rfl;exact rfl;exact rfl;exact rfl;exact rfl;(focus (first|with_reducible exact n8|exact rfl|exact(Ep (by omega)).symm));(focus (first|omega|(simp only[Aj,Az,Ag,Ab,Aq,Bx];omega))))|(apply q_index_sl;exact rfl;exact rfl;exact rfl;exact rfl;(focus (first|with_reducible exact n8|exact rfl|exact(Ep (by omega)).symm));(focus (first|omega|(simp only[Aj,Az,Ag,Ab,Aq,Bx];omega))))|(apply mq6;exact rfl;exact rfl;exact rfl;exact rfl;(focus (first|with_reducible exact n8|exact rfl|exact(Ep (by omega)).symm));(focus (first|assumption|exact ko9 (by first|omega|(simp only[Aj,Az,Ag,Ab,Aq,Bx];omega))|exact jz7 (by first|omega|(simp only[Aj,Az,Ag,Ab,Aq,Bx];omega))|rfl)))|(apply vt5;exact rfl;exact rfl)|(apply vt6;exact rfl;exact rfl)|(apply mb0;exact rfl;exact rfl;exact rfl;exact rfl)|(apply mb1;exact rfl;exact rfl;exact rfl;exact rfl)|(apply vd6;exact rfl;exact rfl)|(apply vd7;exact rfl;exact rfl)|(apply va6;exact rfl;exact rfl)|(apply va7;exact rfl;exact rfl;exact rfl)|(apply q_fields;exact rfl;exact rfl;(focus ((repeat (first|exact Cut.done _|apply Cut.take|apply Cut.skip));fail_if_success intros)))|(apply q_conv;exact rfl;exact rfl;(focus (simp only[inK];omega)))|(apply q_conv_w;exact rfl;exact rfl)|(apply qv9;exact rfl;exact rfl;exact rfl;exact rfl;(focus (first|with_reducible exact n8|exact rfl|exact(Ep (by omega)).symm));(focus (first|with_reducible exact n8|exact rfl|exact(Ep (by omega)).symm));(focus (first|omega|(simp only[Aj,Az,Ag,Ab,Aq,Bx];omega)));(focus (first|omega|(simp only[Aj,Az,Ag,Ab,Aq,Bx];omega))))|(apply qv0;exact rfl)|(apply q_nil_ref;exact rfl)|(apply q_mul;exact rfl;exact rfl;exact rfl;exact rfl;(focus (simp only[inK];omega)))|(apply q_mul_w;exact rfl;exact rfl;exact rfl;exact rfl)|(apply q_quo;exact rfl;exact rfl;exact rfl;exact rfl;omega;omega;(focus (simp only[inK];omega)))|(apply q_quo_w;exact rfl;exact rfl;exact rfl;exact rfl;omega)|(apply q_rem;exact rfl;exact rfl;exact rfl;exact rfl;omega;omega)|(apply q_rem_w;exact rfl;exact rfl;exact rfl;exact rfl;omega)|(apply q_bits;exact rfl;exact rfl;exact rfl;exact rfl;exact rfl)|(apply q_shl;exact rfl;exact rfl;exact rfl;exact rfl;omega)|(apply vr5;exact rfl;exact rfl;exact rfl;exact rfl;omega)|(apply qe0;kernel_rfl;exact rfl;exact rfl;exact rfl;exact rfl)|(apply qv4;exact rfl;exact rfl;exact rfl;exact rfl;omega)|(apply q_neg;exact rfl;exact rfl)|(apply qy8;(focus ((repeat (first|exact Lp.nil|apply Lp.d|apply Lp.nils));fail_if_success intros));(focus ((repeat (first|exact Build.nil _|apply Build.cons rfl rfl (by first|exact ToD.d _|exact ToD.nils _|exact ToD.own rfl) (by first|exact Fv.agg _|constructor) (by rfl) (by(repeat (first|exact Repl.done _|apply Repl.here|apply Repl.there));fail_if_success intros)));fail_if_success intros)))|(apply w_build0;(focus ((repeat (first|exact Lp.nil|apply Lp.d|apply Lp.nils));fail_if_success intros)))|(apply ra1;(focus ((repeat (first|exact Px.nil _|apply Px.cons rfl rfl (by first|exact rfl|exact jq9 rfl) (by first|(refine Ij.d (by first|exact Fv.agg _|constructor) (by(repeat (first|exact Ng.nil|apply Ng.nils|apply Ng.cons));fail_if_success intros))|constructor) (by rfl) (by(repeat (first|exact Repl.done _|apply Repl.here|apply Repl.there));fail_if_success intros)));fail_if_success intros)))|(apply qe1;(focus ((repeat (first|exact Evs.nil|apply Evs.cons rfl rfl));fail_if_success intros));(focus ((repeat (first|exact Evs.nil|apply Evs.cons rfl rfl));fail_if_success intros)))|(apply vo4;exact rfl;exact rfl;exact rfl;exact rfl)|(apply q_max;exact rfl;exact rfl;exact rfl;exact rfl));exact ltd rfl;exact rfl)|(apply vu8;exact rfl;exact rfl;(first|(apply ju8;exact rfl;exact rfl;(focus ((repeat (first|exact Cut.done _|apply Cut.take|apply Cut.skip));fail_if_success intros));(focus ((repeat (first|exact Nh.nil|apply Nh.cons (ToD.d _)|apply Nh.cons (ToD.nils _)|apply Nh.cons (ToD.own rfl)));fail_if_success intros));exact rfl)|(apply mq1;exact rfl;(focus ((repeat (first|exact Cut.done _|apply Cut.take|apply Cut.skip));fail_if_success intros)))|(apply qe2;exact rfl;exact rfl;exact rfl;(focus (first|assumption|exact ko9 (by first|omega|(simp only[Aj,Az,Ag,Ab,Aq,Bx];omega))|exact jz7 (by first|omega|(simp only[Aj,Az,Ag,Ab,Aq,Bx];omega))|rfl));(focus (first|exact Fv.agg _|constructor));(focus ((repeat (first|exact Cut.done _|apply Cut.take|apply Cut.skip));fail_if_success intros)))|(apply js2;exact rfl;exact rfl;exact rfl)|(apply qd9;exact rfl;exact rfl)|(apply jc8;exact rfl;exact rfl;exact rfl;(focus (first|assumption|exact ko9 (by first|omega|(simp only[Aj,Az,Ag,Ab,Aq,Bx];omega))|exact jz7 (by first|omega|(simp only[Aj,Az,Ag,Ab,Aq,Bx];omega))|rfl));(focus (first|exact Fv.agg _|constructor));exact rfl)|(apply js2;exact rfl;exact rfl;(focus (first|assumption|exact ko9 (by first|omega|(simp only[Aj,Az,Ag,Ab,Aq,Bx];omega))|exact jz7 (by first|omega|(simp only[Aj,Az,Ag,Ab,Aq,Bx];omega))|rfl)))|(apply q_conv_bytes;exact rfl;exact rfl;(focus (first|rfl|exact slice_lo ..|exact slice_all ..))));exact ltd rfl;exact rfl;exact rfl)):G:=hs.go h
theorem yy {A G:Prop}(h:A)(hs:Step A G:=by first|(apply rs5;exact rfl;exact ltd rfl;exact rfl)|(apply st_pass0;exact rfl;exact rfl)|(apply ra8)|(apply qg7;exact rfl;exact rfl)|(apply qg8;exact rfl;exact rfl)|(apply rs7)|(apply rs8)|(apply ra9)|(apply qg9)|(apply ra7;exact rfl;exact rfl;exact rfl;exact rfl;(focus (first|exact rfl|exact jq9 rfl));exact rfl;(focus (first|(refine Ij.d (by first|exact Fv.agg _|constructor) (by(repeat (first|exact Ng.nil|apply Ng.nils|apply Ng.cons));fail_if_success intros))|constructor));rfl;(focus ((repeat (first|exact Repl.done _|apply Repl.here|apply Repl.there));fail_if_success intros));exact rfl;exact rfl)|(apply mm0;exact rfl;exact rfl;exact rfl;exact rfl;exact rfl;(focus (first|exact ToD.d _|exact ToD.nils _|exact ToD.own rfl));(focus (first|exact Fv.agg _|constructor));exact rfl;(focus (first|omega|(simp only[Aj,Az,Ag,Ab,Aq,Bx];omega)));exact rfl;exact rfl)|(apply st_store1;exact rfl;exact rfl;exact rfl;exact rfl;(focus (first|exact rfl|exact jq9 rfl));exact rfl;(focus (first|(refine Ij.d (by first|exact Fv.agg _|constructor) (by(repeat (first|exact Ng.nil|apply Ng.nils|apply Ng.cons));fail_if_success intros))|constructor));(focus (first|omega|(simp only[Aj,Az,Ag,Ab,Aq,Bx];omega)));exact rfl;exact rfl)):G:=hs.go h
theorem yy2 {A B G:Prop}(h1:A)(h2:B)(hs:Pn A B G:=by first|(apply rs6;exact rfl;constructor;exact rfl;exact rfl;exact rfl;exact rfl;exact ltd rfl;exact rfl)|(apply qg3;exact rfl;exact rfl;exact rfl;exact rfl;exact ltd rfl;exact rfl)|(apply qg4;exact rfl;exact rfl;exact rfl;exact rfl;exact ltd rfl;exact rfl)|(apply qg5;exact rfl;exact rfl;exact rfl;exact rfl;(focus ((repeat (first|exact EqC.nil|apply EqC.int|apply EqC.bool|apply EqC.str));fail_if_success intros));exact ltd rfl;exact rfl)|(apply qg6;exact rfl;exact rfl;exact rfl;exact rfl;(focus ((repeat (first|exact EqC.nil|apply EqC.int|apply EqC.bool|apply EqC.str));fail_if_success intros));exact ltd rfl;exact rfl)):G:=hs.go h1 h2
theorem Ci {r:V}{f:Nat}{xs:List Operand}{ats:Array TypeId}{vs vs':List V}[hf:TFun E.P f](h:TR E draw ops Q rest ⟨(d,r)::env,H,gl⟩)(hx:Evs ⟨env,H,gl⟩ xs vs:=by(repeat (first|exact Evs.nil|apply Evs.cons rfl rfl));fail_if_success intros)(ha:Args H vs vs':=by(repeat (first|exact Args.nil|apply Args.cons (Arg.d _)|apply Args.cons (Arg.own rfl)|apply Args.cons (Arg.nils _)|apply Args.cons (Arg.clo0 _)));fail_if_success intros)(hc:FnD E.P gl f vs' (λv=>v=r))(hd:d<E.C.nt:=by exact ltd rfl)(hg:Sd.gd ⟨env,H,gl⟩ ops ⟨some d,.call {callee:=.value (.func f),args:=xs.toArray,argTypes:=ats},ty,pos,af,gd⟩=some true:=by exact rfl)(hw:way.loud=true:=by exact rfl):TR E draw ops Q (.step ⟨some d,.call {callee:=.value (.func f),args:=xs.toArray,argTypes:=ats},ty,pos,af,gd⟩ way rest) ⟨env,H,gl⟩:=qg0 (λ_ e=>by cases e;exact h) (hx:=hx) (ha:=ha) (hc:=hc) (hd:=hd) (hg:=hg) (hw:=hw)
theorem Ch {r:V}{H1:List (Nat × Ob)}{f:Nat}{fx:Operand}{xs:List Operand}{ats:Array TypeId}{fs gs vs args:List V}{H0:List (Nat × Ob)}[hf:TFun E.P f](h:TR E draw ops Q rest ⟨(d,r)::env,H1++H,gl⟩)(hfx:Sd.ev ⟨env,H,gl⟩ fx=some (.clo (.func f) fs gs):=by exact rfl)(hof:Cm fx=true:=by exact rfl)(hx:Evs ⟨env,H,gl⟩ xs vs:=by(repeat (first|exact Evs.nil|apply Evs.cons rfl rfl));fail_if_success intros)(ha:Jm H (fs++vs++gs) args:=by(repeat (first|exact Jm.nil|apply Jm.cons (Md.own rfl)|apply Jm.cons (Md.nils _)|apply Jm.cons (Md.same _)));fail_if_success intros)(hc:FnE E.P gl f args H0 (λv H2=>v=r/\H2=H1))(hs:Qv H H0:=by(repeat (first|exact Qv.nil|apply Qv.cons rfl));fail_if_success intros)(hwm:Ot H0=true:=by exact rfl)(hd:d<E.C.nt:=by exact ltd rfl)(hg:Sd.gd ⟨env,H,gl⟩ ops ⟨some d,.call {callee:=.value fx,args:=xs.toArray,argTypes:=ats},ty,pos,af,gd⟩=some true:=by exact rfl)(hw:Jv draw way=true:=by exact rfl)(hfr:Nk ⟨env,H,gl⟩ H0 H1=true:=by exact rfl):TR E draw ops Q (.step ⟨some d,.call {callee:=.value fx,args:=xs.toArray,argTypes:=ats},ty,pos,af,gd⟩ way rest) ⟨env,H,gl⟩:=qg1 (λ_ _ e=>by obtain⟨rfl,rfl⟩:=e;exact⟨hfr,h⟩) (hfx:=hfx) (hof:=hof) (hx:=hx) (ha:=ha) (hc:=hc) (hs:=hs) (hwm:=hwm) (hd:=hd) (hg:=hg) (hw:=hw)
theorem j0 {id:Nat}{ops:Array Oper}[hm:TMixed E.P](bars:List Nat)(plan:Plan)(h:TR E true ops Q (ju4 ops.toList plan) S)(hs:Region.noSelect ops=true:=by kernel_rfl)(hd:kg9 ops=true:=by kernel_rfl)(hl:plan.len=ops.size:=by rfl)(hnd:bars.Nodup:=by decide)(hev:plan.even=true:=by kernel_rfl)
 (hB:ja7 .any ops bars (Array.replicate ops.size false) plan=true:=by as_aux_lemma=>kernel_rfl) (hQ:ky7 Q:=by(repeat (first|exact mk6|exact mc6|exact noPanic_endsI|exact noPanic_endsY|exact noPanic_endsA|exact noPanic_endsW|(with_reducible apply noPanic_then)|(with_reducible apply noPanic_block)));fail_if_success intros):TC E (.region id ops true) Q S:=rx5 bars plan hm.h hs hd hl hnd hev hB hQ h
theorem Dj (b:Bool)(t t':Nat)(ts:List Nat){l:Todo}{env':List (Nat × V)}{H':List (Nat × Ob)}(h:Q .normal ⟨env',H',gl⟩)(hl:look t env=some (.d (.bool b)):=by exact rfl)(ht:Nat.blt t 100000=true:=by exact rfl)(hc:jo3 b ops E.C.nt env t' t [] l=true:=by as_aux_lemma=>kernel_rfl)(hts:kh1 ts=true:=by exact rfl)
 (hk:Keep ts ((t',.d (.bool b))::env) env':=by(repeat (first|exact Keep.nil _|apply Keep.drop rfl rfl|apply Keep.take rfl|apply Keep.ghost rfl));fail_if_success intros) (hh:Lh [] H H':=by(repeat (first|exact Lh.nil _|apply Lh.take rfl|apply Lh.drop rfl));fail_if_success intros):TR E draw ops Q l ⟨env,H,gl⟩:=rs1 b t t' (Cc ts h hts hk hh) hl hc ht
theorem rn1:ko7 []=[]:=rfl
theorem rn2 {a:V}:ko7 [a]=[(0,a)]:=rfl
theorem rn3 {a b:V}:ko7 [a,b]=[(0,a),(1,b)]:=rfl
theorem rn4 {a b c:V}:ko7 [a,b,c]=[(0,a),(1,b),(2,c)]:=rfl
theorem rn5 {a b c d:V}:ko7 [a,b,c,d]=[(0,a),(1,b),(2,c),(3,d)]:=rfl
theorem rn6 {a b c d e:V}:ko7 [a,b,c,d,e]=[(0,a),(1,b),(2,c),(3,d),(4,e)]:=rfl
theorem j7 {P:Program}{rs:List ResultVar}{R:V->Prop}{vs:List V}(hr:R (aF vs))(h:Res P S rs vs:=by(repeat (first|exact Res.nil|apply Res.tmp rfl (by first|exact Arg.d _|exact Arg.own rfl|exact Arg.nils _|exact Arg.clo0 _)|apply Res.cells rfl rfl (by(repeat (first|exact Cut.done _|apply Cut.take|apply Cut.skip));fail_if_success intros) (by(repeat (first|exact Nh.nil|apply Nh.cons (ToD.d _)|apply Nh.cons (ToD.nils _)|apply Nh.cons (ToD.own rfl)));fail_if_success intros) (by rfl)|apply Res.cell rfl rfl rfl (by first|exact Arg.d _|exact Arg.own rfl|exact Arg.nils _|exact Arg.clo0 _)));fail_if_success intros):Ends P rs R .ret S:=vd8 h hr
theorem j8 {P:Program}{rs:List ResultVar}{H0 H1:List (Nat × Ob)}{R:V->List (Nat × Ob)->Prop}{vs:List V}(hr:R (aF vs) H1)(h:Ol P S rs vs:=by(repeat (first|exact Ol.nil|apply Ol.tmp rfl (by first|exact Md.own rfl|exact Md.nils _|exact Md.same _)|apply Ol.cells rfl rfl (by(repeat (first|exact Cut.done _|apply Cut.take|apply Cut.skip));fail_if_success intros) (by(repeat (first|exact Nh.nil|apply Nh.cons (ToD.d _)|apply Nh.cons (ToD.nils _)|apply Nh.cons (ToD.own rfl)));fail_if_success intros) (by rfl)|apply Ol.cell rfl rfl rfl (by first|exact Md.own rfl|exact Md.nils _|exact Md.same _)));fail_if_success intros)(hsub:Sub S.H H1:=by(repeat (first|exact Sub.nil|apply Sub.cons rfl));fail_if_success intros)(hok:Na H0 H1 (aF vs)=true:=by rfl):Pm P rs H0 R .ret S:=Pm.mk (.inl rfl) ⟨_,_,h,hsub,hok,hr⟩
theorem ja3 {P:Program}{rs:List ResultVar}{H0 H1:List (Nat × Ob)}{R:V->List (Nat × Ob)->Prop}{vs:List V}(hr:R (aF vs) H1)(h:Ol P S rs vs:=by(repeat (first|exact Ol.nil|apply Ol.tmp rfl (by exact Md.same _)|apply Ol.cells rfl rfl (by(repeat (first|exact Cut.done _|apply Cut.take|apply Cut.skip));fail_if_success intros) (by(repeat (first|exact Nh.nil|apply Nh.cons (ToD.d _)|apply Nh.cons (ToD.nils _)|apply Nh.cons (ToD.own rfl)));fail_if_success intros) (by rfl)|apply Ol.cell rfl rfl rfl (by exact Md.same _)));fail_if_success intros)(hsub:Sub S.H H1:=by(repeat (first|exact Sub.nil|apply Sub.cons rfl));fail_if_success intros)(hok:Na H0 H1 (aF vs)=true:=by rfl):Pm P rs H0 R .ret S:=Pm.mk (.inl rfl) ⟨_,_,h,hsub,hok,hr⟩
theorem v6 {C:Ctx}{env':List (Nat × V)}{H':List (Nat × Ob)}(h1:Sub env env':=by(repeat (first|exact Sub.nil|apply Sub.cons rfl));fail_if_success intros)(h2:Sub H H':=by(repeat (first|exact Sub.nil|apply Sub.cons rfl));fail_if_success intros)(h3:(C.N.all λn=>(look n H').isSome)=true:=by rfl):Wk C ⟨env,H,gl⟩ ⟨env',H',gl⟩:=wk h1 h2 h3
theorem j4 {P:Program}{gl:List (Nat × List D)}{f:FuncId}{fn:Func}{c:Code}{args:List V}{R:V->Prop}{nt:Nat}{rs:Array ResultVar}(hf:P.funcs[f]? =some fn)(hn:fn.ntmps=nt)(hr:fn.results=rs)(h:∀ w M,TC ⟨P,Ctx.fn nt w M,none⟩ c (Ends P rs.toList R) ⟨env,[],gl⟩)(hsl:ko7 args=env:=by first|exact rn2|exact rn3|exact rn4|exact rn5|exact rn1|exact rn6|exact slots6|exact slots7|exact slots8)(hb:fn.body=some c:=by rfl)(hle:Nat.ble args.length nt=true:=by rfl)(hs:Nat.ble nt 100000=true:=by rfl):FnD P gl f args R:=
 rl8 hf hb hn hr (Nat.le_of_ble_eq_true hle) (Nat.le_of_ble_eq_true hs) (hsl ▸ h)
theorem j3 {P:Program}{gl:List (Nat × List D)}{f:FuncId}{fn:Func}{c:Code}{args:List V}{H0:List (Nat × Ob)}{R:V->List (Nat × Ob)->Prop}{nt:Nat}{rs:Array ResultVar}(hf:P.funcs[f]? =some fn)(hn:fn.ntmps=nt)(hr:fn.results=rs)
 (h:∀ w M E b0,TC ⟨P,⟨nt,E,w,M,H0.map (·.1),b0,λ_=>.nilFunc,[]⟩,none⟩ c (Pm P rs.toList H0 R) ⟨env,H0,gl⟩) (hsl:ko7 args=env:=by first|exact rn2|exact rn3|exact rn4|exact rn5|exact rn1|exact rn6|exact slots6|exact slots7|exact slots8) (hb:fn.body=some c:=by rfl) (hle:Nat.ble args.length nt=true:=by rfl) (hs:Nat.ble nt 100000=true:=by rfl):FnE P gl f args H0 R:=
 qz8 hf hb hn hr (Nat.le_of_ble_eq_true hle) (Nat.le_of_ble_eq_true hs) (hsl ▸ h)
theorem k9 {c:Code}{ι:Type}(ts ns:List Nat)(ch:ι->List (Nat × V))(oh:ι->List (Nat × Ob))(P:ι->Prop)(m:ι->Nat)(i0:ι){env':List (Nat × V)}{H':List (Nat × Ob)}(hp:P i0)(round:∀ i,P i->TC E c (Exit.Oc (λS'=>∃ j,P j/\m j<m i/\Wk E.C S' ⟨ch j++env',oh j++H',gl⟩) Q) ⟨ch i++env',oh i++H',gl⟩)(hd:Drop ts env env':=by(repeat (first|exact Drop.nil|apply Drop.drop rfl|apply Drop.take rfl));fail_if_success intros)(hn:Drop ns H H':=by(repeat (first|exact Drop.nil|apply Drop.drop rfl|apply Drop.take rfl));fail_if_success intros)
 (h0:Wk E.C ⟨env,H,gl⟩ ⟨ch i0++env',oh i0++H',gl⟩:=by exact v6):TC E (.loop c) Q ⟨env,H,gl⟩:=rs3 ts ns ch oh P m i0 hp hd hn h0 round
theorem k7 {c:Code}(t:Nat){sz:Nat}{xs:List D}(hl:look t env=some (.d (.list sz xs)))(h:xs.length<=9223372036854775807->TC E c Q ⟨env,H,gl⟩):TC E c Q ⟨env,H,gl⟩:=λa w ⟨β,hB⟩=>by
 obtain⟨x,_,h2⟩:=hB.env t _ hl;obtain⟨_,_,_,_,q1,q2,_⟩:=h2;exact h (Fe q1 q2) a w ⟨β,hB⟩
theorem Qo {r:V}{H1:List (Nat × Ob)}{f:Nat}{fx:Operand}{xs:List Operand}{ats:Array TypeId}{fs gs vs args:List V}[hf:TFun E.P f](h:TR E draw ops Q rest ⟨(d,r)::env,H1++H,gl⟩)(hfx:Sd.ev ⟨env,H,gl⟩ fx=some (.clo (.func f) fs gs):=by rfl)(hof:Cm fx=true:=by rfl)(hx:Evs ⟨env,H,gl⟩ xs vs:=by(repeat (first|exact Evs.nil|apply Evs.cons rfl rfl));fail_if_success intros)(ha:Jm H (fs++vs++gs) args:=by(repeat (first|exact Jm.nil|apply Jm.cons (Md.own rfl)|apply Jm.cons (Md.nils _)|apply Jm.cons (Md.same _)));fail_if_success intros)(hc:FnE E.P gl f args [] (λv H2=>v=r/\H2=H1))
 (hp:aM args:=by(repeat (first|exact aM.nil|apply aM.cons (Pure.d _)|apply aM.cons (Pure.nils _)));fail_if_success intros) (hd:d<E.C.nt:=by exact ltd rfl) (hg:Sd.gd ⟨env,H,gl⟩ ops ⟨some d,.call {callee:=.value fx,args:=xs.toArray,argTypes:=ats},ty,pos,af,gd⟩=some true:=by rfl) (hw:way.loud=true:=by rfl) (hfr:Nk ⟨env,H,gl⟩ [] H1=true:=by rfl):TR E draw ops Q (.step ⟨some d,.call {callee:=.value fx,args:=xs.toArray,argTypes:=ats},ty,pos,af,gd⟩ way rest) ⟨env,H,gl⟩:=
 rs4 hfx hof hx ha hc hp hd hg hw λ_ _ e=>by obtain⟨rfl,rfl⟩:=e;exact⟨hfr,h⟩
end
theorem kk {A G:Prop}(h:A)(hs:A->G:=by intro x;apply_assumption -exfalso -symm;exact x):G:=hs h
end
def q0q:Plan:=lin [35,55,56,60,67]
def q0f:Plan:=.mid 12 q0q 8 (lin [49,55,56,60,67])
def q0g:Plan:=.mid 9 q0q 8 (lin [37,55,56,60,67])
def q0j:Plan:=.mid 3 (lin [55,56,60,67]) 13 (lin [13,56,60,67])
def q0a:Plan:=.mid 3 q0q 8 q0j
def q00:Plan:=Cj [0,4,8,20,24,40,44,17,29] (.or (Cj [14] (.or (lin [35,37,49,55,56,60,67]) (.or (Cj [38] q0f) (Cj [50] q0g)))) (.or (Cj [35,37,49] q0j) (.or (Cj [38] (.or (Cj [14] q0f) (.or (Cj [35,49] q0j) (Cj [50] q0a)))) (Cj [50] (.or (Cj [14] q0g) (.or (Cj [35,37] q0j) (Cj [38] q0a)))))))
def q0p:Plan:=.mid 7 (lin [23,24,35]) 5 (lin [24,30,35])
def q0b:Plan:=.mid 7 (lin [7,23,24,35]) 1 q0p
def q0l:Plan:=.mid 4 (lin [7,23,24,35]) 1 (lin [17,23,24,35])
def q0m:Plan:=.mid 2 (lin [7,23,24,35]) 1 (lin [9,23,24,35])
def q02:Plan:=Cj [12,1] (.or (Cj [7,9,17] q0p) (.or (Cj [10] (.or (Cj [7,17] q0p) (.or (Cj [18] q0b) (Cj [30] q0l)))) (.or (Cj [18] (.or (Cj [7,9] q0p) (.or (Cj [10] q0b) (Cj [30] q0m)))) (Cj [30] (.or (lin [7,9,17,23,24,35]) (.or (Cj [10] q0l) (Cj [18] q0m)))))))
def q0i:Plan:=.mid 16 (lin [43,71,72,76]) 10 (lin [66,71,72,76])
def q08:Plan:=.mid 15 q0i 10 (lin [61,66,71,72,76])
def q03:Plan:=Cj [0,4,12,44,48,9,16,20,25,28,33] (.two 9 (.mid 13 (Cj [56] q08) 10 (lin [53,56,61,66,71,72,76])) 13 (Cj [56] (.two 9 q08 15 (.two 9 q0i 16 (lin [38,43,71,72,76])))))
def q0k:Plan:=.mid 8 (lin [7,39,40,47]) 1 (lin [33,39,40,47])
def q04:Plan:=Cj [12,20,1] (.or (lin [7,9,17,24,28,33,39,40,47]) (.or (Cj [10] (.mid 4 (Cj [24,28] q0k) 1 (lin [17,24,28,33,39,40,47]))) (Cj [18,24,28] (.or (lin [7,9,33,39,40,47]) (.or (Cj [10] q0k) (Cj [34] (.mid 2 (lin [7,39,40,47]) 1 (lin [9,39,40,47]))))))))
def q0d:Plan:=Cj [8] (.mid 3 (lin [32,31,39,40,47]) 7 (lin [13,32,39,40,47]))
def q05:Plan:=Cj [20,17,25] (.or (Cj [2] (.mid 1 q0d 7 (lin [5,8,13,32,39,40,47]))) (.or (Cj [6] (.mid 0 q0d 7 (lin [1,8,13,32,39,40,47]))) (lin [31,1,5,8,13,32,39,40,47])))
def q06:Plan:=Cj [0,4,8,16,20,24,28,36,44,48,52,33,41,57] (.two 3 (lin [62,67,71]) 15 (.mid 3 (lin [67,71]) 16 (lin [13,71])))
def q07:Plan:=Cj [12,1,9,17] (.two 1 (.two 5 (lin [24,30,35]) 7 (lin [22,24,35])) 7 (lin [6,22,24,35]))
def q09:Plan:=Cj [0,13] (.two 1 (.two 2 (lin [18,20,27]) 4 (lin [10,20,27])) 4 (lin [6,10,20,27]))
def q0c:Plan:=Cj [0,4,16,20,9] (.mid 6 (lin [15,31,32,36]) 3 (lin [25,31,32,36]))
def q0e:Plan:=Cj [0,8,5,16] (.mid 3 (lin [23,24,31]) 5 (lin [13,24,31]))
def q0h:Plan:=Cj [4,1] (.mid 2 (lin [15,16,23]) 3 (lin [9,16,23]))
def q0n:Plan:=Cj [1] (.mid 1 (lin [11,15]) 2 (lin [5,15]))
def q0o:Plan:=Cj [0] (.mid 2 (lin [7,15]) 1 (lin [9,15]))
end Go.Proofs.YtklklgfpkpglgaaGreatDoor
