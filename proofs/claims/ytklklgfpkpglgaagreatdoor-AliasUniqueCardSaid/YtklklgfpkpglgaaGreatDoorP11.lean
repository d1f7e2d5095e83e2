/- Parts: D29, D30. -/
import Derived.Test.YtklklgfpkpglgaaGreatDoorP10
set_option linter.all false
set_option maxRecDepth 100000
set_option maxHeartbeats 16000000
namespace Go.Proofs.YtklklgfpkpglgaaGreatDoor
open Go.RowKit
section
section
variable {E:Set}{Q:Exit->Sd->Prop}{ops:Array Oper}{draw:Bool}{rest:Todo}
variable {env:List (Nat × V)}{H:List (Nat × Ob)}{gl:List (Nat × List D)}
theorem ri9 {C:Ctx}(ts:List Nat){env':List (Nat × V)}{H':List (Nat × Ob)}(hts:ki1 ts=true)(hk:Keep ts env env')(hh:Lc [] H H'):Wk C ⟨env,H,gl⟩ ⟨env',H',gl⟩:=fun a w ⟨β,hB⟩=>⟨β,hB.weak (fun t v hl=>hk.look (ka8 hts) hl) (fun n ob hl=>by
 have:=hh.look (n:=n) (by simp);dsimp only at hl ⊢;rw[<-this];exact hl) (fun _ _ h=>h) (fun n hn=>by
 have:=hh.look (n:=n) (by simp);dsimp only;rw[this];exact hB.has n hn)⟩
theorem Oc (ts:List Nat){env':List (Nat × V)}{H':List (Nat × Ob)}(h:TR E draw ops Q rest ⟨env',H',gl⟩)(hts:ki1 ts=true:=by exact rfl)(hk:Keep ts env env':=by(repeat (first|exact Keep.nil _|apply Keep.drop rfl rfl|apply Keep.take rfl|apply Keep.ghost rfl));fail_if_success intros)(hh:Lc [] H H':=by(repeat (first|exact Lc.nil _|apply Lc.take rfl|apply Lc.drop rfl));fail_if_success intros):TR E draw ops Q rest ⟨env,H,gl⟩:=
 fun a w hS=>h a w (ri9 ts hts hk hh a w hS)
theorem qc5 {S S':Sd}(hw:Wk E.C S S')(h:TR E draw ops Q rest S'):TR E draw ops Q rest S:=fun a w hS=>h a w (hw a w hS)
inductive Drop {α:Type}(ts:List Nat):List (Nat × α)->List (Nat × α)->Prop
 |nil:Drop ts [] []
 |take {t:Nat} {v:α} {l r:List (Nat × α)} (h:Ra t ts=false) (k:Drop ts l r):Drop ts ((t,v)::l) ((t,v)::r)
 |drop {t:Nat} {v:α} {l r:List (Nat × α)} (h:Ra t ts=true) (k:Drop ts l r):Drop ts ((t,v)::l) r
theorem rj0 {c:Code}{ι:Type}(ts ns:List Nat)(ch:ι->List (Nat × V))(oh:ι->List (Nat × Ob))(P:ι->Prop)(m:ι->Nat)(i0:ι){env':List (Nat × V)}{H':List (Nat × Ob)}(hp:P i0)(_hd:Drop ts env env')(_hn:Drop ns H H')
 (h0:Wk E.C ⟨env,H,gl⟩ ⟨ch i0++env',oh i0++H',gl⟩) (round:∀ i,P i->TC E c (Exit.Nf (fun S'=>∃ j,P j/\m j<m i/\Wk E.C S' ⟨ch j++env',oh j++H',gl⟩) Q) ⟨ch i++env',oh i++H',gl⟩):TC E (.loop c) Q ⟨env,H,gl⟩:=
 ji2 (fun i=>⟨ch i++env',oh i++H',gl⟩) P m i0 hp h0 round
end
inductive Pures:List V->Prop
 |nil:Pures []
 |cons {v:V} {vs:List V} (h:Pure v) (t:Pures vs):Pures (v::vs)
theorem Pures.all {vs:List V}(h:Pures vs):∀ v∈vs,Pure v:=by
 induction h with
 |nil=>intro v hv;cases hv
 |cons h _ ih=>
  intro v hv;rcases Bc.1 hv with rfl|hv
  ·exact h
  ·exact ih v hv
theorem Drop.look {α:Type}{ts:List Nat}{l r:List (Nat × α)}(h:Drop ts l r):∀ {n:Nat} {v:α},Go.Proofs.YtklklgfpkpglgaaGreatDoor.look n r=some v->Go.Proofs.YtklklgfpkpglgaaGreatDoor.look n l=some v:=by
 have key:∀ {n:Nat} {v:α},Go.Proofs.YtklklgfpkpglgaaGreatDoor.look n r=some v->Ra n ts=false/\Go.Proofs.YtklklgfpkpglgaaGreatDoor.look n l=some v:=by
  induction h with
  |nil=>intro n v h;cases h
  |@take t u l r h k ih=>
   intro n v hl;rw[j5]at hl ⊢;split at hl
   ·rename_i e;subst e;exact⟨h,by rw[Ad rfl];exact hl⟩
   ·rename_i e;rw[Ae e];exact ih hl
  |@drop t u l r h k ih=>
   intro n v hl;obtain⟨h1,h2⟩:=ih hl;refine⟨h1,?_⟩;rw[j5,Ae]
   ·exact h2
   ·rintro rfl;rw[h]at h1;cases h1
 intro n v hl;exact(key hl).2
section
variable {E:Set}{Q:Exit->Sd->Prop}{ops:Array Oper}{draw:Bool}{rest:Todo}{way:Jh}{ty:TypeId}{pos:String}{af:Array Edge}{gd:Option (Nat × Bool)}
variable {env:List (Nat × V)}{H:List (Nat × Ob)}{gl:List (Nat × List D)}{d:Nat}
theorem rj1 {f:Nat}{fx:Operand}{xs:List Operand}{ats:Array TypeId}{fs gs vs args:List V}{R:V->List (Nat × Ob)->Prop}[hf:TFun E.P f](hfx:Sd.ev ⟨env,H,gl⟩ fx=some (.clo (.func f) fs gs))(hof:Cn fx=true)(hx:Evs ⟨env,H,gl⟩ xs vs)(ha:Jo H (fs++vs++gs) args)
 (hc:FnE E.P gl f args [] R) (hp:Pures args) (hd:d<E.C.nt) (hg:Sd.gd ⟨env,H,gl⟩ ops ⟨some d,.call {callee:=.value fx,args:=xs.toArray,argTypes:=ats},ty,pos,af,gd⟩=some true) (hw:way.loud=true)
 (h:∀ v H1,R v H1->Nq ⟨env,H,gl⟩ [] H1=true/\TR E draw ops Q rest ⟨(d,v)::env,H1++H,gl⟩):TR E draw ops Q (.step ⟨some d,.call {callee:=.value fx,args:=xs.toArray,argTypes:=ats},ty,pos,af,gd⟩ way rest) ⟨env,H,gl⟩:=fun a w hS=>by
 have hS0:=hS;have key:∀ w1,Grows w w1->∀ K:Act->World->Prop,(∀ v H1 a2 w2,R v H1->Grows w1 w2->St E.C ⟨(d,v)::env,H1++H,gl⟩ a2 w2->K a2 w2)->(⟨some d,.call {callee:=.value fx,args:=xs.toArray,argTypes:=ats},ty,pos,af,gd⟩:Oper).wp E.P a w1 K (Qof E.C Q):=fun w1 g K hK=>by
  obtain⟨β,hB⟩:=hS.later g;obtain⟨fs',gs',h1,h2,h3⟩:=hB.ev hfx hof;unfold Oper.wp;rw[mj9 hf a h1 xs ats (some d) w1,Oper.upon_enter]
  let M:Nat->Nat->Prop:=fun b o=>E.C.M0 b o\/∃ m ob,look m H=some ob/\look m ([]:List (Nat × Ob))=none/\own (β m) ob b/\ob.mut o
  have hMut:Mut M β []=Mut E.C.M0 β H:=by
   funext b o;apply propext;constructor
   ·rintro((hm|⟨m,ob,q1,_,q2,q3⟩)|⟨n,ob,q1,q2,q3⟩)
    ·exact .inl hm
    ·exact .inr ⟨m,ob,q1,q2,q3⟩
    ·cases q1
   ·rintro(hm|⟨n,ob,q1,q2,q3⟩)
    ·exact .inl (.inl hm)
    ·exact .inl (.inr ⟨n,ob,q1,rfl,q2,q3⟩)
  have hargs:=ha.rep hB (Cv.app (Cv.app h2 (hx.rep hB)) h3);refine(hc w1 M β _ ?_ ?_ ⟨(fun n ob hl=>by cases hl),(fun n m b ob ob' hne q1 q2=>by cases q1),(fun n ob b o hl hb' hm=>by cases hl)⟩ ?_).mono ?_
  ·rintro b o (hm|⟨m,ob,q1,_,q2,_⟩)
   ·have:=hB.low b o hm;have:=hB.frame.size;omega
   ·exact hB.old q1 q2
  ·rw[hMut];exact Cv.pure (fun v hv u hu=>(hp.all v hv).keep (Keeps.refl _ _) u hu) hargs
  ·rw[hMut];exact hB.glob
  ·rintro e w' ⟨v,x,H1,β1,hR,hok,rfl,hfr,hβ,hnew,ho,hv⟩;obtain⟨hf',_⟩:=h v H1 hR;obtain⟨β',hB',hv'⟩:=hB.called (H0:=[]) (fun n ob hl=>by cases hl) rfl rfl hok hfr hβ hnew ho hf' hv;refine hK v H1 _ _ hR ?_ ⟨β',hB'.put hd hv'⟩;have e0:mb5 β []=[]:=rfl;rw[e0]at hfr;exact hfr.below
 cases draw with
 |true=>
  dsimp only;cases way with
  |pure=>cases hw
  |quiet=>cases hw
  |grow=>
   simp only[r9];intro n;rw[Sd.Fy hS0 hg,Ad rfl];exact key n.w n.grows _ fun v H1 a2 w2 hr g2 hs2=>⟨g2,(h v H1 hr).2 _ _ hs2⟩
  |bar=>
   simp only[r9];intro n;rw[Sd.Fy hS0 hg,Ad rfl];exact key n.w n.grows _ fun v H1 a2 w2 hr g2 hs2=>(h v H1 hr).2 _ _ hs2
 |false=>exact y4 hS0 hg rfl fun K hK=>key w (Grows.refl w) K fun v H1 a2 w2 hr _ hs2=>hK _ _ ((h v H1 hr).2 _ _ hs2)
end
end
section
structure EndsW (C:Ctx)(P:Program)(rs:List ResultVar)(H0:List (Nat × Ob))(R:V->List (Nat × Ob)->Prop)(e:Exit)(S:Sd):Prop where
 out:∃ S',Wk C S S'/\Pg P rs H0 R e S'
class TMixed (P:Program):Prop where
 h:P.follows .mixedOrders=true
def vi3:Nat->Jh
 |0=>.pure
 |1=>.quiet
 |2=>.grow
 |_=>.bar
def Ci:List Nat->Plan->Plan
 |[],p=>p
 |n::r,p=>.step (n / 4) (vi3 (n % 4)) (Ci r p)
def lin (l:List Nat):Plan:=Ci l .nil
structure Halt (p:Prop):Prop where
 go:p
theorem halt {p:Prop}(h:Halt p):p:=h.go
theorem unhalt {p:Prop}(h:p):Halt p:=⟨h⟩
structure Step (A G:Prop):Prop where
 go:A->G
structure Pj (A B G:Prop):Prop where
 go:A->B->G
inductive Unk:Bool->Prop
 |t:Unk true
 |f:Unk false
 |u (b:Bool):Unk b
section
variable {E:Set}{Q:Exit->Sd->Prop}{S:Sd}{ops:Array Oper}{draw:Bool}{rest:Todo}{way:Jh}{o:Oper}{v:V}{ty:TypeId}{pos:String}{af:Array Edge}{gd:Option (Nat × Bool)}{dst:Option Tmp}
variable {env:List (Nat × V)}{H:List (Nat × Ob)}{gl:List (Nat × List D)}{d:Nat}{k:IntKind}{p q r:Int}{xt yt:TypeId}{x y:Operand}
theorem Ca (d:Nat){op:Op}(h:TR E draw ops Q (.step ⟨some d,op,ty,pos,af,gd⟩ way rest) S):TR E draw ops Q (.step ⟨some d,op,ty,pos,af,gd⟩ way rest) S:=h
theorem Da {xs:Array Operand}{ats:Array TypeId}(h:TR E draw ops Q (.step ⟨dst,.call {callee:=.builtin .append,args:=xs,argTypes:=ats},ty,pos,af,gd⟩ way rest) S):TR E draw ops Q (.step ⟨dst,.call {callee:=.builtin .append,args:=xs,argTypes:=ats},ty,pos,af,gd⟩ way rest) S:=h
theorem Ch (f:Nat){xs:Array Operand}{ats:Array TypeId}(h:TR E draw ops Q (.step ⟨dst,.call {callee:=.value (.func f),args:=xs,argTypes:=ats},ty,pos,af,gd⟩ way rest) S):TR E draw ops Q (.step ⟨dst,.call {callee:=.value (.func f),args:=xs,argTypes:=ats},ty,pos,af,gd⟩ way rest) S:=h
theorem at_nil (h:TR E draw ops Q .nil S):TR E draw ops Q .nil S:=h
theorem jg0 (i:Nat)(h:TR E draw ops Q (.step o way rest) S)(hi:nth ops.toList i=some o:=by exact rfl):TR E draw ops Q (.step o way rest) S:=h
theorem Cf (id:Nat){dr:Bool}(h:TC E (.region id ops dr) Q S):TC E (.region id ops dr) Q S:=h
inductive Tg:Bool->Prop->Prop->Prop
 |dec (p:Prop) [Decidable p]:Tg (decide p) p (¬p)
 |any (b:Bool):Tg b (b=true) (b=false)
theorem Ce {b:Bool}{p q:Prop}(h1:p->TR E draw ops Q rest ⟨(d,.d (.bool true))::env,H,gl⟩)(h2:q->TR E draw ops Q rest ⟨(d,.d (.bool false))::env,H,gl⟩)(hu:Unk b:=by(fail_if_success exact Unk.t);(fail_if_success exact Unk.f);exact Unk.u _)(hp:Tg b p q:=by first|(with_reducible exact Tg.dec _)|exact .any _):TR E draw ops Q rest ⟨(d,.d (.bool b))::env,H,gl⟩:=by
 cases hp with
 |dec=>exact vi1 (fun h=>h1 (of_decide_eq_true h)) (fun h=>h2 (of_decide_eq_false h))
 |any=>exact vi1 h1 h2
inductive Sj (x y:Int):BinOp->Prop->Prop
 |eql:Sj x y .eql (x=y)
 |neq:Sj x y .neq (¬x=y)
 |lss:Sj x y .lss (x<y)
 |leq:Sj x y .leq (x<=y)
 |gtr:Sj x y .gtr (y<x)
 |geq:Sj x y .geq (y<=x)
theorem vi4 (hdst:o.dst=some d)(hg:Sd.gd ⟨env,H,gl⟩ ops o=some true)(hq:Swift E ⟨env,H,gl⟩ o v)(hd:d<E.C.nt)(hdf:p9 o=false):Step (TR E draw ops Q rest ⟨(d,v)::env,H,gl⟩) (TR E draw ops Q (.step o way rest) ⟨env,H,gl⟩):=Step.mk fun h=>s_p hq hdst hd hg hdf h
theorem vi5 (hdst:o.dst=some d)(hg:Sd.gd ⟨env,H,gl⟩ ops o=some true)(hq:Quiet E ⟨env,H,gl⟩ o v)(hd:d<E.C.nt)(hdf:p9 o=false)(hw:way.known=false):Step (TR E draw ops Q rest ⟨(d,v)::env,H,gl⟩) (TR E draw ops Q (.step o way rest) ⟨env,H,gl⟩):=Step.mk fun h=>s_q hq hdst hd hg hdf hw h
theorem rj2 {o:Oper}(hdst:o.dst=some d)(hd:d<E.C.nt)(hg:Sd.gd ⟨env,H,gl⟩ ops o=some false):Step (TR E draw ops Q rest ⟨(d,.tup [])::env,H,gl⟩) (TR E draw ops Q (.step o way rest) ⟨env,H,gl⟩):=Step.mk fun h=>rt8 h (hdst:=hdst) (hd:=hd) (hg:=hg)
theorem qt7 {t n off m:Nat}{x y:Operand}{v:V}{vs cs cs':List V}[ht:TSize E.P t m](hx:Sd.ev ⟨env,H,gl⟩ x=some (.ptr n off))(hox:Cn x=true)(hy:Sd.ev ⟨env,H,gl⟩ y=some v)(hoy:Cn y=true)(hown:Pm ⟨env,H,gl⟩ v=true)(hl:look n H=some (.box cs))(hc:Iq v vs)(hm:vs.length=m)(hr:Repl cs off vs cs')(hg:Sd.gd ⟨env,H,gl⟩ ops ⟨none,.store t x y,ty,pos,af,gd⟩=some true)(hw:Js draw way=true):Step (TR E draw ops Q rest ⟨env,(n,.box cs')::H,gl⟩) (TR E draw ops Q (.step ⟨none,.store t x y,ty,pos,af,gd⟩ way rest) ⟨env,H,gl⟩):=Step.mk fun h=>ri7 h (hx:=hx) (hox:=hox) (hy:=hy) (hoy:=hoy) (hown:=hown) (hl:=hl) (hc:=hc) (hm:=hm) (hr:=hr) (hg:=hg) (hw:=hw)
theorem mk5 {t n k i e sz:Nat}{x y:Operand}{v:V}{z:D}{xs zs:List D}[ht:TSize E.P t sz](hx:Sd.ev ⟨env,H,gl⟩ x=some (.el n k i 0))(hox:Cn x=true)(hl:look n H=some (.row e sz false xs k))(hy:Sd.ev ⟨env,H,gl⟩ y=some v)(hoy:Cn y=true)(hz:ToD H v z)(hc:Gg z zs)(hm:zs.length=sz)(hi:i<xs.length)(hg:Sd.gd ⟨env,H,gl⟩ ops ⟨none,.store t x y,ty,pos,af,gd⟩=some true)(hw:Js draw way=true):Step (TR E draw ops Q rest ⟨env,(n,.row e sz false (xs.set i z) k)::H,gl⟩) (TR E draw ops Q (.step ⟨none,.store t x y,ty,pos,af,gd⟩ way rest) ⟨env,H,gl⟩):=Step.mk fun h=>mw9 h (hx:=hx) (hox:=hox) (hl:=hl) (hy:=hy) (hoy:=hoy) (hz:=hz) (hc:=hc) (hm:=hm) (hi:=hi) (hg:=hg) (hw:=hw)
theorem rt9 {op:BinOp}{xt yt:TypeId}{x y:Operand}{k:IntKind}{p q:Int}(hop:Ql op=true)(hx:Sd.ev ⟨env,H,gl⟩ x=some (.d (.int k p)))(hy:Sd.ev ⟨env,H,gl⟩ y=some (.d (.int k q)))(hox:Cn x=true)(hoy:Cn y=true)(hd:d<E.C.nt)(hg:Sd.gd ⟨env,H,gl⟩ ops ⟨some d,.binOp op xt x y yt,ty,pos,af,gd⟩=some true):Pj (cmp op p q->TR E draw ops Q rest ⟨(d,.d (.bool true))::env,H,gl⟩) (¬cmp op p q->TR E draw ops Q rest ⟨(d,.d (.bool false))::env,H,gl⟩) (TR E draw ops Q (.step ⟨some d,.binOp op xt x y yt,ty,pos,af,gd⟩ way rest) ⟨env,H,gl⟩):=Pj.mk fun h1 h2=>vb9 h1 h2 (hop:=hop) (hx:=hx) (hy:=hy) (hox:=hox) (hoy:=hoy) (hd:=hd) (hg:=hg)
theorem rj3 {c:Prop}{op:BinOp}{xt yt:TypeId}{x y:Operand}{k:IntKind}{p q:Int}(hop:Ql op=true)(hci:Sj p q op c)(hx:Sd.ev ⟨env,H,gl⟩ x=some (.d (.int k p)))(hy:Sd.ev ⟨env,H,gl⟩ y=some (.d (.int k q)))(hox:Cn x=true)(hoy:Cn y=true)(hd:d<E.C.nt)(hg:Sd.gd ⟨env,H,gl⟩ ops ⟨some d,.binOp op xt x y yt,ty,pos,af,gd⟩=some true):Pj (c->TR E draw ops Q rest ⟨(d,.d (.bool true))::env,H,gl⟩) (¬c->TR E draw ops Q rest ⟨(d,.d (.bool false))::env,H,gl⟩) (TR E draw ops Q (.step ⟨some d,.binOp op xt x y yt,ty,pos,af,gd⟩ way rest) ⟨env,H,gl⟩):=by cases hci<;>exact rt9 hop hx hy hox hoy hd hg
theorem qc6 {xt yt:TypeId}{x y:Operand}{s t:ByteArray}(hx:Sd.ev ⟨env,H,gl⟩ x=some (.d (.str s)))(hy:Sd.ev ⟨env,H,gl⟩ y=some (.d (.str t)))(hox:Cn x=true)(hoy:Cn y=true)(hd:d<E.C.nt)(hg:Sd.gd ⟨env,H,gl⟩ ops ⟨some d,.binOp .eql xt x y yt,ty,pos,af,gd⟩=some true):Pj (s=t->TR E draw ops Q rest ⟨(d,.d (.bool true))::env,H,gl⟩) (¬s=t->TR E draw ops Q rest ⟨(d,.d (.bool false))::env,H,gl⟩) (TR E draw ops Q (.step ⟨some d,.binOp .eql xt x y yt,ty,pos,af,gd⟩ way rest) ⟨env,H,gl⟩):=Pj.mk fun h1 h2=>qt2 h1 h2 (hx:=hx) (hy:=hy) (hox:=hox) (hoy:=hoy) (hd:=hd) (hg:=hg)
theorem qc7 {xt yt:TypeId}{x y:Operand}{s t:ByteArray}(hx:Sd.ev ⟨env,H,gl⟩ x=some (.d (.str s)))(hy:Sd.ev ⟨env,H,gl⟩ y=some (.d (.str t)))(hox:Cn x=true)(hoy:Cn y=true)(hd:d<E.C.nt)(hg:Sd.gd ⟨env,H,gl⟩ ops ⟨some d,.binOp .neq xt x y yt,ty,pos,af,gd⟩=some true):Pj (s=t->TR E draw ops Q rest ⟨(d,.d (.bool false))::env,H,gl⟩) (¬s=t->TR E draw ops Q rest ⟨(d,.d (.bool true))::env,H,gl⟩) (TR E draw ops Q (.step ⟨some d,.binOp .neq xt x y yt,ty,pos,af,gd⟩ way rest) ⟨env,H,gl⟩):=Pj.mk fun h1 h2=>qt3 h1 h2 (hx:=hx) (hy:=hy) (hox:=hox) (hoy:=hoy) (hd:=hd) (hg:=hg)
theorem qc8 {t:Nat}{yt:TypeId}{x y:Operand}{ls:List Nat}{ds es:List D}{p:Prop}[ht:TEq E.P t ls][hs:TAgg E.P t ls.length](hx:Sd.ev ⟨env,H,gl⟩ x=some (.d (.agg ds)))(hy:Sd.ev ⟨env,H,gl⟩ y=some (.d (.agg es)))(hox:Cn x=true)(hoy:Cn y=true)(hE:EqC ls ds es p)(hd:d<E.C.nt)(hg:Sd.gd ⟨env,H,gl⟩ ops ⟨some d,.binOp .eql t x y yt,ty,pos,af,gd⟩=some true):Pj (p->TR E draw ops Q rest ⟨(d,.d (.bool true))::env,H,gl⟩) (¬p->TR E draw ops Q rest ⟨(d,.d (.bool false))::env,H,gl⟩) (TR E draw ops Q (.step ⟨some d,.binOp .eql t x y yt,ty,pos,af,gd⟩ way rest) ⟨env,H,gl⟩):=Pj.mk fun h1 h2=>qt4 h1 h2 (hx:=hx) (hy:=hy) (hox:=hox) (hoy:=hoy) (hE:=hE) (hd:=hd) (hg:=hg)
theorem qc9 {t:Nat}{yt:TypeId}{x y:Operand}{ls:List Nat}{ds es:List D}{p:Prop}[ht:TEq E.P t ls][hs:TAgg E.P t ls.length](hx:Sd.ev ⟨env,H,gl⟩ x=some (.d (.agg ds)))(hy:Sd.ev ⟨env,H,gl⟩ y=some (.d (.agg es)))(hox:Cn x=true)(hoy:Cn y=true)(hE:EqC ls ds es p)(hd:d<E.C.nt)(hg:Sd.gd ⟨env,H,gl⟩ ops ⟨some d,.binOp .neq t x y yt,ty,pos,af,gd⟩=some true):Pj (p->TR E draw ops Q rest ⟨(d,.d (.bool false))::env,H,gl⟩) (¬p->TR E draw ops Q rest ⟨(d,.d (.bool true))::env,H,gl⟩) (TR E draw ops Q (.step ⟨some d,.binOp .neq t x y yt,ty,pos,af,gd⟩ way rest) ⟨env,H,gl⟩):=Pj.mk fun h1 h2=>qt5 h1 h2 (hx:=hx) (hy:=hy) (hox:=hox) (hoy:=hoy) (hE:=hE) (hd:=hd) (hg:=hg)
theorem qt8 {id:Nat}{c:Code}:Step (TC E c (Exit.Lp id Q) S) (TC E (.block id c) Q S):=Step.mk ra5
theorem qd0 {c:Operand}{x y:Code}(hc:S.ev c=some (.d (.bool true)))(ho:Cn c=true):Step (TC E x Q S) (TC E (.cond c x y) Q S):=Step.mk (qs1 hc ho)
theorem qd1 {c:Operand}{x y:Code}(hc:S.ev c=some (.d (.bool false)))(ho:Cn c=true):Step (TC E y Q S) (TC E (.cond c x y) Q S):=Step.mk (qs2 hc ho)
theorem rj4 {id:Nat}:Step (Q (.exit id) S) (TC E (.exit id) Q S):=Step.mk rn7
theorem rj5:Step (Q .normal S) (TC E .skip Q S):=Step.mk rn6
theorem qt9 {l:Nat}:Step (Q .normal S) (TC E (.label l) Q S):=Step.mk ra4
theorem qd2 {id:Nat}{l:List Oper}:Step (TR E false l.toArray Q (rx1 l) S) (TC E (.region id l.toArray false) Q S):=Step.mk v8
theorem yyp {A G:Prop}(h:A)(hs:Step A G:=by first|(apply vi4;exact rfl;exact rfl;(first|(apply rs6)|(apply q_m_bool)|(apply q_m_str)|(apply qq5;exact rfl;exact rfl)|(apply qq8;exact rfl;exact rfl;exact rfl;exact rfl;exact rfl;(focus (first|(simp only[cmp]<;>omega)|(simp only[cmp];exact not_not_intro trivial))))|(apply qq9;exact rfl;exact rfl;exact rfl;exact rfl;exact rfl;(focus (first|(simp only[cmp]<;>omega)|(simp only[cmp];exact not_not_intro trivial))))|(apply rs4)|(apply re0)|(apply ve9)|(apply rs5)|(apply ka1;exact rfl;exact rfl)|(apply vf3;exact rfl;exact rfl;(focus (first|exact Ab ..|rfl)))|(apply qr2;exact rfl;exact rfl;exact rfl;(focus (first|exact Ab ..|rfl)))|(apply q_len_nils;exact rfl;exact rfl)|(apply q_len_sl;exact rfl;exact rfl)|(apply q_len_suf;exact rfl;exact rfl;exact rfl;(focus (first|exact Ab ..|rfl)))|(apply qr3;exact rfl;exact rfl)|(apply qr1;exact rfl;exact rfl;exact rfl)|(apply mp6;exact rfl)|(apply mp7;exact rfl)|(apply qb6;exact rfl;exact rfl;exact rfl)|(apply vf0;exact rfl;exact rfl;exact rfl;exact rfl;(focus (simp only[inK];omega)))|(apply rr3;exact rfl;exact rfl;exact rfl;exact rfl)|(apply vf1;exact rfl;exact rfl;exact rfl;exact rfl;(focus (simp only[inK];omega)))|(apply q_sub_w;exact rfl;exact rfl;exact rfl;exact rfl)|(apply rr6;exact rfl;exact rfl;exact rfl;exact rfl;(focus (first|with_reducible exact n3|exact rfl|exact(Ep (by omega)).symm));(focus (first|assumption|exact kp2 (by first|omega|(simp only[An,Av,Ag,Ab,Aj,Bs];omega))|exact ka4 (by first|omega|(simp only[An,Av,Ag,Ab,Aj,Bs];omega))|rfl));(focus (first|exact Gg.agg _|constructor)))|(apply mp8;exact rfl;exact rfl;exact rfl;exact rfl;exact rfl;(focus (first|with_reducible exact n3|exact rfl|exact(Ep (by omega)).symm));(focus (first|omega|(simp only[An,Av,Ag,Ab,Aj,Bs];omega))))|(apply q_index_arr;exact rfl;exact rfl;exact rfl;exact rfl;(focus (first|with_reducible exact n3|exact rfl|exact(Ep (by omega)).symm));(focus (first|omega|(simp only[An,Av,Ag,Ab,Aj,Bs];omega))))|(apply q_index_suf;exact rfl;exact rfl;exact rfl;exact rfl;exact rfl;(focus (first|with_reducible exact n3|exact rfl|exact(Ep (by omega)).symm));(focus (first|omega|(simp only[An,Av,Ag,Ab,Aj,Bs];omega))))|(apply q_index_sl;exact rfl;exact rfl;exact rfl;exact rfl;(focus (first|with_reducible exact n3|exact rfl|exact(Ep (by omega)).symm));(focus (first|omega|(simp only[An,Av,Ag,Ab,Aj,Bs];omega))))|(apply mq0;exact rfl;exact rfl;exact rfl;exact rfl;(focus (first|with_reducible exact n3|exact rfl|exact(Ep (by omega)).symm));(focus (first|assumption|exact kp2 (by first|omega|(simp only[An,Av,Ag,Ab,Aj,Bs];omega))|exact ka4 (by first|omega|(simp only[An,Av,Ag,Ab,Aj,Bs];omega))|rfl)))|(apply vf9;exact rfl;exact rfl)|(apply vg0;exact rfl;exact rfl)|(apply ma4;exact rfl;exact rfl;exact rfl;exact rfl)|(apply ma5;exact rfl;exact rfl;exact rfl;exact rfl)|(apply rs7;exact rfl;exact rfl)|(apply rs8;exact rfl;exact rfl)|(apply rr4;exact rfl;exact rfl)|(apply rr5;exact rfl;exact rfl;exact rfl)|(apply q_fields;exact rfl;exact rfl;(focus ((repeat (first|exact Cut.done _|apply Cut.take|apply Cut.skip));fail_if_success intros)))|(apply q_conv;exact rfl;exact rfl;(focus (simp only[inK];omega)))|(apply q_conv_w;exact rfl;exact rfl)|(apply qr5;exact rfl;exact rfl;exact rfl;exact rfl;(focus (first|with_reducible exact n3|exact rfl|exact(Ep (by omega)).symm));(focus (first|with_reducible exact n3|exact rfl|exact(Ep (by omega)).symm));(focus (first|omega|(simp only[An,Av,Ag,Ab,Aj,Bs];omega)));(focus (first|omega|(simp only[An,Av,Ag,Ab,Aj,Bs];omega))))|(apply qq6;exact rfl)|(apply q_nil_ref;exact rfl)|(apply q_mul;exact rfl;exact rfl;exact rfl;exact rfl;(focus (simp only[inK];omega)))|(apply q_mul_w;exact rfl;exact rfl;exact rfl;exact rfl)|(apply q_quo;exact rfl;exact rfl;exact rfl;exact rfl;omega;omega;(focus (simp only[inK];omega)))|(apply q_quo_w;exact rfl;exact rfl;exact rfl;exact rfl;omega)|(apply q_rem;exact rfl;exact rfl;exact rfl;exact rfl;omega;omega)|(apply q_rem_w;exact rfl;exact rfl;exact rfl;exact rfl;omega)|(apply q_bits;exact rfl;exact rfl;exact rfl;exact rfl;exact rfl)|(apply q_shl;exact rfl;exact rfl;exact rfl;exact rfl;omega)|(apply vf2;exact rfl;exact rfl;exact rfl;exact rfl;omega)|(apply qb3;kernel_rfl;exact rfl;exact rfl;exact rfl;exact rfl)|(apply qr0;exact rfl;exact rfl;exact rfl;exact rfl;omega)|(apply q_neg;exact rfl;exact rfl)|(apply qr9;(focus ((repeat (first|exact Li.nil|apply Li.d|apply Li.nils));fail_if_success intros));(focus ((repeat (first|exact Build.nil _|apply Build.cons rfl rfl (by first|exact ToD.d _|exact ToD.nils _|exact ToD.own rfl) (by first|exact Gg.agg _|constructor) (by rfl) (by(repeat (first|exact Repl.done _|apply Repl.here|apply Repl.there));fail_if_success intros)));fail_if_success intros)))|(apply w_build0;(focus ((repeat (first|exact Li.nil|apply Li.d|apply Li.nils));fail_if_success intros)))|(apply qt1;(focus ((repeat (first|exact Pq.nil _|apply Pq.cons rfl rfl (by first|exact rfl|exact jr3 rfl) (by first|(refine Iq.d (by first|exact Gg.agg _|constructor) (by(repeat (first|exact Nk.nil|apply Nk.nils|apply Nk.cons));fail_if_success intros))|constructor) (by rfl) (by(repeat (first|exact Repl.done _|apply Repl.here|apply Repl.there));fail_if_success intros)));fail_if_success intros)))|(apply qb4;(focus ((repeat (first|exact Evs.nil|apply Evs.cons rfl rfl));fail_if_success intros));(focus ((repeat (first|exact Evs.nil|apply Evs.cons rfl rfl));fail_if_success intros)))|(apply vb2;exact rfl;exact rfl;exact rfl;exact rfl)|(apply q_max;exact rfl;exact rfl;exact rfl;exact rfl));exact ltd rfl;exact rfl)|(apply vi5;exact rfl;exact rfl;(first|(apply jv9;exact rfl;exact rfl;(focus ((repeat (first|exact Cut.done _|apply Cut.take|apply Cut.skip));fail_if_success intros));(focus ((repeat (first|exact Nl.nil|apply Nl.cons (ToD.d _)|apply Nl.cons (ToD.nils _)|apply Nl.cons (ToD.own rfl)));fail_if_success intros));exact rfl)|(apply mp5;exact rfl;(focus ((repeat (first|exact Cut.done _|apply Cut.take|apply Cut.skip));fail_if_success intros)))|(apply qb5;exact rfl;exact rfl;exact rfl;(focus (first|assumption|exact kp2 (by first|omega|(simp only[An,Av,Ag,Ab,Aj,Bs];omega))|exact ka4 (by first|omega|(simp only[An,Av,Ag,Ab,Aj,Bs];omega))|rfl));(focus (first|exact Gg.agg _|constructor));(focus ((repeat (first|exact Cut.done _|apply Cut.take|apply Cut.skip));fail_if_success intros)))|(apply jt3;exact rfl;exact rfl;exact rfl)|(apply qb2;exact rfl;exact rfl)|(apply jc7;exact rfl;exact rfl;exact rfl;(focus (first|assumption|exact kp2 (by first|omega|(simp only[An,Av,Ag,Ab,Aj,Bs];omega))|exact ka4 (by first|omega|(simp only[An,Av,Ag,Ab,Aj,Bs];omega))|rfl));(focus (first|exact Gg.agg _|constructor));exact rfl)|(apply jt3;exact rfl;exact rfl;(focus (first|assumption|exact kp2 (by first|omega|(simp only[An,Av,Ag,Ab,Aj,Bs];omega))|exact ka4 (by first|omega|(simp only[An,Av,Ag,Ab,Aj,Bs];omega))|rfl)))|(apply q_conv_bytes;exact rfl;exact rfl;(focus (first|rfl|exact slice_lo ..|exact slice_all ..))));exact ltd rfl;exact rfl;exact rfl)):G:=hs.go h
theorem yy {A G:Prop}(h:A)(hs:Step A G:=by first|(apply rj2;exact rfl;exact ltd rfl;exact rfl)|(apply st_pass0;exact rfl;exact rfl)|(apply qt8)|(apply qd0;exact rfl;exact rfl)|(apply qd1;exact rfl;exact rfl)|(apply rj4)|(apply rj5)|(apply qt9)|(apply qd2)|(apply qt7;exact rfl;exact rfl;exact rfl;exact rfl;(focus (first|exact rfl|exact jr3 rfl));exact rfl;(focus (first|(refine Iq.d (by first|exact Gg.agg _|constructor) (by(repeat (first|exact Nk.nil|apply Nk.nils|apply Nk.cons));fail_if_success intros))|constructor));rfl;(focus ((repeat (first|exact Repl.done _|apply Repl.here|apply Repl.there));fail_if_success intros));exact rfl;exact rfl)|(apply mk5;exact rfl;exact rfl;exact rfl;exact rfl;exact rfl;(focus (first|exact ToD.d _|exact ToD.nils _|exact ToD.own rfl));(focus (first|exact Gg.agg _|constructor));exact rfl;(focus (first|omega|(simp only[An,Av,Ag,Ab,Aj,Bs];omega)));exact rfl;exact rfl)|(apply st_store1;exact rfl;exact rfl;exact rfl;exact rfl;(focus (first|exact rfl|exact jr3 rfl));exact rfl;(focus (first|(refine Iq.d (by first|exact Gg.agg _|constructor) (by(repeat (first|exact Nk.nil|apply Nk.nils|apply Nk.cons));fail_if_success intros))|constructor));(focus (first|omega|(simp only[An,Av,Ag,Ab,Aj,Bs];omega)));exact rfl;exact rfl)):G:=hs.go h
theorem yy2 {A B G:Prop}(h1:A)(h2:B)(hs:Pj A B G:=by first|(apply rj3;exact rfl;constructor;exact rfl;exact rfl;exact rfl;exact rfl;exact ltd rfl;exact rfl)|(apply qc6;exact rfl;exact rfl;exact rfl;exact rfl;exact ltd rfl;exact rfl)|(apply qc7;exact rfl;exact rfl;exact rfl;exact rfl;exact ltd rfl;exact rfl)|(apply qc8;exact rfl;exact rfl;exact rfl;exact rfl;(focus ((repeat (first|exact EqC.nil|apply EqC.int|apply EqC.bool|apply EqC.str));fail_if_success intros));exact ltd rfl;exact rfl)|(apply qc9;exact rfl;exact rfl;exact rfl;exact rfl;(focus ((repeat (first|exact EqC.nil|apply EqC.int|apply EqC.bool|apply EqC.str));fail_if_success intros));exact ltd rfl;exact rfl)):G:=hs.go h1 h2
theorem Ck {r:V}{f:Nat}{xs:List Operand}{ats:Array TypeId}{vs vs':List V}[hf:TFun E.P f](h:TR E draw ops Q rest ⟨(d,r)::env,H,gl⟩)(hx:Evs ⟨env,H,gl⟩ xs vs:=by(repeat (first|exact Evs.nil|apply Evs.cons rfl rfl));fail_if_success intros)(ha:Args H vs vs':=by(repeat (first|exact Args.nil|apply Args.cons (Arg.d _)|apply Args.cons (Arg.own rfl)|apply Args.cons (Arg.nils _)|apply Args.cons (Arg.clo0 _)));fail_if_success intros)(hc:FnD E.P gl f vs' (fun v=>v=r))(hd:d<E.C.nt:=by exact ltd rfl)(hg:Sd.gd ⟨env,H,gl⟩ ops ⟨some d,.call {callee:=.value (.func f),args:=xs.toArray,argTypes:=ats},ty,pos,af,gd⟩=some true:=by exact rfl)(hw:way.loud=true:=by exact rfl):TR E draw ops Q (.step ⟨some d,.call {callee:=.value (.func f),args:=xs.toArray,argTypes:=ats},ty,pos,af,gd⟩ way rest) ⟨env,H,gl⟩:=mq1 (fun _ e=>by cases e;exact h) (hx:=hx) (ha:=ha) (hc:=hc) (hd:=hd) (hg:=hg) (hw:=hw)
theorem Cg {r:V}{H1:List (Nat × Ob)}{f:Nat}{fx:Operand}{xs:List Operand}{ats:Array TypeId}{fs gs vs args:List V}{H0:List (Nat × Ob)}[hf:TFun E.P f](h:TR E draw ops Q rest ⟨(d,r)::env,H1++H,gl⟩)(hfx:Sd.ev ⟨env,H,gl⟩ fx=some (.clo (.func f) fs gs):=by exact rfl)(hof:Cn fx=true:=by exact rfl)(hx:Evs ⟨env,H,gl⟩ xs vs:=by(repeat (first|exact Evs.nil|apply Evs.cons rfl rfl));fail_if_success intros)(ha:Jo H (fs++vs++gs) args:=by(repeat (first|exact Jo.nil|apply Jo.cons (Mc.own rfl)|apply Jo.cons (Mc.nils _)|apply Jo.cons (Mc.same _)));fail_if_success intros)(hc:FnE E.P gl f args H0 (fun v H2=>v=r/\H2=H1))(hs:Qo H H0:=by(repeat (first|exact Qo.nil|apply Qo.cons rfl));fail_if_success intros)(hwm:Om H0=true:=by exact rfl)(hd:d<E.C.nt:=by exact ltd rfl)(hg:Sd.gd ⟨env,H,gl⟩ ops ⟨some d,.call {callee:=.value fx,args:=xs.toArray,argTypes:=ats},ty,pos,af,gd⟩=some true:=by exact rfl)(hw:Js draw way=true:=by exact rfl)(hfr:Nq ⟨env,H,gl⟩ H0 H1=true:=by exact rfl):TR E draw ops Q (.step ⟨some d,.call {callee:=.value fx,args:=xs.toArray,argTypes:=ats},ty,pos,af,gd⟩ way rest) ⟨env,H,gl⟩:=qc4 (fun _ _ e=>by obtain⟨rfl,rfl⟩:=e;exact⟨hfr,h⟩) (hfx:=hfx) (hof:=hof) (hx:=hx) (ha:=ha) (hc:=hc) (hs:=hs) (hwm:=hwm) (hd:=hd) (hg:=hg) (hw:=hw)
theorem j0 {id:Nat}{ops:Array Oper}[hm:TMixed E.P](bars:List Nat)(plan:Plan)(h:TR E true ops Q (jv5 ops.toList plan) S)(hs:Region.noSelect ops=true:=by kernel_rfl)(hd:kh9 ops=true:=by kernel_rfl)(hl:plan.len=ops.size:=by rfl)(hnd:bars.Nodup:=by decide)(hev:plan.even=true:=by kernel_rfl)
 (hB:ja5 .any ops bars (Array.replicate ops.size false) plan=true:=by as_aux_lemma=>kernel_rfl) (hQ:kx7 Q:=by(repeat (first|exact mi9|exact mb6|exact noPanic_endsI|exact noPanic_endsY|exact noPanic_endsA|exact noPanic_endsW|(with_reducible apply noPanic_then)|(with_reducible apply noPanic_block)));fail_if_success intros):TC E (.region id ops true) Q S:=ro0 bars plan hm.h hs hd hl hnd hev hB hQ h
theorem Nb (b:Bool)(t t':Nat)(ts:List Nat){l:Todo}{env':List (Nat × V)}{H':List (Nat × Ob)}(h:Q .normal ⟨env',H',gl⟩)(hl:look t env=some (.d (.bool b)):=by exact rfl)(ht:Nat.blt t 100000=true:=by exact rfl)(hc:jp4 b ops E.C.nt env t' t [] l=true:=by as_aux_lemma=>kernel_rfl)(hts:ki1 ts=true:=by exact rfl)
 (hk:Keep ts ((t',.d (.bool b))::env) env':=by(repeat (first|exact Keep.nil _|apply Keep.drop rfl rfl|apply Keep.take rfl|apply Keep.ghost rfl));fail_if_success intros) (hh:Lc [] H H':=by(repeat (first|exact Lc.nil _|apply Lc.take rfl|apply Lc.drop rfl));fail_if_success intros):TR E draw ops Q l ⟨env,H,gl⟩:=ri8 b t t' (Cc ts h hts hk hh) hl hc ht
theorem re7:kp0 []=[]:=rfl
theorem re8 {a:V}:kp0 [a]=[(0,a)]:=rfl
theorem re9 {a b:V}:kp0 [a,b]=[(0,a),(1,b)]:=rfl
theorem rf0 {a b c:V}:kp0 [a,b,c]=[(0,a),(1,b),(2,c)]:=rfl
theorem rf1 {a b c d:V}:kp0 [a,b,c,d]=[(0,a),(1,b),(2,c),(3,d)]:=rfl
theorem rf2 {a b c d e:V}:kp0 [a,b,c,d,e]=[(0,a),(1,b),(2,c),(3,d),(4,e)]:=rfl
theorem k7 {P:Program}{rs:List ResultVar}{R:V->Prop}{vs:List V}(hr:R (oneOf vs))(h:Res P S rs vs:=by(repeat (first|exact Res.nil|apply Res.tmp rfl (by first|exact Arg.d _|exact Arg.own rfl|exact Arg.nils _|exact Arg.clo0 _)|apply Res.cells rfl rfl (by(repeat (first|exact Cut.done _|apply Cut.take|apply Cut.skip));fail_if_success intros) (by(repeat (first|exact Nl.nil|apply Nl.cons (ToD.d _)|apply Nl.cons (ToD.nils _)|apply Nl.cons (ToD.own rfl)));fail_if_success intros) (by rfl)|apply Res.cell rfl rfl rfl (by first|exact Arg.d _|exact Arg.own rfl|exact Arg.nils _|exact Arg.clo0 _)));fail_if_success intros):Ends P rs R .ret S:=rs9 h hr
theorem j4 {P:Program}{rs:List ResultVar}{H0 H1:List (Nat × Ob)}{R:V->List (Nat × Ob)->Prop}{vs:List V}(hr:R (oneOf vs) H1)(h:Oe P S rs vs:=by(repeat (first|exact Oe.nil|apply Oe.tmp rfl (by first|exact Mc.own rfl|exact Mc.nils _|exact Mc.same _)|apply Oe.cells rfl rfl (by(repeat (first|exact Cut.done _|apply Cut.take|apply Cut.skip));fail_if_success intros) (by(repeat (first|exact Nl.nil|apply Nl.cons (ToD.d _)|apply Nl.cons (ToD.nils _)|apply Nl.cons (ToD.own rfl)));fail_if_success intros) (by rfl)|apply Oe.cell rfl rfl rfl (by first|exact Mc.own rfl|exact Mc.nils _|exact Mc.same _)));fail_if_success intros)(hsub:Sub S.H H1:=by(repeat (first|exact Sub.nil|apply Sub.cons rfl));fail_if_success intros)(hok:Np H0 H1 (oneOf vs)=true:=by rfl):Pg P rs H0 R .ret S:=Pg.mk (.inl rfl) ⟨_,_,h,hsub,hok,hr⟩
theorem ja2 {P:Program}{rs:List ResultVar}{H0 H1:List (Nat × Ob)}{R:V->List (Nat × Ob)->Prop}{vs:List V}(hr:R (oneOf vs) H1)(h:Oe P S rs vs:=by(repeat (first|exact Oe.nil|apply Oe.tmp rfl (by exact Mc.same _)|apply Oe.cells rfl rfl (by(repeat (first|exact Cut.done _|apply Cut.take|apply Cut.skip));fail_if_success intros) (by(repeat (first|exact Nl.nil|apply Nl.cons (ToD.d _)|apply Nl.cons (ToD.nils _)|apply Nl.cons (ToD.own rfl)));fail_if_success intros) (by rfl)|apply Oe.cell rfl rfl rfl (by exact Mc.same _)));fail_if_success intros)(hsub:Sub S.H H1:=by(repeat (first|exact Sub.nil|apply Sub.cons rfl));fail_if_success intros)(hok:Np H0 H1 (oneOf vs)=true:=by rfl):Pg P rs H0 R .ret S:=Pg.mk (.inl rfl) ⟨_,_,h,hsub,hok,hr⟩
theorem k8 {C:Ctx}{env':List (Nat × V)}{H':List (Nat × Ob)}(h1:Sub env env':=by(repeat (first|exact Sub.nil|apply Sub.cons rfl));fail_if_success intros)(h2:Sub H H':=by(repeat (first|exact Sub.nil|apply Sub.cons rfl));fail_if_success intros)(h3:(C.N.all fun n=>(look n H').isSome)=true:=by rfl):Wk C ⟨env,H,gl⟩ ⟨env',H',gl⟩:=wk h1 h2 h3
theorem j7 {P:Program}{gl:List (Nat × List D)}{f:FuncId}{fn:Func}{c:Code}{args:List V}{R:V->Prop}{nt:Nat}{rs:Array ResultVar}(hf:P.funcs[f]? =some fn)(hn:fn.ntmps=nt)(hr:fn.results=rs)(h:∀ w M,TC ⟨P,Ctx.fn nt w M,none⟩ c (Ends P rs.toList R) ⟨env,[],gl⟩)(hsl:kp0 args=env:=by first|exact re8|exact re9|exact rf0|exact rf1|exact re7|exact rf2|exact slots6|exact slots7|exact slots8)(hb:fn.body=some c:=by rfl)(hle:Nat.ble args.length nt=true:=by rfl)(hs:Nat.ble nt 100000=true:=by rfl):FnD P gl f args R:=
 rd4 hf hb hn hr (Nat.le_of_ble_eq_true hle) (Nat.le_of_ble_eq_true hs) (hsl ▸ h)
theorem j2 {P:Program}{gl:List (Nat × List D)}{f:FuncId}{fn:Func}{c:Code}{args:List V}{H0:List (Nat × Ob)}{R:V->List (Nat × Ob)->Prop}{nt:Nat}{rs:Array ResultVar}(hf:P.funcs[f]? =some fn)(hn:fn.ntmps=nt)(hr:fn.results=rs)
 (h:∀ w M E b0,TC ⟨P,⟨nt,E,w,M,H0.map (·.1),b0,fun _=>.nilFunc,[]⟩,none⟩ c (Pg P rs.toList H0 R) ⟨env,H0,gl⟩) (hsl:kp0 args=env:=by first|exact re8|exact re9|exact rf0|exact rf1|exact re7|exact rf2|exact slots6|exact slots7|exact slots8) (hb:fn.body=some c:=by rfl) (hle:Nat.ble args.length nt=true:=by rfl) (hs:Nat.ble nt 100000=true:=by rfl):FnE P gl f args H0 R:=
 qs9 hf hb hn hr (Nat.le_of_ble_eq_true hle) (Nat.le_of_ble_eq_true hs) (hsl ▸ h)
theorem j6 {c:Code}{ι:Type}(ts ns:List Nat)(ch:ι->List (Nat × V))(oh:ι->List (Nat × Ob))(P:ι->Prop)(m:ι->Nat)(i0:ι){env':List (Nat × V)}{H':List (Nat × Ob)}(hp:P i0)(round:∀ i,P i->TC E c (Exit.Nf (fun S'=>∃ j,P j/\m j<m i/\Wk E.C S' ⟨ch j++env',oh j++H',gl⟩) Q) ⟨ch i++env',oh i++H',gl⟩)(hd:Drop ts env env':=by(repeat (first|exact Drop.nil|apply Drop.drop rfl|apply Drop.take rfl));fail_if_success intros)(hn:Drop ns H H':=by(repeat (first|exact Drop.nil|apply Drop.drop rfl|apply Drop.take rfl));fail_if_success intros)
 (h0:Wk E.C ⟨env,H,gl⟩ ⟨ch i0++env',oh i0++H',gl⟩:=by exact k8):TC E (.loop c) Q ⟨env,H,gl⟩:=rj0 ts ns ch oh P m i0 hp hd hn h0 round
theorem j8 {c:Code}(t:Nat){sz:Nat}{xs:List D}(hl:look t env=some (.d (.list sz xs)))(h:xs.length<=9223372036854775807->TC E c Q ⟨env,H,gl⟩):TC E c Q ⟨env,H,gl⟩:=fun a w ⟨β,hB⟩=>by
 obtain⟨x,_,h2⟩:=hB.env t _ hl;obtain⟨_,_,_,_,q1,q2,_⟩:=h2;exact h (Fj q1 q2) a w ⟨β,hB⟩
theorem Qj {r:V}{H1:List (Nat × Ob)}{f:Nat}{fx:Operand}{xs:List Operand}{ats:Array TypeId}{fs gs vs args:List V}[hf:TFun E.P f](h:TR E draw ops Q rest ⟨(d,r)::env,H1++H,gl⟩)(hfx:Sd.ev ⟨env,H,gl⟩ fx=some (.clo (.func f) fs gs):=by rfl)(hof:Cn fx=true:=by rfl)(hx:Evs ⟨env,H,gl⟩ xs vs:=by(repeat (first|exact Evs.nil|apply Evs.cons rfl rfl));fail_if_success intros)(ha:Jo H (fs++vs++gs) args:=by(repeat (first|exact Jo.nil|apply Jo.cons (Mc.own rfl)|apply Jo.cons (Mc.nils _)|apply Jo.cons (Mc.same _)));fail_if_success intros)(hc:FnE E.P gl f args [] (fun v H2=>v=r/\H2=H1))
 (hp:Pures args:=by(repeat (first|exact Pures.nil|apply Pures.cons (Pure.d _)|apply Pures.cons (Pure.nils _)));fail_if_success intros) (hd:d<E.C.nt:=by exact ltd rfl) (hg:Sd.gd ⟨env,H,gl⟩ ops ⟨some d,.call {callee:=.value fx,args:=xs.toArray,argTypes:=ats},ty,pos,af,gd⟩=some true:=by rfl) (hw:way.loud=true:=by rfl) (hfr:Nq ⟨env,H,gl⟩ [] H1=true:=by rfl):TR E draw ops Q (.step ⟨some d,.call {callee:=.value fx,args:=xs.toArray,argTypes:=ats},ty,pos,af,gd⟩ way rest) ⟨env,H,gl⟩:=
 rj1 hfx hof hx ha hc hp hd hg hw fun _ _ e=>by obtain⟨rfl,rfl⟩:=e;exact⟨hfr,h⟩
end
theorem kk {A G:Prop}(h:A)(hs:A->G:=by intro x;apply_assumption -exfalso -symm;exact x):G:=hs h
end
def q0q:Plan:=lin [35,55,56,60,67]
def q0f:Plan:=.mid 12 q0q 8 (lin [49,55,56,60,67])
def q0g:Plan:=.mid 9 q0q 8 (lin [37,55,56,60,67])
def q0j:Plan:=.mid 3 (lin [55,56,60,67]) 13 (lin [13,56,60,67])
def q0a:Plan:=.mid 3 q0q 8 q0j
def q00:Plan:=Ci [0,4,8,20,24,40,44,17,29] (.or (Ci [14] (.or (lin [35,37,49,55,56,60,67]) (.or (Ci [38] q0f) (Ci [50] q0g)))) (.or (Ci [35,37,49] q0j) (.or (Ci [38] (.or (Ci [14] q0f) (.or (Ci [35,49] q0j) (Ci [50] q0a)))) (Ci [50] (.or (Ci [14] q0g) (.or (Ci [35,37] q0j) (Ci [38] q0a)))))))
def q0p:Plan:=.mid 7 (lin [23,24,35]) 5 (lin [24,30,35])
def q0b:Plan:=.mid 7 (lin [7,23,24,35]) 1 q0p
def q0l:Plan:=.mid 4 (lin [7,23,24,35]) 1 (lin [17,23,24,35])
def q0m:Plan:=.mid 2 (lin [7,23,24,35]) 1 (lin [9,23,24,35])
def q02:Plan:=Ci [12,1] (.or (Ci [7,9,17] q0p) (.or (Ci [10] (.or (Ci [7,17] q0p) (.or (Ci [18] q0b) (Ci [30] q0l)))) (.or (Ci [18] (.or (Ci [7,9] q0p) (.or (Ci [10] q0b) (Ci [30] q0m)))) (Ci [30] (.or (lin [7,9,17,23,24,35]) (.or (Ci [10] q0l) (Ci [18] q0m)))))))
def q0i:Plan:=.mid 16 (lin [43,71,72,76]) 10 (lin [66,71,72,76])
def q08:Plan:=.mid 15 q0i 10 (lin [61,66,71,72,76])
def q03:Plan:=Ci [0,4,12,44,48,9,16,20,25,28,33] (.two 9 (.mid 13 (Ci [56] q08) 10 (lin [53,56,61,66,71,72,76])) 13 (Ci [56] (.two 9 q08 15 (.two 9 q0i 16 (lin [38,43,71,72,76])))))
def q0k:Plan:=.mid 8 (lin [7,39,40,47]) 1 (lin [33,39,40,47])
def q04:Plan:=Ci [12,20,1] (.or (lin [7,9,17,24,28,33,39,40,47]) (.or (Ci [10] (.mid 4 (Ci [24,28] q0k) 1 (lin [17,24,28,33,39,40,47]))) (Ci [18,24,28] (.or (lin [7,9,33,39,40,47]) (.or (Ci [10] q0k) (Ci [34] (.mid 2 (lin [7,39,40,47]) 1 (lin [9,39,40,47]))))))))
def q0d:Plan:=Ci [8] (.mid 3 (lin [32,31,39,40,47]) 7 (lin [13,32,39,40,47]))
def q05:Plan:=Ci [20,17,25] (.or (Ci [2] (.mid 1 q0d 7 (lin [5,8,13,32,39,40,47]))) (.or (Ci [6] (.mid 0 q0d 7 (lin [1,8,13,32,39,40,47]))) (lin [31,1,5,8,13,32,39,40,47])))
def q06:Plan:=Ci [0,4,8,16,20,24,28,36,44,48,52,33,41,57] (.two 3 (lin [62,67,71]) 15 (.mid 3 (lin [67,71]) 16 (lin [13,71])))
def q07:Plan:=Ci [12,1,9,17] (.two 1 (.two 5 (lin [24,30,35]) 7 (lin [22,24,35])) 7 (lin [6,22,24,35]))
def q09:Plan:=Ci [0,13] (.two 1 (.two 2 (lin [18,20,27]) 4 (lin [10,20,27])) 4 (lin [6,10,20,27]))
def q0c:Plan:=Ci [0,4,16,20,9] (.mid 6 (lin [15,31,32,36]) 3 (lin [25,31,32,36]))
def q0e:Plan:=Ci [0,8,5,16] (.mid 3 (lin [23,24,31]) 5 (lin [13,24,31]))
def q0h:Plan:=Ci [4,1] (.mid 2 (lin [15,16,23]) 3 (lin [9,16,23]))
def q0n:Plan:=Ci [1] (.mid 1 (lin [11,15]) 2 (lin [5,15]))
def q0o:Plan:=Ci [0] (.mid 2 (lin [7,15]) 1 (lin [9,15]))
end Go.Proofs.YtklklgfpkpglgaaGreatDoor
