/- Parts: D30, T. -/
import Derived.Test.YtdopmfifmgkmoaaGreatDoorP9
import Derived.Test.YtdopmfifmgkmoaaGreatDoorProg
set_option linter.all false
set_option maxRecDepth 100000
set_option maxHeartbeats 16000000
namespace Go.Proofs.YtdopmfifmgkmoaaGreatDoor
open Go.RowKit Go.Proofs.Tryz
section
class TMixed (P:Program):Prop where
 h:P.follows .mixedOrders=true
def rr5:Nat->Kt
 |0=>.pure
 |1=>.quiet
 |2=>.grow
 |_=>.bar
def Cm:List Nat->Plan->Plan
 |[],p=>p
 |n::r,p=>.step (n / 4) (rr5 (n % 4)) (Cm r p)
def lin (l:List Nat):Plan:=Cm l .nil
structure Halt (p:Prop):Prop where
 go:p
theorem halt {p:Prop}(h:Halt p):p:=h.go
theorem unhalt {p:Prop}(h:p):Halt p:=⟨h⟩
structure Step (A G:Prop):Prop where
 go:A->G
structure Qa (A B G:Prop):Prop where
 go:A->B->G
inductive Unk:Bool->Prop
 |t:Unk true
 |f:Unk false
 |u (b:Bool):Unk b
section
variable {E:Set}{Q:Exit->Sd->Prop}{S:Sd}{ops:Array Oper}{draw:Bool}{rest:Todo}{way:Kt}{o:Oper}{v:V}{ty:TypeId}{pos:String}{af:Array Edge}{gd:Option (Nat × Bool)}{dst:Option Tmp}
variable {env:List (Nat × V)}{H:List (Nat × Ob)}{gl:List (Nat × List D)}{d:Nat}{k:IntKind}{p q r:Int}{xt yt:TypeId}{x y:Operand}
theorem Ca (d:Nat){op:Op}(h:TR E draw ops Q (.step ⟨some d,op,ty,pos,af,gd⟩ way rest) S):TR E draw ops Q (.step ⟨some d,op,ty,pos,af,gd⟩ way rest) S:=h
theorem Cq {xs:Array Operand}{ats:Array TypeId}(h:TR E draw ops Q (.step ⟨dst,.call {callee:=.builtin .append,args:=xs,argTypes:=ats},ty,pos,af,gd⟩ way rest) S):TR E draw ops Q (.step ⟨dst,.call {callee:=.builtin .append,args:=xs,argTypes:=ats},ty,pos,af,gd⟩ way rest) S:=h
theorem Cf (f:Nat){xs:Array Operand}{ats:Array TypeId}(h:TR E draw ops Q (.step ⟨dst,.call {callee:=.value (.func f),args:=xs,argTypes:=ats},ty,pos,af,gd⟩ way rest) S):TR E draw ops Q (.step ⟨dst,.call {callee:=.value (.func f),args:=xs,argTypes:=ats},ty,pos,af,gd⟩ way rest) S:=h
theorem at_nil (h:TR E draw ops Q .nil S):TR E draw ops Q .nil S:=h
theorem jr6 (i:Nat)(h:TR E draw ops Q (.step o way rest) S)(hi:nth ops.toList i=some o:=by exact rfl):TR E draw ops Q (.step o way rest) S:=h
theorem Ck (id:Nat){dr:Bool}(h:TC E (.region id ops dr) Q S):TC E (.region id ops dr) Q S:=h
inductive Uz:Bool->Prop->Prop->Prop
 |dec (p:Prop) [Decidable p]:Uz (decide p) p (¬p)
 |any (b:Bool):Uz b (b=true) (b=false)
theorem Cc {b:Bool}{p q:Prop}(h1:p->TR E draw ops Q rest ⟨(d,.d (.bool true))::env,H,gl⟩)(h2:q->TR E draw ops Q rest ⟨(d,.d (.bool false))::env,H,gl⟩)(hu:Unk b:=by(fail_if_success exact Unk.t);(fail_if_success exact Unk.f);exact Unk.u _)(hp:Uz b p q:=by first|(with_reducible exact Uz.dec _)|exact .any _):TR E draw ops Q rest ⟨(d,.d (.bool b))::env,H,gl⟩:=by
 cases hp with
 |dec=>exact rr3 (fun h=>h1 (of_decide_eq_true h)) (fun h=>h2 (of_decide_eq_false h))
 |any=>exact rr3 h1 h2
inductive Ti (x y:Int):BinOp->Prop->Prop
 |eql:Ti x y .eql (x=y)
 |neq:Ti x y .neq (¬x=y)
 |lss:Ti x y .lss (x<y)
 |leq:Ti x y .leq (x<=y)
 |gtr:Ti x y .gtr (y<x)
 |geq:Ti x y .geq (y<=x)
theorem rr6 (hdst:o.dst=some d)(hg:Sd.gd ⟨env,H,gl⟩ ops o=some true)(hq:Swift E ⟨env,H,gl⟩ o v)(hd:d<E.C.nt)(hdf:jc0 o=false):Step (TR E draw ops Q rest ⟨(d,v)::env,H,gl⟩) (TR E draw ops Q (.step o way rest) ⟨env,H,gl⟩):=Step.mk fun h=>s_p hq hdst hd hg hdf h
theorem rr7 (hdst:o.dst=some d)(hg:Sd.gd ⟨env,H,gl⟩ ops o=some true)(hq:Quiet E ⟨env,H,gl⟩ o v)(hd:d<E.C.nt)(hdf:jc0 o=false)(hw:way.known=false):Step (TR E draw ops Q rest ⟨(d,v)::env,H,gl⟩) (TR E draw ops Q (.step o way rest) ⟨env,H,gl⟩):=Step.mk fun h=>s_q hq hdst hd hg hdf hw h
theorem qz1 {o:Oper}(hdst:o.dst=some d)(hd:d<E.C.nt)(hg:Sd.gd ⟨env,H,gl⟩ ops o=some false):Step (TR E draw ops Q rest ⟨(d,.tup [])::env,H,gl⟩) (TR E draw ops Q (.step o way rest) ⟨env,H,gl⟩):=Step.mk fun h=>rn3 h (hdst:=hdst) (hd:=hd) (hg:=hg)
theorem qm7 {t n off m:Nat}{x y:Operand}{v:V}{vs cs cs':List V}[ht:TSize E.P t m](hx:Sd.ev ⟨env,H,gl⟩ x=some (.ptr n off))(hox:Cw x=true)(hy:Sd.ev ⟨env,H,gl⟩ y=some v)(hoy:Cw y=true)(hown:Py ⟨env,H,gl⟩ v=true)(hl:look n H=some (.box cs))(hc:Jh v vs)(hm:vs.length=m)(hr:Repl cs off vs cs')(hg:Sd.gd ⟨env,H,gl⟩ ops ⟨none,.store t x y,ty,pos,af,gd⟩=some true)(hw:Mr draw way=true):Step (TR E draw ops Q rest ⟨env,(n,.box cs')::H,gl⟩) (TR E draw ops Q (.step ⟨none,.store t x y,ty,pos,af,gd⟩ way rest) ⟨env,H,gl⟩):=Step.mk fun h=>rh2 h (hx:=hx) (hox:=hox) (hy:=hy) (hoy:=hoy) (hown:=hown) (hl:=hl) (hc:=hc) (hm:=hm) (hr:=hr) (hg:=hg) (hw:=hw)
theorem md7 {t n k i e sz:Nat}{x y:Operand}{v:V}{z:D}{xs zs:List D}[ht:TSize E.P t sz](hx:Sd.ev ⟨env,H,gl⟩ x=some (.el n k i 0))(hox:Cw x=true)(hl:look n H=some (.row e sz false xs k))(hy:Sd.ev ⟨env,H,gl⟩ y=some v)(hoy:Cw y=true)(hz:ToD H v z)(hc:Gy z zs)(hm:zs.length=sz)(hi:i<xs.length)(hg:Sd.gd ⟨env,H,gl⟩ ops ⟨none,.store t x y,ty,pos,af,gd⟩=some true)(hw:Mr draw way=true):Step (TR E draw ops Q rest ⟨env,(n,.row e sz false (xs.set i z) k)::H,gl⟩) (TR E draw ops Q (.step ⟨none,.store t x y,ty,pos,af,gd⟩ way rest) ⟨env,H,gl⟩):=Step.mk fun h=>mu9 h (hx:=hx) (hox:=hox) (hl:=hl) (hy:=hy) (hoy:=hoy) (hz:=hz) (hc:=hc) (hm:=hm) (hi:=hi) (hg:=hg) (hw:=hw)
theorem ri2 {op:BinOp}{xt yt:TypeId}{x y:Operand}{k:IntKind}{p q:Int}(hop:Rb op=true)(hx:Sd.ev ⟨env,H,gl⟩ x=some (.d (.int k p)))(hy:Sd.ev ⟨env,H,gl⟩ y=some (.d (.int k q)))(hox:Cw x=true)(hoy:Cw y=true)(hd:d<E.C.nt)(hg:Sd.gd ⟨env,H,gl⟩ ops ⟨some d,.binOp op xt x y yt,ty,pos,af,gd⟩=some true):Qa (cmp op p q->TR E draw ops Q rest ⟨(d,.d (.bool true))::env,H,gl⟩) (¬cmp op p q->TR E draw ops Q rest ⟨(d,.d (.bool false))::env,H,gl⟩) (TR E draw ops Q (.step ⟨some d,.binOp op xt x y yt,ty,pos,af,gd⟩ way rest) ⟨env,H,gl⟩):=Qa.mk fun h1 h2=>rr0 h1 h2 (hop:=hop) (hx:=hx) (hy:=hy) (hox:=hox) (hoy:=hoy) (hd:=hd) (hg:=hg)
theorem qz2 {c:Prop}{op:BinOp}{xt yt:TypeId}{x y:Operand}{k:IntKind}{p q:Int}(hop:Rb op=true)(hci:Ti p q op c)(hx:Sd.ev ⟨env,H,gl⟩ x=some (.d (.int k p)))(hy:Sd.ev ⟨env,H,gl⟩ y=some (.d (.int k q)))(hox:Cw x=true)(hoy:Cw y=true)(hd:d<E.C.nt)(hg:Sd.gd ⟨env,H,gl⟩ ops ⟨some d,.binOp op xt x y yt,ty,pos,af,gd⟩=some true):Qa (c->TR E draw ops Q rest ⟨(d,.d (.bool true))::env,H,gl⟩) (¬c->TR E draw ops Q rest ⟨(d,.d (.bool false))::env,H,gl⟩) (TR E draw ops Q (.step ⟨some d,.binOp op xt x y yt,ty,pos,af,gd⟩ way rest) ⟨env,H,gl⟩):=by cases hci<;>exact ri2 hop hx hy hox hoy hd hg
theorem mw9 {xt yt:TypeId}{x y:Operand}{s t:ByteArray}(hx:Sd.ev ⟨env,H,gl⟩ x=some (.d (.str s)))(hy:Sd.ev ⟨env,H,gl⟩ y=some (.d (.str t)))(hox:Cw x=true)(hoy:Cw y=true)(hd:d<E.C.nt)(hg:Sd.gd ⟨env,H,gl⟩ ops ⟨some d,.binOp .eql xt x y yt,ty,pos,af,gd⟩=some true):Qa (s=t->TR E draw ops Q rest ⟨(d,.d (.bool true))::env,H,gl⟩) (¬s=t->TR E draw ops Q rest ⟨(d,.d (.bool false))::env,H,gl⟩) (TR E draw ops Q (.step ⟨some d,.binOp .eql xt x y yt,ty,pos,af,gd⟩ way rest) ⟨env,H,gl⟩):=Qa.mk fun h1 h2=>qu7 h1 h2 (hx:=hx) (hy:=hy) (hox:=hox) (hoy:=hoy) (hd:=hd) (hg:=hg)
theorem mx0 {xt yt:TypeId}{x y:Operand}{s t:ByteArray}(hx:Sd.ev ⟨env,H,gl⟩ x=some (.d (.str s)))(hy:Sd.ev ⟨env,H,gl⟩ y=some (.d (.str t)))(hox:Cw x=true)(hoy:Cw y=true)(hd:d<E.C.nt)(hg:Sd.gd ⟨env,H,gl⟩ ops ⟨some d,.binOp .neq xt x y yt,ty,pos,af,gd⟩=some true):Qa (s=t->TR E draw ops Q rest ⟨(d,.d (.bool false))::env,H,gl⟩) (¬s=t->TR E draw ops Q rest ⟨(d,.d (.bool true))::env,H,gl⟩) (TR E draw ops Q (.step ⟨some d,.binOp .neq xt x y yt,ty,pos,af,gd⟩ way rest) ⟨env,H,gl⟩):=Qa.mk fun h1 h2=>qu8 h1 h2 (hx:=hx) (hy:=hy) (hox:=hox) (hoy:=hoy) (hd:=hd) (hg:=hg)
theorem mx1 {t:Nat}{yt:TypeId}{x y:Operand}{ls:List Nat}{ds es:List D}{p:Prop}[ht:TEq E.P t ls][hs:TAgg E.P t ls.length](hx:Sd.ev ⟨env,H,gl⟩ x=some (.d (.agg ds)))(hy:Sd.ev ⟨env,H,gl⟩ y=some (.d (.agg es)))(hox:Cw x=true)(hoy:Cw y=true)(hE:EqC ls ds es p)(hd:d<E.C.nt)(hg:Sd.gd ⟨env,H,gl⟩ ops ⟨some d,.binOp .eql t x y yt,ty,pos,af,gd⟩=some true):Qa (p->TR E draw ops Q rest ⟨(d,.d (.bool true))::env,H,gl⟩) (¬p->TR E draw ops Q rest ⟨(d,.d (.bool false))::env,H,gl⟩) (TR E draw ops Q (.step ⟨some d,.binOp .eql t x y yt,ty,pos,af,gd⟩ way rest) ⟨env,H,gl⟩):=Qa.mk fun h1 h2=>qu9 h1 h2 (hx:=hx) (hy:=hy) (hox:=hox) (hoy:=hoy) (hE:=hE) (hd:=hd) (hg:=hg)
theorem mx2 {t:Nat}{yt:TypeId}{x y:Operand}{ls:List Nat}{ds es:List D}{p:Prop}[ht:TEq E.P t ls][hs:TAgg E.P t ls.length](hx:Sd.ev ⟨env,H,gl⟩ x=some (.d (.agg ds)))(hy:Sd.ev ⟨env,H,gl⟩ y=some (.d (.agg es)))(hox:Cw x=true)(hoy:Cw y=true)(hE:EqC ls ds es p)(hd:d<E.C.nt)(hg:Sd.gd ⟨env,H,gl⟩ ops ⟨some d,.binOp .neq t x y yt,ty,pos,af,gd⟩=some true):Qa (p->TR E draw ops Q rest ⟨(d,.d (.bool false))::env,H,gl⟩) (¬p->TR E draw ops Q rest ⟨(d,.d (.bool true))::env,H,gl⟩) (TR E draw ops Q (.step ⟨some d,.binOp .neq t x y yt,ty,pos,af,gd⟩ way rest) ⟨env,H,gl⟩):=Qa.mk fun h1 h2=>qv0 h1 h2 (hx:=hx) (hy:=hy) (hox:=hox) (hoy:=hoy) (hE:=hE) (hd:=hd) (hg:=hg)
theorem qm8 {id:Nat}{c:Code}:Step (TC E c (Exit.Mh id Q) S) (TC E (.block id c) Q S):=Step.mk qr9
theorem mx3 {c:Operand}{x y:Code}(hc:S.ev c=some (.d (.bool true)))(ho:Cw c=true):Step (TC E x Q S) (TC E (.cond c x y) Q S):=Step.mk (qj9 hc ho)
theorem mx4 {c:Operand}{x y:Code}(hc:S.ev c=some (.d (.bool false)))(ho:Cw c=true):Step (TC E y Q S) (TC E (.cond c x y) Q S):=Step.mk (qk0 hc ho)
theorem qz3 {id:Nat}:Step (Q (.exit id) S) (TC E (.exit id) Q S):=Step.mk rd1
theorem qz4:Step (Q .normal S) (TC E .skip Q S):=Step.mk rd0
theorem mx5 {id:Nat}{l:List Oper}:Step (TR E false l.toArray Q (rl4 l) S) (TC E (.region id l.toArray false) Q S):=Step.mk x7
theorem yyp {A G:Prop}(h:A)(hs:Step A G:=by first|(apply rr6;exact rfl;exact rfl;(first|(apply rg5)|(apply q_m_bool)|(apply q_m_str)|(apply qf1;exact rfl;exact rfl)|(apply qf3;exact rfl;exact rfl;exact rfl;exact rfl;exact rfl;(focus (first|(simp only[cmp]<;>omega)|(simp only[cmp];exact not_not_intro trivial))))|(apply qf4;exact rfl;exact rfl;exact rfl;exact rfl;exact rfl;(focus (first|(simp only[cmp]<;>omega)|(simp only[cmp];exact not_not_intro trivial))))|(apply rg3)|(apply qt9)|(apply rp2)|(apply rg4)|(apply jw3;exact rfl;exact rfl)|(apply rq1;exact rfl;exact rfl;(focus (first|exact Aa ..|rfl)))|(apply qi9;exact rfl;exact rfl;exact rfl;(focus (first|exact Aa ..|rfl)))|(apply q_len_nils;exact rfl;exact rfl)|(apply q_len_sl;exact rfl;exact rfl)|(apply q_len_suf;exact rfl;exact rfl;exact rfl;(focus (first|exact Aa ..|rfl)))|(apply qj0;exact rfl;exact rfl)|(apply qi8;exact rfl;exact rfl;exact rfl)|(apply mh4;exact rfl)|(apply mh5;exact rfl)|(apply mu5;exact rfl;exact rfl;exact rfl)|(apply rp3;exact rfl;exact rfl;exact rfl;exact rfl;(focus (simp only[inK];omega)))|(apply rd8;exact rfl;exact rfl;exact rfl;exact rfl)|(apply rp4;exact rfl;exact rfl;exact rfl;exact rfl;(focus (simp only[inK];omega)))|(apply q_sub_w;exact rfl;exact rfl;exact rfl;exact rfl)|(apply rf5;exact rfl;exact rfl;exact rfl;exact rfl;(focus (first|with_reducible exact p9|exact rfl|exact(En (by omega)).symm));(focus (first|assumption|exact kk1 (by first|omega|(simp only[Ai,Aq,Ag,Aa,Aj,Bl];omega))|exact jx1 (by first|omega|(simp only[Ai,Aq,Ag,Aa,Aj,Bl];omega))|rfl));(focus (first|exact Gy.agg _|constructor)))|(apply mi5;exact rfl;exact rfl;exact rfl;exact rfl;exact rfl;(focus (first|with_reducible exact p9|exact rfl|exact(En (by omega)).symm));(focus (first|omega|(simp only[Ai,Aq,Ag,Aa,Aj,Bl];omega))))|(apply q_index_arr;exact rfl;exact rfl;exact rfl;exact rfl;(focus (first|with_reducible exact p9|exact rfl|exact(En (by omega)).symm));(focus (first|omega|(simp only[Ai,Aq,Ag,Aa,Aj,Bl];omega))))|(apply q_index_suf;exact rfl;exact rfl;exact rfl;exact rfl;exact rfl;(focus (first|with_reducible exact p9|exact rfl|exact(En (by omega)).symm));(focus (first|omega|(simp only[Ai,Aq,Ag,Aa,Aj,Bl];omega))))|(apply q_index_sl;exact rfl;exact rfl;exact rfl;exact rfl;(focus (first|with_reducible exact p9|exact rfl|exact(En (by omega)).symm));(focus (first|omega|(simp only[Ai,Aq,Ag,Aa,Aj,Bl];omega))))|(apply mi7;exact rfl;exact rfl;exact rfl;exact rfl;(focus (first|with_reducible exact p9|exact rfl|exact(En (by omega)).symm));(focus (first|assumption|exact kk1 (by first|omega|(simp only[Ai,Aq,Ag,Aa,Aj,Bl];omega))|exact jx1 (by first|omega|(simp only[Ai,Aq,Ag,Aa,Aj,Bl];omega))|rfl)))|(apply rq7;exact rfl;exact rfl)|(apply rq8;exact rfl;exact rfl)|(apply kt5;exact rfl;exact rfl;exact rfl;exact rfl)|(apply kt6;exact rfl;exact rfl;exact rfl;exact rfl)|(apply rg6;exact rfl;exact rfl)|(apply rg7;exact rfl;exact rfl)|(apply rf4;exact rfl;exact rfl)|(apply q_field;exact rfl;exact rfl;exact rfl)|(apply q_fields;exact rfl;exact rfl;(focus ((repeat (first|exact Cut.done _|apply Cut.take|apply Cut.skip));fail_if_success intros)))|(apply rm4;exact rfl;exact rfl;(focus (simp only[inK];omega)))|(apply q_conv_w;exact rfl;exact rfl)|(apply qj3;exact rfl;exact rfl;exact rfl;exact rfl;(focus (first|with_reducible exact p9|exact rfl|exact(En (by omega)).symm));(focus (first|with_reducible exact p9|exact rfl|exact(En (by omega)).symm));(focus (first|omega|(simp only[Ai,Aq,Ag,Aa,Aj,Bl];omega)));(focus (first|omega|(simp only[Ai,Aq,Ag,Aa,Aj,Bl];omega))))|(apply qf2;exact rfl)|(apply q_nil_ref;exact rfl)|(apply q_mul;exact rfl;exact rfl;exact rfl;exact rfl;(focus (simp only[inK];omega)))|(apply q_mul_w;exact rfl;exact rfl;exact rfl;exact rfl)|(apply rp5;exact rfl;exact rfl;exact rfl;exact rfl;omega;omega;(focus (simp only[inK];omega)))|(apply q_quo_w;exact rfl;exact rfl;exact rfl;exact rfl;omega)|(apply rp6;exact rfl;exact rfl;exact rfl;exact rfl;omega;omega)|(apply q_rem_w;exact rfl;exact rfl;exact rfl;exact rfl;omega)|(apply q_bits;exact rfl;exact rfl;exact rfl;exact rfl;exact rfl)|(apply q_shl;exact rfl;exact rfl;exact rfl;exact rfl;omega)|(apply rq0;exact rfl;exact rfl;exact rfl;exact rfl;omega)|(apply mu2;kernel_rfl;exact rfl;exact rfl;exact rfl;exact rfl)|(apply qi7;exact rfl;exact rfl;exact rfl;exact rfl;omega)|(apply q_neg;exact rfl;exact rfl)|(apply qj7;(focus ((repeat (first|exact Mi.nil|apply Mi.d|apply Mi.nils));fail_if_success intros));(focus ((repeat (first|exact Build.nil _|apply Build.cons rfl rfl (by first|exact ToD.d _|exact ToD.nils _|exact ToD.own rfl) (by first|exact Gy.agg _|constructor) (by rfl) (by(repeat (first|exact Repl.done _|apply Repl.here|apply Repl.there));fail_if_success intros)));fail_if_success intros)))|(apply w_build0;(focus ((repeat (first|exact Mi.nil|apply Mi.d|apply Mi.nils));fail_if_success intros)))|(apply qu6;(focus ((repeat (first|exact Qt.nil _|apply Qt.cons rfl rfl (by first|exact rfl|exact jp0 rfl) (by first|(refine Jh.d (by first|exact Gy.agg _|constructor) (by(repeat (first|exact Ns.nil|apply Ns.nils|apply Ns.cons));fail_if_success intros))|constructor) (by rfl) (by(repeat (first|exact Repl.done _|apply Repl.here|apply Repl.there));fail_if_success intros)));fail_if_success intros)))|(apply mu3;(focus ((repeat (first|exact Evs.nil|apply Evs.cons rfl rfl));fail_if_success intros));(focus ((repeat (first|exact Evs.nil|apply Evs.cons rfl rfl));fail_if_success intros)))|(apply q_min;exact rfl;exact rfl;exact rfl;exact rfl)|(apply q_max;exact rfl;exact rfl;exact rfl;exact rfl));exact ltd rfl;exact rfl)|(apply rr7;exact rfl;exact rfl;(first|(apply jt4;exact rfl;exact rfl;(focus ((repeat (first|exact Cut.done _|apply Cut.take|apply Cut.skip));fail_if_success intros));(focus ((repeat (first|exact Nw.nil|apply Nw.cons (ToD.d _)|apply Nw.cons (ToD.nils _)|apply Nw.cons (ToD.own rfl)));fail_if_success intros));exact rfl)|(apply mh3;exact rfl;(focus ((repeat (first|exact Cut.done _|apply Cut.take|apply Cut.skip));fail_if_success intros)))|(apply mu4;exact rfl;exact rfl;exact rfl;(focus (first|assumption|exact kk1 (by first|omega|(simp only[Ai,Aq,Ag,Aa,Aj,Bl];omega))|exact jx1 (by first|omega|(simp only[Ai,Aq,Ag,Aa,Aj,Bl];omega))|rfl));(focus (first|exact Gy.agg _|constructor));(focus ((repeat (first|exact Cut.done _|apply Cut.take|apply Cut.skip));fail_if_success intros)))|(apply jq7;exact rfl;exact rfl;exact rfl)|(apply mr9;exact rfl;exact rfl)|(apply qj2;exact rfl;exact rfl;exact rfl;(focus (first|assumption|exact kk1 (by first|omega|(simp only[Ai,Aq,Ag,Aa,Aj,Bl];omega))|exact jx1 (by first|omega|(simp only[Ai,Aq,Ag,Aa,Aj,Bl];omega))|rfl));(focus (first|exact Gy.agg _|constructor));exact rfl)|(apply jq7;exact rfl;exact rfl;(focus (first|assumption|exact kk1 (by first|omega|(simp only[Ai,Aq,Ag,Aa,Aj,Bl];omega))|exact jx1 (by first|omega|(simp only[Ai,Aq,Ag,Aa,Aj,Bl];omega))|rfl)))|(apply q_conv_bytes;exact rfl;exact rfl;(focus (first|rfl|exact slice_lo ..|exact slice_all ..))));exact ltd rfl;exact rfl;exact rfl)):G:=hs.go h
theorem yy {A G:Prop}(h:A)(hs:Step A G:=by first|(apply qz1;exact rfl;exact ltd rfl;exact rfl)|(apply st_pass0;exact rfl;exact rfl)|(apply qm8)|(apply mx3;exact rfl;exact rfl)|(apply mx4;exact rfl;exact rfl)|(apply qz3)|(apply qz4)|(apply st_label)|(apply mx5)|(apply qm7;exact rfl;exact rfl;exact rfl;exact rfl;(focus (first|exact rfl|exact jp0 rfl));exact rfl;(focus (first|(refine Jh.d (by first|exact Gy.agg _|constructor) (by(repeat (first|exact Ns.nil|apply Ns.nils|apply Ns.cons));fail_if_success intros))|constructor));rfl;(focus ((repeat (first|exact Repl.done _|apply Repl.here|apply Repl.there));fail_if_success intros));exact rfl;exact rfl)|(apply md7;exact rfl;exact rfl;exact rfl;exact rfl;exact rfl;(focus (first|exact ToD.d _|exact ToD.nils _|exact ToD.own rfl));(focus (first|exact Gy.agg _|constructor));exact rfl;(focus (first|omega|(simp only[Ai,Aq,Ag,Aa,Aj,Bl];omega)));exact rfl;exact rfl)|(apply st_store1;exact rfl;exact rfl;exact rfl;exact rfl;(focus (first|exact rfl|exact jp0 rfl));exact rfl;(focus (first|(refine Jh.d (by first|exact Gy.agg _|constructor) (by(repeat (first|exact Ns.nil|apply Ns.nils|apply Ns.cons));fail_if_success intros))|constructor));(focus (first|omega|(simp only[Ai,Aq,Ag,Aa,Aj,Bl];omega)));exact rfl;exact rfl)):G:=hs.go h
theorem yy2 {A B G:Prop}(h1:A)(h2:B)(hs:Qa A B G:=by first|(apply qz2;exact rfl;constructor;exact rfl;exact rfl;exact rfl;exact rfl;exact ltd rfl;exact rfl)|(apply mw9;exact rfl;exact rfl;exact rfl;exact rfl;exact ltd rfl;exact rfl)|(apply mx0;exact rfl;exact rfl;exact rfl;exact rfl;exact ltd rfl;exact rfl)|(apply mx1;exact rfl;exact rfl;exact rfl;exact rfl;(focus ((repeat (first|exact EqC.nil|apply EqC.int|apply EqC.bool|apply EqC.str));fail_if_success intros));exact ltd rfl;exact rfl)|(apply mx2;exact rfl;exact rfl;exact rfl;exact rfl;(focus ((repeat (first|exact EqC.nil|apply EqC.int|apply EqC.bool|apply EqC.str));fail_if_success intros));exact ltd rfl;exact rfl)):G:=hs.go h1 h2
theorem Cg {r:V}{f:Nat}{xs:List Operand}{ats:Array TypeId}{vs vs':List V}[hf:TFun E.P f](h:TR E draw ops Q rest ⟨(d,r)::env,H,gl⟩)(hx:Evs ⟨env,H,gl⟩ xs vs:=by(repeat (first|exact Evs.nil|apply Evs.cons rfl rfl));fail_if_success intros)(ha:Args H vs vs':=by(repeat (first|exact Args.nil|apply Args.cons (Arg.d _)|apply Args.cons (Arg.own rfl)|apply Args.cons (Arg.nils _)|apply Args.cons (Arg.clo0 _)));fail_if_success intros)(hc:FnD E.P gl f vs' (fun v=>v=r))(hd:d<E.C.nt:=by exact ltd rfl)(hg:Sd.gd ⟨env,H,gl⟩ ops ⟨some d,.call {callee:=.value (.func f),args:=xs.toArray,argTypes:=ats},ty,pos,af,gd⟩=some true:=by exact rfl)(hw:way.loud=true:=by exact rfl):TR E draw ops Q (.step ⟨some d,.call {callee:=.value (.func f),args:=xs.toArray,argTypes:=ats},ty,pos,af,gd⟩ way rest) ⟨env,H,gl⟩:=rn4 (fun _ e=>by cases e;exact h) (hx:=hx) (ha:=ha) (hc:=hc) (hd:=hd) (hg:=hg) (hw:=hw)
theorem Ch {r:V}{H1:List (Nat × Ob)}{f:Nat}{fx:Operand}{xs:List Operand}{ats:Array TypeId}{fs gs vs args:List V}{H0:List (Nat × Ob)}[hf:TFun E.P f](h:TR E draw ops Q rest ⟨(d,r)::env,H1++H,gl⟩)(hfx:Sd.ev ⟨env,H,gl⟩ fx=some (.clo (.func f) fs gs):=by exact rfl)(hof:Cw fx=true:=by exact rfl)(hx:Evs ⟨env,H,gl⟩ xs vs:=by(repeat (first|exact Evs.nil|apply Evs.cons rfl rfl));fail_if_success intros)(ha:La H (fs++vs++gs) args:=by(repeat (first|exact La.nil|apply La.cons (Nj.own rfl)|apply La.cons (Nj.nils _)|apply La.cons (Nj.same _)));fail_if_success intros)(hc:FnE E.P gl f args H0 (fun v H2=>v=r/\H2=H1))(hs:Sz H H0:=by(repeat (first|exact Sz.nil|apply Sz.cons rfl));fail_if_success intros)(hwm:Qj H0=true:=by exact rfl)(hd:d<E.C.nt:=by exact ltd rfl)(hg:Sd.gd ⟨env,H,gl⟩ ops ⟨some d,.call {callee:=.value fx,args:=xs.toArray,argTypes:=ats},ty,pos,af,gd⟩=some true:=by exact rfl)(hw:Mr draw way=true:=by exact rfl)(hfr:Ow ⟨env,H,gl⟩ H0 H1=true:=by exact rfl):TR E draw ops Q (.step ⟨some d,.call {callee:=.value fx,args:=xs.toArray,argTypes:=ats},ty,pos,af,gd⟩ way rest) ⟨env,H,gl⟩:=rh3 (fun _ _ e=>by obtain⟨rfl,rfl⟩:=e;exact⟨hfr,h⟩) (hfx:=hfx) (hof:=hof) (hx:=hx) (ha:=ha) (hc:=hc) (hs:=hs) (hwm:=hwm) (hd:=hd) (hg:=hg) (hw:=hw)
theorem j1 {id:Nat}{ops:Array Oper}[hm:TMixed E.P](bars:List Nat)(plan:Plan)(h:TR E true ops Q (jt0 ops.toList plan) S)(hs:Region.noSelect ops=true:=by kernel_rfl)(hd:ke3 ops=true:=by kernel_rfl)(hl:plan.len=ops.size:=by rfl)(hnd:bars.Nodup:=by decide)(hev:plan.even=true:=by kernel_rfl)
 (hB:jb1 .any ops bars (Array.replicate ops.size false) plan=true:=by as_aux_lemma=>kernel_rfl) (hQ:kt4 Q:=by(repeat (first|exact mb6|exact ku9|exact noPanic_endsI|exact noPanic_endsY|exact noPanic_endsA|(with_reducible apply noPanic_then)|(with_reducible apply noPanic_block)));fail_if_success intros):TC E (.region id ops true) Q S:=rd4 bars plan hm.h hs hd hl hnd hev hB hQ h
theorem Db (b:Bool)(t t':Nat)(ts:List Nat){l:Todo}{env':List (Nat × V)}{H':List (Nat × Ob)}(h:Q .normal ⟨env',H',gl⟩)(hl:look t env=some (.d (.bool b)):=by exact rfl)(ht:Nat.blt t 100000=true:=by exact rfl)(hc:jp3 b ops E.C.nt env t' t [] l=true:=by as_aux_lemma=>kernel_rfl)(hts:kk5 ts=true:=by exact rfl)
 (hk:Keep ts ((t',.d (.bool b))::env) env':=by(repeat (first|exact Keep.nil _|apply Keep.drop rfl rfl|apply Keep.take rfl|apply Keep.ghost rfl));fail_if_success intros) (hh:Mc [] H H':=by(repeat (first|exact Mc.nil _|apply Mc.take rfl|apply Mc.drop rfl));fail_if_success intros):TR E draw ops Q l ⟨env,H,gl⟩:=rh4 b t t' (Ce ts h hts hk hh) hl hc ht
theorem qv6:kj9 []=[]:=rfl
theorem qv7 {a:V}:kj9 [a]=[(0,a)]:=rfl
theorem qv8 {a b:V}:kj9 [a,b]=[(0,a),(1,b)]:=rfl
theorem qv9 {a b c:V}:kj9 [a,b,c]=[(0,a),(1,b),(2,c)]:=rfl
theorem qw0 {a b c d:V}:kj9 [a,b,c,d]=[(0,a),(1,b),(2,c),(3,d)]:=rfl
theorem qw1 {a b c d e:V}:kj9 [a,b,c,d,e]=[(0,a),(1,b),(2,c),(3,d),(4,e)]:=rfl
theorem j5 {P:Program}{rs:List ResultVar}{R:V->Prop}{vs:List V}(hr:R (oneOf vs))(h:Res P S rs vs:=by(repeat (first|exact Res.nil|apply Res.tmp rfl (by first|exact Arg.d _|exact Arg.own rfl|exact Arg.nils _|exact Arg.clo0 _)|apply Res.cells rfl rfl (by(repeat (first|exact Cut.done _|apply Cut.take|apply Cut.skip));fail_if_success intros) (by(repeat (first|exact Nw.nil|apply Nw.cons (ToD.d _)|apply Nw.cons (ToD.nils _)|apply Nw.cons (ToD.own rfl)));fail_if_success intros) (by rfl)|apply Res.cell rfl rfl rfl (by first|exact Arg.d _|exact Arg.own rfl|exact Arg.nils _|exact Arg.clo0 _)));fail_if_success intros):Ends P rs R .ret S:=rg8 h hr
theorem j7 {P:Program}{rs:List ResultVar}{H0 H1:List (Nat × Ob)}{R:V->List (Nat × Ob)->Prop}{vs:List V}(hr:R (oneOf vs) H1)(h:Pb P S rs vs:=by(repeat (first|exact Pb.nil|apply Pb.tmp rfl (by first|exact Nj.own rfl|exact Nj.nils _|exact Nj.same _)|apply Pb.cells rfl rfl (by(repeat (first|exact Cut.done _|apply Cut.take|apply Cut.skip));fail_if_success intros) (by(repeat (first|exact Nw.nil|apply Nw.cons (ToD.d _)|apply Nw.cons (ToD.nils _)|apply Nw.cons (ToD.own rfl)));fail_if_success intros) (by rfl)|apply Pb.cell rfl rfl rfl (by first|exact Nj.own rfl|exact Nj.nils _|exact Nj.same _)));fail_if_success intros)(hsub:Sub S.H H1:=by(repeat (first|exact Sub.nil|apply Sub.cons rfl));fail_if_success intros)(hok:Ot H0 H1 (oneOf vs)=true:=by rfl):Qb P rs H0 R .ret S:=Qb.mk (.inl rfl) ⟨_,_,h,hsub,hok,hr⟩
theorem qz5 {P:Program}{rs:List ResultVar}{H0 H1:List (Nat × Ob)}{R:V->List (Nat × Ob)->Prop}{vs:List V}(hr:R (oneOf vs) H1)(h:Pb P S rs vs:=by(repeat (first|exact Pb.nil|apply Pb.tmp rfl (by exact Nj.same _)|apply Pb.cells rfl rfl (by(repeat (first|exact Cut.done _|apply Cut.take|apply Cut.skip));fail_if_success intros) (by(repeat (first|exact Nw.nil|apply Nw.cons (ToD.d _)|apply Nw.cons (ToD.nils _)|apply Nw.cons (ToD.own rfl)));fail_if_success intros) (by rfl)|apply Pb.cell rfl rfl rfl (by exact Nj.same _)));fail_if_success intros)(hsub:Sub S.H H1:=by(repeat (first|exact Sub.nil|apply Sub.cons rfl));fail_if_success intros)(hok:Ot H0 H1 (oneOf vs)=true:=by rfl):Qb P rs H0 R .ret S:=Qb.mk (.inl rfl) ⟨_,_,h,hsub,hok,hr⟩
theorem v6 {C:Ctx}{env':List (Nat × V)}{H':List (Nat × Ob)}(h1:Sub env env':=by(repeat (first|exact Sub.nil|apply Sub.cons rfl));fail_if_success intros)(h2:Sub H H':=by(repeat (first|exact Sub.nil|apply Sub.cons rfl));fail_if_success intros)(h3:(C.N.all fun n=>(look n H').isSome)=true:=by rfl):Wk C ⟨env,H,gl⟩ ⟨env',H',gl⟩:=wk h1 h2 h3
theorem j3 {P:Program}{gl:List (Nat × List D)}{f:FuncId}{fn:Func}{c:Code}{args:List V}{R:V->Prop}{nt:Nat}{rs:Array ResultVar}(hf:P.funcs[f]? =some fn)(hn:fn.ntmps=nt)(hr:fn.results=rs)(h:∀ w M,TC ⟨P,Ctx.fn nt w M,none⟩ c (Ends P rs.toList R) ⟨env,[],gl⟩)(hsl:kj9 args=env:=by first|exact qv7|exact qv8|exact qv9|exact qw0|exact qv6|exact qw1|exact slots6|exact slots7|exact slots8)(hb:fn.body=some c:=by rfl)(hle:Nat.ble args.length nt=true:=by rfl)(hs:Nat.ble nt 100000=true:=by rfl):FnD P gl f args R:=
 qt3 hf hb hn hr (Nat.le_of_ble_eq_true hle) (Nat.le_of_ble_eq_true hs) (hsl ▸ h)
theorem j4 {P:Program}{gl:List (Nat × List D)}{f:FuncId}{fn:Func}{c:Code}{args:List V}{H0:List (Nat × Ob)}{R:V->List (Nat × Ob)->Prop}{nt:Nat}{rs:Array ResultVar}(hf:P.funcs[f]? =some fn)(hn:fn.ntmps=nt)(hr:fn.results=rs)
 (h:∀ w M E b0,TC ⟨P,⟨nt,E,w,M,H0.map (·.1),b0,fun _=>.nilFunc,[]⟩,none⟩ c (Qb P rs.toList H0 R) ⟨env,H0,gl⟩) (hsl:kj9 args=env:=by first|exact qv7|exact qv8|exact qv9|exact qw0|exact qv6|exact qw1|exact slots6|exact slots7|exact slots8) (hb:fn.body=some c:=by rfl) (hle:Nat.ble args.length nt=true:=by rfl) (hs:Nat.ble nt 100000=true:=by rfl):FnE P gl f args H0 R:=
 qk8 hf hb hn hr (Nat.le_of_ble_eq_true hle) (Nat.le_of_ble_eq_true hs) (hsl ▸ h)
theorem j8 {c:Code}{ι:Type}(ts ns:List Nat)(ch:ι->List (Nat × V))(oh:ι->List (Nat × Ob))(P:ι->Prop)(m:ι->Nat)(i0:ι){env':List (Nat × V)}{H':List (Nat × Ob)}(hp:P i0)(round:∀ i,P i->TC E c (Exit.Mq (fun S'=>∃ j,P j/\m j<m i/\Wk E.C S' ⟨ch j++env',oh j++H',gl⟩) Q) ⟨ch i++env',oh i++H',gl⟩)(hd:Drop ts env env':=by(repeat (first|exact Drop.nil|apply Drop.drop rfl|apply Drop.take rfl));fail_if_success intros)(hn:Drop ns H H':=by(repeat (first|exact Drop.nil|apply Drop.drop rfl|apply Drop.take rfl));fail_if_success intros)
 (h0:Wk E.C ⟨env,H,gl⟩ ⟨ch i0++env',oh i0++H',gl⟩:=by exact v6):TC E (.loop c) Q ⟨env,H,gl⟩:=rh6 ts ns ch oh P m i0 hp hd hn h0 round
theorem r7 {c:Code}(t:Nat){sz:Nat}{xs:List D}(hl:look t env=some (.d (.list sz xs)))(h:xs.length<=9223372036854775807->TC E c Q ⟨env,H,gl⟩):TC E c Q ⟨env,H,gl⟩:=fun a w ⟨β,hB⟩=>by
 obtain⟨x,_,h2⟩:=hB.env t _ hl;obtain⟨_,_,_,_,q1,q2,_⟩:=h2;exact h (Fc q1 q2) a w ⟨β,hB⟩
theorem Qz {r:V}{H1:List (Nat × Ob)}{f:Nat}{fx:Operand}{xs:List Operand}{ats:Array TypeId}{fs gs vs args:List V}[hf:TFun E.P f](h:TR E draw ops Q rest ⟨(d,r)::env,H1++H,gl⟩)(hfx:Sd.ev ⟨env,H,gl⟩ fx=some (.clo (.func f) fs gs):=by rfl)(hof:Cw fx=true:=by rfl)(hx:Evs ⟨env,H,gl⟩ xs vs:=by(repeat (first|exact Evs.nil|apply Evs.cons rfl rfl));fail_if_success intros)(ha:La H (fs++vs++gs) args:=by(repeat (first|exact La.nil|apply La.cons (Nj.own rfl)|apply La.cons (Nj.nils _)|apply La.cons (Nj.same _)));fail_if_success intros)(hc:FnE E.P gl f args [] (fun v H2=>v=r/\H2=H1))
 (hp:Pures args:=by(repeat (first|exact Pures.nil|apply Pures.cons (Pure.d _)|apply Pures.cons (Pure.nils _)));fail_if_success intros) (hd:d<E.C.nt:=by exact ltd rfl) (hg:Sd.gd ⟨env,H,gl⟩ ops ⟨some d,.call {callee:=.value fx,args:=xs.toArray,argTypes:=ats},ty,pos,af,gd⟩=some true:=by rfl) (hw:way.loud=true:=by rfl) (hfr:Ow ⟨env,H,gl⟩ [] H1=true:=by rfl):TR E draw ops Q (.step ⟨some d,.call {callee:=.value fx,args:=xs.toArray,argTypes:=ats},ty,pos,af,gd⟩ way rest) ⟨env,H,gl⟩:=
 rh7 hfx hof hx ha hc hp hd hg hw fun _ _ e=>by obtain⟨rfl,rfl⟩:=e;exact⟨hfr,h⟩
end
end
section
instance:TCell prog 3:=⟨by kernel_rfl⟩
instance:TSize prog 3 1:=⟨by kernel_rfl⟩
instance:TInt prog 3 .i64:=⟨by kernel_rfl⟩
instance:TZero prog 3 [.d (.int .i64 0)]:=⟨by kernel_rfl⟩
instance:TCell prog 4:=⟨by kernel_rfl⟩
instance:TSize prog 4 1:=⟨by kernel_rfl⟩
instance:TZero prog 4 [.d (.bool false)]:=⟨by kernel_rfl⟩
instance:TInt prog 5 .u8:=⟨by kernel_rfl⟩
instance:TCell prog 9:=⟨by kernel_rfl⟩
instance:TSize prog 9 1:=⟨by kernel_rfl⟩
instance:TStr prog 9:=⟨by kernel_rfl⟩
instance:TZero prog 9 [.d (.str ByteArray.empty)]:=⟨by kernel_rfl⟩
instance:TCell prog 21:=⟨by kernel_rfl⟩
instance:TSize prog 21 1:=⟨by kernel_rfl⟩
instance:TCell prog 22:=⟨by kernel_rfl⟩
instance:TSize prog 22 1:=⟨by kernel_rfl⟩
instance:TCell prog 23:=⟨by kernel_rfl⟩
instance:TSize prog 23 1:=⟨by kernel_rfl⟩
instance:TCell prog 24:=⟨by kernel_rfl⟩
instance:TSize prog 24 1:=⟨by kernel_rfl⟩
instance:TCell prog 25:=⟨by kernel_rfl⟩
instance:TSize prog 25 1:=⟨by kernel_rfl⟩
instance:TCell prog 26:=⟨by kernel_rfl⟩
instance:TSize prog 26 1:=⟨by kernel_rfl⟩
instance:TSlice prog 26 28 6:=⟨by kernel_rfl⟩
instance:TAgg prog 28 6:=⟨by kernel_rfl⟩
instance:TSize prog 28 6:=⟨by kernel_rfl⟩
instance:TStruct prog 28:=⟨by kernel_rfl⟩
instance:TField prog 28 0 0 23:=⟨by kernel_rfl⟩
instance:TField prog 28 1 1 24:=⟨by kernel_rfl⟩
instance:TField prog 28 2 2 25:=⟨by kernel_rfl⟩
instance:TField prog 28 3 3 21:=⟨by kernel_rfl⟩
instance:TField prog 28 4 4 9:=⟨by kernel_rfl⟩
instance:TField prog 28 5 5 26:=⟨by kernel_rfl⟩
instance:TZero prog 28 [.d (.int .u8 0),.d (.int .u8 0),.d (.int .u8 0),.d (.int .i32 0),.d (.str ByteArray.empty),.nils 6]:=⟨by kernel_rfl⟩
instance:TAgg prog 30 13:=⟨by kernel_rfl⟩
instance:TSize prog 30 13:=⟨by kernel_rfl⟩
instance:TStruct prog 30:=⟨by kernel_rfl⟩
instance:TField prog 30 0 0 9:=⟨by kernel_rfl⟩
instance:TField prog 30 1 1 28:=⟨by kernel_rfl⟩
instance:TField prog 30 2 7 28:=⟨by kernel_rfl⟩
instance:TZero prog 30 [.d (.str ByteArray.empty),.d (.int .u8 0),.d (.int .u8 0),.d (.int .u8 0),.d (.int .i32 0),.d (.str ByteArray.empty),.nils 6,.d (.int .u8 0),.d (.int .u8 0),.d (.int .u8 0),.d (.int .i32 0),.d (.str ByteArray.empty),.nils 6]:=⟨by kernel_rfl⟩
instance:TCell prog 31:=⟨by kernel_rfl⟩
instance:TSize prog 31 1:=⟨by kernel_rfl⟩
instance:TSlice prog 31 101 23:=⟨by kernel_rfl⟩
instance:TCell prog 32:=⟨by kernel_rfl⟩
instance:TSize prog 32 1:=⟨by kernel_rfl⟩
instance:TSlice prog 32 45 42:=⟨by kernel_rfl⟩
instance:TCell prog 33:=⟨by kernel_rfl⟩
instance:TSize prog 33 1:=⟨by kernel_rfl⟩
instance:TSlice prog 33 3 1:=⟨by kernel_rfl⟩
instance:TCell prog 34:=⟨by kernel_rfl⟩
instance:TSize prog 34 1:=⟨by kernel_rfl⟩
instance:TAgg prog 36 4:=⟨by kernel_rfl⟩
instance:TSize prog 36 4:=⟨by kernel_rfl⟩
instance:TStruct prog 36:=⟨by kernel_rfl⟩
instance:TField prog 36 0 0 25:=⟨by kernel_rfl⟩
instance:TField prog 36 1 1 3:=⟨by kernel_rfl⟩
instance:TField prog 36 2 2 25:=⟨by kernel_rfl⟩
instance:TField prog 36 3 3 9:=⟨by kernel_rfl⟩
instance:TEq prog 36 [1,1,1,2]:=⟨by kernel_rfl⟩
instance:TZero prog 36 [.d (.int .u8 0),.d (.int .i64 0),.d (.int .u8 0),.d (.str ByteArray.empty)]:=⟨by kernel_rfl⟩
instance:TCell prog 37:=⟨by kernel_rfl⟩
instance:TSize prog 37 1:=⟨by kernel_rfl⟩
instance:TSlice prog 37 9 1:=⟨by kernel_rfl⟩
instance:TZero prog 37 [.nils 1]:=⟨by kernel_rfl⟩
instance:TCell prog 38:=⟨by kernel_rfl⟩
instance:TSize prog 38 1:=⟨by kernel_rfl⟩
instance:TSlice prog 38 104 2:=⟨by kernel_rfl⟩
instance:TAgg prog 40 2:=⟨by kernel_rfl⟩
instance:TSize prog 40 2:=⟨by kernel_rfl⟩
instance:TStruct prog 40:=⟨by kernel_rfl⟩
instance:TField prog 40 0 0 4:=⟨by kernel_rfl⟩
instance:TField prog 40 1 1 38:=⟨by kernel_rfl⟩
instance:TZero prog 40 [.d (.bool false),.nils 2]:=⟨by kernel_rfl⟩
instance:TCell prog 41:=⟨by kernel_rfl⟩
instance:TSize prog 41 1:=⟨by kernel_rfl⟩
instance:TSlice prog 41 98 6:=⟨by kernel_rfl⟩
instance:TAgg prog 43 16:=⟨by kernel_rfl⟩
instance:TSize prog 43 16:=⟨by kernel_rfl⟩
instance:TStruct prog 43:=⟨by kernel_rfl⟩
instance:TField prog 43 0 0 34:=⟨by kernel_rfl⟩
instance:TField prog 43 1 1 36:=⟨by kernel_rfl⟩
instance:TField prog 43 2 5 37:=⟨by kernel_rfl⟩
instance:TField prog 43 3 6 28:=⟨by kernel_rfl⟩
instance:TField prog 43 4 12 40:=⟨by kernel_rfl⟩
instance:TField prog 43 5 14 41:=⟨by kernel_rfl⟩
instance:TField prog 43 6 15 32:=⟨by kernel_rfl⟩
instance:TZero prog 43 [.d (.int .u8 0),.d (.int .u8 0),.d (.int .i64 0),.d (.int .u8 0),.d (.str ByteArray.empty),.nils 1,.d (.int .u8 0),.d (.int .u8 0),.d (.int .u8 0),.d (.int .i32 0),.d (.str ByteArray.empty),.nils 6,.d (.bool false),.nils 2,.nils 6,.nils 42]:=⟨by kernel_rfl⟩
instance:TAgg prog 45 42:=⟨by kernel_rfl⟩
instance:TSize prog 45 42:=⟨by kernel_rfl⟩
instance:TStruct prog 45:=⟨by kernel_rfl⟩
instance:TField prog 45 0 0 22:=⟨by kernel_rfl⟩
instance:TField prog 45 1 1 9:=⟨by kernel_rfl⟩
instance:TField prog 45 2 2 28:=⟨by kernel_rfl⟩
instance:TField prog 45 3 8 26:=⟨by kernel_rfl⟩
instance:TField prog 45 4 9 26:=⟨by kernel_rfl⟩
instance:TField prog 45 5 10 30:=⟨by kernel_rfl⟩
instance:TField prog 45 6 23 31:=⟨by kernel_rfl⟩
instance:TField prog 45 7 24 32:=⟨by kernel_rfl⟩
instance:TField prog 45 8 25 33:=⟨by kernel_rfl⟩
instance:TField prog 45 9 26 43:=⟨by kernel_rfl⟩
instance:TZero prog 45 [.d (.int .u8 0),.d (.str ByteArray.empty),.d (.int .u8 0),.d (.int .u8 0),.d (.int .u8 0),.d (.int .i32 0),.d (.str ByteArray.empty),.nils 6,.nils 6,.nils 6,.d (.str ByteArray.empty),.d (.int .u8 0),.d (.int .u8 0),.d (.int .u8 0),.d (.int .i32 0),.d (.str ByteArray.empty),.nils 6,.d (.int .u8 0),.d (.int .u8 0),.d (.int .u8 0),.d (.int .i32 0),.d (.str ByteArray.empty),.nils 6,.nils 23,.nils 42,.nils 1,.d (.int .u8 0),.d (.int .u8 0),.d (.int .i64 0),.d (.int .u8 0),.d (.str ByteArray.empty),.nils 1,.d (.int .u8 0),.d (.int .u8 0),.d (.int .u8 0),.d (.int .i32 0),.d (.str ByteArray.empty),.nils 6,.d (.bool false),.nils 2,.nils 6,.nils 42]:=⟨by kernel_rfl⟩
instance:TCell prog 48:=⟨by kernel_rfl⟩
instance:TSize prog 48 1:=⟨by kernel_rfl⟩
instance:TZero prog 48 [.d (.int .i64 0)]:=⟨by kernel_rfl⟩
instance:TCell prog 72:=⟨by kernel_rfl⟩
instance:TCell prog 74:=⟨by kernel_rfl⟩
instance:TSize prog 74 1:=⟨by kernel_rfl⟩
instance:TCell prog 78:=⟨by kernel_rfl⟩
instance:TSize prog 78 1:=⟨by kernel_rfl⟩
instance:TSlice prog 78 81 2:=⟨by kernel_rfl⟩
instance:TStruct prog 81:=⟨by kernel_rfl⟩
instance:TField prog 81 0 0 9:=⟨by kernel_rfl⟩
instance:TField prog 81 1 1 4:=⟨by kernel_rfl⟩
instance:TZero prog 81 [.d (.str ByteArray.empty),.d (.bool false)]:=⟨by kernel_rfl⟩
instance:TSize prog 84 3:=⟨by kernel_rfl⟩
instance:TStruct prog 84:=⟨by kernel_rfl⟩
instance:TField prog 84 0 0 78:=⟨by kernel_rfl⟩
instance:TField prog 84 1 1 37:=⟨by kernel_rfl⟩
instance:TField prog 84 2 2 3:=⟨by kernel_rfl⟩
instance:TZero prog 84 [.nils 2,.nils 1,.d (.int .i64 0)]:=⟨by kernel_rfl⟩
instance:TCell prog 86:=⟨by kernel_rfl⟩
instance:TSize prog 86 1:=⟨by kernel_rfl⟩
instance:TCell prog 87:=⟨by kernel_rfl⟩
instance:TSize prog 87 1:=⟨by kernel_rfl⟩
instance:TStruct prog 89:=⟨by kernel_rfl⟩
instance:TField prog 89 0 0 86:=⟨by kernel_rfl⟩
instance:TField prog 89 1 1 87:=⟨by kernel_rfl⟩
instance:TField prog 89 2 2 3:=⟨by kernel_rfl⟩
instance:TField prog 89 3 3 74:=⟨by kernel_rfl⟩
instance:TZero prog 89 [.d (.raw (.map none)),.d (.raw (.map none)),.d (.int .i64 0),.d (.raw .nilFunc)]:=⟨by kernel_rfl⟩
instance:TAgg prog 98 6:=⟨by kernel_rfl⟩
instance:TSize prog 98 6:=⟨by kernel_rfl⟩
instance:TField prog 98 0 0 4:=⟨by kernel_rfl⟩
instance:TField prog 98 1 1 36:=⟨by kernel_rfl⟩
instance:TField prog 98 2 5 9:=⟨by kernel_rfl⟩
instance:TEq prog 98 [0,1,1,1,2,2]:=⟨by kernel_rfl⟩
instance:TZero prog 98 [.d (.bool false),.d (.int .u8 0),.d (.int .i64 0),.d (.int .u8 0),.d (.str ByteArray.empty),.d (.str ByteArray.empty)]:=⟨by kernel_rfl⟩
instance:TCell prog 99:=⟨by kernel_rfl⟩
instance:TSize prog 99 1:=⟨by kernel_rfl⟩
instance:TAgg prog 101 23:=⟨by kernel_rfl⟩
instance:TSize prog 101 23:=⟨by kernel_rfl⟩
instance:TStruct prog 101:=⟨by kernel_rfl⟩
instance:TField prog 101 0 0 99:=⟨by kernel_rfl⟩
instance:TField prog 101 1 1 9:=⟨by kernel_rfl⟩
instance:TField prog 101 2 2 28:=⟨by kernel_rfl⟩
instance:TField prog 101 3 8 28:=⟨by kernel_rfl⟩
instance:TField prog 101 4 14 26:=⟨by kernel_rfl⟩
instance:TField prog 101 5 15 26:=⟨by kernel_rfl⟩
instance:TField prog 101 6 16 28:=⟨by kernel_rfl⟩
instance:TField prog 101 7 22 32:=⟨by kernel_rfl⟩
instance:TZero prog 101 [.d (.int .u8 0),.d (.str ByteArray.empty),.d (.int .u8 0),.d (.int .u8 0),.d (.int .u8 0),.d (.int .i32 0),.d (.str ByteArray.empty),.nils 6,.d (.int .u8 0),.d (.int .u8 0),.d (.int .u8 0),.d (.int .i32 0),.d (.str ByteArray.empty),.nils 6,.nils 6,.nils 6,.d (.int .u8 0),.d (.int .u8 0),.d (.int .u8 0),.d (.int .i32 0),.d (.str ByteArray.empty),.nils 6,.nils 42]:=⟨by kernel_rfl⟩
instance:TCell prog 102:=⟨by kernel_rfl⟩
instance:TSize prog 102 1:=⟨by kernel_rfl⟩
instance:TSlice prog 102 25 1:=⟨by kernel_rfl⟩
instance:TAgg prog 104 2:=⟨by kernel_rfl⟩
instance:TSize prog 104 2:=⟨by kernel_rfl⟩
instance:TField prog 104 0 0 9:=⟨by kernel_rfl⟩
instance:TField prog 104 1 1 102:=⟨by kernel_rfl⟩
instance:TZero prog 104 [.d (.str ByteArray.empty),.nils 1]:=⟨by kernel_rfl⟩
instance:TStruct prog 111:=⟨by kernel_rfl⟩
instance:TField prog 111 0 0 3:=⟨by kernel_rfl⟩
instance:TZero prog 111 [.d (.int .i64 0)]:=⟨by kernel_rfl⟩
instance:TSlice prog 117 120 3:=⟨by kernel_rfl⟩
instance:TAgg prog 120 3:=⟨by kernel_rfl⟩
instance:TSize prog 120 3:=⟨by kernel_rfl⟩
instance:TStruct prog 120:=⟨by kernel_rfl⟩
instance:TField prog 120 0 0 9:=⟨by kernel_rfl⟩
instance:TField prog 120 1 1 4:=⟨by kernel_rfl⟩
instance:TField prog 120 2 2 37:=⟨by kernel_rfl⟩
instance:TZero prog 120 [.d (.str ByteArray.empty),.d (.bool false),.nils 1]:=⟨by kernel_rfl⟩
instance:TSlice prog 132 138 4:=⟨by kernel_rfl⟩
instance:TAgg prog 138 4:=⟨by kernel_rfl⟩
instance:TSize prog 138 4:=⟨by kernel_rfl⟩
instance:TStruct prog 138:=⟨by kernel_rfl⟩
instance:TField prog 138 0 0 9:=⟨by kernel_rfl⟩
instance:TField prog 138 1 1 9:=⟨by kernel_rfl⟩
instance:TField prog 138 2 2 4:=⟨by kernel_rfl⟩
instance:TField prog 138 3 3 37:=⟨by kernel_rfl⟩
instance:TZero prog 138 [.d (.str ByteArray.empty),.d (.str ByteArray.empty),.d (.bool false),.nils 1]:=⟨by kernel_rfl⟩
instance:TCell prog 183:=⟨by kernel_rfl⟩
instance:TCell prog 185:=⟨by kernel_rfl⟩
instance:TAgg prog 189 2:=⟨by kernel_rfl⟩
instance:TSize prog 189 2:=⟨by kernel_rfl⟩
instance:TStruct prog 189:=⟨by kernel_rfl⟩
instance:TField prog 189 0 0 3:=⟨by kernel_rfl⟩
instance:TField prog 189 1 1 3:=⟨by kernel_rfl⟩
instance:TZero prog 189 [.d (.int .i64 0),.d (.int .i64 0)]:=⟨by kernel_rfl⟩
instance:TAgg prog 191 15:=⟨by kernel_rfl⟩
instance:TSize prog 191 15:=⟨by kernel_rfl⟩
instance:TStruct prog 191:=⟨by kernel_rfl⟩
instance:TField prog 191 0 0 4:=⟨by kernel_rfl⟩
instance:TField prog 191 1 1 4:=⟨by kernel_rfl⟩
instance:TField prog 191 2 2 4:=⟨by kernel_rfl⟩
instance:TField prog 191 3 3 4:=⟨by kernel_rfl⟩
instance:TField prog 191 4 4 4:=⟨by kernel_rfl⟩
instance:TField prog 191 5 5 189:=⟨by kernel_rfl⟩
instance:TField prog 191 6 7 189:=⟨by kernel_rfl⟩
instance:TField prog 191 7 9 189:=⟨by kernel_rfl⟩
instance:TField prog 191 8 11 189:=⟨by kernel_rfl⟩
instance:TField prog 191 9 13 99:=⟨by kernel_rfl⟩
instance:TField prog 191 10 14 99:=⟨by kernel_rfl⟩
instance:TZero prog 191 [.d (.bool false),.d (.bool false),.d (.bool false),.d (.bool false),.d (.bool false),.d (.int .i64 0),.d (.int .i64 0),.d (.int .i64 0),.d (.int .i64 0),.d (.int .i64 0),.d (.int .i64 0),.d (.int .i64 0),.d (.int .i64 0),.d (.int .u8 0),.d (.int .u8 0)]:=⟨by kernel_rfl⟩
instance:TCell prog 194:=⟨by kernel_rfl⟩
instance:TCell prog 195:=⟨by kernel_rfl⟩
instance:TSlice prog 206 5 1:=⟨by kernel_rfl⟩
instance:TCell prog 213:=⟨by kernel_rfl⟩
instance:TSlice prog 214 99 1:=⟨by kernel_rfl⟩
instance:TCell prog 220:=⟨by kernel_rfl⟩
instance:TSize prog 220 1:=⟨by kernel_rfl⟩
instance:TZero prog 220 [.d (.raw .nilFunc)]:=⟨by kernel_rfl⟩
instance:TAgg prog 258 3:=⟨by kernel_rfl⟩
instance:TSize prog 258 3:=⟨by kernel_rfl⟩
instance:TField prog 258 0 0 25:=⟨by kernel_rfl⟩
instance:TField prog 258 1 1 9:=⟨by kernel_rfl⟩
instance:TField prog 258 2 2 3:=⟨by kernel_rfl⟩
instance:TZero prog 258 [.d (.int .u8 0),.d (.str ByteArray.empty),.d (.int .i64 0)]:=⟨by kernel_rfl⟩
instance:TAgg prog 259 9:=⟨by kernel_rfl⟩
instance:TArray prog 259 3 258 3:=⟨by kernel_rfl⟩
instance:TMap prog 86 9 117:=⟨by kernel_rfl⟩
instance:TKey prog 9 (.str):=⟨by kernel_rfl⟩
instance:Om prog 117 (.nils 3):=⟨by kernel_rfl⟩
instance:TMap prog 87 9 3:=⟨by kernel_rfl⟩
instance:Om prog 3 (.d (.int .i64 0)):=⟨by kernel_rfl⟩
instance:Tt prog 120 (.agg [.str ByteArray.empty,.bool false,.list 1 []]):=⟨by kernel_rfl⟩
instance:TFun prog 10:=⟨by kernel_rfl⟩
instance:TFun prog 11:=⟨by kernel_rfl⟩
instance:TFun prog 12:=⟨by kernel_rfl⟩
instance:TFun prog 13:=⟨by kernel_rfl⟩
instance:TFun prog 14:=⟨by kernel_rfl⟩
instance:TFun prog 15:=⟨by kernel_rfl⟩
instance:TFun prog 16:=⟨by kernel_rfl⟩
instance:TFun prog 17:=⟨by kernel_rfl⟩
instance:TFun prog 18:=⟨by kernel_rfl⟩
instance:TFun prog 19:=⟨by kernel_rfl⟩
instance:TFun prog 20:=⟨by kernel_rfl⟩
instance:TFun prog 21:=⟨by kernel_rfl⟩
instance:TFun prog 22:=⟨by kernel_rfl⟩
instance:TFun prog 23:=⟨by kernel_rfl⟩
instance:TFun prog 24:=⟨by kernel_rfl⟩
instance:TFun prog 25:=⟨by kernel_rfl⟩
instance:TFun prog 26:=⟨by kernel_rfl⟩
instance:TFun prog 27:=⟨by kernel_rfl⟩
instance:TFun prog 28:=⟨by kernel_rfl⟩
instance:TFun prog 29:=⟨by kernel_rfl⟩
instance:TFun prog 30:=⟨by kernel_rfl⟩
instance:TFun prog 31:=⟨by kernel_rfl⟩
instance:TFun prog 32:=⟨by kernel_rfl⟩
instance:TFun prog 33:=⟨by kernel_rfl⟩
instance:TFun prog 34:=⟨by kernel_rfl⟩
instance:TFun prog 35:=⟨by kernel_rfl⟩
instance:TFun prog 36:=⟨by kernel_rfl⟩
instance:TFun prog 37:=⟨by kernel_rfl⟩
instance:TFun prog 38:=⟨by kernel_rfl⟩
instance:TFun prog 39:=⟨by kernel_rfl⟩
instance:TFun prog 40:=⟨by kernel_rfl⟩
instance:TFun prog 41:=⟨by kernel_rfl⟩
instance:TFun prog 42:=⟨by kernel_rfl⟩
instance:TFun prog 43:=⟨by kernel_rfl⟩
instance:TFun prog 44:=⟨by kernel_rfl⟩
instance:TFun prog 45:=⟨by kernel_rfl⟩
instance:TFun prog 46:=⟨by kernel_rfl⟩
instance:TFun prog 47:=⟨by kernel_rfl⟩
instance:TFun prog 48:=⟨by kernel_rfl⟩
instance:TFun prog 49:=⟨by kernel_rfl⟩
instance:TFun prog 50:=⟨by kernel_rfl⟩
instance:TFun prog 51:=⟨by kernel_rfl⟩
instance:TFun prog 52:=⟨by kernel_rfl⟩
instance:TFun prog 53:=⟨by kernel_rfl⟩
instance:TFun prog 54:=⟨by kernel_rfl⟩
instance:TFun prog 55:=⟨by kernel_rfl⟩
instance:TFun prog 56:=⟨by kernel_rfl⟩
instance:TFun prog 57:=⟨by kernel_rfl⟩
instance:TFun prog 58:=⟨by kernel_rfl⟩
instance:TFun prog 59:=⟨by kernel_rfl⟩
instance:TFun prog 60:=⟨by kernel_rfl⟩
instance:TFun prog 61:=⟨by kernel_rfl⟩
instance:TFun prog 62:=⟨by kernel_rfl⟩
instance:TFun prog 63:=⟨by kernel_rfl⟩
instance:TFun prog 64:=⟨by kernel_rfl⟩
instance:TFun prog 65:=⟨by kernel_rfl⟩
instance:TFun prog 66:=⟨by kernel_rfl⟩
instance:TFun prog 67:=⟨by kernel_rfl⟩
instance:TFun prog 68:=⟨by kernel_rfl⟩
instance:TFun prog 71:=⟨by kernel_rfl⟩
instance:TFun prog 72:=⟨by kernel_rfl⟩
instance:TFun prog 73:=⟨by kernel_rfl⟩
instance:TFun prog 74:=⟨by kernel_rfl⟩
instance:TFun prog 75:=⟨by kernel_rfl⟩
instance:TFun prog 76:=⟨by kernel_rfl⟩
instance:TFun prog 77:=⟨by kernel_rfl⟩
instance:TFun prog 78:=⟨by kernel_rfl⟩
instance:TFun prog 79:=⟨by kernel_rfl⟩
instance:TFun prog 80:=⟨by kernel_rfl⟩
instance:TFun prog 81:=⟨by kernel_rfl⟩
instance:TFun prog 82:=⟨by kernel_rfl⟩
instance:TFun prog 83:=⟨by kernel_rfl⟩
instance:TFun prog 84:=⟨by kernel_rfl⟩
instance:TFun prog 85:=⟨by kernel_rfl⟩
instance:TFun prog 86:=⟨by kernel_rfl⟩
instance:TFun prog 87:=⟨by kernel_rfl⟩
instance:TFun prog 88:=⟨by kernel_rfl⟩
instance:TFun prog 89:=⟨by kernel_rfl⟩
instance:TFun prog 90:=⟨by kernel_rfl⟩
instance:TFun prog 91:=⟨by kernel_rfl⟩
instance:TFun prog 92:=⟨by kernel_rfl⟩
instance:TFun prog 93:=⟨by kernel_rfl⟩
instance:TFun prog 94:=⟨by kernel_rfl⟩
instance:TFun prog 95:=⟨by kernel_rfl⟩
instance:TFun prog 96:=⟨by kernel_rfl⟩
instance:TFun prog 97:=⟨by kernel_rfl⟩
instance:TFun prog 98:=⟨by kernel_rfl⟩
instance:TFun prog 99:=⟨by kernel_rfl⟩
instance:TFun prog 100:=⟨by kernel_rfl⟩
instance:TFun prog 101:=⟨by kernel_rfl⟩
instance:TFun prog 102:=⟨by kernel_rfl⟩
instance:TFun prog 103:=⟨by kernel_rfl⟩
instance:TFun prog 104:=⟨by kernel_rfl⟩
instance:TFun prog 105:=⟨by kernel_rfl⟩
instance:TFun prog 106:=⟨by kernel_rfl⟩
instance:TFun prog 107:=⟨by kernel_rfl⟩
instance:TFun prog 119:=⟨by kernel_rfl⟩
instance:TFun prog 120:=⟨by kernel_rfl⟩
instance:TFun prog 121:=⟨by kernel_rfl⟩
instance:TFun prog 122:=⟨by kernel_rfl⟩
instance:TFun prog 123:=⟨by kernel_rfl⟩
instance:TFun prog 124:=⟨by kernel_rfl⟩
instance:TFun prog 125:=⟨by kernel_rfl⟩
instance:TFun prog 126:=⟨by kernel_rfl⟩
instance:TFun prog 127:=⟨by kernel_rfl⟩
instance:TFun prog 128:=⟨by kernel_rfl⟩
instance:TFun prog 129:=⟨by kernel_rfl⟩
instance:TFun prog 130:=⟨by kernel_rfl⟩
instance:TFun prog 131:=⟨by kernel_rfl⟩
instance:TFun prog 132:=⟨by kernel_rfl⟩
instance:TFun prog 133:=⟨by kernel_rfl⟩
instance:TFun prog 134:=⟨by kernel_rfl⟩
instance:TFun prog 135:=⟨by kernel_rfl⟩
instance:TFun prog 136:=⟨by kernel_rfl⟩
instance:TFun prog 137:=⟨by kernel_rfl⟩
instance:TFun prog 138:=⟨by kernel_rfl⟩
instance:TFun prog 139:=⟨by kernel_rfl⟩
instance:TFun prog 140:=⟨by kernel_rfl⟩
instance:TFun prog 141:=⟨by kernel_rfl⟩
instance:TFun prog 142:=⟨by kernel_rfl⟩
instance:TFun prog 143:=⟨by kernel_rfl⟩
instance:TFun prog 144:=⟨by kernel_rfl⟩
instance:TFun prog 145:=⟨by kernel_rfl⟩
instance:TFun prog 146:=⟨by kernel_rfl⟩
instance:TFun prog 147:=⟨by kernel_rfl⟩
instance:TFun prog 155:=⟨by kernel_rfl⟩
instance:TFun prog 156:=⟨by kernel_rfl⟩
instance:TFun prog 157:=⟨by kernel_rfl⟩
instance:TFun prog 158:=⟨by kernel_rfl⟩
instance:TFun prog 159:=⟨by kernel_rfl⟩
instance:TFun prog 160:=⟨by kernel_rfl⟩
instance:TFun prog 161:=⟨by kernel_rfl⟩
instance:TFun prog 162:=⟨by kernel_rfl⟩
instance:TFun prog 163:=⟨by kernel_rfl⟩
instance:TFun prog 164:=⟨by kernel_rfl⟩
instance:TFun prog 165:=⟨by kernel_rfl⟩
instance:TFun prog 166:=⟨by kernel_rfl⟩
instance:TFun prog 167:=⟨by kernel_rfl⟩
instance:TFun prog 168:=⟨by kernel_rfl⟩
instance:TFun prog 169:=⟨by kernel_rfl⟩
instance:TFun prog 170:=⟨by kernel_rfl⟩
instance:TFun prog 171:=⟨by kernel_rfl⟩
instance:TFun prog 172:=⟨by kernel_rfl⟩
instance:TFun prog 173:=⟨by kernel_rfl⟩
instance:TFun prog 174:=⟨by kernel_rfl⟩
instance:TFun prog 175:=⟨by kernel_rfl⟩
instance:TFun prog 176:=⟨by kernel_rfl⟩
instance:TFun prog 177:=⟨by kernel_rfl⟩
instance:TFun prog 178:=⟨by kernel_rfl⟩
instance:TFun prog 179:=⟨by kernel_rfl⟩
instance:TFun prog 180:=⟨by kernel_rfl⟩
instance:TFun prog 181:=⟨by kernel_rfl⟩
instance:TFun prog 182:=⟨by kernel_rfl⟩
instance:TFun prog 183:=⟨by kernel_rfl⟩
instance:TFun prog 184:=⟨by kernel_rfl⟩
instance:TFun prog 185:=⟨by kernel_rfl⟩
instance:TFun prog 186:=⟨by kernel_rfl⟩
instance:TFun prog 187:=⟨by kernel_rfl⟩
instance:TFun prog 188:=⟨by kernel_rfl⟩
instance:TFun prog 189:=⟨by kernel_rfl⟩
instance:TFun prog 192:=⟨by kernel_rfl⟩
instance:TFun prog 193:=⟨by kernel_rfl⟩
instance:TFun prog 194:=⟨by kernel_rfl⟩
instance:TFun prog 195:=⟨by kernel_rfl⟩
instance:TFun prog 196:=⟨by kernel_rfl⟩
instance:TFun prog 197:=⟨by kernel_rfl⟩
instance:TFun prog 198:=⟨by kernel_rfl⟩
instance:TFun prog 199:=⟨by kernel_rfl⟩
instance:TFun prog 200:=⟨by kernel_rfl⟩
instance:TFun prog 201:=⟨by kernel_rfl⟩
instance:TFun prog 202:=⟨by kernel_rfl⟩
instance:TFun prog 203:=⟨by kernel_rfl⟩
instance:TFun prog 204:=⟨by kernel_rfl⟩
instance:TFun prog 205:=⟨by kernel_rfl⟩
instance:TFun prog 206:=⟨by kernel_rfl⟩
instance:TFun prog 207:=⟨by kernel_rfl⟩
instance:TFun prog 208:=⟨by kernel_rfl⟩
instance:TFun prog 209:=⟨by kernel_rfl⟩
instance:TFun prog 210:=⟨by kernel_rfl⟩
instance:TFun prog 211:=⟨by kernel_rfl⟩
instance:TFun prog 212:=⟨by kernel_rfl⟩
instance:TFun prog 217:=⟨by kernel_rfl⟩
instance:TFun prog 219:=⟨by kernel_rfl⟩
instance:TFun prog 220:=⟨by kernel_rfl⟩
instance:TFun prog 221:=⟨by kernel_rfl⟩
instance:TFun prog 222:=⟨by kernel_rfl⟩
instance:TFun prog 223:=⟨by kernel_rfl⟩
instance:TFun prog 224:=⟨by kernel_rfl⟩
instance:TFun prog 229:=⟨by kernel_rfl⟩
instance:TFun prog 231:=⟨by kernel_rfl⟩
theorem mixed:prog.follows .mixedOrders=true:=by kernel_rfl
instance:TMixed prog:=⟨mixed⟩
theorem kk {A G:Prop}(h:A)(hs:A->G:=by intro x;apply_assumption -exfalso -symm;exact x):G:=hs h
end
end Go.Proofs.YtdopmfifmgkmoaaGreatDoor
