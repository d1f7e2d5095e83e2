/- Parts: D24, D25, D26, D27, D28, D29. -/
import Derived.Test.YtdopmfifmgkmoaaGreatDoorP8
set_option linter.all false
set_option maxRecDepth 100000
set_option maxHeartbeats 16000000
namespace Go.Proofs.YtdopmfifmgkmoaaGreatDoor
open Go.RowKit
section
theorem p9 {n:Nat}:(OfNat.ofNat n:Int)=((OfNat.ofNat n:Nat):Int):=rfl
section
variable {E:Set}{Q:Exit->Sd->Prop}{S:Sd}{ops:Array Oper}{draw:Bool}{rest:Todo}{way:Kt}{ty:TypeId}{pos:String}{af:Array Edge}{gd:Option (Nat × Bool)}{dst:Option Tmp}{o:Oper}{v:V}
variable {env:List (Nat × V)}{H:List (Nat × Ob)}{gl:List (Nat × List D)}{d:Nat}{k:IntKind}{p q r:Int}{xt yt:TypeId}{x y:Operand}
theorem z_p (hq:Swift E ⟨env,H,gl⟩ o v)(h:TR E draw ops Q rest ⟨(d,v)::env,H,gl⟩)(hdst:o.dst=some d:=by exact rfl)(hd:d<E.C.nt:=by exact ltd rfl)(hg:Sd.gd ⟨env,H,gl⟩ ops o=some true:=by exact rfl)(hdf:jc0 o=false:=by exact rfl):TR E draw ops Q (.step o way rest) ⟨env,H,gl⟩:=s_p hq hdst hd hg hdf h
theorem Cr {t:Nat}{ps:List (Nat × Operand)}{vs:List V}{zs ds:List D}[ht:TStruct E.P t][hz:TZero E.P t vs](hzd:Mi vs zs:=by(repeat (first|exact Mi.nil|apply Mi.d|apply Mi.none));fail_if_success intros)(hb:Build E.P S t zs ps ds:=by(repeat (first|exact Build.nil _|apply Build.cons rfl rfl (by first|exact ToD.d _|exact ToD.nils _|exact ToD.own rfl) (by first|exact Gy.agg _|constructor) (by rfl) (by(repeat (first|exact Repl.done _|apply Repl.here|apply Repl.there));fail_if_success intros)));fail_if_success intros):Swift E S ⟨dst,.build t ps.toArray,ty,pos,af,gd⟩ (.d (.agg ds)):=qj7 hzd hb
theorem rh1 {t e sz l m:Nat}{x:Operand}{lo hi:Option Operand}{xs:List D}{li hi':Int}[ht:TSlice E.P t e sz](hx:S.ev x=some (.d (.list sz xs)):=by exact rfl)(hox:Cw x=true:=by exact rfl)(hl:bnd S lo 0=some li:=by exact rfl)(hh:bnd S hi (xs.length:Nat)=some hi':=by exact rfl)(el:li=(l:Nat):=by first|with_reducible exact p9|exact rfl|exact(En (by omega)).symm)(eh:hi'=(m:Nat):=by first|with_reducible exact p9|exact rfl|exact(En (by omega)).symm)(hlm:l<=m:=by first|omega|(simp only[Ai,Aq,Ag,Aa,Aj,Bl];omega))(hm:m<=xs.length:=by first|omega|(simp only[Ai,Aq,Ag,Aa,Aj,Bl];omega)):Swift E S ⟨dst,.slice t x lo hi none,ty,pos,af,gd⟩ (.d (.list sz ((xs.drop l).take (m - l)))):=qj3 hx hox hl hh el eh hlm hm
theorem Cj {t:Nat}{vs:List V}[ht:TZero E.P t vs](n:Nat)(h:TR E draw ops Q rest ⟨(d,.ptr n 0)::env,(n,.box vs)::H,gl⟩)(hn:Sd.fresh ⟨env,H,gl⟩ n=true:=by exact rfl)(hs:Jr n vs=false:=by rfl)(hd:d<E.C.nt:=by exact ltd rfl)(hg:Sd.gd ⟨env,H,gl⟩ ops ⟨some d,.alloc t,ty,pos,af,gd⟩=some true:=by exact rfl)(hw:way.loud=true:=by exact rfl):TR E draw ops Q (.step ⟨some d,.alloc t,ty,pos,af,gd⟩ way rest) ⟨env,H,gl⟩:=rg1 n hn hs hd hg hw h
theorem j6 {t:Nat}{x:Operand}{v:V}{vs:List V}(n:Nat)(h:TR E draw ops Q rest ⟨(d,.ptr n 0)::env,(n,.box vs)::H,gl⟩)(hx:Sd.ev ⟨env,H,gl⟩ x=some v:=by exact rfl)(hox:Cw x=true:=by exact rfl)(hown:Py ⟨env,H,gl⟩ v=true:=by first|exact rfl|exact jp0 rfl)(hc:Jh v vs:=by first|(refine Jh.d (by first|exact Gy.agg _|constructor) (by(repeat (first|exact Ns.nil|apply Ns.nils|apply Ns.cons));fail_if_success intros))|constructor)(hn:Sd.fresh ⟨env,H,gl⟩ n=true:=by exact rfl)(hs:Jr n vs=false:=by rfl)(hd:d<E.C.nt:=by exact ltd rfl)(hg:Sd.gd ⟨env,H,gl⟩ ops ⟨some d,.box t x,ty,pos,af,gd⟩=some true:=by exact rfl)(hw:way.loud=true:=by exact rfl):TR E draw ops Q (.step ⟨some d,.box t x,ty,pos,af,gd⟩ way rest) ⟨env,H,gl⟩:=rq4 n hx hox hown hc hn hs hd hg hw h
theorem Dh {t e sz len:Nat}{ps:List (Nat × Operand)}{xs:List D}[ht:TSlice E.P t e sz](n:Nat)(h:TR E draw ops Q rest ⟨(d,.own n 0)::env,(n,.row e sz true xs 0)::H,gl⟩)(hp:Elems ⟨env,H,gl⟩ sz 0 ps xs:=by(repeat (first|exact Elems.nil _|apply Elems.cons rfl rfl (by first|exact ToD.d _|exact ToD.nils _|exact ToD.own rfl) (by first|exact Gy.agg _|constructor) (by rfl)));fail_if_success intros)(hlen:xs.length=len:=by rfl)(hsmall:len * sz<=16777216:=by decide)(hn:Sd.fresh ⟨env,H,gl⟩ n=true:=by exact rfl)(hd:d<E.C.nt:=by exact ltd rfl)(hg:Sd.gd ⟨env,H,gl⟩ ops ⟨some d,.buildSlice t len ps.toArray,ty,pos,af,gd⟩=some true:=by exact rfl)(hw:way.loud=true:=by exact rfl):TR E draw ops Q (.step ⟨some d,.buildSlice t len ps.toArray,ty,pos,af,gd⟩ way rest) ⟨env,H,gl⟩:=rq5 n hp hlen hsmall hn hd hg hw h
theorem rh2 {t n off m:Nat}{x y:Operand}{v:V}{vs cs cs':List V}[ht:TSize E.P t m](h:TR E draw ops Q rest ⟨env,(n,.box cs')::H,gl⟩)(hx:Sd.ev ⟨env,H,gl⟩ x=some (.ptr n off):=by exact rfl)(hox:Cw x=true:=by exact rfl)(hy:Sd.ev ⟨env,H,gl⟩ y=some v:=by exact rfl)(hoy:Cw y=true:=by exact rfl)(hown:Py ⟨env,H,gl⟩ v=true:=by first|exact rfl|exact jp0 rfl)(hl:look n H=some (.box cs):=by exact rfl)(hc:Jh v vs:=by first|(refine Jh.d (by first|exact Gy.agg _|constructor) (by(repeat (first|exact Ns.nil|apply Ns.nils|apply Ns.cons));fail_if_success intros))|constructor)(hm:vs.length=m:=by rfl)(hr:Repl cs off vs cs':=by(repeat (first|exact Repl.done _|apply Repl.here|apply Repl.there));fail_if_success intros)(hg:Sd.gd ⟨env,H,gl⟩ ops ⟨none,.store t x y,ty,pos,af,gd⟩=some true:=by exact rfl)(hw:Mr draw way=true:=by exact rfl):TR E draw ops Q (.step ⟨none,.store t x y,ty,pos,af,gd⟩ way rest) ⟨env,H,gl⟩:=rg2 hx hox hy hoy hown hl hc hm hr hg hw h
theorem mu9 {t n k i e sz:Nat}{x y:Operand}{v:V}{z:D}{xs zs:List D}[ht:TSize E.P t sz](h:TR E draw ops Q rest ⟨env,(n,.row e sz false (xs.set i z) k)::H,gl⟩)(hx:Sd.ev ⟨env,H,gl⟩ x=some (.el n k i 0):=by exact rfl)(hox:Cw x=true:=by exact rfl)(hl:look n H=some (.row e sz false xs k):=by exact rfl)(hy:Sd.ev ⟨env,H,gl⟩ y=some v:=by exact rfl)(hoy:Cw y=true:=by exact rfl)(hz:ToD H v z:=by first|exact ToD.d _|exact ToD.nils _|exact ToD.own rfl)(hc:Gy z zs:=by first|exact Gy.agg _|constructor)(hm:zs.length=sz:=by exact rfl)(hi:i<xs.length:=by first|omega|(simp only[Ai,Aq,Ag,Aa,Aj,Bl];omega))(hg:Sd.gd ⟨env,H,gl⟩ ops ⟨none,.store t x y,ty,pos,af,gd⟩=some true:=by exact rfl)(hw:Mr draw way=true:=by exact rfl):TR E draw ops Q (.step ⟨none,.store t x y,ty,pos,af,gd⟩ way rest) ⟨env,H,gl⟩:=mu8 hx hox hl hy hoy hz hc hm hi hg hw h
theorem Nq {t e sz sz':Nat}{s x:Operand}{v:V}{ys:List D}[ht:TSlice E.P t e sz](n:Nat)(h:TR E draw ops Q rest ⟨(d,.own n 0)::env,(n,.row e sz true ys 0)::H,gl⟩)(hs:Sd.ev ⟨env,H,gl⟩ s=some (.nils sz'):=by exact rfl)(hos:Cw s=true:=by exact rfl)(hx:Sd.ev ⟨env,H,gl⟩ x=some v:=by exact rfl)(hox:Cw x=true:=by exact rfl)(hy:ToD H v (.list sz ys):=by first|exact ToD.d _|exact ToD.nils _|exact ToD.own rfl)(hlen:ys.length<=100000000000:=by first|omega|(simp only[Ai,Aq,Ag,Aa,Aj,Bl];omega))(hn:Sd.fresh ⟨env,H,gl⟩ n=true:=by exact rfl)(hd:d<E.C.nt:=by exact ltd rfl)(hg:Sd.gd ⟨env,H,gl⟩ ops ⟨some d,.call {callee:=.builtin .append,args:=#[s,x],argTypes:=#[t,t]},ty,pos,af,gd⟩=some true:=by exact rfl)(hw:way.loud=true:=by exact rfl):TR E draw ops Q (.step ⟨some d,.call {callee:=.builtin .append,args:=#[s,x],argTypes:=#[t,t]},ty,pos,af,gd⟩ way rest) ⟨env,H,gl⟩:=qj8 n hs hos hx hox hy hlen hn hd hg hw h
theorem Cs {t e sz n k:Nat}{sh:Bool}{s x:Operand}{v:V}{xs ys:List D}[ht:TSlice E.P t e sz](h:∀ k',TR E draw ops Q rest ⟨(d,.own n k')::env,(n,.row e sz sh (xs++ys) k')::H,gl⟩)(hs:Sd.ev ⟨env,H,gl⟩ s=some (.own n k):=by exact rfl)(hos:Cw s=true:=by exact rfl)(hl:look n H=some (.row e sz sh xs k):=by exact rfl)(hx:Sd.ev ⟨env,H,gl⟩ x=some v:=by exact rfl)(hox:Cw x=true:=by exact rfl)(hy:ToD H v (.list sz ys):=by first|exact ToD.d _|exact ToD.nils _|exact ToD.own rfl)(hlen:xs.length+ys.length<=100000000000:=by first|omega|(simp only[Ai,Aq,Ag,Aa,Aj,Bl];omega))(hN:E.C.N.contains n=false:=by exact rfl)(hd:d<E.C.nt:=by exact ltd rfl)(hg:Sd.gd ⟨env,H,gl⟩ ops ⟨some d,.call {callee:=.builtin .append,args:=#[s,x],argTypes:=#[t,t]},ty,pos,af,gd⟩=some true:=by exact rfl)(hw:Mr draw way=true:=by exact rfl):TR E draw ops Q (.step ⟨some d,.call {callee:=.builtin .append,args:=#[s,x],argTypes:=#[t,t]},ty,pos,af,gd⟩ way rest) ⟨env,H,gl⟩:=qt7 hs hos hl hx hox hy hlen hN hd hg hw h
theorem rn3 {o:Oper}(h:TR E draw ops Q rest ⟨(d,.tup [])::env,H,gl⟩)(hdst:o.dst=some d:=by exact rfl)(hd:d<E.C.nt:=by exact ltd rfl)(hg:Sd.gd ⟨env,H,gl⟩ ops o=some false:=by exact rfl):TR E draw ops Q (.step o way rest) ⟨env,H,gl⟩:=rm5 hdst hd hg h
theorem jl9 {t:Nat}(n:Nat)(h:TR E draw ops Q rest ⟨(d,.map n)::env,(n,.map [] [])::H,gl⟩)(hn:Sd.fresh ⟨env,H,gl⟩ n=true:=by exact rfl)(hd:d<E.C.nt:=by exact ltd rfl)(hg:Sd.gd ⟨env,H,gl⟩ ops ⟨some d,.makeMap t none,ty,pos,af,gd⟩=some true:=by exact rfl)(hw:way.loud=true:=by exact rfl):TR E draw ops Q (.step ⟨some d,.makeMap t none,ty,pos,af,gd⟩ way rest) ⟨env,H,gl⟩:=qk7 n hn hd hg hw h
theorem p7 {t e sz m:Nat}{k:IntKind}{p:Int}{x:Operand}{z:D}[ht:TSlice E.P t e sz][hz:Tt E.P e z](n:Nat)(h:TR E draw ops Q rest ⟨(d,.own n 0)::env,(n,.row e sz false (List.replicate m z) 0)::H,gl⟩)(hx:Sd.ev ⟨env,H,gl⟩ x=some (.d (.int k p)):=by exact rfl)(hox:Cw x=true:=by exact rfl)(hp:p=(m:Nat):=by first|with_reducible exact p9|exact rfl|exact(En (by omega)).symm)(hm:m<=1000000000:=by first|omega|(simp only[Ai,Aq,Ag,Aa,Aj,Bl];omega))(hn:Sd.fresh ⟨env,H,gl⟩ n=true:=by exact rfl)(hd:d<E.C.nt:=by exact ltd rfl)(hg:Sd.gd ⟨env,H,gl⟩ ops ⟨some d,.makeSlice t x x,ty,pos,af,gd⟩=some true:=by exact rfl)(hw:way.loud=true:=by exact rfl):TR E draw ops Q (.step ⟨some d,.makeSlice t x x,ty,pos,af,gd⟩ way rest) ⟨env,H,gl⟩:=rn2 n hx hox hp hm hn hd hg hw h
theorem qu7 {xt yt:TypeId}{x y:Operand}{s t:ByteArray}(h1:s=t->TR E draw ops Q rest ⟨(d,.d (.bool true))::env,H,gl⟩)(h2:¬s=t->TR E draw ops Q rest ⟨(d,.d (.bool false))::env,H,gl⟩)(hx:Sd.ev ⟨env,H,gl⟩ x=some (.d (.str s)):=by exact rfl)(hy:Sd.ev ⟨env,H,gl⟩ y=some (.d (.str t)):=by exact rfl)(hox:Cw x=true:=by exact rfl)(hoy:Cw y=true:=by exact rfl)(hd:d<E.C.nt:=by exact ltd rfl)(hg:Sd.gd ⟨env,H,gl⟩ ops ⟨some d,.binOp .eql xt x y yt,ty,pos,af,gd⟩=some true:=by exact rfl):TR E draw ops Q (.step ⟨some d,.binOp .eql xt x y yt,ty,pos,af,gd⟩ way rest) ⟨env,H,gl⟩:=qt8 hx hy hox hoy hd hg h1 h2
theorem qu8 {xt yt:TypeId}{x y:Operand}{s t:ByteArray}(h1:s=t->TR E draw ops Q rest ⟨(d,.d (.bool false))::env,H,gl⟩)(h2:¬s=t->TR E draw ops Q rest ⟨(d,.d (.bool true))::env,H,gl⟩)(hx:Sd.ev ⟨env,H,gl⟩ x=some (.d (.str s)):=by exact rfl)(hy:Sd.ev ⟨env,H,gl⟩ y=some (.d (.str t)):=by exact rfl)(hox:Cw x=true:=by exact rfl)(hoy:Cw y=true:=by exact rfl)(hd:d<E.C.nt:=by exact ltd rfl)(hg:Sd.gd ⟨env,H,gl⟩ ops ⟨some d,.binOp .neq xt x y yt,ty,pos,af,gd⟩=some true:=by exact rfl):TR E draw ops Q (.step ⟨some d,.binOp .neq xt x y yt,ty,pos,af,gd⟩ way rest) ⟨env,H,gl⟩:=qu0 hx hy hox hoy hd hg h1 h2
theorem qu9 {t:Nat}{yt:TypeId}{x y:Operand}{ls:List Nat}{ds es:List D}{p:Prop}[ht:TEq E.P t ls][hs:TAgg E.P t ls.length](h1:p->TR E draw ops Q rest ⟨(d,.d (.bool true))::env,H,gl⟩)(h2:¬p->TR E draw ops Q rest ⟨(d,.d (.bool false))::env,H,gl⟩)(hx:Sd.ev ⟨env,H,gl⟩ x=some (.d (.agg ds)):=by exact rfl)(hy:Sd.ev ⟨env,H,gl⟩ y=some (.d (.agg es)):=by exact rfl)(hox:Cw x=true:=by exact rfl)(hoy:Cw y=true:=by exact rfl)(hE:EqC ls ds es p:=by(repeat (first|exact EqC.nil|apply EqC.int|apply EqC.bool|apply EqC.str));fail_if_success intros)(hd:d<E.C.nt:=by exact ltd rfl)(hg:Sd.gd ⟨env,H,gl⟩ ops ⟨some d,.binOp .eql t x y yt,ty,pos,af,gd⟩=some true:=by exact rfl):TR E draw ops Q (.step ⟨some d,.binOp .eql t x y yt,ty,pos,af,gd⟩ way rest) ⟨env,H,gl⟩:=qu1 hx hy hox hoy hE hd hg h1 h2
theorem qv0 {t:Nat}{yt:TypeId}{x y:Operand}{ls:List Nat}{ds es:List D}{p:Prop}[ht:TEq E.P t ls][hs:TAgg E.P t ls.length](h1:p->TR E draw ops Q rest ⟨(d,.d (.bool false))::env,H,gl⟩)(h2:¬p->TR E draw ops Q rest ⟨(d,.d (.bool true))::env,H,gl⟩)(hx:Sd.ev ⟨env,H,gl⟩ x=some (.d (.agg ds)):=by exact rfl)(hy:Sd.ev ⟨env,H,gl⟩ y=some (.d (.agg es)):=by exact rfl)(hox:Cw x=true:=by exact rfl)(hoy:Cw y=true:=by exact rfl)(hE:EqC ls ds es p:=by(repeat (first|exact EqC.nil|apply EqC.int|apply EqC.bool|apply EqC.str));fail_if_success intros)(hd:d<E.C.nt:=by exact ltd rfl)(hg:Sd.gd ⟨env,H,gl⟩ ops ⟨some d,.binOp .neq t x y yt,ty,pos,af,gd⟩=some true:=by exact rfl):TR E draw ops Q (.step ⟨some d,.binOp .neq t x y yt,ty,pos,af,gd⟩ way rest) ⟨env,H,gl⟩:=qu2 hx hy hox hoy hE hd hg h1 h2
theorem rr0 {op:BinOp}{xt yt:TypeId}{x y:Operand}{k:IntKind}{p q:Int}(h1:cmp op p q->TR E draw ops Q rest ⟨(d,.d (.bool true))::env,H,gl⟩)(h2:¬cmp op p q->TR E draw ops Q rest ⟨(d,.d (.bool false))::env,H,gl⟩)(hop:Rb op=true:=by exact rfl)(hx:Sd.ev ⟨env,H,gl⟩ x=some (.d (.int k p)):=by exact rfl)(hy:Sd.ev ⟨env,H,gl⟩ y=some (.d (.int k q)):=by exact rfl)(hox:Cw x=true:=by exact rfl)(hoy:Cw y=true:=by exact rfl)(hd:d<E.C.nt:=by exact ltd rfl)(hg:Sd.gd ⟨env,H,gl⟩ ops ⟨some d,.binOp op xt x y yt,ty,pos,af,gd⟩=some true:=by exact rfl):TR E draw ops Q (.step ⟨some d,.binOp op xt x y yt,ty,pos,af,gd⟩ way rest) ⟨env,H,gl⟩:=rq6 hop hx hy hox hoy hd hg h1 h2
theorem rn4 {f:Nat}{xs:List Operand}{ats:Array TypeId}{vs vs':List V}{R:V->Prop}[hf:TFun E.P f](h:∀ v,R v->TR E draw ops Q rest ⟨(d,v)::env,H,gl⟩)(hx:Evs ⟨env,H,gl⟩ xs vs:=by(repeat (first|exact Evs.nil|apply Evs.cons rfl rfl));fail_if_success intros)(ha:Args H vs vs':=by(repeat (first|exact Args.nil|apply Args.cons (Arg.d _)|apply Args.cons (Arg.own rfl)|apply Args.cons (Arg.nils _)|apply Args.cons (Arg.clo0 _)));fail_if_success intros)(hc:FnD E.P gl f vs' R)(hd:d<E.C.nt:=by exact ltd rfl)(hg:Sd.gd ⟨env,H,gl⟩ ops ⟨some d,.call {callee:=.value (.func f),args:=xs.toArray,argTypes:=ats},ty,pos,af,gd⟩=some true:=by exact rfl)(hw:way.loud=true:=by exact rfl):TR E draw ops Q (.step ⟨some d,.call {callee:=.value (.func f),args:=xs.toArray,argTypes:=ats},ty,pos,af,gd⟩ way rest) ⟨env,H,gl⟩:=rm6 hx ha hc hd hg hw h
theorem rh3 {f:Nat}{fx:Operand}{xs:List Operand}{ats:Array TypeId}{fs gs vs args:List V}{H0:List (Nat × Ob)}{R:V->List (Nat × Ob)->Prop}[hf:TFun E.P f](h:∀ v H1,R v H1->Ow ⟨env,H,gl⟩ H0 H1=true/\TR E draw ops Q rest ⟨(d,v)::env,H1++H,gl⟩)(hfx:Sd.ev ⟨env,H,gl⟩ fx=some (.clo (.func f) fs gs):=by exact rfl)(hof:Cw fx=true:=by exact rfl)(hx:Evs ⟨env,H,gl⟩ xs vs:=by(repeat (first|exact Evs.nil|apply Evs.cons rfl rfl));fail_if_success intros)(ha:La H (fs++vs++gs) args:=by(repeat (first|exact La.nil|apply La.cons (Nj.own rfl)|apply La.cons (Nj.nils _)|apply La.cons (Nj.same _)));fail_if_success intros)(hc:FnE E.P gl f args H0 R)(hs:Sz H H0:=by(repeat (first|exact Sz.nil|apply Sz.cons rfl));fail_if_success intros)(hwm:Qj H0=true:=by exact rfl)(hd:d<E.C.nt:=by exact ltd rfl)(hg:Sd.gd ⟨env,H,gl⟩ ops ⟨some d,.call {callee:=.value fx,args:=xs.toArray,argTypes:=ats},ty,pos,af,gd⟩=some true:=by exact rfl)(hw:Mr draw way=true:=by exact rfl):TR E draw ops Q (.step ⟨some d,.call {callee:=.value fx,args:=xs.toArray,argTypes:=ats},ty,pos,af,gd⟩ way rest) ⟨env,H,gl⟩:=rh0 hfx hof hx ha hc hs hwm hd hg hw h
def Sg (t:Nat):List Nat->Bool
 |[]=>false
 |s::r=>bif Nat.beq s t then true else Sg t r
def Vm (t:Nat):List Nat->List Nat
 |[]=>[]
 |s::r=>bif Nat.beq s t then r else s::Vm t r
theorem Qh {t:Nat}:∀ {l:List Nat},Sg t l=true↔t∈l
 |[]=>by simp[Sg]
 |s::r=>by
  show(bif Nat.beq s t then true else Sg t r)=true↔_;cases h:Nat.beq s t with
  |true=>have:=Bj h;simp[this]
  |false=>have:=ja9.1 h;simp only[cond_false,Bf,Qh];exact⟨.inr,fun h=>h.resolve_left (fun e=>this e.symm)⟩
theorem kv1 {t x:Nat}:∀ {l:List Nat},x∈Vm t l->x∈l
 |[],h=>h
 |s::r,h=>by
  have h':x∈(bif Nat.beq s t then r else s::Vm t r):=h;cases hb:Nat.beq s t with
  |true=>rw[hb]at h';exact Bk _ h'
  |false=>
   rw[hb]at h';rcases Bf.1 h' with rfl|h'
   ·exact Bi
   ·exact Bk _ (kv1 h')
theorem Wu {t:Nat}:∀ {l:List Nat},l.Nodup->(Vm t l).Nodup/\t∉Vm t l
 |[],h=>⟨h,fun h=>by cases h⟩
 |s::r,h=>by
  obtain⟨h1,h2⟩:=List.nodup_cons.1 h;have e:Vm t (s::r)=(bif Nat.beq s t then r else s::Vm t r):=rfl;rw[e];cases hb:Nat.beq s t with
  |true=>have:=Bj hb;subst this;exact⟨h2,h1⟩
  |false=>
   obtain⟨q1,q2⟩:=Wu (t:=t) h2;refine⟨List.nodup_cons.2 ⟨fun h=>h1 (kv1 h),q1⟩,fun h=>?_⟩;rcases Bf.1 h with rfl|h
   ·exact ja9.1 hb rfl
   ·exact q2 h
inductive Keep:List Nat->List (Nat × V)->List (Nat × V)->Prop
 |nil (ts:List Nat):Keep ts [] []
 |take {ts:List Nat} {t:Nat} {v:V} {l r:List (Nat × V)} (h:Sg t ts=true) (k:Keep (Vm t ts) l r):Keep ts ((t,v)::l) ((t,v)::r)
 |ghost {ts:List Nat} {t:Nat} {v:V} {l r:List (Nat × V)} (h:Nat.ble 100000 t=true) (k:Keep ts l r):Keep ts ((t,v)::l) ((t,v)::r)
 |drop {ts:List Nat} {t:Nat} {v:V} {l r:List (Nat × V)} (h:Nat.ble 100000 t=false) (h':Sg t ts=false) (k:Keep ts l r):Keep ts ((t,v)::l) r
theorem Keep.from {ts:List Nat}{l r:List (Nat × V)}(h:Keep ts l r){t:Nat}{v:V}(hl:look t r=some v):t∈ts\/100000<=t:=by
 induction h with
 |nil=>cases hl
 |@take ts s u l r h k ih=>
  rw[j9]at hl;split at hl
  ·rename_i e;subst e;exact .inl (Qh.1 h)
  ·exact(ih hl).imp kv1 id
 |@ghost ts s u l r h k ih=>
  rw[j9]at hl;split at hl
  ·rename_i e;subst e;exact .inr (Nat.le_of_ble_eq_true h)
  ·exact ih hl
 |drop _ _ _ ih=>exact ih hl
theorem Keep.look {ts:List Nat}{l r:List (Nat × V)}(h:Keep ts l r)(hnd:ts.Nodup):∀ {t:Nat} {v:V},Go.Proofs.YtdopmfifmgkmoaaGreatDoor.look t r=some v->Go.Proofs.YtdopmfifmgkmoaaGreatDoor.look t l=some v:=by
 induction h with
 |nil=>intro t v h;exact h
 |@take ts s u l r h k ih=>
  intro t v hl;rw[j9]at hl ⊢;split at hl
  ·rename_i e;rw[Ae e];exact hl
  ·rename_i e;rw[Af e];exact ih (Wu hnd).1 hl
 |@ghost ts s u l r h k ih=>
  intro t v hl;rw[j9]at hl ⊢;split at hl
  ·rename_i e;rw[Ae e];exact hl
  ·rename_i e;rw[Af e];exact ih hnd hl
 |@drop ts s u l r h h' k ih=>
  intro t v hl;rw[j9];split
  ·rename_i e;subst e;rcases k.from hl with q|q
   ·rw[Qh.2 q]at h';cases h'
   ·have:=Nat.ble_eq_true_of_le q;rw[this]at h;cases h
  ·exact ih hnd hl
inductive Mc:List Nat->List (Nat × Ob)->List (Nat × Ob)->Prop
 |nil (ts:List Nat):Mc ts [] []
 |take {ts:List Nat} {n:Nat} {ob:Ob} {l r:List (Nat × Ob)} (h:Sg n ts=false) (k:Mc (n::ts) l r):Mc ts ((n,ob)::l) ((n,ob)::r)
 |drop {ts:List Nat} {n:Nat} {ob:Ob} {l r:List (Nat × Ob)} (h:Sg n ts=true) (k:Mc ts l r):Mc ts ((n,ob)::l) r
theorem Mc.look {ts:List Nat}{l r:List (Nat × Ob)}(h:Mc ts l r):∀ {n:Nat},n∉ts->Go.Proofs.YtdopmfifmgkmoaaGreatDoor.look n r=Go.Proofs.YtdopmfifmgkmoaaGreatDoor.look n l:=by
 induction h with
 |nil=>intro n _;rfl
 |@take ts m ob l r h k ih=>
  intro n hn;rw[j9,j9];split
  ·rfl
  ·rename_i e;exact ih (by rw[Bf,not_or];exact⟨fun e'=>e e'.symm,hn⟩)
 |@drop ts m ob l r h k ih=>
  intro n hn;rw[j9];split
  ·rename_i e;subst e;exact absurd (Qh.1 h) hn
  ·exact ih hn
def kk5:List Nat->Bool
 |[]=>true
 |t::r=>!Sg t r && kk5 r
theorem ka2:∀ {l:List Nat},kk5 l=true->l.Nodup
 |[],_=>List.nodup_nil
 |t::r,h=>by
  simp only[kk5,Ab,By]at h;exact List.nodup_cons.2 ⟨fun hm=>(by rw[Qh.2 hm]at h;cases h.1),ka2 h.2⟩
theorem Ce (ts:List Nat){env':List (Nat × V)}{H':List (Nat × Ob)}(h:Q .normal ⟨env',H',gl⟩)(hts:kk5 ts=true:=by exact rfl)(hk:Keep ts env env':=by(repeat (first|exact Keep.nil _|apply Keep.drop rfl rfl|apply Keep.take rfl|apply Keep.ghost rfl));fail_if_success intros)(hh:Mc [] H H':=by(repeat (first|exact Mc.nil _|apply Mc.take rfl|apply Mc.drop rfl));fail_if_success intros):TR E draw ops Q .nil ⟨env,H,gl⟩:=fun a w hS=>by
 have wk1:∀ a w,St E.C ⟨env,H,gl⟩ a w->St E.C ⟨env',H',gl⟩ a w:=fun a w ⟨β,hB⟩=>⟨β,hB.weak (fun t v hl=>hk.look (ka2 hts) hl) (fun n ob hl=>by
  have:=hh.look (n:=n) (by simp);dsimp only at hl ⊢;rw[<-this];exact hl) (fun _ _ h=>h) (fun n hn=>by
  have:=hh.look (n:=n) (by simp);dsimp only;rw[this];exact hB.has n hn)⟩
 cases draw with
 |true=>exact fun n=>⟨_,wk1 _ _ (hS.later n.grows),h⟩
 |false=>exact wpListIn_nil ⟨_,wk1 _ _ hS,h⟩
end
end
section
def kv2 (b:Bool):Operand->Bool
 |.const (.bool c)=>match b,c with
  |true,true=>true
  |false,false=>true
  |_,_=>false
 |_=>false
def mc7 (t:Nat):Operand->Bool
 |.tmp s=>Nat.beq s t
 |_=>false
theorem kk6 {b:Bool}{x:Operand}(h:kv2 b x=true):x=.const (.bool b):=by
 unfold kv2 at h;split at h
 ·split at h
  ·rfl
  ·rfl
  ·cases h
 ·cases h
theorem ka3 {t:Nat}{x:Operand}(h:mc7 t x=true):x=.tmp t:=by
 unfold mc7 at h;split at h
 ·rw[Bj h]
 ·cases h
def qv1 (d:Nat):List (Nat × V)->Bool
 |[]=>true
 |(s,_)::r=>bif Nat.beq s d then false else qv1 d r
theorem mc8 {d:Nat}:∀ {l:List (Nat × V)},qv1 d l=true->∀ v,look d l≠some v
 |[],_,_,h=>by cases h
 |(s,u)::r,h,v,h'=>by
  rw[j9]at h';simp only[qv1]at h;cases hb:Nat.beq s d with
  |true=>rw[hb]at h;cases h
  |false=>
   rw[hb]at h;rw[Af (ja9.1 hb)]at h';exact mc8 h v h'
def Vw:Todo->Bool
 |.nil=>true
 |_=>false
def Wy (d:Nat):List Nat->Bool
 |[]=>false
 |s::r=>bif Nat.beq s d then true else Wy d r
theorem kv3 {d:Nat}:∀ {l:List Nat},Wy d l=true↔d∈l
 |[]=>by simp[Wy]
 |s::r=>by
  simp only[Wy,Bf];cases hb:Nat.beq s d with
  |true=>simp[Bj hb]
  |false=>
   have:¬d=s:=fun e=>ja9.1 hb e.symm;simp[this,kv3]
def jp3 (b:Bool)(ops:Array Oper)(n:Nat)(env:List (Nat × V))(t':Nat):Nat->List Nat->Todo->Bool
 |t,_,.nil=>Nat.beq t t'
 |t,dead,.step o _ rest=>match o.dst with
  |none=>false
  |some d=>(qv1 d env || (Nat.beq d t' && Vw rest)) && Nat.blt d n && Nat.blt d 100000 && !Wy d dead && (match o.guard with
   |none=>(match o.op with
    |.move x=>mc7 t x
    |.assign x=>mc7 t x
    |.pick c x y=>mc7 t c && (match b with
     |true=>kv2 true x
     |false=>kv2 false y)
    |_=>false) && jp3 b ops n env t' d dead rest
   |some (j,want)=>(match (nth ops.toList j).bind (·.dst) with
    |some g=>Wy g dead || (Nat.beq g t && (match b,want with
     |true,false=>true
     |false,true=>true
     |_,_=>false))
    |none=>false) && (bif Nat.beq d t then false else true) && jp3 b ops n env t' t (d::dead) rest)
 |_,_,.two ..=>false
 |_,_,.mid ..=>false
 |_,_,.or ..=>false
 |_,_,.tail _=>false
section
variable {E:Set}{Q:Exit->Sd->Prop}{ops:Array Oper}{draw:Bool}{H:List (Nat × Ob)}{gl:List (Nat × List D)}
theorem kk7 (b:Bool)(env:List (Nat × V))(t':Nat)(h:TR E draw ops Q .nil ⟨(t',.d (.bool b))::env,H,gl⟩):∀ (l:Todo) (t:Nat) (dead:List Nat) (env':List (Nat × V)),jp3 b ops E.C.nt env t' t dead l=true->Nat.blt t 100000=true->look t env'=some (.d (.bool b))->
 (∀ s∈dead,Nat.blt s 100000=true/\look s env'=some (.tup []))->(∀ s v,look s env=some v->(s≠t'\/Vw l=false)->look s env'=some v)->TR E draw ops Q l ⟨env',H,gl⟩
 |.nil,t,dead,env',hc,_,hl,_,ha=>fun a w hS=>by
  obtain rfl:t=t':=Bj hc;obtain⟨β,hB⟩:=hS;refine h a w ⟨β,hB.weak (fun s v hs=>?_) (fun _ _ h=>h) (fun _ _ h=>h) (fun n hn=>hB.has n hn)⟩;dsimp only at hs;rw[j9]at hs;split at hs
  ·rename_i e;subst e;cases hs;exact hl
  ·rename_i e;exact ha s v hs (.inl fun e'=>e e'.symm)
 |.step ⟨dst,op,ty,pos,af,gd⟩ way rest,t,dead,env',hc,ht,hl,hdd,ha=>by
  have hev:Sd.ev ⟨env',H,gl⟩ (.tmp t)=some (.d (.bool b)):=by simp only[Sd.ev,ht,cond_true];exact hl
  cases dst with
  |none=>simp[jp3]at hc
  |some d=>
   simp only[jp3,Ab]at hc;obtain⟨⟨⟨⟨hk,hn⟩,hm⟩,hnd⟩,hc⟩:=hc;have hnd':d∉dead:=fun hd=>by rw[kv3.2 hd]at hnd;cases hnd
   have hadd:∀ u,∀ s v,look s env=some v->(s≠t'\/Vw rest=false)->look s ((d,u)::env')=some v:=fun u s v hs hor=>by
    have hsd:d≠s:=fun e=>by
     subst e;simp only[Bo,Ab]at hk;rcases hk with hk|hk
     ·exact mc8 hk v hs
     ·rcases hor with hor|hor
      ·exact hor (Bj hk.1)
      ·rw[hk.2]at hor;cases hor
    rw[j9,Af hsd];exact ha s v hs (.inr rfl)
   have hdead:∀ u,∀ s∈dead,Nat.blt s 100000=true/\look s ((d,u)::env')=some (.tup []):=fun u s hs=>by
    have hsd:d≠s:=fun e=>hnd' (by rw[e];exact hs);refine⟨(hdd s hs).1,?_⟩;rw[j9,Af hsd];exact(hdd s hs).2
   cases gd with
   |none=>
    simp only[Ab]at hc;obtain⟨hop,hc⟩:=hc;have fin:Swift E ⟨env',H,gl⟩ ⟨some d,op,ty,pos,af,none⟩ (.d (.bool b))/\jc0 ⟨some d,op,ty,pos,af,none⟩=false:=by
     split at hop
     ·rw[ka3 hop];exact⟨qf1 hev rfl,rfl⟩
     ·rw[ka3 hop];exact⟨jw3 hev rfl,rfl⟩
     ·simp only[Ab]at hop;rw[ka3 hop.1];cases b with
      |true=>rw[kk6 hop.2];exact⟨kt5 hev rfl rfl rfl,rfl⟩
      |false=>rw[kk6 hop.2];exact⟨kt6 hev rfl rfl rfl,rfl⟩
     ·cases hop
    refine jb6 fin.1 rfl (ltd hn) rfl fin.2 ?_;exact kk7 b env t' h rest d dead _ hc hm (by rw[j9,Ae rfl]) (hdead _) (hadd _)
   |some g=>
    obtain⟨j,want⟩:=g;simp only[Ab]at hc;obtain⟨⟨hg,hd⟩,hc⟩:=hc;have hdt:d≠t:=fun e=>by subst e;simp at hd
    refine qe7 rfl (ltd hn) ?_ ?_
    ·simp only[Sd.gd];cases hj:(nth ops.toList j).bind (·.dst) with
     |none=>rw[hj]at hg;cases hg
     |some g=>
      rw[hj]at hg;simp only[Bo,Ab]at hg;dsimp only;rcases hg with hg|⟨hg,hw⟩
      ·obtain⟨q1,q2⟩:=hdd g (kv3.1 hg);have:Sd.ev ⟨env',H,gl⟩ (.tmp g)=some (.tup []):=by simp only[Sd.ev,q1,cond_true];exact q2
       simp only[this]
      ·rw[Bj hg];simp only[hev];cases b<;>cases want<;>simp at hw ⊢
    ·refine kk7 b env t' h rest t (d::dead) _ hc ht (by rw[j9,Af hdt];exact hl) (fun s hs=>?_) (hadd _);rcases Bf.1 hs with rfl|hs
     ·exact⟨hm,by rw[j9,Ae rfl]⟩
     ·exact hdead _ s hs
 |.two ..,_,_,_,hc,_,_,_,_=>by simp[jp3]at hc
 |.mid ..,_,_,_,hc,_,_,_,_=>by simp[jp3]at hc
 |.or ..,_,_,_,hc,_,_,_,_=>by simp[jp3]at hc
 |.tail _,_,_,_,hc,_,_,_,_=>by simp[jp3]at hc
theorem rh4 (b:Bool)(t t':Nat){l:Todo}{env:List (Nat × V)}(h:TR E draw ops Q .nil ⟨(t',.d (.bool b))::env,H,gl⟩)(hl:look t env=some (.d (.bool b)):=by exact rfl)(hc:jp3 b ops E.C.nt env t' t [] l=true:=by kernel_rfl)(ht:Nat.blt t 100000=true:=by exact rfl):TR E draw ops Q l ⟨env,H,gl⟩:=
 kk7 b env t' h l t [] env hc ht hl (fun s hs=>by cases hs) fun _ _ h _=>h
end
end
section
section
variable {E:Set}{Q:Exit->Sd->Prop}{S:Sd}{ops:Array Oper}{ty:TypeId}{pos:String}{af:Array Edge}{gd:Option (Nat × Bool)}{dst:Option Tmp}{o:Oper}{v:V}{F:List Nat}{rest:List (Oper × TW)}
variable {env:List (Nat × V)}{H:List (Nat × Ob)}{gl:List (Nat × List D)}{d:Nat}
end
end
section
theorem Wk.refl (C:Ctx)(S:Sd):Wk C S S:=fun _ _ h=>h
theorem Dp {E:Set}{Q:Exit->Sd->Prop}{S S':Sd}{x y:Code}(h1:TC E x (Exit.Mq (fun S1=>Wk E.C S1 S') Q) S)(h2:TC E y Q S'):TC E (.seq x y) Q S:=
 Cb fun K hK=>mh1 h1 fun e S1 h=>match e,h with
  |.normal,h=>hK _ (rd3 h h2)
  |.ret,h=>h
  |.exit _,h=>h
  |.panic _,h=>h
  |.goto _,h=>h
  |.outgrown,h=>h
section
variable {E:Set}{S:Sd}{dst:Option Tmp}{ty:TypeId}{pos:String}{af:Array Edge}{gd:Option (Nat × Bool)}
end
end
section
section
variable {E:Set}{Q:Exit->Sd->Prop}{ops:Array Oper}{draw:Bool}{rest:Todo}{way:Kt}{ty:TypeId}{pos:String}{af:Array Edge}{gd:Option (Nat × Bool)}{dst:Option Tmp}
variable {env:List (Nat × V)}{H:List (Nat × Ob)}{gl:List (Nat × List D)}{d:Nat}
theorem ji5 {c:Code}(n m j:Nat){e sz sz':Nat}{cs:List V}(hl:look n H=some (.box cs))(hj:cs[j]? =some (.nils sz'))(hn:Sd.fresh ⟨env,H,gl⟩ m=true)(h:TC E c Q ⟨env,(n,.box (cs.set j (.own m 0)))::(m,.row e sz true [] 0)::H,gl⟩):TC E c Q ⟨env,H,gl⟩:=fun a w ⟨β,hB⟩=>by
 have hnm:m≠n:=by
  rintro rfl;have:=Sd.Mw hn;dsimp only at this;rw[hl]at this;cases this
 have h1:=hB.Xy (e:=e) (sz:=sz) hn;have hl2:look n ((m,Ob.row e sz true [] 0)::H)=some (.box cs):=by rw[j9,Af hnm];exact hl
 have hH:∀ q e' sz' sh' xs' k',look q ((n,Ob.box (cs.set j (.own m 0)))::(m,Ob.row e sz true [] 0)::H)=some (.row e' sz' sh' xs' k')->∃ sh' xs',look q ((m,Ob.row e sz true [] 0)::H)=some (.row e' sz' sh' xs' k'):=fun q e' sz' sh' xs' k' hm=>by
  rw[ja1]at hm;split at hm
  ·cases hm
  ·exact⟨sh',xs',hm⟩
 refine h a w ⟨_,h1.turn hl2 (fun _ _=>rfl) rfl rfl rfl (As _) (fun _ _ _=>rfl) (fun b h=>.inl h) (fun _ _ _ _ _ h=>h) (fun _ _ _ _ _=>trivial)
  (fun k t x v _=>Dw.keep k (fun _=>rfl) hH x v) (fun _=>rfl) (fun k m cs vs _ _=>Dc.keep k (fun _=>rfl) hH _ vs) (fun k=>?_)⟩
 obtain⟨b,vs,t,e1,e2,hL⟩:=h1.obs n _ hl2;have hr:=Dc.keep k (fun _=>rfl) hH _ _ hL;obtain⟨u,hu1,hu2⟩:=hr.get hj;have hu:u=.slice none 0 0:=hu2;subst hu;have hs:=hr.set j (x:=.own m 0) (v:=.slice none 0 0) (fun e' sz'' sh xs hl'=>by rw[mf0]);rw[show vs.set j (.slice none 0 0)=vs from by
  obtain⟨h3,h4⟩:=Bh.1 hu1;rw[<-h4];exact List.set_getElem_self h3]at hs
 exact⟨b,vs,t,e1,e2,hs⟩
end
end
section
section
variable {E:Set}{Q:Exit->Sd->Prop}{ops:Array Oper}{draw:Bool}{rest:Todo}
variable {env:List (Nat × V)}{H:List (Nat × Ob)}{gl:List (Nat × List D)}
theorem rh5 {C:Ctx}(ts:List Nat){env':List (Nat × V)}{H':List (Nat × Ob)}(hts:kk5 ts=true)(hk:Keep ts env env')(hh:Mc [] H H'):Wk C ⟨env,H,gl⟩ ⟨env',H',gl⟩:=fun a w ⟨β,hB⟩=>⟨β,hB.weak (fun t v hl=>hk.look (ka2 hts) hl) (fun n ob hl=>by
 have:=hh.look (n:=n) (by simp);dsimp only at hl ⊢;rw[<-this];exact hl) (fun _ _ h=>h) (fun n hn=>by
 have:=hh.look (n:=n) (by simp);dsimp only;rw[this];exact hB.has n hn)⟩
theorem Od (ts:List Nat){env':List (Nat × V)}{H':List (Nat × Ob)}(h:TR E draw ops Q rest ⟨env',H',gl⟩)(hts:kk5 ts=true:=by exact rfl)(hk:Keep ts env env':=by(repeat (first|exact Keep.nil _|apply Keep.drop rfl rfl|apply Keep.take rfl|apply Keep.ghost rfl));fail_if_success intros)(hh:Mc [] H H':=by(repeat (first|exact Mc.nil _|apply Mc.take rfl|apply Mc.drop rfl));fail_if_success intros):TR E draw ops Q rest ⟨env,H,gl⟩:=
 fun a w hS=>h a w (rh5 ts hts hk hh a w hS)
theorem ql1 {S S':Sd}(hw:Wk E.C S S')(h:TR E draw ops Q rest S'):TR E draw ops Q rest S:=fun a w hS=>h a w (hw a w hS)
inductive Drop {α:Type}(ts:List Nat):List (Nat × α)->List (Nat × α)->Prop
 |nil:Drop ts [] []
 |take {t:Nat} {v:α} {l r:List (Nat × α)} (h:Sg t ts=false) (k:Drop ts l r):Drop ts ((t,v)::l) ((t,v)::r)
 |drop {t:Nat} {v:α} {l r:List (Nat × α)} (h:Sg t ts=true) (k:Drop ts l r):Drop ts ((t,v)::l) r
theorem rh6 {c:Code}{ι:Type}(ts ns:List Nat)(ch:ι->List (Nat × V))(oh:ι->List (Nat × Ob))(P:ι->Prop)(m:ι->Nat)(i0:ι){env':List (Nat × V)}{H':List (Nat × Ob)}(hp:P i0)(_hd:Drop ts env env')(_hn:Drop ns H H')
 (h0:Wk E.C ⟨env,H,gl⟩ ⟨ch i0++env',oh i0++H',gl⟩) (round:∀ i,P i->TC E c (Exit.Mq (fun S'=>∃ j,P j/\m j<m i/\Wk E.C S' ⟨ch j++env',oh j++H',gl⟩) Q) ⟨ch i++env',oh i++H',gl⟩):TC E (.loop c) Q ⟨env,H,gl⟩:=
 jg6 (fun i=>⟨ch i++env',oh i++H',gl⟩) P m i0 hp h0 round
end
inductive Pures:List V->Prop
 |nil:Pures []
 |cons {v:V} {vs:List V} (h:Pure v) (t:Pures vs):Pures (v::vs)
theorem Pures.all {vs:List V}(h:Pures vs):∀ v∈vs,Pure v:=by
 induction h with
 |nil=>intro v hv;cases hv
 |cons h _ ih=>
  intro v hv;rcases Bf.1 hv with rfl|hv
  ·exact h
  ·exact ih v hv
section
variable {E:Set}{Q:Exit->Sd->Prop}{ops:Array Oper}{draw:Bool}{rest:Todo}{way:Kt}{ty:TypeId}{pos:String}{af:Array Edge}{gd:Option (Nat × Bool)}
variable {env:List (Nat × V)}{H:List (Nat × Ob)}{gl:List (Nat × List D)}{d:Nat}
theorem rh7 {f:Nat}{fx:Operand}{xs:List Operand}{ats:Array TypeId}{fs gs vs args:List V}{R:V->List (Nat × Ob)->Prop}[hf:TFun E.P f](hfx:Sd.ev ⟨env,H,gl⟩ fx=some (.clo (.func f) fs gs))(hof:Cw fx=true)(hx:Evs ⟨env,H,gl⟩ xs vs)(ha:La H (fs++vs++gs) args)
 (hc:FnE E.P gl f args [] R) (hp:Pures args) (hd:d<E.C.nt) (hg:Sd.gd ⟨env,H,gl⟩ ops ⟨some d,.call {callee:=.value fx,args:=xs.toArray,argTypes:=ats},ty,pos,af,gd⟩=some true) (hw:way.loud=true)
 (h:∀ v H1,R v H1->Ow ⟨env,H,gl⟩ [] H1=true/\TR E draw ops Q rest ⟨(d,v)::env,H1++H,gl⟩):TR E draw ops Q (.step ⟨some d,.call {callee:=.value fx,args:=xs.toArray,argTypes:=ats},ty,pos,af,gd⟩ way rest) ⟨env,H,gl⟩:=fun a w hS=>by
 have hS0:=hS;have key:∀ w1,Grows w w1->∀ K:Act->World->Prop,(∀ v H1 a2 w2,R v H1->Grows w1 w2->St E.C ⟨(d,v)::env,H1++H,gl⟩ a2 w2->K a2 w2)->(⟨some d,.call {callee:=.value fx,args:=xs.toArray,argTypes:=ats},ty,pos,af,gd⟩:Oper).wp E.P a w1 K (Qof E.C Q):=fun w1 g K hK=>by
  obtain⟨β,hB⟩:=hS.later g;obtain⟨fs',gs',h1,h2,h3⟩:=hB.ev hfx hof;unfold Oper.wp;rw[mc6 hf a h1 xs ats (some d) w1,Oper.upon_enter]
  let M:Nat->Nat->Prop:=fun b o=>E.C.M0 b o\/∃ m ob,look m H=some ob/\look m ([]:List (Nat × Ob))=none/\own (β m) ob b/\ob.mut o
  have hMut:Mut M β []=Mut E.C.M0 β H:=by
   funext b o;apply propext;constructor
   ·rintro((hm|⟨m,ob,q1,_,q2,q3⟩)|⟨n,ob,q1,q2,q3⟩)
    ·exact .inl hm
    ·exact .inr ⟨m,ob,q1,q2,q3⟩
    ·cases q1
   ·rintro(hm|⟨n,ob,q1,q2,q3⟩)
    ·exact .inl (.inl hm)
    ·exact .inl (.inr ⟨n,ob,q1,rfl,q2,q3⟩)
  have hargs:=ha.rep hB (Dc.app (Dc.app h2 (hx.rep hB)) h3);refine(hc w1 M β _ ?_ ?_ ⟨(fun n ob hl=>by cases hl),(fun n m b ob ob' hne q1 q2=>by cases q1),(fun n ob b o hl hb' hm=>by cases hl)⟩ ?_).mono ?_
  ·rintro b o (hm|⟨m,ob,q1,_,q2,_⟩)
   ·have:=hB.low b o hm;have:=hB.frame.size;omega
   ·exact hB.old q1 q2
  ·rw[hMut];exact Dc.pure (fun v hv u hu=>(hp.all v hv).keep (Keeps.refl _ _) u hu) hargs
  ·rw[hMut];exact hB.glob
  ·rintro e w' ⟨v,x,H1,β1,hR,hok,rfl,hfr,hβ,hnew,ho,hv⟩;obtain⟨hf',_⟩:=h v H1 hR;obtain⟨β',hB',hv'⟩:=hB.called (H0:=[]) (fun n ob hl=>by cases hl) rfl rfl hok hfr hβ hnew ho hf' hv;refine hK v H1 _ _ hR ?_ ⟨β',hB'.put hd hv'⟩;have e0:mc3 β []=[]:=rfl;rw[e0]at hfr;exact hfr.below
 cases draw with
 |true=>
  dsimp only;cases way with
  |pure=>cases hw
  |quiet=>cases hw
  |grow=>
   simp only[x9];intro n;rw[Sd.Gw hS0 hg,Ae rfl];exact key n.w n.grows _ fun v H1 a2 w2 hr g2 hs2=>⟨g2,(h v H1 hr).2 _ _ hs2⟩
  |bar=>
   simp only[x9];intro n;rw[Sd.Gw hS0 hg,Ae rfl];exact key n.w n.grows _ fun v H1 a2 w2 hr g2 hs2=>(h v H1 hr).2 _ _ hs2
 |false=>exact ja2 hS0 hg rfl fun K hK=>key w (Grows.refl w) K fun v H1 a2 w2 hr _ hs2=>hK _ _ ((h v H1 hr).2 _ _ hs2)
end
end
end Go.Proofs.YtdopmfifmgkmoaaGreatDoor
