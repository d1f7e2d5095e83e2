/- Parts: D12, D13, D14, D15. -/
import Derived.Test.YtklklgfpkpglgaaGreatDoorP6
import Derived.Laws.BytesArg
set_option linter.all false
set_option maxRecDepth 100000
set_option maxHeartbeats 16000000
namespace Go.Proofs.YtklklgfpkpglgaaGreatDoor
open Go.RowKit
section
inductive Elems (S:Sd)(sz:Nat):Nat->List (Nat × Operand)->List D->Prop
 |nil (i:Nat):Elems S sz i [] []
 |cons {i:Nat} {x:Operand} {v:V} {d:D} {cs:List D} {ps:List (Nat × Operand)} {ds:List D} (hx:S.ev x=some v) (ho:Cn x=true) (hd:ToD S.H v d) (hc:Gg d cs) (hm:cs.length=sz) (h:Elems S sz (i+1) ps ds):Elems S sz i ((i,x)::ps) (d::ds)
theorem Elems.rep {C:Ctx}{β:Nat->Hd}{S:Sd}{a:Act}{w:World}(h:StB C β S a w){sz i:Nat}{ps:List (Nat × Operand)}{ds:List D}(he:Elems S sz i ps ds):
 ∃ us:List Value,ps.map (fun x=>(x.1,a.eval x.2))=(us.zipIdx i).map (fun x=>(x.2,x.1))/\us.length=ds.length/\(∀ u∈us,u.cells.size=sz)/\Gn w (Mut C.M0 β S.H) sz ds (us.flatMap fun v=>v.cells.toList):=by
 induction he with
 |nil i=>exact⟨[],rfl,rfl,(fun u hu=>by cases hu),rfl⟩
 |@cons i x v d cs ps ds hx ho hd hc hm _ ih=>
  obtain⟨us,h1,h2,h3,h4⟩:=ih;have h5:=hd.rep h (h.ev hx ho);have h6:=(hc.rep h5).length;have h7:(a.eval x).cells.size=sz:=by simp at h6;omega
  refine⟨a.eval x::us,?_,by simp[h2],fun u hu=>?_,a.eval x,_,by simp,h7,h5,h4⟩
  ·simp only[Aq,h1,List.zipIdx_cons]
  ·rcases Bc.1 hu with rfl|hu
   ·exact h7
   ·exact h3 u hu
theorem StB.newRow {C:Ctx}{β:Nat->Hd}{S:Sd}{a:Act}{w w':World}(h:StB C β S a w){n e sz:Nat}{sh:Bool}{xs:List D}(hn:S.fresh n=true)(g:Grows w w'){v:Value}{ys:List Value}(hv:∀ b,v.ownBlock=some b->w.heap.size<=b)(hown:w'.ownsRow 0 e sz v xs.length ys)
 (hr:Gn w (Mut C.M0 β S.H) sz xs ys):StB C (upd β n v) {S with H:=(n,.row e sz sh xs 0)::S.H} a w':=
 h.newObj hn v g (fun b hb'=>hv b (by rw[<-qh5 hown];exact hb')) _ fun k=>⟨ys,hown,Gn.keep k _ _ _ hr⟩
section
variable {E:Set}{Q:Exit->Sd->Prop}{S:Sd}{ops:Array Oper}{draw:Bool}{rest:Todo}{way:Jh}{ty:TypeId}{pos:String}{af:Array Edge}{gd:Option (Nat × Bool)}
theorem jt5 {w:World}{M:Nat->Nat->Prop}{β:Nat->Hd}{H:List (Nat × Ob)}{n:Nat}{v:Value}{k:Nat}:Dp w M (upd β n v) H (.own n k) v:=fun _ _ _ _ _=>(jx0 β n v).symm
theorem vf5 {d n t e sz len:Nat}{ps:List (Nat × Operand)}{xs:List D}[ht:TSlice E.P t e sz](hp:Elems S sz 0 ps xs)(hlen:xs.length=len)(hsmall:len * sz<=16777216)(hn:S.fresh n=true):
 Grow E S ⟨some d,.buildSlice t len ps.toArray,ty,pos,af,gd⟩ {S with H:=(n,.row e sz true xs 0)::S.H} (.own n 0):=Grow.mk fun β a w h=>by
 obtain⟨bytes,⟨i,z,hu,hi,hz,hs,hby,hzs,hpos⟩,_⟩:=jg4 ht;obtain⟨us,h1,h2,h3,h4⟩:=hp.rep h;have hfl:(us.flatMap fun v=>v.cells.toList).length=len * sz:=by rw[h4.length,hlen]
 have hown:=ku0 w (us.flatMap fun v=>v.cells.toList) e len sz 0 hfl (by unfold maxLen;have:=Nat.le_mul_of_pos_right len hpos;omega) (Ai _);have hst:∀ w',w'=w.alloc (.cells (us.flatMap fun v=>v.cells.toList).toArray e)->StB E.C (upd β n (.slice (some ⟨w.heap.size,0,none⟩) len len)) {S with H:=(n,.row e sz true xs 0)::S.H} a w':=fun w' e'=>by
  subst e';refine h.newRow hn (Grows.alloc w _) (fun b hb'=>?_) (by rw[hlen];exact hown) h4;simp only[Value.ownBlock,Bf]at hb';omega
 refine⟨.slice (some ⟨w.heap.size,0,none⟩) len len,_,_,?_,Grows.alloc w _,hst _ rfl,jt5⟩;have hparts:(ps.toArray.map fun x=>(x.1,a.eval x.2)).toList=(us.zipIdx 0).map (fun x=>(x.2,x.1)):=by simp[<-h1]
 by_cases h0:len=0
 ·subst h0;have hus:us=[]:=Ar (by rw[h2,hlen]);subst hus;simp only[List.zipIdx_nil,Ax]at hparts;have hps:ps=[]:=by simpa using hparts
  subst hps;have e0:Array.range 0=#[]:=Array.eq_empty_of_size_eq_zero (by simp);simp[execOp,Instr.buildSlice,run_underlying hu,jb8 hi,Instr.fill,newRow,e0]
 ·have hne:¬len * i.size=0:=by rw[hs];exact Nat.mul_ne_zero h0 (by omega)
  have hf:=Go.Great.fill_whole (s:=sz) hpos us ((Array.range (len * sz)).map (z.cells[·% z.cells.size]!)) h3 (by simp;rw[h2,hlen]);have hr:=run_buildSlice (P:=E.P) w t e len (ps.toArray.map fun x=>(x.1,a.eval x.2)) _ i z hu hi hz (by rw[hs];omega) hne (by rw[hs,hparts];exact hf);simp only[execOp,Sem.run_bind,hr,Result.andThen_ok,Sem.run_pure]
structure Vt (E:Set)(S:Sd)(o:Oper)(S':Nat->Sd)(v:Nat->V):Prop where
 out:∀ β a w,StB E.C β S a w->∃ x w' β' k,(execOp a.eval o).run E.P w=.ok (.value x) w'/\StB E.C β' (S' k) a w'/\Dp w' (Mut E.C.M0 β' (S' k).H) β' (S' k).H (v k) x
theorem rd5 {o:Oper}{d:Nat}{S':Nat->Sd}{v:Nat->V}(hq:Vt E S o S' v)(hdst:o.dst=some d)(hd:d<E.C.nt)(hg:S.gd ops o=some true)(hdf:p9 o=false)(hw:Js draw way=true)(h:∀ k,TR E draw ops Q rest ((S' k).put d (v k))):TR E draw ops Q (.step o way rest) S:=fun a w hS=>by
 have hS0:=hS;have key:∀ w1,Grows w w1->∀ K:Act->World->Prop,(∀ k a2 w2,St E.C ((S' k).put d (v k)) a2 w2->K a2 w2)->o.wp E.P a w1 K (Qof E.C Q):=fun w1 g K hK=>by
  obtain⟨β,hB⟩:=hS.later g;obtain⟨x,w',β',k,h1,h2,h3⟩:=hq.out β a w1 hB;refine n9 h1 (hK k _ _ ?_);rw[hdst];exact⟨β',h2.put hd h3⟩
 cases draw with
 |true=>
  dsimp only;cases way with
  |pure=>cases hw
  |quiet=>cases hw
  |grow=>cases hw
  |bar=>
   simp only[r9];intro n;rw[Sd.Fy hS0 hg,Ad rfl];exact key n.w n.grows _ fun k a2 w2 hs2=>h k _ _ hs2
 |false=>exact y4 hS0 hg hdf fun K hK=>key w (Grows.refl w) K fun k a2 w2 hs2=>hK _ _ (h k _ _ hs2)
theorem ka3 {P:Program}{a:Act}{s x:Operand}{t:TypeId}{dst:Option Tmp}{w w':World}{v:Value}(h:(Builtin.append_ #[t,t] ty #[a.eval s,a.eval x]).run P w=.ok v w'):
 (execOp a.eval ⟨dst,.call {callee:=.builtin .append,args:=#[s,x],argTypes:=#[t,t]},ty,pos,af,gd⟩).run P w=.ok (.value v) w':=by
 simp[execOp,resolve,invoke,builtin,h]
theorem rd6 {d t e sz n k:Nat}{sh:Bool}{s x:Operand}{v:V}{xs ys:List D}[ht:TSlice E.P t e sz](hs:S.ev s=some (.own n k))(hos:Cn s=true)(hl:look n S.H=some (.row e sz sh xs k))(hx:S.ev x=some v)(hox:Cn x=true)(hy:ToD S.H v (.list sz ys))(hlen:xs.length+ys.length<=100000000000)(hN:E.C.N.contains n=false):
 Vt E S ⟨some d,.call {callee:=.builtin .append,args:=#[s,x],argTypes:=#[t,t]},ty,pos,af,gd⟩ (fun k'=>{S with H:=(n,.row e sz sh (xs++ys) k')::S.H}) (fun k'=>.own n k'):=Vt.mk fun β a w h=>by
 obtain⟨bytes,he,hby⟩:=jg4 ht;have h1:a.eval s=(β n).v:=h.ev hs hos e sz sh xs hl;obtain⟨olds,h2,h3⟩:=h.obs n _ hl;obtain⟨xa,xc,news,h4,h5,h6,h7,h8,h9⟩:=hy.rep h (h.ev hx hox);obtain⟨v',w',h10,h11,h12⟩:=qh4 (P:=E.P) (ty:=ty) w he h2 (xa:=xa) (m:=ys.length) (xc:=xc) (news:=news) h8.length (fun j u hu=>by
  obtain⟨b,o,e1,_,e2⟩:=h9 j u hu;exact⟨b,o,e1,e2⟩) h7 h5 h8.one hlen hby
 refine⟨v',w',_,max (rf8 S.env) (rf9 S.H),ka3 (by rw[h1,h4];exact h10),h.append hl h2 h3 h8 h11 h12 _ (Au _) hN,jt5⟩
theorem rd7 {d n t e sz sz':Nat}{s x:Operand}{v:V}{ys:List D}[ht:TSlice E.P t e sz](hs:S.ev s=some (.nils sz'))(hos:Cn s=true)(hx:S.ev x=some v)(hox:Cn x=true)(hy:ToD S.H v (.list sz ys))(hlen:ys.length<=100000000000)(hn:S.fresh n=true):
 Grow E S ⟨some d,.call {callee:=.builtin .append,args:=#[s,x],argTypes:=#[t,t]},ty,pos,af,gd⟩ {S with H:=(n,.row e sz true ys 0)::S.H} (.own n 0):=Grow.mk fun β a w h=>by
 obtain⟨bytes,he,hby⟩:=jg4 ht;have h1:a.eval s=.slice none 0 0:=h.ev hs hos;obtain⟨xa,xc,news,h4,h5,h6,h7,h8,h9⟩:=hy.rep h (h.ev hx hox);obtain⟨v',w',h10,h11,h12⟩:=qh4 (P:=E.P) (ty:=ty) w he (World.ownsRow_nil w 0 e sz) (xa:=xa) (m:=ys.length) (xc:=xc) (news:=news) h8.length (fun j u hu=>by
  obtain⟨b,o,e1,_,e2⟩:=h9 j u hu;exact⟨b,o,e1,e2⟩) h7 h5 h8.one (by omega) hby
 rw[Es,Af]at h11;have hg:Grows w w'/\∀ b,v'.ownBlock=some b->w.heap.size<=b:=by
  rcases h12 with ⟨h13,h14⟩|⟨h13,h14⟩
  ·exact⟨(Below.refl _ _).grown h14 (Au _) (fun k hk=>by cases hk),fun b hb'=>by rw[h13]at hb';cases hb'⟩
  ·exact⟨(Below.refl _ _).grown h14 (Au _) (fun k hk=>by cases hk),h13⟩
 exact⟨v',w',upd β n v',ka3 (by rw[h1,h4];exact h10),hg.1,h.newRow hn hg.1 hg.2 h11 h8,jt5⟩
theorem StB.Uv {C:Ctx}{β:Nat->Hd}{a:Act}{w:World}(h:StB C β S a w){n e sz:Nat}(hn:S.fresh n=true):StB C (upd β n (.slice none 0 0)) {S with H:=(n,.row e sz true [] 0)::S.H} a w:=
 h.newRow hn (Grows.refl w) (fun b hb'=>by cases hb') (World.ownsRow_nil w 0 e sz) rfl
end
end
section
section
variable {E:Set}{Q:Exit->Sd->Prop}{ops:Array Oper}{draw:Bool}{rest:Todo}{way:Jh}{ty:TypeId}{pos:String}{af:Array Edge}{gd:Option (Nat × Bool)}{dst:Option Tmp}
variable {env:List (Nat × V)}{H:List (Nat × Ob)}{gl:List (Nat × List D)}{d:Nat}
theorem s_p {v:V}{o:Oper}(hq:Swift E ⟨env,H,gl⟩ o v)(hdst:o.dst=some d)(hd:d<E.C.nt)(hg:Sd.gd ⟨env,H,gl⟩ ops o=some true)(hdf:p9 o=false)(h:TR E draw ops Q rest ⟨(d,v)::env,H,gl⟩):TR E draw ops Q (.step o way rest) ⟨env,H,gl⟩:=
 jc9 hq hdst hd hg hdf h
theorem s_q {v:V}{o:Oper}(hq:Quiet E ⟨env,H,gl⟩ o v)(hdst:o.dst=some d)(hd:d<E.C.nt)(hg:Sd.gd ⟨env,H,gl⟩ ops o=some true)(hdf:p9 o=false)(hw:way.known=false)(h:TR E draw ops Q rest ⟨(d,v)::env,H,gl⟩):TR E draw ops Q (.step o way rest) ⟨env,H,gl⟩:=
 jl9 hq hdst hd hg hdf hw h
theorem va6 {o:Oper}(hdst:o.dst=some d)(hd:d<E.C.nt)(hg:Sd.gd ⟨env,H,gl⟩ ops o=some false)(h:TR E draw ops Q rest ⟨(d,.tup [])::env,H,gl⟩):TR E draw ops Q (.step o way rest) ⟨env,H,gl⟩:=qm3 hdst hd hg h
theorem rs2 (n:Nat){t:Nat}{vs:List V}[ht:TZero E.P t vs](hn:Sd.fresh ⟨env,H,gl⟩ n=true)(hs:Jk n vs=false)(hd:d<E.C.nt)(hg:Sd.gd ⟨env,H,gl⟩ ops ⟨some d,.alloc t,ty,pos,af,gd⟩=some true)(hw:way.loud=true)
 (h:TR E draw ops Q rest ⟨(d,.ptr n 0)::env,(n,.box vs)::H,gl⟩):TR E draw ops Q (.step ⟨some d,.alloc t,ty,pos,af,gd⟩ way rest) ⟨env,H,gl⟩:=jo7 (rr7 hn hs) rfl hd hg rfl hw h
theorem vf6 (n:Nat){t:Nat}{x:Operand}{v:V}{vs:List V}(hx:Sd.ev ⟨env,H,gl⟩ x=some v)(hox:Cn x=true)(hown:Pm ⟨env,H,gl⟩ v=true)(hc:Iq v vs)(hn:Sd.fresh ⟨env,H,gl⟩ n=true)(hs:Jk n vs=false)(hd:d<E.C.nt)
 (hg:Sd.gd ⟨env,H,gl⟩ ops ⟨some d,.box t x,ty,pos,af,gd⟩=some true) (hw:way.loud=true)
 (h:TR E draw ops Q rest ⟨(d,.ptr n 0)::env,(n,.box vs)::H,gl⟩):TR E draw ops Q (.step ⟨some d,.box t x,ty,pos,af,gd⟩ way rest) ⟨env,H,gl⟩:=jo7 (vf4 hx hox hown hc hn hs) rfl hd hg rfl hw h
theorem rs3 {t n off m:Nat}{x y:Operand}{v:V}{vs cs cs':List V}[ht:TSize E.P t m](hx:Sd.ev ⟨env,H,gl⟩ x=some (.ptr n off))(hox:Cn x=true)(hy:Sd.ev ⟨env,H,gl⟩ y=some v)(hoy:Cn y=true)(hown:Pm ⟨env,H,gl⟩ v=true)
 (hl:look n H=some (.box cs)) (hc:Iq v vs) (hm:vs.length=m) (hr:Repl cs off vs cs') (hg:Sd.gd ⟨env,H,gl⟩ ops ⟨none,.store t x y,ty,pos,af,gd⟩=some true) (hw:Js draw way=true)
 (h:TR E draw ops Q rest ⟨env,(n,.box cs')::H,gl⟩):TR E draw ops Q (.step ⟨none,.store t x y,ty,pos,af,gd⟩ way rest) ⟨env,H,gl⟩:=km8 (rr8 hx hox hy hoy hown hl hc hm hr) rfl hg rfl hw h
theorem vf7 (n:Nat){t e sz len:Nat}{ps:List (Nat × Operand)}{xs:List D}[ht:TSlice E.P t e sz](hp:Elems ⟨env,H,gl⟩ sz 0 ps xs)(hlen:xs.length=len)(hsmall:len * sz<=16777216)(hn:Sd.fresh ⟨env,H,gl⟩ n=true)(hd:d<E.C.nt)
 (hg:Sd.gd ⟨env,H,gl⟩ ops ⟨some d,.buildSlice t len ps.toArray,ty,pos,af,gd⟩=some true) (hw:way.loud=true)
 (h:TR E draw ops Q rest ⟨(d,.own n 0)::env,(n,.row e sz true xs 0)::H,gl⟩):TR E draw ops Q (.step ⟨some d,.buildSlice t len ps.toArray,ty,pos,af,gd⟩ way rest) ⟨env,H,gl⟩:=jo7 (vf5 hp hlen hsmall hn) rfl hd hg rfl hw h
theorem rd8 {t e sz n k:Nat}{sh:Bool}{s x:Operand}{v:V}{xs ys:List D}[ht:TSlice E.P t e sz](hs:Sd.ev ⟨env,H,gl⟩ s=some (.own n k))(hos:Cn s=true)(hl:look n H=some (.row e sz sh xs k))(hx:Sd.ev ⟨env,H,gl⟩ x=some v)(hox:Cn x=true)(hy:ToD H v (.list sz ys))
 (hlen:xs.length+ys.length<=100000000000) (hN:E.C.N.contains n=false) (hd:d<E.C.nt) (hg:Sd.gd ⟨env,H,gl⟩ ops ⟨some d,.call {callee:=.builtin .append,args:=#[s,x],argTypes:=#[t,t]},ty,pos,af,gd⟩=some true) (hw:Js draw way=true)
 (h:∀ k',TR E draw ops Q rest ⟨(d,.own n k')::env,(n,.row e sz sh (xs++ys) k')::H,gl⟩):TR E draw ops Q (.step ⟨some d,.call {callee:=.builtin .append,args:=#[s,x],argTypes:=#[t,t]},ty,pos,af,gd⟩ way rest) ⟨env,H,gl⟩:=
 rd5 (rd6 hs hos hl hx hox hy hlen hN (d:=d)) rfl hd hg rfl hw h
theorem qs0 (n:Nat){t e sz sz':Nat}{s x:Operand}{v:V}{ys:List D}[ht:TSlice E.P t e sz](hs:Sd.ev ⟨env,H,gl⟩ s=some (.nils sz'))(hos:Cn s=true)(hx:Sd.ev ⟨env,H,gl⟩ x=some v)(hox:Cn x=true)(hy:ToD H v (.list sz ys))(hlen:ys.length<=100000000000)(hn:Sd.fresh ⟨env,H,gl⟩ n=true)
 (hd:d<E.C.nt) (hg:Sd.gd ⟨env,H,gl⟩ ops ⟨some d,.call {callee:=.builtin .append,args:=#[s,x],argTypes:=#[t,t]},ty,pos,af,gd⟩=some true) (hw:way.loud=true)
 (h:TR E draw ops Q rest ⟨(d,.own n 0)::env,(n,.row e sz true ys 0)::H,gl⟩):TR E draw ops Q (.step ⟨some d,.call {callee:=.builtin .append,args:=#[s,x],argTypes:=#[t,t]},ty,pos,af,gd⟩ way rest) ⟨env,H,gl⟩:=
 jo7 (rd7 hs hos hx hox hy hlen hn (d:=d)) rfl hd hg rfl hw h
theorem va7 {f:Nat}{xs:List Operand}{ats:Array TypeId}{vs vs':List V}{R:V->Prop}[hf:TFun E.P f](hx:Evs ⟨env,H,gl⟩ xs vs)(ha:Args H vs vs')(hc:FnD E.P gl f vs' R)(hd:d<E.C.nt)
 (hg:Sd.gd ⟨env,H,gl⟩ ops ⟨some d,.call {callee:=.value (.func f),args:=xs.toArray,argTypes:=ats},ty,pos,af,gd⟩=some true) (hw:way.loud=true)
 (h:∀ v,R v->TR E draw ops Q rest ⟨(d,v)::env,H,gl⟩):TR E draw ops Q (.step ⟨some d,.call {callee:=.value (.func f),args:=xs.toArray,argTypes:=ats},ty,pos,af,gd⟩ way rest) ⟨env,H,gl⟩:=
 rs0 hx ha hc hd rfl hg hw h
theorem vf8 {op:BinOp}{xt yt:TypeId}{x y:Operand}{k:IntKind}{p q:Int}(hop:Ql op=true)(hx:Sd.ev ⟨env,H,gl⟩ x=some (.d (.int k p)))(hy:Sd.ev ⟨env,H,gl⟩ y=some (.d (.int k q)))(hox:Cn x=true)(hoy:Cn y=true)(hd:d<E.C.nt)
 (hg:Sd.gd ⟨env,H,gl⟩ ops ⟨some d,.binOp op xt x y yt,ty,pos,af,gd⟩=some true) (h1:cmp op p q->TR E draw ops Q rest ⟨(d,.d (.bool true))::env,H,gl⟩) (h2:¬cmp op p q->TR E draw ops Q rest ⟨(d,.d (.bool false))::env,H,gl⟩):
 TR E draw ops Q (.step ⟨some d,.binOp op xt x y yt,ty,pos,af,gd⟩ way rest) ⟨env,H,gl⟩:=va5 hop hx hy hox hoy hd rfl hg h1 h2
theorem rd9 {xt yt:TypeId}{x y:Operand}{s t:ByteArray}(hx:Sd.ev ⟨env,H,gl⟩ x=some (.d (.str s)))(hy:Sd.ev ⟨env,H,gl⟩ y=some (.d (.str t)))(hox:Cn x=true)(hoy:Cn y=true)(hd:d<E.C.nt)
 (hg:Sd.gd ⟨env,H,gl⟩ ops ⟨some d,.binOp .eql xt x y yt,ty,pos,af,gd⟩=some true) (h1:s=t->TR E draw ops Q rest ⟨(d,.d (.bool true))::env,H,gl⟩) (h2:¬s=t->TR E draw ops Q rest ⟨(d,.d (.bool false))::env,H,gl⟩):
 TR E draw ops Q (.step ⟨some d,.binOp .eql xt x y yt,ty,pos,af,gd⟩ way rest) ⟨env,H,gl⟩:=by
 by_cases h:s=t
 ·exact jc9 (mi6 hx hy hox hoy (b:=true) (propext ⟨fun _=>h,fun _=>rfl⟩)) rfl hd hg rfl (h1 h)
 ·exact jc9 (mi6 hx hy hox hoy (b:=false) (propext ⟨(fun h'=>by cases h'),fun h'=>absurd h' h⟩)) rfl hd hg rfl (h2 h)
theorem re0 {S:Sd}{b:Bool}:Swift E S ⟨dst,.assign (.const (.bool b)),ty,pos,af,gd⟩ (.d (.bool b)):=ka1 rfl rfl
theorem rs4 {S:Sd}{k:IntKind}{n:Int}:Swift E S ⟨dst,.assign (.const (.int k n)),ty,pos,af,gd⟩ (.d (.int k n)):=ka1 rfl rfl
theorem rs5 {S:Sd}{s:ByteArray}:Swift E S ⟨dst,.assign (.const (.string s)),ty,pos,af,gd⟩ (.d (.str s)):=ka1 rfl rfl
theorem rs6 {S:Sd}{k:IntKind}{n:Int}:Swift E S ⟨dst,.move (.const (.int k n)),ty,pos,af,gd⟩ (.d (.int k n)):=qq5 rfl rfl
theorem vf9 {S:Sd}{c y:Operand}{b:Bool}(hc:S.ev c=some (.d (.bool true)))(hk:Cn c=true):Swift E S ⟨dst,.pick c (.const (.bool b)) y,ty,pos,af,gd⟩ (.d (.bool b)):=ma4 hc hk rfl rfl
theorem vg0 {S:Sd}{c x:Operand}{b:Bool}(hc:S.ev c=some (.d (.bool false)))(hk:Cn c=true):Swift E S ⟨dst,.pick c x (.const (.bool b)),ty,pos,af,gd⟩ (.d (.bool b)):=ma5 hc hk rfl rfl
theorem rs7 {S:Sd}{xt:TypeId}{x:Operand}(hx:S.ev x=some (.d (.bool true)))(hox:Cn x=true):Swift E S ⟨dst,.unOp .not xt x,ty,pos,af,gd⟩ (.d (.bool false)):=rr4 hx hox
theorem rs8 {S:Sd}{xt:TypeId}{x:Operand}(hx:S.ev x=some (.d (.bool false)))(hox:Cn x=true):Swift E S ⟨dst,.unOp .not xt x,ty,pos,af,gd⟩ (.d (.bool true)):=rr4 hx hox
theorem vi1 {rest:Todo}{b:Bool}(h1:b=true->TR E draw ops Q rest ⟨(d,.d (.bool true))::env,H,gl⟩)(h2:b=false->TR E draw ops Q rest ⟨(d,.d (.bool false))::env,H,gl⟩):TR E draw ops Q rest ⟨(d,.d (.bool b))::env,H,gl⟩:=by
 cases b
 ·exact h2 rfl
 ·exact h1 rfl
theorem re1 {xt yt:TypeId}{x y:Operand}{s t:ByteArray}(hx:Sd.ev ⟨env,H,gl⟩ x=some (.d (.str s)))(hy:Sd.ev ⟨env,H,gl⟩ y=some (.d (.str t)))(hox:Cn x=true)(hoy:Cn y=true)(hd:d<E.C.nt)
 (hg:Sd.gd ⟨env,H,gl⟩ ops ⟨some d,.binOp .neq xt x y yt,ty,pos,af,gd⟩=some true) (h1:s=t->TR E draw ops Q rest ⟨(d,.d (.bool false))::env,H,gl⟩) (h2:¬s=t->TR E draw ops Q rest ⟨(d,.d (.bool true))::env,H,gl⟩):
 TR E draw ops Q (.step ⟨some d,.binOp .neq xt x y yt,ty,pos,af,gd⟩ way rest) ⟨env,H,gl⟩:=by
 by_cases h:s=t
 ·exact jc9 (mi7 hx hy hox hoy (b:=false) (propext ⟨(fun h'=>by cases h'),fun h'=>absurd h h'⟩)) rfl hd hg rfl (h1 h)
 ·exact jc9 (mi7 hx hy hox hoy (b:=true) (propext ⟨fun _=>h,fun _=>rfl⟩)) rfl hd hg rfl (h2 h)
theorem kp2 {α:Type}{l:List α}{f:α->D}{k:Nat}(h:k<l.length):(l.map f)[k]? =some (f l[k]):=by simp[h]
theorem ka4 {α:Type}{l:List α}{k:Nat}(h:k<l.length):l[k]? =some l[k]:=by simp[h]
theorem rs9 {P:Program}{S:Sd}{rs:List ResultVar}{R:V->Prop}{vs:List V}(h:Res P S rs vs)(hr:R (oneOf vs)):Ends P rs R .ret S:=⟨.inl rfl,vs,h,hr⟩
theorem qs1 {S:Sd}{c:Operand}{x y:Code}(hc:S.ev c=some (.d (.bool true)))(ho:Cn c=true)(ht:TC E x Q S):TC E (.cond c x y) Q S:=qm2 hc ho (fun _=>ht) (fun h=>by cases h)
theorem qs2 {S:Sd}{c:Operand}{x y:Code}(hc:S.ev c=some (.d (.bool false)))(ho:Cn c=true)(ht:TC E y Q S):TC E (.cond c x y) Q S:=qm2 hc ho (fun h=>by cases h) (fun _=>ht)
end
end
section
def jw3 (P:Program)(rec:TypeId->Option (List Nat)):Nat->List Field->Option (List Nat)
 |_,[]=>some []
 |off,f::fs=>if f.name == "_" || f.offset != off then none else match rec f.type,P.info? f.type with
  |some l,some i=>if i.size == l.length then (jw3 P rec (off+l.length) fs).map (l++·) else none
  |_,_=>none
def leaves (P:Program):Nat->TypeId->Option (List Nat)
 |0,_=>none
 |d+1,t=>match P.underlying t with
  |some .bool=>some [0]
  |some (.int _)=>some [1]
  |some .string=>some [2]
  |some (.struct fs)=>if P.stoodInHeld t then none else jw3 P (leaves P d) 0 fs.toList
  |_=>none
def va8 (P:Program)(t:Nat)(ls:List Nat):Bool:=(match P.underlying t with|some (.struct _)=>true|_=>false) && leaves P 8 t == some ls && !P.eqGuardType P.depth t
class TEq (P:Program)(t:Nat)(ls:outParam (List Nat)):Prop where
 ok:va8 P t ls=true
inductive EqC:List Nat->List D->List D->Prop->Prop
 |nil:EqC [] [] [] True
 |bool {a b:Bool} {ls:List Nat} {ds es:List D} {p:Prop} (h:EqC ls ds es p):EqC (0::ls) (.bool a::ds) (.bool b::es) (a=b/\p)
 |int {k:IntKind} {a b:Int} {ls:List Nat} {ds es:List D} {p:Prop} (h:EqC ls ds es p):EqC (1::ls) (.int k a::ds) (.int k b::es) (a=b/\p)
 |str {a b:ByteArray} {ls:List Nat} {ds es:List D} {p:Prop} (h:EqC ls ds es p):EqC (2::ls) (.str a::ds) (.str b::es) (a=b/\p)
def Gv:D->Value
 |.int k n=>.int k n
 |.bool b=>.bool b
 |.str s=>.string s
 |_=>undef
theorem EqC.rep {ls:List Nat}{ds es:List D}{p:Prop}(h:EqC ls ds es p){w:World}{M:Nat->Nat->Prop}:(∀ us,Gc w M ds us->us=ds.map Gv)/\(∀ us,Gc w M es us->us=es.map Gv):=by
 induction h with
 |nil=>exact⟨fun us h=>h,fun us h=>h⟩
 |bool _ ih=>exact⟨fun us h=>by obtain⟨v,r,rfl,_,h2,h3⟩:=h;simp only[Gw]at h2;subst h2;rw[ih.1 r h3];rfl,fun us h=>by obtain⟨v,r,rfl,_,h2,h3⟩:=h;simp only[Gw]at h2;subst h2;rw[ih.2 r h3];rfl⟩
 |int _ ih=>exact⟨fun us h=>by obtain⟨v,r,rfl,_,h2,h3⟩:=h;simp only[Gw]at h2;subst h2;rw[ih.1 r h3];rfl,fun us h=>by obtain⟨v,r,rfl,_,h2,h3⟩:=h;simp only[Gw]at h2;subst h2;rw[ih.2 r h3];rfl⟩
 |str _ ih=>exact⟨fun us h=>by obtain⟨v,r,rfl,_,h2,h3⟩:=h;simp only[Gw]at h2;subst h2;rw[ih.1 r h3];rfl,fun us h=>by obtain⟨v,r,rfl,_,h2,h3⟩:=h;simp only[Gw]at h2;subst h2;rw[ih.2 r h3];rfl⟩
theorem EqC.length {ls:List Nat}{ds es:List D}{p:Prop}(h:EqC ls ds es p):ds.length=ls.length/\es.length=ls.length:=by
 induction h with
 |nil=>exact⟨rfl,rfl⟩
 |bool _ ih=>simp[ih.1,ih.2]
 |int _ ih=>simp[ih.1,ih.2]
 |str _ ih=>simp[ih.1,ih.2]
theorem EqC.inv0 {ds es:List D}{p:Prop}(h:EqC [0] ds es p):∃ a b,ds=[.bool a]/\es=[.bool b]/\p=(a=b/\True):=by
 cases h with|bool h=>cases h;exact⟨_,_,rfl,rfl,rfl⟩
theorem EqC.inv1 {ds es:List D}{p:Prop}(h:EqC [1] ds es p):∃ k a b,ds=[.int k a]/\es=[.int k b]/\p=(a=b/\True):=by
 cases h with|int h=>cases h;exact⟨_,_,_,rfl,rfl,rfl⟩
theorem EqC.inv2 {ds es:List D}{p:Prop}(h:EqC [2] ds es p):∃ a b,ds=[.str a]/\es=[.str b]/\p=(a=b/\True):=by
 cases h with|str h=>cases h;exact⟨_,_,rfl,rfl,rfl⟩
theorem EqC.split:∀ (l:List Nat) {l':List Nat} {ds es:List D} {p:Prop},EqC (l++l') ds es p->∃ d1 d2 e1 e2 p1 p2,ds=d1++d2/\es=e1++e2/\EqC l d1 e1 p1/\EqC l' d2 e2 p2/\p=(p1/\p2)
 |[],l',ds,es,p,h=>⟨[],ds,[],es,True,p,rfl,rfl,.nil,h,by simp⟩
 |x::l,l',ds,es,p,h=>by
  generalize hl:x::l++l'=L at h;cases h with
  |nil=>cases hl
  |bool h=>
   cases hl;obtain⟨d1,d2,e1,e2,p1,p2,rfl,rfl,h1,h2,rfl⟩:=EqC.split l h;exact⟨_::d1,d2,_::e1,e2,_,p2,rfl,rfl,.bool h1,h2,by simp[and_assoc]⟩
  |int h=>
   cases hl;obtain⟨d1,d2,e1,e2,p1,p2,rfl,rfl,h1,h2,rfl⟩:=EqC.split l h;exact⟨_::d1,d2,_::e1,e2,_,p2,rfl,rfl,.int h1,h2,by simp[and_assoc]⟩
  |str h=>
   cases hl;obtain⟨d1,d2,e1,e2,p1,p2,rfl,rfl,h1,h2,rfl⟩:=EqC.split l h;exact⟨_::d1,d2,_::e1,e2,_,p2,rfl,rfl,.str h1,h2,by simp[and_assoc]⟩
section
variable {P:Program}
theorem jf2 {t:TypeId}{d:TypeDesc}(hu:P.underlying t=some d)(h1:∀ fs,d≠.struct fs)(h2:∀ n e,d≠.array n e){xs:List Value}{off:Nat}{v:Value}(hv:xs[off]? =some v)(w:World):(part t xs.toArray off).run P w=.ok v w:=by
 simp[part,ma3 hu h1 h2,hv]
theorem ma8 {t:TypeId}{fs:Array Field}(hu:P.underlying t=some (.struct fs)){i:TypeInfo}(hi:P.info? t=some i){pre us post:List Value}{off:Nat}(ho:pre.length=off)(hn:us.length=i.size)(w:World):
 (part t (pre++us++post).toArray off).run P w=.ok (.agg us.toArray) w:=by
 have he:((pre++us++post).toArray.extract off (off+i.size))=us.toArray:=by
  simp[List.extract_eq_take_drop,<-ho,hn]
 simp only[part,Sem.run_bind,ko6 hu (.inl ⟨fs,rfl⟩),Result.andThen_ok,if_true,jb8 hi,Sem.run_pure,he]
theorem qs3:∀ (d D:Nat) (t:TypeId) (ls:List Nat),d<=D->leaves P d t=some ls->∀ (i:TypeInfo),P.info? t=some i->i.size=ls.length->∀ (ds es:List Go.Proofs.YtklklgfpkpglgaaGreatDoor.D) (p:Prop),EqC ls ds es p->∀ (pre post pre' post':List Value) (off:Nat),pre.length=off->pre'.length=off->
 ∃ a c b,(∀ w,(part t (pre++ds.map Gv++post).toArray off).run P w=.ok a w)/\(∀ w,(part t (pre'++es.map Gv++post').toArray off).run P w=.ok c w)/\(∀ w,(Op.equalIn D t a c).run P w=.ok b w)/\(b=true)=p/\((∃ fs,P.underlying t=some (.struct fs))->a=.agg (ds.map Gv).toArray/\c=.agg (es.map Gv).toArray):=by
 intro d
 induction d with
 |zero=>intro D t ls _ h;simp[leaves]at h
 |succ d ih=>
  intro D t ls hD h i hi hn ds es p hE pre post pre' post' off ho ho';obtain⟨D,rfl⟩:∃ D',D=D'+1:=⟨D - 1,by omega⟩;obtain⟨hl1,hl2⟩:=hE.length;have get:∀ (pre post:List Value) (v:Value) (l:List Value),pre.length=off->l=[v]->(pre++l++post)[off]? =some v:=fun pre post v l h1 h2=>by subst h1;subst h2;simp
  unfold leaves at h;split at h
  ·rename_i hu;cases h;obtain⟨x,y,rfl,rfl,rfl⟩:=hE.inv0;refine⟨_,_,x == y,fun w=>jf2 hu (by simp) (by simp) (get _ _ (.bool x) _ ho rfl) w,fun w=>jf2 hu (by simp) (by simp) (get _ _ (.bool y) _ ho' rfl) w,fun w=>run_equalIn_bool' w D t x y hu,?_,fun⟨fs,hf⟩=>?_⟩
   ·simp
   ·rw[hu]at hf;cases hf
  ·rename_i k hu;cases h;obtain⟨k',x,y,rfl,rfl,rfl⟩:=hE.inv1;refine⟨_,_,x == y,fun w=>jf2 hu (by simp) (by simp) (get _ _ (.int k' x) _ ho rfl) w,fun w=>jf2 hu (by simp) (by simp) (get _ _ (.int k' y) _ ho' rfl) w,fun w=>run_equalIn_int w D t k' k x y hu,?_,fun⟨fs,hf⟩=>?_⟩
   ·simp
   ·rw[hu]at hf;cases hf
  ·rename_i hu;cases h;obtain⟨x,y,rfl,rfl,rfl⟩:=hE.inv2;refine⟨_,_,x.toList == y.toList,fun w=>jf2 hu (by simp) (by simp) (get _ _ (.string x) _ ho rfl) w,fun w=>jf2 hu (by simp) (by simp) (get _ _ (.string y) _ ho' rfl) w,fun w=>run_equalIn_string w D t x y hu,?_,fun⟨fs,hf⟩=>?_⟩
   ·by_cases h:x=y
    ·rw[ka2 x y (b:=true) (propext ⟨fun _=>h,fun _=>rfl⟩)];simp[h]
    ·rw[ka2 x y (b:=false) (propext ⟨(fun h'=>by cases h'),fun h'=>absurd h' h⟩)];simp[h]
   ·rw[hu]at hf;cases hf
  ·rename_i fs hu;split at h
   ·cases h
   ·rename_i hst;have hst:P.stoodInHeld t=false:=by simpa using hst
    have hfo:P.fieldsOf t=fs:=by unfold Program.fieldsOf;rw[hu]
    have fields:∀ (fl:List Field) (off:Nat) (ls:List Nat),jw3 P (leaves P d) off fl=some ls->∀ (ds es:List Go.Proofs.YtklklgfpkpglgaaGreatDoor.D) (p:Prop),EqC ls ds es p->∀ (pre pre':List Value),pre.length=off->pre'.length=off->
     ∃ b,(∀ w,(Op.eqFields D (pre++ds.map Gv).toArray (pre'++es.map Gv).toArray fl).run P w=.ok b w)/\(b=true)=p:=by
     intro fl
     induction fl with
     |nil=>
      intro off ls h ds es p hE pre pre' _ _;simp only[jw3,Bf]at h;subst h;cases hE;exact⟨true,fun w=>rfl,by simp⟩
     |cons f fl ih2=>
      intro off ls h ds es p hE pre pre' ho ho';simp only[jw3]at h;split at h
      ·cases h
      ·rename_i hf;simp only[Bm,Bx,bne_iff_ne,ne_eq,not_or,Ei]at hf;split at h
       ·rename_i l i' hl hi';split at h
        ·rename_i hsz;simp only[Bx]at hsz;obtain⟨ls',h',rfl⟩:=Fp.1 h;obtain⟨d1,d2,e1,e2,p1,p2,rfl,rfl,h1,h2,rfl⟩:=hE.split l;obtain⟨q1,q2⟩:=h1.length;obtain⟨a,c,b,k1,k2,k3,k4,_⟩:=ih D f.type l (by omega) hl i' hi' hsz d1 e1 p1 h1 pre (d2.map Gv) pre' (e2.map Gv) off ho ho';obtain⟨b2,k5,k6⟩:=ih2 (off+l.length) ls' h' d2 e2 p2 h2 (pre++d1.map Gv) (pre'++e1.map Gv) (by simp;omega) (by simp;omega);refine⟨b && b2,fun w=>?_,?_⟩
         ·have e1':(pre++(d1++d2).map Gv)=pre++d1.map Gv++d2.map Gv:=by simp
          have e2':(pre'++(e1++e2).map Gv)=pre'++e1.map Gv++e2.map Gv:=by simp
          rw[e1',e2'];simp only[Op.eqFields,hf.1,ne_eq,not_false_eq_true,if_true,hf.2,Sem.run_bind,k1,k2,k3,Result.andThen_ok];cases b with
          |false=>rfl
          |true=>simp only[Bool.not_true,Ba,if_false,Bi];exact k5 w
         ·rw[<-k4,<-k6];simp
        ·cases h
       ·cases h
    obtain⟨b,k1,k2⟩:=fields fs.toList 0 ls h ds es p hE [] [] rfl rfl;refine⟨.agg (ds.map Gv).toArray,.agg (es.map Gv).toArray,b,fun w=>ma8 hu hi ho (by simp;omega) w,fun w=>ma8 hu hi ho' (by simp;omega) w,fun w=>?_,k2,fun _=>⟨rfl,rfl⟩⟩;rw[run_equalIn_struct w D t _ _ (by rw[hfo];exact hu) hst,hfo];exact k1 w
  ·cases h
theorem ri2 {t:Nat}{ls:List Nat}(h:TEq P t ls)[hs:TAgg P t ls.length]{ds es:List D}{p:Prop}(hE:EqC ls ds es p):∃ b,(b=true)=p/\∀ w,(Op.equalIn 10000 t (.agg (ds.map Gv).toArray) (.agg (es.map Gv).toArray)).run P w=.ok b w:=by
 have h1:=h.ok;unfold va8 at h1;simp only[Aa,Bx,Bq]at h1;obtain⟨⟨h2,h3⟩,h4⟩:=h1;obtain⟨d,i,hu,hd,hi,hsz⟩:=jr2 hs;obtain⟨a,c,b,_,_,k3,k4,k5⟩:=qs3 8 10000 t ls (by omega) h3 i hi hsz ds es p hE [] [] [] [] 0 rfl rfl;obtain⟨rfl,rfl⟩:=k5 (by
  split at h2
  ·rename_i fs hu';exact⟨fs,hu'⟩
  ·cases h2)
 exact⟨b,k4,k3⟩
end
section
variable {E:Set}{Q:Exit->Sd->Prop}{ops:Array Oper}{draw:Bool}{rest:Todo}{way:Jh}{ty:TypeId}{pos:String}{af:Array Edge}{gd:Option (Nat × Bool)}{dst:Option Tmp}
variable {env:List (Nat × V)}{H:List (Nat × Ob)}{gl:List (Nat × List D)}{d:Nat}
theorem va9 {S:Sd}{t:Nat}{yt:TypeId}{x y:Operand}{ls:List Nat}{ds es:List D}{p:Prop}[ht:TEq E.P t ls][hs:TAgg E.P t ls.length](hx:S.ev x=some (.d (.agg ds)))(hy:S.ev y=some (.d (.agg es)))(hox:Cn x=true)(hoy:Cn y=true)(hE:EqC ls ds es p):
 ∃ b:Bool,(b=true)=p/\Swift E S ⟨dst,.binOp .eql t x y yt,ty,pos,af,gd⟩ (.d (.bool b))/\Swift E S ⟨dst,.binOp .neq t x y yt,ty,pos,af,gd⟩ (.d (.bool !b)):=by
 obtain⟨b,h1,h2⟩:=ri2 (P:=E.P) (t:=t) ht hE;have hm:E.P.eqGuardType E.P.depth t=false:=by
  have:=ht.ok;unfold va8 at this;simp only[Aa,Bq]at this;exact this.2
 refine⟨b,h1,Swift.mk fun β a w h=>⟨.bool b,fun w' _=>?_,rfl⟩,Swift.mk fun β a w h=>⟨.bool !b,fun w' _=>?_,rfl⟩⟩
 all_goals
  obtain⟨us,e1,r1⟩:=h.ev hx hox;obtain⟨vs,e2,r2⟩:=h.ev hy hoy;rw[(hE.rep (w:=w) (M:=Mut E.C.M0 β S.H)).1 us r1]at e1;rw[(hE.rep (w:=w) (M:=Mut E.C.M0 β S.H)).2 vs r2]at e2;simp only[execOp,e1,e2,Sem.run_bind,run_eqGuard_agg w' _ t x y _ _ hm,Result.andThen_ok,run_eql_struct,run_neq_struct,h2 w',Sem.run_pure]
theorem re2 {t:Nat}{yt:TypeId}{x y:Operand}{ls:List Nat}{ds es:List D}{p:Prop}[ht:TEq E.P t ls][hs:TAgg E.P t ls.length](hx:Sd.ev ⟨env,H,gl⟩ x=some (.d (.agg ds)))(hy:Sd.ev ⟨env,H,gl⟩ y=some (.d (.agg es)))(hox:Cn x=true)(hoy:Cn y=true)(hE:EqC ls ds es p)(hd:d<E.C.nt)
 (hg:Sd.gd ⟨env,H,gl⟩ ops ⟨some d,.binOp .eql t x y yt,ty,pos,af,gd⟩=some true) (h1:p->TR E draw ops Q rest ⟨(d,.d (.bool true))::env,H,gl⟩) (h2:¬p->TR E draw ops Q rest ⟨(d,.d (.bool false))::env,H,gl⟩):
 TR E draw ops Q (.step ⟨some d,.binOp .eql t x y yt,ty,pos,af,gd⟩ way rest) ⟨env,H,gl⟩:=by
 obtain⟨b,hb,hq,_⟩:=va9 (E:=E) (S:=⟨env,H,gl⟩) (t:=t) (dst:=some d) (yt:=yt) (ty:=ty) (pos:=pos) (af:=af) (gd:=gd) hx hy hox hoy hE;cases b
 ·exact jc9 hq rfl hd hg rfl (h2 (by rw[<-hb];simp))
 ·exact jc9 hq rfl hd hg rfl (h1 (by rw[<-hb]))
theorem re3 {t:Nat}{yt:TypeId}{x y:Operand}{ls:List Nat}{ds es:List D}{p:Prop}[ht:TEq E.P t ls][hs:TAgg E.P t ls.length](hx:Sd.ev ⟨env,H,gl⟩ x=some (.d (.agg ds)))(hy:Sd.ev ⟨env,H,gl⟩ y=some (.d (.agg es)))(hox:Cn x=true)(hoy:Cn y=true)(hE:EqC ls ds es p)(hd:d<E.C.nt)
 (hg:Sd.gd ⟨env,H,gl⟩ ops ⟨some d,.binOp .neq t x y yt,ty,pos,af,gd⟩=some true) (h1:p->TR E draw ops Q rest ⟨(d,.d (.bool false))::env,H,gl⟩) (h2:¬p->TR E draw ops Q rest ⟨(d,.d (.bool true))::env,H,gl⟩):
 TR E draw ops Q (.step ⟨some d,.binOp .neq t x y yt,ty,pos,af,gd⟩ way rest) ⟨env,H,gl⟩:=by
 obtain⟨b,hb,_,hq⟩:=va9 (E:=E) (S:=⟨env,H,gl⟩) (t:=t) (dst:=some d) (yt:=yt) (ty:=ty) (pos:=pos) (af:=af) (gd:=gd) hx hy hox hoy hE;cases b
 ·exact jc9 hq rfl hd hg rfl (h2 (by rw[<-hb];simp))
 ·exact jc9 hq rfl hd hg rfl (h1 (by rw[<-hb]))
inductive Sub {α:Type}(env:List (Nat × α)):List (Nat × α)->Prop
 |nil:Sub env []
 |cons {t:Nat} {v:α} {r:List (Nat × α)} (h:look t env=some v) (k:Sub env r):Sub env ((t,v)::r)
theorem Sub.look {α:Type}{env l:List (Nat × α)}(h:Sub env l){t:Nat}{v:α}(hl:Go.Proofs.YtklklgfpkpglgaaGreatDoor.look t l=some v):Go.Proofs.YtklklgfpkpglgaaGreatDoor.look t env=some v:=by
 induction h with
 |nil=>cases hl
 |cons h1 _ ih=>
  rw[j5]at hl;split at hl
  ·rename_i e;subst e;cases hl;exact h1
  ·exact ih hl
def Wk (C:Ctx)(S S':Sd):Prop:=∀ a w,St C S a w->St C S' a w
theorem wk {C:Ctx}{env':List (Nat × V)}{H':List (Nat × Ob)}(h1:Sub env env')(h2:Sub H H')(h3:(C.N.all fun n=>(look n H').isSome)=true):Wk C ⟨env,H,gl⟩ ⟨env',H',gl⟩:=fun a w ⟨β,hB⟩=>⟨β,hB.weak (fun t v h=>h1.look h) (fun n ob h=>h2.look h) (fun _ _ h=>h) (fun n hn=>Bt.1 h3 n hn)⟩
theorem ji2 {S:Sd}{c:Code}{ι:Type}(F:ι->Sd)(P:ι->Prop)(m:ι->Nat)(i0:ι)(hp:P i0)(h0:Wk E.C S (F i0))(round:∀ i,P i->TC E c (Exit.Nf (fun S'=>∃ j,P j/\m j<m i/\Wk E.C S' (F j)) Q) (F i)):TC E (.loop c) Q S:=by
 intro a w hS;have key:=rn8 (E:=E) (Q:=Q) (c:=c) (S:=F i0) (fun S=>∃ i,P i/\S=F i) (fun S=>km6 fun k=>∃ i,P i/\S=F i/\m i=k) ⟨i0,hp,rfl⟩ (fun S ⟨i,hi,hSi⟩=>by
  obtain⟨⟨i',hi',hS',hm'⟩,hmin⟩:=jl7 (p:=fun k=>∃ i,P i/\S=F i/\m i=k) ⟨_,i,hi,hSi,rfl⟩;subst hS';refine mn6 (round i' hi') fun e S' hq=>?_;cases e
  case normal=>
   obtain⟨j,hj,hlt,hw⟩:=hq;refine⟨F j,hw,⟨j,hj,rfl⟩,?_⟩;have:=(jl7 (p:=fun k=>∃ i,P i/\F j=F i/\m i=k) ⟨_,j,hj,rfl,rfl⟩).2 _ ⟨j,hj,rfl,rfl⟩;rw[<-hm'];omega
  all_goals exact hq)
 exact key a w (h0 a w hS)
theorem mw6 {c:Code}{t e sz sz':Nat}(hl:look t env=some (.nils sz'))(hn:Sd.fresh ⟨env,H,gl⟩ t=true)(h:TC E c Q ⟨(t,.own t 0)::env,(t,.row e sz true [] 0)::H,gl⟩):TC E c Q ⟨env,H,gl⟩:=fun a w ⟨β,hB⟩=>by
 have h1:=hB.Uv (e:=e) (sz:=sz) hn;refine h a w ⟨_,{h1 with env:=fun s v hs=>?_}⟩;dsimp only at hs;rw[j5]at hs;split at hs
 ·rename_i e';subst e';cases hs;obtain⟨x,h2,h3⟩:=hB.env t _ hl;exact⟨x,h2,fun e' sz'' sh xs hl'=>by rw[jx0];exact h3⟩
 ·exact h1.env s v hs
end
end
section
section
variable {E:Set}{S:Sd}{dst:Option Tmp}{ty:TypeId}{pos:String}{af:Array Edge}{gd:Option (Nat × Bool)}
end
end
end Go.Proofs.YtklklgfpkpglgaaGreatDoor
