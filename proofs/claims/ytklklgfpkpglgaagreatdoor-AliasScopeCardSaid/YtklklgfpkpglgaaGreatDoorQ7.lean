/- Parts. -/
import Derived.Test.YtklklgfpkpglgaaGreatDoorQ6
import Derived.Laws.BytesArg
set_option linter.all false
set_option maxRecDepth 100000
set_option maxHeartbeats 0
namespace Go.Proofs.YtklklgfpkpglgaaGreatDoor
open Go.RowKit
section
section
variable {E:Set}{Q:Exit->Sd->Prop}{ops:Array Oper}{draw:Bool}{rest:Todo}{way:Ji}{ty:TypeId}{pos:String}{af:Array Edge}{gd:Option (Nat × Bool)}{dst:Option Tmp}
variable {env:List (Nat × V)}{H:List (Nat × Ob)}{gl:List (Nat × List D)}{d:Nat}
theorem s_p {v:V}{o:Oper}(hq:aH E ⟨env,H,gl⟩ o v)(hdst:o.dst=some d)(hd:d<E.C.nt)(hg:Sd.gd ⟨env,H,gl⟩ ops o=some true)(hdf:p9 o=false)(h:TR E draw ops Q rest ⟨(d,v)::env,H,gl⟩):TR E draw ops Q (.step o way rest) ⟨env,H,gl⟩:=
 jd2 hq hdst hd hg hdf h
theorem s_q {v:V}{o:Oper}(hq:Quiet E ⟨env,H,gl⟩ o v)(hdst:o.dst=some d)(hd:d<E.C.nt)(hg:Sd.gd ⟨env,H,gl⟩ ops o=some true)(hdf:p9 o=false)(hw:way.known=false)(h:TR E draw ops Q rest ⟨(d,v)::env,H,gl⟩):TR E draw ops Q (.step o way rest) ⟨env,H,gl⟩:=
 jk6 hq hdst hd hg hdf hw h
theorem vn8 {o:Oper}(hdst:o.dst=some d)(hd:d<E.C.nt)(hg:Sd.gd ⟨env,H,gl⟩ ops o=some false)(h:TR E draw ops Q rest ⟨(d,.tup [])::env,H,gl⟩):TR E draw ops Q (.step o way rest) ⟨env,H,gl⟩:=qp0 hdst hd hg h
theorem vd1 (n:Nat){t:Nat}{vs:List V}[ht:TZero E.P t vs](hn:Sd.aD ⟨env,H,gl⟩ n=true)(hs:Jj n vs=false)(hd:d<E.C.nt)(hg:Sd.gd ⟨env,H,gl⟩ ops ⟨some d,.alloc t,ty,pos,af,gd⟩=some true)(hw:way.loud=true)
 (h:TR E draw ops Q rest ⟨(d,.ptr n 0)::env,(n,.box vs)::H,gl⟩):TR E draw ops Q (.step ⟨some d,.alloc t,ty,pos,af,gd⟩ way rest) ⟨env,H,gl⟩:=jn3 (vc6 hn hs) rfl hd hg rfl hw h
theorem vt2 (n:Nat){t:Nat}{x:Operand}{v:V}{vs:List V}(hx:Sd.ev ⟨env,H,gl⟩ x=some v)(hox:Cm x=true)(hown:Pp ⟨env,H,gl⟩ v=true)(hc:Ij v vs)(hn:Sd.aD ⟨env,H,gl⟩ n=true)(hs:Jj n vs=false)(hd:d<E.C.nt)
 (hg:Sd.gd ⟨env,H,gl⟩ ops ⟨some d,.box t x,ty,pos,af,gd⟩=some true) (hw:way.loud=true)
 (h:TR E draw ops Q rest ⟨(d,.ptr n 0)::env,(n,.box vs)::H,gl⟩):TR E draw ops Q (.step ⟨some d,.box t x,ty,pos,af,gd⟩ way rest) ⟨env,H,gl⟩:=jn3 (vt0 hx hox hown hc hn hs) rfl hd hg rfl hw h
theorem vd2 {t n off m:Nat}{x y:Operand}{v:V}{vs cs cs':List V}[ht:TSize E.P t m](hx:Sd.ev ⟨env,H,gl⟩ x=some (.ptr n off))(hox:Cm x=true)(hy:Sd.ev ⟨env,H,gl⟩ y=some v)(hoy:Cm y=true)(hown:Pp ⟨env,H,gl⟩ v=true)
 (hl:look n H=some (.box cs)) (hc:Ij v vs) (hm:vs.length=m) (hr:Repl cs off vs cs') (hg:Sd.gd ⟨env,H,gl⟩ ops ⟨none,.store t x y,ty,pos,af,gd⟩=some true) (hw:Jv draw way=true)
 (h:TR E draw ops Q rest ⟨env,(n,.box cs')::H,gl⟩):TR E draw ops Q (.step ⟨none,.store t x y,ty,pos,af,gd⟩ way rest) ⟨env,H,gl⟩:=kl9 (vc7 hx hox hy hoy hown hl hc hm hr) rfl hg rfl hw h
theorem vt3 (n:Nat){t e sz len:Nat}{ps:List (Nat × Operand)}{xs:List D}[ht:aK E.P t e sz](hp:Elems ⟨env,H,gl⟩ sz 0 ps xs)(hlen:xs.length=len)(hsmall:len * sz<=16777216)(hn:Sd.aD ⟨env,H,gl⟩ n=true)(hd:d<E.C.nt)
 (hg:Sd.gd ⟨env,H,gl⟩ ops ⟨some d,.buildSlice t len ps.toArray,ty,pos,af,gd⟩=some true) (hw:way.loud=true)
 (h:TR E draw ops Q rest ⟨(d,.own n 0)::env,(n,.row e sz true xs 0)::H,gl⟩):TR E draw ops Q (.step ⟨some d,.buildSlice t len ps.toArray,ty,pos,af,gd⟩ way rest) ⟨env,H,gl⟩:=jn3 (vt1 hp hlen hsmall hn) rfl hd hg rfl hw h
theorem rm2 {t e sz n k:Nat}{sh:Bool}{s x:Operand}{v:V}{xs ys:List D}[ht:aK E.P t e sz](hs:Sd.ev ⟨env,H,gl⟩ s=some (.own n k))(hos:Cm s=true)(hl:look n H=some (.row e sz sh xs k))(hx:Sd.ev ⟨env,H,gl⟩ x=some v)(hox:Cm x=true)(hy:ToD H v (.list sz ys))
 (hlen:xs.length+ys.length<=100000000000) (hN:E.C.N.contains n=false) (hd:d<E.C.nt) (hg:Sd.gd ⟨env,H,gl⟩ ops ⟨some d,.call {callee:=.builtin .append,args:=#[s,x],argTypes:=#[t,t]},ty,pos,af,gd⟩=some true) (hw:Jv draw way=true)
 (h:∀ k',TR E draw ops Q rest ⟨(d,.own n k')::env,(n,.row e sz sh (xs++ys) k')::H,gl⟩):TR E draw ops Q (.step ⟨some d,.call {callee:=.builtin .append,args:=#[s,x],argTypes:=#[t,t]},ty,pos,af,gd⟩ way rest) ⟨env,H,gl⟩:=
 rl9 (rm0 hs hos hl hx hox hy hlen hN (d:=d)) rfl hd hg rfl hw h
theorem qy9 (n:Nat){t e sz sz':Nat}{s x:Operand}{v:V}{ys:List D}[ht:aK E.P t e sz](hs:Sd.ev ⟨env,H,gl⟩ s=some (.nils sz'))(hos:Cm s=true)(hx:Sd.ev ⟨env,H,gl⟩ x=some v)(hox:Cm x=true)(hy:ToD H v (.list sz ys))(hlen:ys.length<=100000000000)(hn:Sd.aD ⟨env,H,gl⟩ n=true)
 (hd:d<E.C.nt) (hg:Sd.gd ⟨env,H,gl⟩ ops ⟨some d,.call {callee:=.builtin .append,args:=#[s,x],argTypes:=#[t,t]},ty,pos,af,gd⟩=some true) (hw:way.loud=true)
 (h:TR E draw ops Q rest ⟨(d,.own n 0)::env,(n,.row e sz true ys 0)::H,gl⟩):TR E draw ops Q (.step ⟨some d,.call {callee:=.builtin .append,args:=#[s,x],argTypes:=#[t,t]},ty,pos,af,gd⟩ way rest) ⟨env,H,gl⟩:=
 jn3 (rm1 hs hos hx hox hy hlen hn (d:=d)) rfl hd hg rfl hw h
theorem vn9 {f:Nat}{xs:List Operand}{ats:Array TypeId}{vs vs':List V}{R:V->Prop}[hf:TFun E.P f](hx:Evs ⟨env,H,gl⟩ xs vs)(ha:Args H vs vs')(hc:FnD E.P gl f vs' R)(hd:d<E.C.nt)
 (hg:Sd.gd ⟨env,H,gl⟩ ops ⟨some d,.call {callee:=.value (.func f),args:=xs.toArray,argTypes:=ats},ty,pos,af,gd⟩=some true) (hw:way.loud=true)
 (h:∀ v,R v->TR E draw ops Q rest ⟨(d,v)::env,H,gl⟩):TR E draw ops Q (.step ⟨some d,.call {callee:=.value (.func f),args:=xs.toArray,argTypes:=ats},ty,pos,af,gd⟩ way rest) ⟨env,H,gl⟩:=
 vc9 hx ha hc hd rfl hg hw h
theorem vt4 {op:BinOp}{xt yt:TypeId}{x y:Operand}{k:IntKind}{p q:Int}(hop:Qs op=true)(hx:Sd.ev ⟨env,H,gl⟩ x=some (.d (.int k p)))(hy:Sd.ev ⟨env,H,gl⟩ y=some (.d (.int k q)))(hox:Cm x=true)(hoy:Cm y=true)(hd:d<E.C.nt)
 (hg:Sd.gd ⟨env,H,gl⟩ ops ⟨some d,.binOp op xt x y yt,ty,pos,af,gd⟩=some true) (h1:cmp op p q->TR E draw ops Q rest ⟨(d,.d (.bool true))::env,H,gl⟩) (h2:¬cmp op p q->TR E draw ops Q rest ⟨(d,.d (.bool false))::env,H,gl⟩):
 TR E draw ops Q (.step ⟨some d,.binOp op xt x y yt,ty,pos,af,gd⟩ way rest) ⟨env,H,gl⟩:=vk5 hop hx hy hox hoy hd rfl hg h1 h2
theorem rm3 {xt yt:TypeId}{x y:Operand}{s t:ByteArray}(hx:Sd.ev ⟨env,H,gl⟩ x=some (.d (.str s)))(hy:Sd.ev ⟨env,H,gl⟩ y=some (.d (.str t)))(hox:Cm x=true)(hoy:Cm y=true)(hd:d<E.C.nt)
 (hg:Sd.gd ⟨env,H,gl⟩ ops ⟨some d,.binOp .eql xt x y yt,ty,pos,af,gd⟩=some true) (h1:s=t->TR E draw ops Q rest ⟨(d,.d (.bool true))::env,H,gl⟩) (h2:¬s=t->TR E draw ops Q rest ⟨(d,.d (.bool false))::env,H,gl⟩):
 TR E draw ops Q (.step ⟨some d,.binOp .eql xt x y yt,ty,pos,af,gd⟩ way rest) ⟨env,H,gl⟩:=by
 by_cases h:s=t
 ·exact jd2 (mj9 hx hy hox hoy (b:=true) (propext ⟨λ_=>h,λ_=>rfl⟩)) rfl hd hg rfl (h1 h)
 ·exact jd2 (mj9 hx hy hox hoy (b:=false) (propext ⟨(λh'=>by cases h'),λh'=>absurd h' h⟩)) rfl hd hg rfl (h2 h)
theorem rm4 {S:Sd}{b:Bool}:aH E S ⟨dst,.assign (.const (.bool b)),ty,pos,af,gd⟩ (.d (.bool b)):=jy9 rfl rfl
theorem vd3 {S:Sd}{k:IntKind}{n:Int}:aH E S ⟨dst,.assign (.const (.int k n)),ty,pos,af,gd⟩ (.d (.int k n)):=jy9 rfl rfl
theorem vd4 {S:Sd}{s:ByteArray}:aH E S ⟨dst,.assign (.const (.string s)),ty,pos,af,gd⟩ (.d (.str s)):=jy9 rfl rfl
theorem vd5 {S:Sd}{k:IntKind}{n:Int}:aH E S ⟨dst,.move (.const (.int k n)),ty,pos,af,gd⟩ (.d (.int k n)):=qu9 rfl rfl
theorem vt5 {S:Sd}{c y:Operand}{b:Bool}(hc:S.ev c=some (.d (.bool true)))(hk:Cm c=true):aH E S ⟨dst,.pick c (.const (.bool b)) y,ty,pos,af,gd⟩ (.d (.bool b)):=mb0 hc hk rfl rfl
theorem vt6 {S:Sd}{c x:Operand}{b:Bool}(hc:S.ev c=some (.d (.bool false)))(hk:Cm c=true):aH E S ⟨dst,.pick c x (.const (.bool b)),ty,pos,af,gd⟩ (.d (.bool b)):=mb1 hc hk rfl rfl
theorem vd6 {S:Sd}{xt:TypeId}{x:Operand}(hx:S.ev x=some (.d (.bool true)))(hox:Cm x=true):aH E S ⟨dst,.unOp .not xt x,ty,pos,af,gd⟩ (.d (.bool false)):=va6 hx hox
theorem vd7 {S:Sd}{xt:TypeId}{x:Operand}(hx:S.ev x=some (.d (.bool false)))(hox:Cm x=true):aH E S ⟨dst,.unOp .not xt x,ty,pos,af,gd⟩ (.d (.bool true)):=va6 hx hox
theorem vu4 {rest:Todo}{b:Bool}(h1:b=true->TR E draw ops Q rest ⟨(d,.d (.bool true))::env,H,gl⟩)(h2:b=false->TR E draw ops Q rest ⟨(d,.d (.bool false))::env,H,gl⟩):TR E draw ops Q rest ⟨(d,.d (.bool b))::env,H,gl⟩:=by
 cases b
 ·exact h2 rfl
 ·exact h1 rfl
theorem rm5 {xt yt:TypeId}{x y:Operand}{s t:ByteArray}(hx:Sd.ev ⟨env,H,gl⟩ x=some (.d (.str s)))(hy:Sd.ev ⟨env,H,gl⟩ y=some (.d (.str t)))(hox:Cm x=true)(hoy:Cm y=true)(hd:d<E.C.nt)
 (hg:Sd.gd ⟨env,H,gl⟩ ops ⟨some d,.binOp .neq xt x y yt,ty,pos,af,gd⟩=some true) (h1:s=t->TR E draw ops Q rest ⟨(d,.d (.bool false))::env,H,gl⟩) (h2:¬s=t->TR E draw ops Q rest ⟨(d,.d (.bool true))::env,H,gl⟩):
 TR E draw ops Q (.step ⟨some d,.binOp .neq xt x y yt,ty,pos,af,gd⟩ way rest) ⟨env,H,gl⟩:=by
 by_cases h:s=t
 ·exact jd2 (mk0 hx hy hox hoy (b:=false) (propext ⟨(λh'=>by cases h'),λh'=>absurd h h'⟩)) rfl hd hg rfl (h1 h)
 ·exact jd2 (mk0 hx hy hox hoy (b:=true) (propext ⟨λ_=>h,λ_=>rfl⟩)) rfl hd hg rfl (h2 h)
theorem ko9 {α:Type}{l:List α}{f:α->D}{k:Nat}(h:k<l.length):(l.map f)[k]? =some (f l[k]):=by simp[h]
theorem jz7 {α:Type}{l:List α}{k:Nat}(h:k<l.length):l[k]? =some l[k]:=by simp[h]
theorem vd8 {P:Program}{S:Sd}{rs:List ResultVar}{R:V->Prop}{vs:List V}(h:Res P S rs vs)(hr:R (aF vs)):Ends P rs R .ret S:=⟨.inl rfl,vs,h,hr⟩
theorem qz0 {S:Sd}{c:Operand}{x y:Code}(hc:S.ev c=some (.d (.bool true)))(ho:Cm c=true)(ht:TC E x Q S):TC E (.cond c x y) Q S:=qo8 hc ho (λ_=>ht) (λh=>by cases h)
theorem qz1 {S:Sd}{c:Operand}{x y:Code}(hc:S.ev c=some (.d (.bool false)))(ho:Cm c=true)(ht:TC E y Q S):TC E (.cond c x y) Q S:=qo8 hc ho (λh=>by cases h) (λ_=>ht)
end
end
section
def jv6 (P:Program)(rec:TypeId->Option (List Nat)):Nat->List Field->Option (List Nat)
 |_,[]=>some []
 |off,f::fs=>if f.name == "_" || f.offset != off then none else match rec f.type,P.info? f.type with
  |some l,some i=>if i.size == l.length then (jv6 P rec (off+l.length) fs).map (l++·) else none
  |_,_=>none
def leaves (P:Program):Nat->TypeId->Option (List Nat)
 |0,_=>none
 |d+1,t=>match P.underlying t with
  |some .bool=>some [0]
  |some (.int _)=>some [1]
  |some .string=>some [2]
  |some (.struct fs)=>if P.stoodInHeld t then none else jv6 P (leaves P d) 0 fs.toList
  |_=>none
def vo0 (P:Program)(t:Nat)(ls:List Nat):Bool:=(match P.underlying t with|some (.struct _)=>true|_=>false) && leaves P 8 t == some ls && !P.eqGuardType P.depth t
class TEq (P:Program)(t:Nat)(ls:outParam (List Nat)):Prop where
 ok:vo0 P t ls=true
inductive EqC:List Nat->List D->List D->Prop->Prop
 |nil:EqC [] [] [] True
 |bool {a b:Bool} {ls:List Nat} {ds es:List D} {p:Prop} (h:EqC ls ds es p):EqC (0::ls) (.bool a::ds) (.bool b::es) (a=b/\p)
 |int {k:IntKind} {a b:Int} {ls:List Nat} {ds es:List D} {p:Prop} (h:EqC ls ds es p):EqC (1::ls) (.int k a::ds) (.int k b::es) (a=b/\p)
 |str {a b:ByteArray} {ls:List Nat} {ds es:List D} {p:Prop} (h:EqC ls ds es p):EqC (2::ls) (.str a::ds) (.str b::es) (a=b/\p)
def Gt:D->Value
 |.int k n=>.int k n
 |.bool b=>.bool b
 |.str s=>.string s
 |_=>undef
theorem EqC.rep {ls:List Nat}{ds es:List D}{p:Prop}(h:EqC ls ds es p){w:World}{M:Nat->Nat->Prop}:(∀ us,Dz w M ds us->us=ds.map Gt)/\(∀ us,Dz w M es us->us=es.map Gt):=by
 induction h with
 |nil=>exact⟨λus h=>h,λus h=>h⟩
 |bool _ ih=>exact⟨λus h=>by obtain⟨v,r,rfl,_,h2,h3⟩:=h;simp only[Gv]at h2;subst h2;rw[ih.1 r h3];rfl,λus h=>by obtain⟨v,r,rfl,_,h2,h3⟩:=h;simp only[Gv]at h2;subst h2;rw[ih.2 r h3];rfl⟩
 |int _ ih=>exact⟨λus h=>by obtain⟨v,r,rfl,_,h2,h3⟩:=h;simp only[Gv]at h2;subst h2;rw[ih.1 r h3];rfl,λus h=>by obtain⟨v,r,rfl,_,h2,h3⟩:=h;simp only[Gv]at h2;subst h2;rw[ih.2 r h3];rfl⟩
 |str _ ih=>exact⟨λus h=>by obtain⟨v,r,rfl,_,h2,h3⟩:=h;simp only[Gv]at h2;subst h2;rw[ih.1 r h3];rfl,λus h=>by obtain⟨v,r,rfl,_,h2,h3⟩:=h;simp only[Gv]at h2;subst h2;rw[ih.2 r h3];rfl⟩
theorem EqC.length {ls:List Nat}{ds es:List D}{p:Prop}(h:EqC ls ds es p):ds.length=ls.length/\es.length=ls.length:=by
 induction h with
 |nil=>exact⟨rfl,rfl⟩
 |bool _ ih=>simp[ih.1,ih.2]
 |int _ ih=>simp[ih.1,ih.2]
 |str _ ih=>simp[ih.1,ih.2]
theorem EqC.inv0 {ds es:List D}{p:Prop}(h:EqC [0] ds es p):∃ a b,ds=[.bool a]/\es=[.bool b]/\p=(a=b/\True):=by
 cases h with|bool h=>cases h;exact⟨_,_,rfl,rfl,rfl⟩
theorem EqC.inv1 {ds es:List D}{p:Prop}(h:EqC [1] ds es p):∃ k a b,ds=[.int k a]/\es=[.int k b]/\p=(a=b/\True):=by
 cases h with|int h=>cases h;exact⟨_,_,_,rfl,rfl,rfl⟩
theorem EqC.inv2 {ds es:List D}{p:Prop}(h:EqC [2] ds es p):∃ a b,ds=[.str a]/\es=[.str b]/\p=(a=b/\True):=by
 cases h with|str h=>cases h;exact⟨_,_,rfl,rfl,rfl⟩
theorem EqC.split:∀ (l:List Nat) {l':List Nat} {ds es:List D} {p:Prop},EqC (l++l') ds es p->∃ d1 d2 e1 e2 p1 p2,ds=d1++d2/\es=e1++e2/\EqC l d1 e1 p1/\EqC l' d2 e2 p2/\p=(p1/\p2)
 |[],l',ds,es,p,h=>⟨[],ds,[],es,True,p,rfl,rfl,.nil,h,by simp⟩
 |x::l,l',ds,es,p,h=>by
  generalize hl:x::l++l'=L at h;cases h with
  |nil=>cases hl
  |bool h=>
   cases hl;obtain⟨d1,d2,e1,e2,p1,p2,rfl,rfl,h1,h2,rfl⟩:=EqC.split l h;exact⟨_::d1,d2,_::e1,e2,_,p2,rfl,rfl,.bool h1,h2,by simp[and_assoc]⟩
  |int h=>
   cases hl;obtain⟨d1,d2,e1,e2,p1,p2,rfl,rfl,h1,h2,rfl⟩:=EqC.split l h;exact⟨_::d1,d2,_::e1,e2,_,p2,rfl,rfl,.int h1,h2,by simp[and_assoc]⟩
  |str h=>
   cases hl;obtain⟨d1,d2,e1,e2,p1,p2,rfl,rfl,h1,h2,rfl⟩:=EqC.split l h;exact⟨_::d1,d2,_::e1,e2,_,p2,rfl,rfl,.str h1,h2,by simp[and_assoc]⟩
section
variable {P:Program}
theorem jf2 {t:TypeId}{d:TypeDesc}(hu:P.underlying t=some d)(h1:∀ fs,d≠.struct fs)(h2:∀ n e,d≠.array n e){xs:List Value}{off:Nat}{v:Value}(hv:xs[off]? =some v)(w:World):(part t xs.toArray off).run P w=.ok v w:=by
 simp[part,ma9 hu h1 h2,hv]
theorem mb9 {t:TypeId}{fs:Array Field}(hu:P.underlying t=some (.struct fs)){i:TypeInfo}(hi:P.info? t=some i){pre us post:List Value}{off:Nat}(ho:pre.length=off)(hn:us.length=i.size)(w:World):
 (part t (pre++us++post).toArray off).run P w=.ok (.agg us.toArray) w:=by
 have he:((pre++us++post).toArray.extract off (off+i.size))=us.toArray:=by
  simp[List.extract_eq_take_drop,<-ho,hn]
 simp only[part,Sem.run_bind,kn9 hu (.inl ⟨fs,rfl⟩),Result.andThen_ok,if_true,jc1 hi,Sem.run_pure,he]
theorem qz2:∀ (d D:Nat) (t:TypeId) (ls:List Nat),d<=D->leaves P d t=some ls->∀ (i:TypeInfo),P.info? t=some i->i.size=ls.length->∀ (ds es:List Go.Proofs.YtklklgfpkpglgaaGreatDoor.D) (p:Prop),EqC ls ds es p->∀ (pre post pre' post':List Value) (off:Nat),pre.length=off->pre'.length=off->
 ∃ a c b,(∀ w,(part t (pre++ds.map Gt++post).toArray off).run P w=.ok a w)/\(∀ w,(part t (pre'++es.map Gt++post').toArray off).run P w=.ok c w)/\(∀ w,(Op.equalIn D t a c).run P w=.ok b w)/\(b=true)=p/\((∃ fs,P.underlying t=some (.struct fs))->a=.agg (ds.map Gt).toArray/\c=.agg (es.map Gt).toArray):=by
 intro d
 induction d with
 |zero=>intro D t ls _ h;simp[leaves]at h
 |succ d ih=>
  intro D t ls hD h i hi hn ds es p hE pre post pre' post' off ho ho';obtain⟨D,rfl⟩:∃ D',D=D'+1:=⟨D - 1,by omega⟩;obtain⟨hl1,hl2⟩:=hE.length;have get:∀ (pre post:List Value) (v:Value) (l:List Value),pre.length=off->l=[v]->(pre++l++post)[off]? =some v:=λpre post v l h1 h2=>by subst h1;subst h2;simp
  unfold leaves at h;split at h
  ·rename_i hu;cases h;obtain⟨x,y,rfl,rfl,rfl⟩:=hE.inv0;refine⟨_,_,x == y,λw=>jf2 hu (by simp) (by simp) (get _ _ (.bool x) _ ho rfl) w,λw=>jf2 hu (by simp) (by simp) (get _ _ (.bool y) _ ho' rfl) w,λw=>run_equalIn_bool' w D t x y hu,?_,λ⟨fs,hf⟩=>?_⟩
   ·simp
   ·rw[hu]at hf;cases hf
  ·rename_i k hu;cases h;obtain⟨k',x,y,rfl,rfl,rfl⟩:=hE.inv1;refine⟨_,_,x == y,λw=>jf2 hu (by simp) (by simp) (get _ _ (.int k' x) _ ho rfl) w,λw=>jf2 hu (by simp) (by simp) (get _ _ (.int k' y) _ ho' rfl) w,λw=>run_equalIn_int w D t k' k x y hu,?_,λ⟨fs,hf⟩=>?_⟩
   ·simp
   ·rw[hu]at hf;cases hf
  ·rename_i hu;cases h;obtain⟨x,y,rfl,rfl,rfl⟩:=hE.inv2;refine⟨_,_,x.toList == y.toList,λw=>jf2 hu (by simp) (by simp) (get _ _ (.string x) _ ho rfl) w,λw=>jf2 hu (by simp) (by simp) (get _ _ (.string y) _ ho' rfl) w,λw=>run_equalIn_string w D t x y hu,?_,λ⟨fs,hf⟩=>?_⟩
   ·by_cases h:x=y
    ·rw[jz0 x y (b:=true) (propext ⟨λ_=>h,λ_=>rfl⟩)];simp[h]
    ·rw[jz0 x y (b:=false) (propext ⟨(λh'=>by cases h'),λh'=>absurd h' h⟩)];simp[h]
   ·rw[hu]at hf;cases hf
  ·rename_i fs hu;split at h
   ·cases h
   ·rename_i hst;have hst:P.stoodInHeld t=false:=by simpa using hst
    have hfo:P.fieldsOf t=fs:=by unfold Program.fieldsOf;rw[hu]
    have fields:∀ (fl:List Field) (off:Nat) (ls:List Nat),jv6 P (leaves P d) off fl=some ls->∀ (ds es:List Go.Proofs.YtklklgfpkpglgaaGreatDoor.D) (p:Prop),EqC ls ds es p->∀ (pre pre':List Value),pre.length=off->pre'.length=off->
     ∃ b,(∀ w,(Op.eqFields D (pre++ds.map Gt).toArray (pre'++es.map Gt).toArray fl).run P w=.ok b w)/\(b=true)=p:=by
     intro fl
     induction fl with
     |nil=>
      intro off ls h ds es p hE pre pre' _ _;simp only[jv6,Bi]at h;subst h;cases hE;exact⟨true,λw=>rfl,by simp⟩
     |cons f fl ih2=>
      intro off ls h ds es p hE pre pre' ho ho';simp only[jv6]at h;split at h
      ·cases h
      ·rename_i hf;simp only[Bn,Ed,bne_iff_ne,ne_eq,not_or,Eb]at hf;split at h
       ·rename_i l i' hl hi';split at h
        ·rename_i hsz;simp only[Ed]at hsz;obtain⟨ls',h',rfl⟩:=Fi.1 h;obtain⟨d1,d2,e1,e2,p1,p2,rfl,rfl,h1,h2,rfl⟩:=hE.split l;obtain⟨q1,q2⟩:=h1.length;obtain⟨a,c,b,k1,k2,k3,k4,_⟩:=ih D f.type l (by omega) hl i' hi' hsz d1 e1 p1 h1 pre (d2.map Gt) pre' (e2.map Gt) off ho ho';obtain⟨b2,k5,k6⟩:=ih2 (off+l.length) ls' h' d2 e2 p2 h2 (pre++d1.map Gt) (pre'++e1.map Gt) (by simp;omega) (by simp;omega);refine⟨b && b2,λw=>?_,?_⟩
         ·have e1':(pre++(d1++d2).map Gt)=pre++d1.map Gt++d2.map Gt:=by simp
          have e2':(pre'++(e1++e2).map Gt)=pre'++e1.map Gt++e2.map Gt:=by simp
          rw[e1',e2'];simp only[Op.eqFields,hf.1,ne_eq,not_false_eq_true,if_true,hf.2,Sem.run_bind,k1,k2,k3,Result.andThen_ok];cases b with
          |false=>rfl
          |true=>simp only[Bool.not_true,Bb,if_false,Bf];exact k5 w
         ·rw[<-k4,<-k6];simp
        ·cases h
       ·cases h
    obtain⟨b,k1,k2⟩:=fields fs.toList 0 ls h ds es p hE [] [] rfl rfl;refine⟨.agg (ds.map Gt).toArray,.agg (es.map Gt).toArray,b,λw=>mb9 hu hi ho (by simp;omega) w,λw=>mb9 hu hi ho' (by simp;omega) w,λw=>?_,k2,λ_=>⟨rfl,rfl⟩⟩;rw[run_equalIn_struct w D t _ _ (by rw[hfo];exact hu) hst,hfo];exact k1 w
  ·cases h
theorem rr4 {t:Nat}{ls:List Nat}(h:TEq P t ls)[hs:TAgg P t ls.length]{ds es:List D}{p:Prop}(hE:EqC ls ds es p):∃ b,(b=true)=p/\∀ w,(Op.equalIn 10000 t (.agg (ds.map Gt).toArray) (.agg (es.map Gt).toArray)).run P w=.ok b w:=by
 have h1:=h.ok;unfold vo0 at h1;simp only[Aa,Ed,Bz]at h1;obtain⟨⟨h2,h3⟩,h4⟩:=h1;obtain⟨d,i,hu,hd,hi,hsz⟩:=jq2 hs;obtain⟨a,c,b,_,_,k3,k4,k5⟩:=qz2 8 10000 t ls (by omega) h3 i hi hsz ds es p hE [] [] [] [] 0 rfl rfl;obtain⟨rfl,rfl⟩:=k5 (by
  split at h2
  ·rename_i fs hu';exact⟨fs,hu'⟩
  ·cases h2)
 exact⟨b,k4,k3⟩
end
section
variable {E:Set}{Q:Exit->Sd->Prop}{ops:Array Oper}{draw:Bool}{rest:Todo}{way:Ji}{ty:TypeId}{pos:String}{af:Array Edge}{gd:Option (Nat × Bool)}{dst:Option Tmp}
variable {env:List (Nat × V)}{H:List (Nat × Ob)}{gl:List (Nat × List D)}{d:Nat}
theorem vo1 {S:Sd}{t:Nat}{yt:TypeId}{x y:Operand}{ls:List Nat}{ds es:List D}{p:Prop}[ht:TEq E.P t ls][hs:TAgg E.P t ls.length](hx:S.ev x=some (.d (.agg ds)))(hy:S.ev y=some (.d (.agg es)))(hox:Cm x=true)(hoy:Cm y=true)(hE:EqC ls ds es p):
 ∃ b:Bool,(b=true)=p/\aH E S ⟨dst,.binOp .eql t x y yt,ty,pos,af,gd⟩ (.d (.bool b))/\aH E S ⟨dst,.binOp .neq t x y yt,ty,pos,af,gd⟩ (.d (.bool !b)):=by
 obtain⟨b,h1,h2⟩:=rr4 (P:=E.P) (t:=t) ht hE;have hm:E.P.eqGuardType E.P.depth t=false:=by
  have:=ht.ok;unfold vo0 at this;simp only[Aa,Bz]at this;exact this.2
 refine⟨b,h1,aH.mk λβ a w h=>⟨.bool b,λw' _=>?_,rfl⟩,aH.mk λβ a w h=>⟨.bool !b,λw' _=>?_,rfl⟩⟩
 all_goals
  obtain⟨us,e1,r1⟩:=h.ev hx hox;obtain⟨vs,e2,r2⟩:=h.ev hy hoy;rw[(hE.rep (w:=w) (M:=Mut E.C.M0 β S.H)).1 us r1]at e1;rw[(hE.rep (w:=w) (M:=Mut E.C.M0 β S.H)).2 vs r2]at e2;simp only[execOp,e1,e2,Sem.run_bind,run_eqGuard_agg w' _ t x y _ _ hm,Result.andThen_ok,run_eql_struct,run_neq_struct,h2 w',Sem.run_pure]
theorem rm6 {t:Nat}{yt:TypeId}{x y:Operand}{ls:List Nat}{ds es:List D}{p:Prop}[ht:TEq E.P t ls][hs:TAgg E.P t ls.length](hx:Sd.ev ⟨env,H,gl⟩ x=some (.d (.agg ds)))(hy:Sd.ev ⟨env,H,gl⟩ y=some (.d (.agg es)))(hox:Cm x=true)(hoy:Cm y=true)(hE:EqC ls ds es p)(hd:d<E.C.nt)
 (hg:Sd.gd ⟨env,H,gl⟩ ops ⟨some d,.binOp .eql t x y yt,ty,pos,af,gd⟩=some true) (h1:p->TR E draw ops Q rest ⟨(d,.d (.bool true))::env,H,gl⟩) (h2:¬p->TR E draw ops Q rest ⟨(d,.d (.bool false))::env,H,gl⟩):
 TR E draw ops Q (.step ⟨some d,.binOp .eql t x y yt,ty,pos,af,gd⟩ way rest) ⟨env,H,gl⟩:=by
 obtain⟨b,hb,hq,_⟩:=vo1 (E:=E) (S:=⟨env,H,gl⟩) (t:=t) (dst:=some d) (yt:=yt) (ty:=ty) (pos:=pos) (af:=af) (gd:=gd) hx hy hox hoy hE;cases b
 ·exact jd2 hq rfl hd hg rfl (h2 (by rw[<-hb];simp))
 ·exact jd2 hq rfl hd hg rfl (h1 (by rw[<-hb]))
theorem rm7 {t:Nat}{yt:TypeId}{x y:Operand}{ls:List Nat}{ds es:List D}{p:Prop}[ht:TEq E.P t ls][hs:TAgg E.P t ls.length](hx:Sd.ev ⟨env,H,gl⟩ x=some (.d (.agg ds)))(hy:Sd.ev ⟨env,H,gl⟩ y=some (.d (.agg es)))(hox:Cm x=true)(hoy:Cm y=true)(hE:EqC ls ds es p)(hd:d<E.C.nt)
 (hg:Sd.gd ⟨env,H,gl⟩ ops ⟨some d,.binOp .neq t x y yt,ty,pos,af,gd⟩=some true) (h1:p->TR E draw ops Q rest ⟨(d,.d (.bool false))::env,H,gl⟩) (h2:¬p->TR E draw ops Q rest ⟨(d,.d (.bool true))::env,H,gl⟩):
 TR E draw ops Q (.step ⟨some d,.binOp .neq t x y yt,ty,pos,af,gd⟩ way rest) ⟨env,H,gl⟩:=by
 obtain⟨b,hb,_,hq⟩:=vo1 (E:=E) (S:=⟨env,H,gl⟩) (t:=t) (dst:=some d) (yt:=yt) (ty:=ty) (pos:=pos) (af:=af) (gd:=gd) hx hy hox hoy hE;cases b
 ·exact jd2 hq rfl hd hg rfl (h2 (by rw[<-hb];simp))
 ·exact jd2 hq rfl hd hg rfl (h1 (by rw[<-hb]))
inductive Sub {α:Type}(env:List (Nat × α)):List (Nat × α)->Prop
 |nil:Sub env []
 |cons {t:Nat} {v:α} {r:List (Nat × α)} (h:look t env=some v) (k:Sub env r):Sub env ((t,v)::r)
theorem Sub.look {α:Type}{env l:List (Nat × α)}(h:Sub env l){t:Nat}{v:α}(hl:Go.Proofs.YtklklgfpkpglgaaGreatDoor.look t l=some v):Go.Proofs.YtklklgfpkpglgaaGreatDoor.look t env=some v:=by
 induction h with
 |nil=>cases hl
 |cons h1 _ ih=>
  rw[j6]at hl;split at hl
  ·rename_i e;subst e;cases hl;exact h1
  ·exact ih hl
def Wk (C:Ctx)(S S':Sd):Prop:=∀ a w,St C S a w->St C S' a w
theorem wk {C:Ctx}{env':List (Nat × V)}{H':List (Nat × Ob)}(h1:Sub env env')(h2:Sub H H')(h3:(C.N.all λn=>(look n H').isSome)=true):Wk C ⟨env,H,gl⟩ ⟨env',H',gl⟩:=λa w ⟨β,hB⟩=>⟨β,hB.weak (λt v h=>h1.look h) (λn ob h=>h2.look h) (λ_ _ h=>h) (λn hn=>By.1 h3 n hn)⟩
theorem kp0 {S:Sd}{c:Code}{ι:Type}(F:ι->Sd)(P:ι->Prop)(m:ι->Nat)(i0:ι)(hp:P i0)(h0:Wk E.C S (F i0))(round:∀ i,P i->TC E c (Exit.Oc (λS'=>∃ j,P j/\m j<m i/\Wk E.C S' (F j)) Q) (F i)):TC E (.loop c) Q S:=by
 intro a w hS;have key:=rx3 (E:=E) (Q:=Q) (c:=c) (S:=F i0) (λS=>∃ i,P i/\S=F i) (λS=>kl7 λk=>∃ i,P i/\S=F i/\m i=k) ⟨i0,hp,rfl⟩ (λS ⟨i,hi,hSi⟩=>by
  obtain⟨⟨i',hi',hS',hm'⟩,hmin⟩:=jk4 (p:=λk=>∃ i,P i/\S=F i/\m i=k) ⟨_,i,hi,hSi,rfl⟩;subst hS';refine mo8 (round i' hi') λe S' hq=>?_;cases e
  case normal=>
   obtain⟨j,hj,hlt,hw⟩:=hq;refine⟨F j,hw,⟨j,hj,rfl⟩,?_⟩;have:=(jk4 (p:=λk=>∃ i,P i/\F j=F i/\m i=k) ⟨_,j,hj,rfl,rfl⟩).2 _ ⟨j,hj,rfl,rfl⟩;rw[<-hm'];omega
  all_goals exact hq)
 exact key a w (h0 a w hS)
theorem rr5 {c:Code}{t e sz sz':Nat}(hl:look t env=some (.nils sz'))(hn:Sd.aD ⟨env,H,gl⟩ t=true)(h:TC E c Q ⟨(t,.own t 0)::env,(t,.row e sz true [] 0)::H,gl⟩):TC E c Q ⟨env,H,gl⟩:=λa w ⟨β,hB⟩=>by
 have h1:=hB.Wl (e:=e) (sz:=sz) hn;refine h a w ⟨_,{h1 with env:=λs v hs=>?_}⟩;dsimp only at hs;rw[j6]at hs;split at hs
 ·rename_i e';subst e';cases hs;obtain⟨x,h2,h3⟩:=hB.env t _ hl;exact⟨x,h2,λe' sz'' sh xs hl'=>by rw[jw6];exact h3⟩
 ·exact h1.env s v hs
end
end
section
section
variable {E:Set}{S:Sd}{dst:Option Tmp}{ty:TypeId}{pos:String}{af:Array Edge}{gd:Option (Nat × Bool)}
end
end
section
inductive Nf where
 |int (k:IntKind)
 |str
 |agg (ls:List Nat)
def vd9 (P:Program)(t:Nat):Nf->Bool
 |.int k=>va3 P t k
 |.str=>va4 P t
 |.agg ls=>vo0 P t ls && va2 P t ls.length
def vo2 (P:Program)(t k e:Nat):Bool:=match P.underlying t with
 |some (.map k' e')=>k' == k && e' == e
 |_=>false
class TMap (P:Program)(t:Nat)(k e:outParam Nat):Prop where
 ok:vo2 P t k e=true
class TKey (P:Program)(t:Nat)(kk:outParam Nf):Prop where
 ok:vd9 P t kk=true
def mc0:List Value->List D->Bool
 |[],[]=>true
 |u::us,x::xs=>(match u,x with
  |.int k n,.int k' n'=>decide (k=k') && decide (n=n')
  |.bool b,.bool b'=>b == b'
  |.string t,.str t'=>t.size == 0 && t'.size == 0
  |.slice none 0 0,.list _ []=>true
  |.pointer none,.raw (.pointer none)=>true
  |.map none,.raw (.map none)=>true
  |.nilFunc,.raw .nilFunc=>true
  |_,_=>false) && mc0 us xs
 |_,_=>false
def qz3 (P:Program)(t:Nat)(v:V):Bool:=match P.info? t with
 |some i=>(match i.zero with
  |some (.agg cs)=>(match v with|.d (.agg ds)=>mc0 cs.toList ds|_=>false)
  |some z=>js7 z v
  |none=>false)
 |none=>false
class Jo (P:Program)(t:Nat)(v:outParam V):Prop where
 ok:qz3 P t v=true
theorem js9 {w:World}{M:Nat->Nat->Prop}:∀ {us:List Value} {xs:List D},mc0 us xs=true->Dz w M xs us
 |[],[],_=>rfl
 |u::us,x::xs,h=>by
  simp only[mc0,Aa]at h;obtain⟨h1,h2⟩:=h;refine⟨u,us,rfl,?_,?_,js9 h2⟩
  ·split at h1<;>first|rfl|cases h1
  ·split at h1
   ·simp only[Aa,Ah]at h1;obtain⟨rfl,rfl⟩:=h1;rfl
   ·simp only[Ed]at h1;subst h1;rfl
   ·simp only[Aa,Ed]at h1;rw[mk5 h1.1 h1.2];rfl
   ·exact⟨none,0,[],rfl,Ap _,Ak _,λ_=>rfl,rfl,Reads.nil _ _ _⟩
   ·exact⟨rfl,rfl⟩
   ·exact⟨rfl,rfl⟩
   ·exact⟨rfl,rfl⟩
   ·cases h1
 |[],_::_,h=>by simp[mc0]at h
 |_::_,[],h=>by simp[mc0]at h
theorem kp1 {P:Program}{t:Nat}{v:V}(h:Jo P t v):∃ i z,P.info? t=some i/\i.zero=some z/\∀ {w:World} {M:Nat->Nat->Prop} {β:Nat->Hd} {H:List (Nat × Ob)},Dc w M β H v z:=by
 have:=h.ok;unfold qz3 at this;cases hi:P.info? t with
 |none=>rw[hi]at this;cases this
 |some i=>
  rw[hi]at this;dsimp only at this;cases hz:i.zero with
  |none=>rw[hz]at this;cases this
  |some z=>
   rw[hz]at this;refine⟨i,z,rfl,hz,?_⟩;intro w M β H;cases z
   case agg cs=>
    dsimp only at this;split at this
    ·exact⟨cs.toList,by simp,js9 this⟩
    ·cases this
   all_goals exact jh2 this
inductive Comp:Nf->D->D->Prop
 |int (k:IntKind) (a b:Int):Comp (.int k) (.int k a) (.int k b)
 |str (a b:ByteArray):Comp .str (.str a) (.str b)
 |agg {ls:List Nat} {ds es:List D} {p:Prop} (h:EqC ls ds es p):Comp (.agg ls) (.agg ds) (.agg es)
def Jg:D->Value
 |.agg ds=>.agg (ds.map Gt).toArray
 |x=>Gt x
theorem EqC.iff {ls:List Nat}{ds es:List D}{p:Prop}(h:EqC ls ds es p):p↔es.map Gt=ds.map Gt:=by
 induction h with
 |nil=>simp
 |bool _ ih=>simp[ih,Gt,eq_comm]
 |@int k a b ls ds es p _ ih=>simp[ih,Gt,eq_comm]
 |str _ ih=>simp[ih,Gt,eq_comm]
theorem EqC.inj {ls:List Nat}{ds es:List D}{p:Prop}(h:EqC ls ds es p):es.map Gt=ds.map Gt↔es=ds:=by
 induction h with
 |nil=>simp
 |bool _ ih=>simp[ih,Gt]
 |@int k a b ls ds es p _ ih=>simp[ih,Gt]
 |str _ ih=>simp[ih,Gt]
theorem Comp.rep {kk:Nf}{x y:D}(h:Comp kk x y){w:World}{M:Nat->Nat->Prop}:(∀ u,Gv w M x u->u=Jg x)/\(∀ u,Gv w M y u->u=Jg y):=by
 cases h with
 |int=>exact⟨λu h=>h,λu h=>h⟩
 |str=>exact⟨λu h=>h,λu h=>h⟩
 |agg h=>
  constructor
  ·rintro u ⟨vs,rfl,h1⟩;rw[h.rep.1 vs h1];rfl
  ·rintro u ⟨vs,rfl,h1⟩;rw[h.rep.2 vs h1];rfl
theorem Comp.inj {kk:Nf}{x y:D}(h:Comp kk x y):Jg y=Jg x↔y=x:=by
 cases h with
 |int=>simp[Jg,Gt]
 |str=>simp[Jg,Gt]
 |agg h=>simp only[Jg,Value.agg.injEq,D.agg.injEq];rw[<-h.inj];exact⟨λe=>by simpa using congrArg Array.toList e,λe=>by rw[e]⟩
section
variable {P:Program}
theorem rr6 (a b:ByteArray):(a == b)=true↔a=b:=by
 cases a;cases b;show ByteArray.beq _ _=true↔_;unfold ByteArray.beq;simp
theorem qz4 (a:ByteArray):(a == a)=true:=(rr6 a a).2 rfl
def Found (u:Value)(es:List MapEntry)(i:Nat)(r:Option (Nat × Value)):Prop:=
 (r=none/\∀ e∈es,e.key≠u)\/∃ j e,r=some (i+j,e.val)/\es[j]? =some e/\e.key=u/\∀ j' e',j'<j->es[j']? =some e'->e'.key≠u
theorem Found.cons {u:Value}{e:MapEntry}{es:List MapEntry}{i:Nat}{r:Option (Nat × Value)}(h:Found u es (i+1) r)(hne:e.key≠u):Found u (e::es) i r:=by
 rcases h with ⟨rfl,h⟩|⟨j,e',rfl,h1,h2,h3⟩
 ·exact .inl ⟨rfl,λx hx=>(Bc.1 hx).elim (λe=>e ▸ hne) (h x)⟩
 ·refine .inr ⟨j+1,e',(by rw[show i+1+j=i+(j+1) by omega]),h1,h2,λj' x hj hx=>?_⟩;cases j' with
  |zero=>simp at hx;subst hx;exact hne
  |succ j'=>exact h3 j' x (by omega) (by simpa using hx)
theorem jv7 {d:TypeDesc}{u:Value}:∀ (es:List MapEntry) (i:Nat),(∀ e∈es,∃ b,(b=true↔e.key=u)/\Instr.sameNow d u e.key=some b)->∃ r,Instr.findNow d u es i=some r/\Found u es i r
 |[],i,_=>⟨none,rfl,.inl ⟨rfl,λe h=>by cases h⟩⟩
 |e::es,i,h=>by
  obtain⟨b,h1,h2⟩:=h e Aw;cases b with
  |true=>exact⟨some (i,e.val),by simp[Instr.findNow,h2],.inr ⟨0,e,rfl,rfl,h1.1 rfl,λj' e' hj=>by omega⟩⟩
  |false=>
   obtain⟨r,h3,h4⟩:=jv7 es (i+1) (λx hx=>h x (Ax _ hx));exact⟨r,by simp[Instr.findNow,h2,h3],h4.cons (λe=>by have:=h1.2 e;cases this)⟩
theorem jt6 {t:Nat}{u:Value}(w:World):∀ (es:List MapEntry) (i:Nat),(∀ e∈es,∃ b,(b=true↔e.key=u)/\∀ w,(Op.equal t u e.key).run P w=.ok b w)->∃ r,(Instr.findAsking t u es i).run P w=.ok r w/\Found u es i r
 |[],i,_=>⟨none,rfl,.inl ⟨rfl,λe h=>by cases h⟩⟩
 |e::es,i,h=>by
  obtain⟨b,h1,h2⟩:=h e Aw;cases b with
  |true=>exact⟨some (i,e.val),by unfold Instr.findAsking;rw[Sem.run_bind,h2 w];rfl,.inr ⟨0,e,rfl,rfl,h1.1 rfl,λj' e' hj=>by omega⟩⟩
  |false=>
   obtain⟨r,h3,h4⟩:=jt6 w es (i+1) (λx hx=>h x (Ax _ hx));exact⟨r,by unfold Instr.findAsking;rw[Sem.run_bind,h2 w];exact h3,h4.cons (λe=>by have:=h1.2 e;cases this)⟩
theorem jg1 {t:Nat}{kk:Nf}[hk:TKey P t kk]{x:D}(w:World)(es:List MapEntry)(h:∀ e∈es,∃ y,Comp kk x y/\e.key=Jg y):∃ r,(Instr.findKey t (Jg x) es).run P w=.ok r w/\Found (Jg x) es 0 r:=by
 have hok:=hk.ok;cases kk with
 |int k=>
  have hd:=mj8 (P:=P) (t:=t) ⟨hok⟩;obtain⟨r,h4,h5⟩:=jv7 (d:=.int k) (u:=Jg x) es 0 λe he=>by
   obtain⟨y,c,hy⟩:=h e he;rw[hy,c.inj];cases c with
   |int k a b=>exact⟨a == b,by rw[Ed,D.int.injEq];exact⟨λe=>⟨rfl,e.symm⟩,λe=>e.2.symm⟩,by show(if k=k then some (a == b) else none)=_;rw[Ad rfl]⟩
  exact⟨r,by simp[Instr.findKey,run_underlying hd,h4],h5⟩
 |str=>
  have hd:=jy8 (P:=P) (t:=t) ⟨hok⟩;obtain⟨r,h4,h5⟩:=jv7 (d:=.string) (u:=Jg x) es 0 λe he=>by
   obtain⟨y,c,hy⟩:=h e he;rw[hy,c.inj];cases c with
   |str a b=>exact⟨a == b,by rw[rr6,D.str.injEq];exact eq_comm,rfl⟩
  exact⟨r,by simp[Instr.findKey,run_underlying hd,h4],h5⟩
 |agg ls=>
  simp only[vd9,Aa]at hok;obtain⟨d,i,hd,hd',_,_⟩:=jq2 (P:=P) (t:=t) ⟨hok.2⟩;obtain⟨r,h4,h5⟩:=jt6 (P:=P) (t:=t) (u:=Jg x) w es 0 λe he=>by
   obtain⟨y,c,hy⟩:=h e he;rw[hy,c.inj];cases c with
   |agg c=>
    obtain⟨b,h1,h2⟩:=rr4 (hs:=⟨hok.2⟩) ⟨hok.1⟩ c;refine⟨b,?_,h2⟩;rw[h1,c.iff,c.inj];simp
  refine⟨r,?_,h5⟩;cases es with
  |nil=>
   have:r=none:=by
    rcases h5 with h5|⟨j,e,_,h5,_⟩
    ·exact h5.1
    ·simp at h5
   subst this;simp[Instr.findKey,run_underlying hd,Instr.findNow]
  |cons e es=>
   have hn:Instr.findNow d (Jg x) (e::es) 0=none:=by
    have:Instr.sameNow d (Jg x) e.key=none:=by rcases hd' with ⟨fs,rfl⟩|⟨n,el,rfl⟩<;>rfl
    simp[Instr.findNow,this]
   simp[Instr.findKey,run_underlying hd,hn,h4]
theorem qf2:∀ (d D:Nat) (t:TypeId) (ls:List Nat),d<=D->leaves P d t=some ls->∀ (i:TypeInfo),P.info? t=some i->i.size=ls.length->∀ (ds es:List Go.Proofs.YtklklgfpkpglgaaGreatDoor.D) (p:Prop),EqC ls ds es p->∀ (pre post:List Value) (off:Nat),pre.length=off->
 ∃ a,(∀ w,(part t (pre++ds.map Gt++post).toArray off).run P w=.ok a w)/\(∀ em w,(Instr.checkKey em D t a).run P w=.ok () w)/\((∃ fs,P.underlying t=some (.struct fs))->a=.agg (ds.map Gt).toArray):=by
 intro d
 induction d with
 |zero=>intro D t ls _ h;simp[leaves]at h
 |succ d ih=>
  intro D t ls hD h i hi hn ds es p hE pre post off ho;obtain⟨D,rfl⟩:∃ D',D=D'+1:=⟨D - 1,by omega⟩;obtain⟨hl1,hl2⟩:=hE.length;have get:∀ (v:Value) (l:List Value),l=[v]->(pre++l++post)[off]? =some v:=λv l h2=>by subst ho;subst h2;simp
  unfold leaves at h;split at h
  ·rename_i hu;cases h;obtain⟨x,y,rfl,rfl,rfl⟩:=hE.inv0;exact⟨_,λw=>jf2 hu (by simp) (by simp) (get (.bool x) _ rfl) w,λem w=>by simp[Instr.checkKey,run_underlying hu],λ⟨fs,hf⟩=>by rw[hu]at hf;cases hf⟩
  ·rename_i k hu;cases h;obtain⟨k',x,y,rfl,rfl,rfl⟩:=hE.inv1;exact⟨_,λw=>jf2 hu (by simp) (by simp) (get (.int k' x) _ rfl) w,λem w=>by simp[Instr.checkKey,run_underlying hu],λ⟨fs,hf⟩=>by rw[hu]at hf;cases hf⟩
  ·rename_i hu;cases h;obtain⟨x,y,rfl,rfl,rfl⟩:=hE.inv2;exact⟨_,λw=>jf2 hu (by simp) (by simp) (get (.string x) _ rfl) w,λem w=>by simp[Instr.checkKey,run_underlying hu],λ⟨fs,hf⟩=>by rw[hu]at hf;cases hf⟩
  ·rename_i fs hu;split at h
   ·cases h
   ·rename_i hst;have fields:∀ (em:Bool) (fl:List Field) (off:Nat) (ls:List Nat),jv6 P (leaves P d) off fl=some ls->∀ (ds es:List Go.Proofs.YtklklgfpkpglgaaGreatDoor.D) (p:Prop),EqC ls ds es p->∀ (pre:List Value),pre.length=off->
     ∀ w,(forIn fl PUnit.unit λf _=>if f.name≠ "_" then (do Instr.checkKey em D f.type (<-part f.type (pre++ds.map Gt).toArray f.offset);pure (ForInStep.yield PUnit.unit)) else pure (ForInStep.yield PUnit.unit):Sem PUnit).run P w=.ok PUnit.unit w:=by
     intro em fl
     induction fl with
     |nil=>intros;rfl
     |cons f fl ih2=>
      intro off ls h ds es p hE pre ho w;simp only[jv6]at h;split at h
      ·cases h
      ·rename_i hf;simp only[Bn,Ed,bne_iff_ne,ne_eq,not_or,Eb]at hf;split at h
       ·rename_i l i' hl hi';split at h
        ·rename_i hsz;simp only[Ed]at hsz;obtain⟨ls',h',rfl⟩:=Fi.1 h;obtain⟨d1,d2,e1,e2,p1,p2,rfl,rfl,h1,h2,rfl⟩:=hE.split l;obtain⟨q1,q2⟩:=h1.length;obtain⟨a,k1,k2,_⟩:=ih D f.type l (by omega) hl i' hi' hsz d1 e1 p1 h1 pre (d2.map Gt) off ho;have k5:=ih2 (off+l.length) ls' h' d2 e2 p2 h2 (pre++d1.map Gt) (by simp;omega) w;have e1':(pre++(d1++d2).map Gt)=pre++d1.map Gt++d2.map Gt:=by simp
         rw[e1'];simp only[List.forIn_cons,hf.1,ne_eq,not_false_eq_true,if_true,hf.2,Sem.run_bind,k1,k2,Result.andThen_ok,Sem.run_pure];exact k5
        ·cases h
       ·cases h
    refine⟨.agg (ds.map Gt).toArray,λw=>mb9 hu hi ho (by simp;omega) w,λem w=>?_,λ_=>rfl⟩;have:=fields em fs.toList 0 ls h ds es p hE [] rfl w;simp only[Ae]at this;simp only[Instr.checkKey,Sem.run_bind,run_underlying hu,Result.andThen_ok,<-Array.forIn_toList];rw[this];rfl
  ·cases h
theorem mk8 (n:Nat){t:Nat}{k k':IntKind}{a:Int}(hu:P.underlying t=some (.int k))(em:Bool)(w:World):(Instr.checkKey em (n+1) t (.int k' a)).run P w=.ok () w:=by simp[Instr.checkKey,run_underlying hu]
theorem mk9 (n:Nat){t:Nat}{a:ByteArray}(hu:P.underlying t=some .string)(em:Bool)(w:World):(Instr.checkKey em (n+1) t (.string a)).run P w=.ok () w:=by simp[Instr.checkKey,run_underlying hu]
theorem Comp.check {t:Nat}{kk:Nf}[hk:TKey P t kk]{x y:D}(h:Comp kk x y)(em:Bool)(w:World):(Instr.checkKey em 10000 t (Jg x)).run P w=.ok () w:=by
 have hok:=hk.ok;cases h with
 |int k a b=>exact mk8 9999 (mj8 ⟨hok⟩) em w
 |str a b=>exact mk9 9999 (jy8 ⟨hok⟩) em w
 |@agg ls ds es p h=>
  simp only[vd9,Aa]at hok;have h1:=hok.1;unfold vo0 at h1;simp only[Aa,Ed,Bz]at h1;obtain⟨⟨h2,h3⟩,h4⟩:=h1;obtain⟨d,i,hu,hd,hi,hsz⟩:=jq2 (P:=P) (t:=t) ⟨hok.2⟩;obtain⟨a,_,k3,k5⟩:=qf2 8 10000 t ls (by omega) h3 i hi hsz ds es p h [] [] 0 rfl;have e:=k5 (by
   split at h2
   ·rename_i fs hu';exact⟨fs,hu'⟩
   ·cases h2)
  subst e;exact k3 em w
theorem mc1 (n:Nat){ls:List Nat}{ds es:List D}{p:Prop}(h:EqC ls ds es p):(((ds.map Gt).zip (ds.map Gt)).all λ(x,y)=>Instr.sameBits n x y)=true:=by
 induction h with
 |nil=>rfl
 |bool _ ih=>simp only[List.map_cons,List.zip_cons_cons,Ei,ih,Bu];cases n<;>simp[Gt,Instr.sameBits]
 |int _ ih=>simp only[List.map_cons,List.zip_cons_cons,Ei,ih,Bu];cases n<;>simp[Gt,Instr.sameBits]
 |str _ ih=>simp only[List.map_cons,List.zip_cons_cons,Ei,ih,Bu];cases n<;>simp[Gt,Instr.sameBits,qz4]
theorem Comp.stays {kk:Nf}{x y:D}(h:Comp kk x y)(w:World):(Instr.keyThatStays (Jg x) (Jg x)).run P w=.ok (Jg x) w:=by
 have:Instr.sameBits 10000 (Jg x) (Jg x)=true:=by
  cases h with
  |int k a b=>simp[Jg,Gt,Instr.sameBits]
  |str a b=>simp[Jg,Gt,Instr.sameBits,qz4]
  |agg h=>
   have:=mc1 9999 h;simp only[Jg,Instr.sameBits,BEq.rfl,Bf];exact this
 simp[Instr.keyThatStays,this]
theorem jc9 {t k e:Nat}(h:TMap P t k e):P.underlying t=some (.map k e):=by
 have:=h.ok;unfold vo2 at this;split at this
 ·rename_i k' e' hu;simp only[Aa,Ed]at this;obtain⟨rfl,rfl⟩:=this;exact hu
 ·cases this
end
end
end Go.Proofs.YtklklgfpkpglgaaGreatDoor
