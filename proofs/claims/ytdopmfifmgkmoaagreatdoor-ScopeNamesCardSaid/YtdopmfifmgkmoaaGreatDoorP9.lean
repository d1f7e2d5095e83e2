/- Parts: D14, D15, RowD. -/
import Derived.Test.YtdopmfifmgkmoaaGreatDoorP8
import Derived.Laws.BytesArg
import Derived.Test.YtdopmfifmgkmoaaGreatDoorRows
import Derived.ProofKit
import Derived.OpenShut
import Derived.ShutString
import Derived.ChangeOld
import Derived.Below
import Derived.Test.YtdopmfifmgkmoaaGreatDoorP7
import Derived.Deep.Slices
set_option linter.all false
set_option maxRecDepth 100000
set_option maxHeartbeats 16000000
namespace Go.Proofs.YtdopmfifmgkmoaaGreatDoor
open Go.RowKit
section
def jr9 (P:Program)(rec:TypeId->Option (List Nat)):Nat->List Field->Option (List Nat)
 |_,[]=>some []
 |off,f::fs=>if f.name == "_" || f.offset != off then none else match rec f.type,P.info? f.type with
  |some l,some i=>if i.size == l.length then (jr9 P rec (off+l.length) fs).map (l++·) else none
  |_,_=>none
def leaves (P:Program):Nat->TypeId->Option (List Nat)
 |0,_=>none
 |d+1,t=>match P.underlying t with
  |some .bool=>some [0]
  |some (.int _)=>some [1]
  |some .string=>some [2]
  |some (.struct fs)=>if P.stoodInHeld t then none else jr9 P (leaves P d) 0 fs.toList
  |_=>none
def rd3 (P:Program)(t:Nat)(ls:List Nat):Bool:=(match P.underlying t with|some (.struct _)=>true|_=>false) && leaves P 8 t == some ls && !P.eqGuardType P.depth t
class TEq (P:Program)(t:Nat)(ls:outParam (List Nat)):Prop where
 ok:rd3 P t ls=true
inductive EqC:List Nat->List D->List D->Prop->Prop
 |nil:EqC [] [] [] True
 |bool {a b:Bool} {ls:List Nat} {ds es:List D} {p:Prop} (h:EqC ls ds es p):EqC (0::ls) (.bool a::ds) (.bool b::es) (a=b/\p)
 |int {k:IntKind} {a b:Int} {ls:List Nat} {ds es:List D} {p:Prop} (h:EqC ls ds es p):EqC (1::ls) (.int k a::ds) (.int k b::es) (a=b/\p)
 |str {a b:ByteArray} {ls:List Nat} {ds es:List D} {p:Prop} (h:EqC ls ds es p):EqC (2::ls) (.str a::ds) (.str b::es) (a=b/\p)
def leafV:D->Value
 |.int k n=>.int k n
 |.bool b=>.bool b
 |.str s=>.string s
 |_=>undef
theorem EqC.rep {ls:List Nat}{ds es:List D}{p:Prop}(h:EqC ls ds es p){w:World}{M:Nat->Nat->Prop}:(∀ us,RepA w M ds us->us=ds.map leafV)/\(∀ us,RepA w M es us->us=es.map leafV):=by
 induction h with
 |nil=>exact⟨fun us h=>h,fun us h=>h⟩
 |bool _ ih=>exact⟨fun us h=>by obtain⟨v,r,rfl,_,h2,h3⟩:=h;simp only[RepD]at h2;subst h2;rw[ih.1 r h3];rfl,fun us h=>by obtain⟨v,r,rfl,_,h2,h3⟩:=h;simp only[RepD]at h2;subst h2;rw[ih.2 r h3];rfl⟩
 |int _ ih=>exact⟨fun us h=>by obtain⟨v,r,rfl,_,h2,h3⟩:=h;simp only[RepD]at h2;subst h2;rw[ih.1 r h3];rfl,fun us h=>by obtain⟨v,r,rfl,_,h2,h3⟩:=h;simp only[RepD]at h2;subst h2;rw[ih.2 r h3];rfl⟩
 |str _ ih=>exact⟨fun us h=>by obtain⟨v,r,rfl,_,h2,h3⟩:=h;simp only[RepD]at h2;subst h2;rw[ih.1 r h3];rfl,fun us h=>by obtain⟨v,r,rfl,_,h2,h3⟩:=h;simp only[RepD]at h2;subst h2;rw[ih.2 r h3];rfl⟩
theorem EqC.length {ls:List Nat}{ds es:List D}{p:Prop}(h:EqC ls ds es p):ds.length=ls.length/\es.length=ls.length:=by
 induction h with
 |nil=>exact⟨rfl,rfl⟩
 |bool _ ih=>simp[ih.1,ih.2]
 |int _ ih=>simp[ih.1,ih.2]
 |str _ ih=>simp[ih.1,ih.2]
theorem EqC.inv0 {ds es:List D}{p:Prop}(h:EqC [0] ds es p):∃ a b,ds=[.bool a]/\es=[.bool b]/\p=(a=b/\True):=by
 cases h with|bool h=>cases h;exact⟨_,_,rfl,rfl,rfl⟩
theorem EqC.inv1 {ds es:List D}{p:Prop}(h:EqC [1] ds es p):∃ k a b,ds=[.int k a]/\es=[.int k b]/\p=(a=b/\True):=by
 cases h with|int h=>cases h;exact⟨_,_,_,rfl,rfl,rfl⟩
theorem EqC.inv2 {ds es:List D}{p:Prop}(h:EqC [2] ds es p):∃ a b,ds=[.str a]/\es=[.str b]/\p=(a=b/\True):=by
 cases h with|str h=>cases h;exact⟨_,_,rfl,rfl,rfl⟩
theorem EqC.split:∀ (l:List Nat) {l':List Nat} {ds es:List D} {p:Prop},EqC (l++l') ds es p->∃ d1 d2 e1 e2 p1 p2,ds=d1++d2/\es=e1++e2/\EqC l d1 e1 p1/\EqC l' d2 e2 p2/\p=(p1/\p2)
 |[],l',ds,es,p,h=>⟨[],ds,[],es,True,p,rfl,rfl,.nil,h,by simp⟩
 |x::l,l',ds,es,p,h=>by
  generalize hl:x::l++l'=L at h
  cases h with
  |nil=>cases hl
  |bool h=>
   cases hl
   obtain⟨d1,d2,e1,e2,p1,p2,rfl,rfl,h1,h2,rfl⟩:=EqC.split l h
   exact⟨_::d1,d2,_::e1,e2,_,p2,rfl,rfl,.bool h1,h2,by simp[and_assoc]⟩
  |int h=>
   cases hl
   obtain⟨d1,d2,e1,e2,p1,p2,rfl,rfl,h1,h2,rfl⟩:=EqC.split l h
   exact⟨_::d1,d2,_::e1,e2,_,p2,rfl,rfl,.int h1,h2,by simp[and_assoc]⟩
  |str h=>
   cases hl
   obtain⟨d1,d2,e1,e2,p1,p2,rfl,rfl,h1,h2,rfl⟩:=EqC.split l h
   exact⟨_::d1,d2,_::e1,e2,_,p2,rfl,rfl,.str h1,h2,by simp[and_assoc]⟩
section
variable {P:Program}
theorem je4 {t:TypeId}{d:TypeDesc}(hu:P.underlying t=some d)(h1:∀ fs,d≠.struct fs)(h2:∀ n e,d≠.array n e){xs:List Value}{off:Nat}{v:Value}(hv:xs[off]? =some v)(w:World):(part t xs.toArray off).run P w=.ok v w:=by
 simp[part,mi0 hu h1 h2,hv]
theorem ks2 {t:TypeId}{fs:Array Field}(hu:P.underlying t=some (.struct fs)){i:TypeInfo}(hi:P.info? t=some i){pre us post:List Value}{off:Nat}(ho:pre.length=off)(hn:us.length=i.size)(w:World):
 (part t (pre++us++post).toArray off).run P w=.ok (.agg us.toArray) w:=by
 have he:((pre++us++post).toArray.extract off (off+i.size))=us.toArray:=by
  simp[List.extract_eq_take_drop,<-ho,hn]
 simp only[part,Sem.run_bind,kh0 hu (.inl ⟨fs,rfl⟩),Result.andThen_ok,if_true,jd1 hi,Sem.run_pure,he]
theorem qd2:∀ (d D:Nat) (t:TypeId) (ls:List Nat),d<=D->leaves P d t=some ls->∀ (i:TypeInfo),P.info? t=some i->i.size=ls.length->∀ (ds es:List Go.Proofs.YtdopmfifmgkmoaaGreatDoor.D) (p:Prop),EqC ls ds es p->∀ (pre post pre' post':List Value) (off:Nat),pre.length=off->pre'.length=off->
 ∃ a c b,(∀ w,(part t (pre++ds.map leafV++post).toArray off).run P w=.ok a w)/\(∀ w,(part t (pre'++es.map leafV++post').toArray off).run P w=.ok c w)/\(∀ w,(Op.equalIn D t a c).run P w=.ok b w)/\(b=true)=p/\((∃ fs,P.underlying t=some (.struct fs))->a=.agg (ds.map leafV).toArray/\c=.agg (es.map leafV).toArray):=by
 intro d
 induction d with
 |zero=>intro D t ls _ h;simp[leaves]at h
 |succ d ih=>
  intro D t ls hD h i hi hn ds es p hE pre post pre' post' off ho ho'
  obtain⟨D,rfl⟩:∃ D',D=D'+1:=⟨D - 1,by omega⟩
  obtain⟨hl1,hl2⟩:=hE.length
  have get:∀ (pre post:List Value) (v:Value) (l:List Value),pre.length=off->l=[v]->(pre++l++post)[off]? =some v:=fun pre post v l h1 h2=>by subst h1;subst h2;simp
  unfold leaves at h
  split at h
  ·rename_i hu
   cases h
   obtain⟨x,y,rfl,rfl,rfl⟩:=hE.inv0
   refine⟨_,_,x == y,fun w=>je4 hu (by simp) (by simp) (get _ _ (.bool x) _ ho rfl) w,fun w=>je4 hu (by simp) (by simp) (get _ _ (.bool y) _ ho' rfl) w,fun w=>run_equalIn_bool' w D t x y hu,?_,fun⟨fs,hf⟩=>?_⟩
   ·simp
   ·rw[hu]at hf;cases hf
  ·rename_i k hu
   cases h
   obtain⟨k',x,y,rfl,rfl,rfl⟩:=hE.inv1
   refine⟨_,_,x == y,fun w=>je4 hu (by simp) (by simp) (get _ _ (.int k' x) _ ho rfl) w,fun w=>je4 hu (by simp) (by simp) (get _ _ (.int k' y) _ ho' rfl) w,fun w=>run_equalIn_int w D t k' k x y hu,?_,fun⟨fs,hf⟩=>?_⟩
   ·simp
   ·rw[hu]at hf;cases hf
  ·rename_i hu
   cases h
   obtain⟨x,y,rfl,rfl,rfl⟩:=hE.inv2
   refine⟨_,_,x.toList == y.toList,fun w=>je4 hu (by simp) (by simp) (get _ _ (.string x) _ ho rfl) w,fun w=>je4 hu (by simp) (by simp) (get _ _ (.string y) _ ho' rfl) w,fun w=>run_equalIn_string w D t x y hu,?_,fun⟨fs,hf⟩=>?_⟩
   ·by_cases h:x=y
    ·rw[jv4 x y (b:=true) (propext ⟨fun _=>h,fun _=>rfl⟩)];simp[h]
    ·rw[jv4 x y (b:=false) (propext ⟨(fun h'=>by cases h'),fun h'=>absurd h' h⟩)];simp[h]
   ·rw[hu]at hf;cases hf
  ·rename_i fs hu
   split at h
   ·cases h
   ·rename_i hst
    have hst:P.stoodInHeld t=false:=by simpa using hst
    have hfo:P.fieldsOf t=fs:=by unfold Program.fieldsOf;rw[hu]
    have fields:∀ (fl:List Field) (off:Nat) (ls:List Nat),jr9 P (leaves P d) off fl=some ls->∀ (ds es:List Go.Proofs.YtdopmfifmgkmoaaGreatDoor.D) (p:Prop),EqC ls ds es p->∀ (pre pre':List Value),pre.length=off->pre'.length=off->
     ∃ b,(∀ w,(Op.eqFields D (pre++ds.map leafV).toArray (pre'++es.map leafV).toArray fl).run P w=.ok b w)/\(b=true)=p:=by
     intro fl
     induction fl with
     |nil=>
      intro off ls h ds es p hE pre pre' _ _
      simp only[jr9,Option.some.injEq]at h
      subst h
      cases hE
      exact⟨true,fun w=>rfl,by simp⟩
     |cons f fl ih2=>
      intro off ls h ds es p hE pre pre' ho ho'
      simp only[jr9]at h
      split at h
      ·cases h
      ·rename_i hf
       simp only[Bool.or_eq_true,beq_iff_eq,bne_iff_ne,ne_eq,not_or,Decidable.not_not]at hf
       split at h
       ·rename_i l i' hl hi'
        split at h
        ·rename_i hsz
         simp only[beq_iff_eq]at hsz
         obtain⟨ls',h',rfl⟩:=Option.map_eq_some_iff.1 h
         obtain⟨d1,d2,e1,e2,p1,p2,rfl,rfl,h1,h2,rfl⟩:=hE.split l
         obtain⟨q1,q2⟩:=h1.length
         obtain⟨a,c,b,k1,k2,k3,k4,_⟩:=ih D f.type l (by omega) hl i' hi' hsz d1 e1 p1 h1 pre (d2.map leafV) pre' (e2.map leafV) off ho ho'
         obtain⟨b2,k5,k6⟩:=ih2 (off+l.length) ls' h' d2 e2 p2 h2 (pre++d1.map leafV) (pre'++e1.map leafV) (by simp;omega) (by simp;omega)
         refine⟨b && b2,fun w=>?_,?_⟩
         ·have e1':(pre++(d1++d2).map leafV)=pre++d1.map leafV++d2.map leafV:=by simp
          have e2':(pre'++(e1++e2).map leafV)=pre'++e1.map leafV++e2.map leafV:=by simp
          rw[e1',e2']
          simp only[Op.eqFields,hf.1,ne_eq,not_false_eq_true,if_true,hf.2,Sem.run_bind,k1,k2,k3,Result.andThen_ok]
          cases b with
          |false=>rfl
          |true=>simp only[Bool.not_true,Bool.false_eq_true,if_false,Bool.true_and];exact k5 w
         ·rw[<-k4,<-k6]
          simp
        ·cases h
       ·cases h
    obtain⟨b,k1,k2⟩:=fields fs.toList 0 ls h ds es p hE [] [] rfl rfl
    refine⟨.agg (ds.map leafV).toArray,.agg (es.map leafV).toArray,b,fun w=>ks2 hu hi ho (by simp;omega) w,fun w=>ks2 hu hi ho' (by simp;omega) w,fun w=>?_,k2,fun _=>⟨rfl,rfl⟩⟩
    rw[run_equalIn_struct w D t _ _ (by rw[hfo];exact hu) hst,hfo]
    exact k1 w
  ·cases h
theorem qp4 {t:Nat}{ls:List Nat}(h:TEq P t ls)[hs:TAgg P t ls.length]{ds es:List D}{p:Prop}(hE:EqC ls ds es p):∃ b,(b=true)=p/\∀ w,(Op.equalIn 10000 t (.agg (ds.map leafV).toArray) (.agg (es.map leafV).toArray)).run P w=.ok b w:=by
 have h1:=h.ok
 unfold rd3 at h1
 simp only[Bool.and_eq_true,beq_iff_eq,Bool.not_eq_true']at h1
 obtain⟨⟨h2,h3⟩,h4⟩:=h1
 obtain⟨d,i,hu,hd,hi,hsz⟩:=jn7 hs
 obtain⟨a,c,b,_,_,k3,k4,k5⟩:=qd2 8 10000 t ls (by omega) h3 i hi hsz ds es p hE [] [] [] [] 0 rfl rfl
 obtain⟨rfl,rfl⟩:=k5 (by
  split at h2
  ·rename_i fs hu';exact⟨fs,hu'⟩
  ·cases h2)
 exact⟨b,k4,k3⟩
end
section
variable {E:Set}{Q:Exit->Sd->Prop}{ops:Array Oper}{draw:Bool}{rest:Todo}{way:Way3}{ty:TypeId}{pos:String}{af:Array Edge}{gd:Option (Nat × Bool)}{dst:Option Tmp}
variable {env:List (Nat × V)}{H:List (Nat × Ob)}{gl:List (Nat × List D)}{d:Nat}
theorem rd4 {S:Sd}{t:Nat}{yt:TypeId}{x y:Operand}{ls:List Nat}{ds es:List D}{p:Prop}[ht:TEq E.P t ls][hs:TAgg E.P t ls.length](hx:S.ev x=some (.d (.agg ds)))(hy:S.ev y=some (.d (.agg es)))(hox:okOp x=true)(hoy:okOp y=true)(hE:EqC ls ds es p):
 ∃ b:Bool,(b=true)=p/\Swift E S ⟨dst,.binOp .eql t x y yt,ty,pos,af,gd⟩ (.d (.bool b))/\Swift E S ⟨dst,.binOp .neq t x y yt,ty,pos,af,gd⟩ (.d (.bool !b)):=by
 obtain⟨b,h1,h2⟩:=qp4 (P:=E.P) (t:=t) ht hE
 have hm:E.P.eqGuardType E.P.depth t=false:=by
  have:=ht.ok
  unfold rd3 at this
  simp only[Bool.and_eq_true,Bool.not_eq_true']at this
  exact this.2
 refine⟨b,h1,Swift.mk fun β a w h=>⟨.bool b,fun w' _=>?_,rfl⟩,Swift.mk fun β a w h=>⟨.bool !b,fun w' _=>?_,rfl⟩⟩
 all_goals
  obtain⟨us,e1,r1⟩:=h.ev hx hox
  obtain⟨vs,e2,r2⟩:=h.ev hy hoy
  rw[(hE.rep (w:=w) (M:=Mut E.C.M0 β S.H)).1 us r1]at e1
  rw[(hE.rep (w:=w) (M:=Mut E.C.M0 β S.H)).2 vs r2]at e2
  simp only[execOp,e1,e2,Sem.run_bind,run_eqGuard_agg w' _ t x y _ _ hm,Result.andThen_ok,run_eql_struct,run_neq_struct,h2 w',Sem.run_pure]
theorem qm4 {t:Nat}{yt:TypeId}{x y:Operand}{ls:List Nat}{ds es:List D}{p:Prop}[ht:TEq E.P t ls][hs:TAgg E.P t ls.length](hx:Sd.ev ⟨env,H,gl⟩ x=some (.d (.agg ds)))(hy:Sd.ev ⟨env,H,gl⟩ y=some (.d (.agg es)))(hox:okOp x=true)(hoy:okOp y=true)(hE:EqC ls ds es p)(hd:d<E.C.nt)
 (hg:Sd.gd ⟨env,H,gl⟩ ops ⟨some d,.binOp .eql t x y yt,ty,pos,af,gd⟩=some true) (h1:p->TR E draw ops Q rest ⟨(d,.d (.bool true))::env,H,gl⟩) (h2:¬p->TR E draw ops Q rest ⟨(d,.d (.bool false))::env,H,gl⟩):
 TR E draw ops Q (.step ⟨some d,.binOp .eql t x y yt,ty,pos,af,gd⟩ way rest) ⟨env,H,gl⟩:=by
 obtain⟨b,hb,hq,_⟩:=rd4 (E:=E) (S:=⟨env,H,gl⟩) (t:=t) (dst:=some d) (yt:=yt) (ty:=ty) (pos:=pos) (af:=af) (gd:=gd) hx hy hox hoy hE
 cases b
 ·exact jd0 hq rfl hd hg rfl (h2 (by rw[<-hb];simp))
 ·exact jd0 hq rfl hd hg rfl (h1 (by rw[<-hb]))
theorem qm5 {t:Nat}{yt:TypeId}{x y:Operand}{ls:List Nat}{ds es:List D}{p:Prop}[ht:TEq E.P t ls][hs:TAgg E.P t ls.length](hx:Sd.ev ⟨env,H,gl⟩ x=some (.d (.agg ds)))(hy:Sd.ev ⟨env,H,gl⟩ y=some (.d (.agg es)))(hox:okOp x=true)(hoy:okOp y=true)(hE:EqC ls ds es p)(hd:d<E.C.nt)
 (hg:Sd.gd ⟨env,H,gl⟩ ops ⟨some d,.binOp .neq t x y yt,ty,pos,af,gd⟩=some true) (h1:p->TR E draw ops Q rest ⟨(d,.d (.bool false))::env,H,gl⟩) (h2:¬p->TR E draw ops Q rest ⟨(d,.d (.bool true))::env,H,gl⟩):
 TR E draw ops Q (.step ⟨some d,.binOp .neq t x y yt,ty,pos,af,gd⟩ way rest) ⟨env,H,gl⟩:=by
 obtain⟨b,hb,_,hq⟩:=rd4 (E:=E) (S:=⟨env,H,gl⟩) (t:=t) (dst:=some d) (yt:=yt) (ty:=ty) (pos:=pos) (af:=af) (gd:=gd) hx hy hox hoy hE
 cases b
 ·exact jd0 hq rfl hd hg rfl (h2 (by rw[<-hb];simp))
 ·exact jd0 hq rfl hd hg rfl (h1 (by rw[<-hb]))
inductive Sub {α:Type}(env:List (Nat × α)):List (Nat × α)->Prop
 |nil:Sub env []
 |cons {t:Nat} {v:α} {r:List (Nat × α)} (h:look t env=some v) (k:Sub env r):Sub env ((t,v)::r)
theorem Sub.look {α:Type}{env l:List (Nat × α)}(h:Sub env l){t:Nat}{v:α}(hl:Go.Proofs.YtdopmfifmgkmoaaGreatDoor.look t l=some v):Go.Proofs.YtdopmfifmgkmoaaGreatDoor.look t env=some v:=by
 induction h with
 |nil=>cases hl
 |cons h1 _ ih=>
  rw[j8]at hl
  split at hl
  ·rename_i e;subst e;cases hl;exact h1
  ·exact ih hl
def Wk (C:Ctx)(S S':Sd):Prop:=∀ a w,St C S a w->St C S' a w
theorem wk {C:Ctx}{env':List (Nat × V)}{H':List (Nat × Ob)}(h1:Sub env env')(h2:Sub H H')(h3:(C.N.all fun n=>(look n H').isSome)=true):Wk C ⟨env,H,gl⟩ ⟨env',H',gl⟩:=fun a w ⟨β,hB⟩=>⟨β,hB.weak (fun t v h=>h1.look h) (fun n ob h=>h2.look h) (fun _ _ h=>h) (fun n hn=>List.all_eq_true.1 h3 n hn)⟩
theorem jg1 {S:Sd}{c:Code}{ι:Type}(F:ι->Sd)(P:ι->Prop)(m:ι->Nat)(i0:ι)(hp:P i0)(h0:Wk E.C S (F i0))(round:∀ i,P i->TC E c (Exit.thenD (fun S'=>∃ j,P j/\m j<m i/\Wk E.C S' (F j)) Q) (F i)):TC E (.loop c) Q S:=by
 intro a w hS
 have key:=qv0 (E:=E) (Q:=Q) (c:=c) (S:=F i0) (fun S=>∃ i,P i/\S=F i) (fun S=>kg7 fun k=>∃ i,P i/\S=F i/\m i=k) ⟨i0,hp,rfl⟩ (fun S ⟨i,hi,hSi⟩=>by
  obtain⟨⟨i',hi',hS',hm'⟩,hmin⟩:=ji8 (p:=fun k=>∃ i,P i/\S=F i/\m i=k) ⟨_,i,hi,hSi,rfl⟩
  subst hS'
  refine md1 (round i' hi') fun e S' hq=>?_
  cases e
  case normal=>
   obtain⟨j,hj,hlt,hw⟩:=hq
   refine⟨F j,hw,⟨j,hj,rfl⟩,?_⟩
   have:=(ji8 (p:=fun k=>∃ i,P i/\F j=F i/\m i=k) ⟨_,j,hj,rfl,rfl⟩).2 _ ⟨j,hj,rfl,rfl⟩
   rw[<-hm']
   omega
  all_goals exact hq)
 exact key a w (h0 a w hS)
theorem kn3 {c:Code}{t e sz sz':Nat}(hl:look t env=some (.nils sz'))(hn:Sd.fresh ⟨env,H,gl⟩ t=true)(h:TC E c Q ⟨(t,.own t 0)::env,(t,.row e sz true [] 0)::H,gl⟩):TC E c Q ⟨env,H,gl⟩:=fun a w ⟨β,hB⟩=>by
 have h1:=hB.nilRow (e:=e) (sz:=sz) hn
 refine h a w ⟨_,{h1 with env:=fun s v hs=>?_}⟩
 dsimp only at hs
 rw[j8]at hs
 split at hs
 ·rename_i e'
  subst e'
  cases hs
  obtain⟨x,h2,h3⟩:=hB.env t _ hl
  exact⟨x,h2,fun e' sz'' sh xs hl'=>by rw[mb1];exact h3⟩
 ·exact h1.env s v hs
end
end
section
section
variable {E:Set}{S:Sd}{dst:Option Tmp}{ty:TypeId}{pos:String}{af:Array Edge}{gd:Option (Nat × Bool)}
end
end
section
open Go.ChangeShapes Go.WideShapes Go.ChangeAt Go.RowKit
theorem qm6 {w:World}{x:Addr}{j:Nat}{v:Value}(h:w.cell? (x.add j)=some v):(x.add j).spot=none:=by
 cases hs:(x.add j).spot with
 |none=>rfl
 |some q=>
  unfold World.cell? at h
  split at h
  ·simp[hs]at h
  ·cases h
theorem rd5 {w:World}{x:Addr}{j:Nat}{v:Value}(h:w.cell? (x.add j)=some v)(hx:x.spot=none):w.cell? ⟨x.block,x.off+j,none⟩=some v:=by
 have e:x.add j=⟨x.block,x.off+j,none⟩:=by
  unfold Addr.add
  split
  ·rename_i h0
   subst h0
   cases x
   simp_all
  ·rfl
 rw[<-e]
 exact h
theorem ki5 {w:World}{x:Addr}{n c size:Nat}{xs:List Value}(h:∀ j v,xs[j]? =some v->w.cell? (x.add j)=some v)(hl:xs.length=n * size)(hc:n<=c)(hm:c<=maxLen):
 Sl w w.heap.size (some x) n c size xs:=by
 refine⟨hl,?_,hc,hm,fun h=>by cases h⟩
 intro j v hv
 have h0:∃ u,xs[0]? =some u:=by
  cases xs with
  |nil=>cases hv
  |cons u us=>exact⟨u,rfl⟩
 obtain⟨u,hu⟩:=h0
 have hx:x.spot=none:=by
  have:=qm6 (h 0 u hu)
  unfold Addr.add at this
  simpa using this
 have hcell:=rd5 (h j v hv) hx
 refine⟨x.block,x.off,?_,World.block_lt_of_cell? w ⟨x.block,x.off+j,none⟩ hcell,hcell⟩
 obtain⟨xb,xo,xs'⟩:=x
 obtain rfl:xs'=none:=hx
 rfl
def NoM:Nat->Nat->Prop:=fun _ _=>False
def Opn (P:Program)(t:TypeId)(G:List D->Prop):Prop:=
 ∀ (H:Type) (enc:TypeId × Value->H) (w:World) (base:Nat) (spare:Nat->Bool) (held:Bool) (fuel:Nat) (cs:List Value) (x:DataW H × List MemPlace),
   DataW.trod enc P w base spare held fuel t cs=some x->∃ ds,G ds/\RepA w NoM ds cs
theorem Opn.mono {P:Program}{t:TypeId}{G G':List D->Prop}(h:Opn P t G)(hg:∀ ds,G ds->G' ds):Opn P t G':=fun H enc w b s hd f cs x hx=>by
 obtain⟨ds,h1,h2⟩:=h H enc w b s hd f cs x hx
 exact⟨ds,hg _ h1,h2⟩
theorem RepA.single {w:World}{M:Nat->Nat->Prop}{x:D}{v:Value}(h1:v.oneCell'=true)(h:RepD w M x v):RepA w M [x] [v]:=⟨v,[],rfl,h1,h,rfl⟩
theorem jg3 {P:Program}{t:TypeId}{k:IntKind}(ht:P.underlying t=some (.int k)):Opn P t (fun ds=>∃ n,ds=[.int k n]/\(Lit.int k n).wf=true):=fun H enc w b s hd f cs x hx=>by
 obtain⟨n,rfl,_,hw⟩:=DataW.trod_int ht hx
 exact⟨_,⟨n,rfl,hw⟩,RepA.single rfl rfl⟩
theorem mi9 {P:Program}{t:TypeId}(ht:P.underlying t=some .bool):Opn P t (fun ds=>∃ b,ds=[.bool b]):=fun H enc w b s hd f cs x hx=>by
 obtain⟨n,rfl,_⟩:=DataW.trod_bool ht hx
 exact⟨_,⟨n,rfl⟩,RepA.single rfl rfl⟩
theorem jd7 {P:Program}{t:TypeId}(ht:P.underlying t=some .string):Opn P t (fun ds=>∃ s:ByteArray,ds=[.str s]/\s.size<=maxLen):=fun H enc w b s hd f cs x hx=>by
 obtain⟨n,rfl,_,hm⟩:=DataW.trod_string ht hx
 exact⟨_,⟨n,rfl,hm⟩,RepA.single rfl rfl⟩
theorem jz9 {α:Type}{n:Nat}{p:Nat->α->Prop}(h:∀ i,i<n->∃ x,p i x):∃ l:List α,l.length=n/\∀ i (hi:i<l.length),p i l[i]:=by
 induction n with
 |zero=>exact⟨[],rfl,fun i hi=>absurd hi (Nat.not_lt_zero _)⟩
 |succ n ih=>
  obtain⟨l,hl,hp⟩:=ih (fun i hi=>h i (by omega))
  obtain⟨x,hx⟩:=h n (by omega)
  refine⟨l++[x],by simp[hl],fun i hi=>?_⟩
  by_cases hin:i<l.length
  ·rw[List.getElem_append_left hin];exact hp i hin
  ·obtain rfl:i=n:=by simp at hi;omega
   rw[List.getElem_append_right (by omega)]
   simpa [hl]using hx
def qd3 (one:Bool)(cs:List Value):Value:=match one,cs with
 |true,[v]=>v
 |_,_=>.agg cs.toArray
def mo4 (one:Bool)(ds:List D):D:=match one,ds with
 |true,[d]=>d
 |_,_=>.agg ds
theorem qx6 {w:World}{M:Nat->Nat->Prop}{one:Bool}{ds:List D}{cs:List Value}(h:RepA w M ds cs)(h1:one=true->ds.length=1):
 RepD w M (mo4 one ds) (qd3 one cs)/\(qd3 one cs).cells.toList=cs:=by
 have hl:=h.length
 cases one with
 |false=>
  refine⟨⟨cs,rfl,h⟩,?_⟩
  simp[qd3,Value.cells]
 |true=>
  have h1:=h1 rfl
  obtain⟨d,rfl⟩:=List.length_eq_one_iff.1 h1
  obtain⟨v,rfl⟩:=List.length_eq_one_iff.1 (hl.trans h1)
  obtain⟨_,_,e,h2,h3,_⟩:=h
  simp at e
  obtain⟨rfl,rfl⟩:=e
  refine⟨h3,?_⟩
  simp only[qd3]
  cases v<;>simp_all [Value.cells,Value.oneCell']
theorem ks3 {w:World}{M:Nat->Nat->Prop}{one:Bool}{sz:Nat}:∀ (xs:List (List D)) (ys:List (List Value)),xs.length=ys.length->(∀ i (h:i<xs.length) (k:i<ys.length),RepA w M xs[i] ys[i]/\ys[i].length=sz)->(one=true->sz=1)->
 RepE w M sz (xs.map (mo4 one)) ys.flatten
 |[],[],_,_,_=>rfl
 |x::xs,y::ys,hl,h,h1=>by
  obtain⟨h2,h3⟩:=h 0 (by simp) (by simp)
  simp at h2 h3
  obtain⟨h4,h5⟩:=qx6 (one:=one) h2 (fun e=>by rw[<-h2.length,h3,h1 e])
  refine⟨qd3 one y,ys.flatten,by rw[h5];rfl,?_,h4,ks3 xs ys (by simpa using hl) (fun i a b=>?_) h1⟩
  ·rw[<-Array.length_toList,h5,h3]
  ·have:=h (i+1) (by simpa using a) (by simpa using b)
   simpa using this
theorem jk5 {P:Program}{t e:TypeId}{G:List D->Prop}(one:Bool)(sz:Nat)(ht:P.underlying t=some (.slice e))(hc:P.cellsOf e=sz)(h1:one=true->sz=1)(he:Opn P e G):
 Opn P t (fun ds=>∃ xs:List (List D),ds=[.list sz (xs.map (mo4 one))]/\(∀ x∈xs,G x/\x.length=sz)/\xs.length<=maxLen):=fun H enc w b s hd f cs x hx=>by
 subst hc
 rcases Go.Deep.open_slice ht hx with ⟨rfl,_⟩|⟨p,n,c,m,f',D',Pl,rfl,_,hl,hm,hmm,_,hi⟩
 ·refine⟨_,⟨[],rfl,by simp,by simp⟩,RepA.single rfl ⟨none,0,[],rfl,Nat.le_refl _,Nat.zero_le _,fun _=>rfl,rfl,fun j y hj=>by simp at hj⟩⟩
 ·have hle:n<=m:=by rw[hmm];split<;>omega
  obtain⟨l,hlen,hp⟩:=jz9 (n:=n) (p:=fun i (y:List D × List Value)=>G y.1/\RepA w NoM y.1 y.2/\y.2.length=P.cellsOf e/\∀ j v,y.2[j]? =some v->w.cell? (p.add (i * P.cellsOf e+j))=some v) (fun i hin=>by
   obtain⟨cs',h2,h3⟩:=hi i (by omega)
   obtain⟨ds,h4,h5⟩:=he H enc w b s hd f' cs' _ h3
   obtain⟨_,hcl,hat⟩:=World.cells?_some h2
   refine⟨(ds,cs'),h4,h5,hcl,fun j v hv=>?_⟩
   have hj:j<P.cellsOf e:=by rw[<-hcl];exact(List.getElem?_eq_some_iff.1 hv).1
   rw[<-Go.Deep.add_add,hat j hj,hv])
  have hflat:∀ (l:List (List D × List Value)) (o:Nat),(∀ i (h:i<l.length),l[i].2.length=P.cellsOf e/\∀ j v,l[i].2[j]? =some v->w.cell? (p.add ((o+i) * P.cellsOf e+j))=some v)->
   ∀ j v,(l.map (·.2)).flatten[j]? =some v->w.cell? (p.add (o * P.cellsOf e+j))=some v:=by
   intro l
   induction l with
   |nil=>intro o _ j v hv;simp at hv
   |cons y l ih=>
    intro o h j v hv
    obtain⟨h2,h3⟩:=h 0 (by simp)
    simp at h2 h3
    rw[List.map_cons,List.flatten_cons]at hv
    by_cases hj:j<y.2.length
    ·rw[List.getElem?_append_left hj]at hv
     exact h3 j v hv
    ·rw[List.getElem?_append_right (by omega)]at hv
     have:=ih (o+1) (fun i hi=>by have:=h (i+1) (by simpa using hi);simpa [Nat.add_comm,Nat.add_left_comm]using this) _ v hv
     rw[show(o+1) * P.cellsOf e+(j - y.2.length)=o * P.cellsOf e+j by rw[Nat.add_mul,h2];omega]at this
     exact this
  have hs:Sl w w.heap.size (some p) n c (P.cellsOf e) (l.map (·.2)).flatten:=by
   refine ki5 (fun j v hv=>?_) ?_ hl hm
   ·have:=hflat l 0 (fun i hi=>⟨(hp i hi).2.2.1,fun j v hv=>by simpa using (hp i hi).2.2.2 j v hv⟩) j v hv
    simpa using this
   ·have:∀ (l:List (List D × List Value)),(∀ i (h:i<l.length),l[i].2.length=P.cellsOf e)->(l.map (·.2)).flatten.length=l.length * P.cellsOf e:=by
     intro l
     induction l with
     |nil=>intro _;simp
     |cons y l ih=>
      intro h
      have h2:=h 0 (by simp)
      simp at h2
      have:=ih (fun i hi=>h (i+1) (by simpa using hi))
      simp only[List.map_cons,List.flatten_cons,List.length_append,List.length_cons,h2,this,Nat.add_mul]
      omega
    rw[this l (fun i hi=>(hp i hi).2.2.1),hlen]
  refine⟨_,⟨l.map (·.1),rfl,fun x hx=>?_,by simp[hlen];omega⟩,RepA.single rfl ⟨some p,c,(l.map (·.2)).flatten,by simp[hlen],by simp[hlen];omega,hm,(fun h=>by cases h),ks3 _ _ (by simp) (fun i a b=>?_) h1,fun j y hj=>?_⟩⟩
  ·obtain⟨y,hy,rfl⟩:=List.mem_map.1 hx
   obtain⟨i,hi',rfl⟩:=List.mem_iff_getElem.1 hy
   obtain⟨h2,h3,h4,_⟩:=hp i hi'
   exact⟨h2,by rw[<-h3.length,h4]⟩
  ·simp at a b
   obtain⟨h2,h3,h4,_⟩:=hp i a
   simpa using ⟨h3,h4⟩
  ·obtain⟨b,o,e1,e2,e3⟩:=hs.rd j y hj
   exact⟨b,o,e1,fun h=>h.elim,e3⟩
def rd6:List (List D->Prop)->List D->Prop
 |[],ds=>ds=[]
 |G::Gs,ds=>∃ a b,ds=a++b/\G a/\rd6 Gs b
def jl5 (P:Program):Nat->List Field->Bool
 |_,[]=>true
 |o,f::fs=>f.offset == o && jl5 P (o+P.cellsOf f.type) fs
inductive OpnAll (P:Program):List Field->List (List D->Prop)->Prop
 |nil:OpnAll P [] []
 |cons {f fs G Gs}:Opn P f.type G->OpnAll P fs Gs->OpnAll P (f::fs) (G::Gs)
theorem RepA.app {w:World}{M:Nat->Nat->Prop}:∀ {a b:List D} {u v:List Value},RepA w M a u->RepA w M b v->RepA w M (a++b) (u++v)
 |[],_,_,_,h,k=>by simp only[RepA]at h;subst h;exact k
 |x::a,b,u,v,h,k=>by
  obtain⟨y,r,rfl,h2,h3,h4⟩:=h
  exact⟨y,r++v,rfl,h2,h3,h4.app k⟩
theorem kn4 {P:Program}{H:Type}{enc:TypeId × Value->H}{w:World}{base:Nat}{spare:Nat->Bool}{held:Bool}{fuel:Nat}{cs:List Value}:∀ {fs:List Field} {Gs:List (List D->Prop)} {o:Nat},
 OpnAll P fs Gs->jl5 P o fs=true->(∀ f∈fs,∃ x,DataW.trod enc P w base spare held fuel f.type ((cs.drop f.offset).take (P.cellsOf f.type))=some x)->
 ∃ ds,rd6 Gs ds/\RepA w NoM ds ((cs.drop o).take (fs.map fun f=>P.cellsOf f.type).sum)
 |_,_,o,.nil,_,_=>⟨[],rfl,by simp[RepA]⟩
 |_,_,o,.cons (f:=f) (fs:=fs) h hs,hl,hx=>by
  simp only[jl5,Bool.and_eq_true,beq_iff_eq]at hl
  obtain⟨x,h1⟩:=hx f (by simp)
  obtain⟨ds,h2,h3⟩:=h H enc w base spare held fuel _ x h1
  obtain⟨es,h4,h5⟩:=kn4 (cs:=cs) hs hl.2 (fun g hg=>hx g (by simp[hg]))
  refine⟨ds++es,⟨ds,es,rfl,h2,h4⟩,?_⟩
  rw[hl.1]at h3
  have:=h3.app h5
  rw[List.map_cons,List.sum_cons,List.take_add,List.drop_drop]
  exact this
theorem jk6 {P:Program}{t:TypeId}{fs:Array Field}{Gs:List (List D->Prop)}(ht:P.underlying t=some (.struct fs))(hs:OpnAll P fs.toList Gs)(hl:jl5 P 0 fs.toList=true)(hc:(fs.toList.map fun f=>P.cellsOf f.type).sum=P.cellsOf t):
 Opn P t (rd6 Gs):=fun H enc w b s hd f cs x hx=>by
 obtain⟨ys,n,_,_,hlen,hys,hf⟩:=DataW.trod_struct ht hx
 obtain⟨ds,h1,h2⟩:=kn4 (cs:=cs) (enc:=enc) (w:=w) (base:=b) (spare:=s) (held:=hd) (fuel:=n) hs hl (fun g hg=>by
  obtain⟨i,hi,rfl⟩:=List.mem_iff_getElem.1 hg
  have h3:=hf i fs[i] (by simp at hi;simp[hi])
  simp at hi
  exact⟨ys[i],by simpa [hys,hi]using h3⟩)
 refine⟨ds,h1,?_⟩
 rw[hc,<-hlen]at h2
 simpa using h2
end
end Go.Proofs.YtdopmfifmgkmoaaGreatDoor
