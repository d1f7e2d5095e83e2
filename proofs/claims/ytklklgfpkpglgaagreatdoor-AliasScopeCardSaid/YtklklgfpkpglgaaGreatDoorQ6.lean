/- Parts. -/
import Derived.Test.YtklklgfpkpglgaaGreatDoorQ5
import Derived.Great.BuildSlice
import Derived.RangeFuncLeaves
import Derived.RangeFuncRecord
set_option linter.all false
set_option maxRecDepth 100000
set_option maxHeartbeats 0
namespace Go.Proofs.YtklklgfpkpglgaaGreatDoor
open Go.RowKit
section
def js7:Value->V->Bool
 |.int k n,.d (.int k' n')=>decide (k=k') && decide (n=n')
 |.bool b,.d (.bool b')=>b == b'
 |.string t,.d (.str t')=>t.size == 0 && t'.size == 0
 |.slice none 0 0,.nils _=>true
 |.pointer none,.d (.raw (.pointer none))=>true
 |.map none,.d (.raw (.map none))=>true
 |.nilFunc,.d (.raw .nilFunc)=>true
 |_,_=>false
def jj5:List Value->List V->Bool
 |[],[]=>true
 |u::us,v::vs=>js7 u v && jj5 us vs
 |_,_=>false
def rr3 (P:Program)(t:Nat)(vs:List V):Bool:=match P.info? t with
 |some i=>(match i.zero with|some z=>jj5 z.cells.toList vs && i.size == z.cells.size|none=>false)
 |none=>false
class TZero (P:Program)(t:Nat)(vs:outParam (List V)):Prop where
 ok:rr3 P t vs=true
class TSize (P:Program)(t:Nat)(n:outParam Nat):Prop where
 ok:(P.info? t).map (·.size)=some n
def qy5 (P:Program)(f:Nat):Bool:=match P.funcs[f]? with
 |some fn=>fn.body.isSome && !(fn.name == "runtime.NumGoroutine")
 |none=>false
class TFun (P:Program)(f:Nat):Prop where
 ok:qy5 P f=true
theorem mk5 {s t:ByteArray}(h1:s.size=0)(h2:t.size=0):s=t:=by
 cases s with|mk a=>
 cases t with|mk b=>
 have ha:a=#[]:=Array.size_eq_zero_iff.1 h1;have hb:b=#[]:=Array.size_eq_zero_iff.1 h2;rw[ha,hb]
theorem jh2 {w:World}{M:Nat->Nat->Prop}{β:Nat->Hd}{H:List (Nat × Ob)}{u:Value}{v:V}(h:js7 u v=true):Dc w M β H v u:=by
 unfold js7 at h;split at h
 ·simp only[Aa,Ah]at h;obtain⟨rfl,rfl⟩:=h;rfl
 ·simp only[Ed]at h;subst h;rfl
 ·simp only[Aa,Ed]at h;rw[mk5 h.1 h.2];rfl
 ·rfl
 ·exact⟨rfl,rfl⟩
 ·exact⟨rfl,rfl⟩
 ·exact⟨rfl,rfl⟩
 ·cases h
theorem jv5 {w:World}{M:Nat->Nat->Prop}{β:Nat->Hd}{H:List (Nat × Ob)}:∀ {us:List Value} {vs:List V},jj5 us vs=true->Cs w M β H vs us
 |[],[],_=>rfl
 |u::us,v::vs,h=>by
  simp only[jj5,Aa]at h;exact⟨u,us,rfl,jh2 h.1,jv5 h.2⟩
 |[],_::_,h=>by cases h
 |_::_,[],h=>by cases h
theorem kc4 {P:Program}{t:Nat}{vs:List V}(h:TZero P t vs):∃ i z,P.info? t=some i/\i.zero=some z/\jj5 z.cells.toList vs=true/\i.size=z.cells.size:=by
 have:=h.ok;unfold rr3 at this;cases hi:P.info? t with
 |none=>rw[hi]at this;cases this
 |some i=>
  rw[hi]at this;dsimp only at this;cases hz:i.zero with
  |none=>rw[hz]at this;cases this
  |some z=>
   rw[hz]at this;simp only[Aa,Ed]at this;exact⟨i,z,rfl,hz,this.1,this.2⟩
inductive Ng:List D->List V->Prop
 |nil:Ng [] []
 |cons {x:D} {xs:List D} {vs:List V} (h:Ng xs vs):Ng (x::xs) (.d x::vs)
 |nils {sz:Nat} {xs:List D} {vs:List V} (h:Ng xs vs):Ng (.nil sz::xs) (.nils sz::vs)
inductive Ij:V->List V->Prop
 |d {x:D} {cs:List D} {vs:List V} (h:Fv x cs) (m:Ng cs vs):Ij (.d x) vs
 |own (n k:Nat):Ij (.own n k) [.own n k]
 |nils (sz:Nat):Ij (.nils sz) [.nils sz]
 |ptr (n o:Nat):Ij (.ptr n o) [.ptr n o]
 |sl (n o l c:Nat):Ij (.sl n o l c) [.sl n o l c]
 |map (n:Nat):Ij (.map n) [.map n]
 |clo (fn:Fn) (f c:List V):Ij (.clo fn f c) [.clo fn f c]
 |agg (vs:List V):Ij (.agg vs) vs
 |ifc (t:TypeId) (v:V):Ij (.ifc t v) [.ifc t v]
 |bsl (n o l:Nat):Ij (.bsl n o l) [.bsl n o l]
theorem Ng.rep {w:World}{M:Nat->Nat->Prop}{β:Nat->Hd}{H:List (Nat × Ob)}{xs:List D}{vs:List V}(h:Ng xs vs):∀ {us:List Value},Dz w M xs us->Cs w M β H vs us:=by
 induction h with
 |nil=>intro us h;exact h
 |cons _ ih=>intro us h;obtain⟨u,r,h1,_,h3,h4⟩:=h;exact⟨u,r,h1,h3,ih h4⟩
 |nils _ ih=>intro us h;obtain⟨u,r,h1,_,h3,h4⟩:=h;exact⟨u,r,h1,h3,ih h4⟩
theorem Ij.rep {C:Ctx}{β:Nat->Hd}{S:Sd}{a:Act}{w:World}(h:StB C β S a w){v:V}{vs:List V}(hc:Ij v vs){u:Value}(hu:Dc w (Mut C.M0 β S.H) β S.H v u)(hown:∀ n k,v=.own n k->∃ e sz sh xs,look n S.H=some (.row e sz sh xs k)):
 Cs w (Mut C.M0 β S.H) β S.H vs u.cells.toList/\∀ x∈u.cells.toList,x.oneCell'=true:=by
 cases hc with
 |d hx m=>exact⟨m.rep (hx.rep hu),Gv.one hu⟩
 |own n k=>
  obtain⟨e,sz,sh,xs,hl⟩:=hown n k rfl;have h0:=hu e sz sh xs hl;obtain⟨ys,h1,_⟩:=h.obs n _ hl;obtain⟨ad,c,h2,_⟩:=jd9 h1;rw[h2]at h0;subst h0;exact⟨⟨_,[],rfl,hu,rfl⟩,λx hx=>by simp[Value.cells]at hx;subst hx;rfl⟩
 |nils=>have h0:=hu;simp only[Dc]at hu;subst hu;exact⟨⟨_,[],rfl,h0,rfl⟩,λx hx=>by simp[Value.cells]at hx;subst hx;rfl⟩
 |ptr=>have h0:=hu;simp only[Dc]at hu;obtain⟨b,_,rfl⟩:=hu;exact⟨⟨_,[],rfl,h0,rfl⟩,λx hx=>by simp[Value.cells]at hx;subst hx;rfl⟩
 |sl=>have h0:=hu;simp only[Dc]at hu;obtain⟨b,_,rfl⟩:=hu;exact⟨⟨_,[],rfl,h0,rfl⟩,λx hx=>by simp[Value.cells]at hx;subst hx;rfl⟩
 |map=>have h0:=hu;simp only[Dc]at hu;obtain⟨b,_,rfl⟩:=hu;exact⟨⟨_,[],rfl,h0,rfl⟩,λx hx=>by simp[Value.cells]at hx;subst hx;rfl⟩
 |agg vs=>obtain⟨us,rfl,h1,h2⟩:=hu;exact⟨by simpa [Value.cells]using h2,λx hx=>h1 x (by simpa [Value.cells]using hx)⟩
 |bsl=>have h0:=hu;simp only[Dc]at hu;obtain⟨b,c,_,rfl,_⟩:=hu;exact⟨⟨_,[],rfl,h0,rfl⟩,λx hx=>by simp[Value.cells]at hx;subst hx;rfl⟩
 |ifc=>have h0:=hu;simp only[Dc]at hu;obtain⟨b,rfl,_⟩:=hu;exact⟨⟨_,[],rfl,h0,rfl⟩,λx hx=>by simp[Value.cells]at hx;subst hx;rfl⟩
 |clo=>have h0:=hu;simp only[Dc]at hu;obtain⟨b,c,rfl,_⟩:=hu;exact⟨⟨_,[],rfl,h0,rfl⟩,λx hx=>by simp[Value.cells]at hx;subst hx;rfl⟩
def Pp (S:Sd)(v:V):Bool:=match v with
 |.own n k=>(match look n S.H with|some (.row _ _ _ _ k')=>Nat.beq k' k|_=>false)
 |_=>true
theorem jq9 {S:Sd}{n k e sz:Nat}{sh:Bool}{xs:List D}(h:look n S.H=some (.row e sz sh xs k)):Pp S (.own n k)=true:=by simp[Pp,h]
theorem kc5 {S:Sd}{v:V}(h:Pp S v=true):∀ n k,v=.own n k->∃ e sz sh xs,look n S.H=some (.row e sz sh xs k):=by
 rintro n k rfl;simp only[Pp]at h;split at h
 ·rename_i e sz sh xs k' hl;obtain rfl:=Bo h;exact⟨e,sz,sh,xs,hl⟩
 ·cases h
theorem rl6 {vs:List V}{n:Nat}(h:Jj n vs=false){w w':World}{M M':Nat->Nat->Prop}{β β':Nat->Hd}{H H':List (Nat × Ob)}(k:aI w M w' M')(hβ:∀ m,m≠n->β' m=β m)(hH:∀ m,m≠n->look m H'=look m H){us:List Value}
 (hr:Cs w M β H vs us):Cs w' M' β' H' vs us:=Cs.aD k hβ hH vs us h hr
section
variable {E:Set}{S:Sd}{dst:Option Tmp}{ty:TypeId}{pos:String}{af:Array Edge}{gd:Option (Nat × Bool)}
theorem StB.Xy {C:Ctx}{β:Nat->Hd}{a:Act}{w:World}(h:StB C β S a w){n:Nat}(hn:S.aD n=true){cs:List V}(hs:Jj n cs=false){us:List Value}(hr:Cs w (Mut C.M0 β S.H) β S.H cs us)(t:TypeId):
 StB C (upd β n (.pointer (some ⟨w.heap.size,0,none⟩))) {S with H:=(n,.box cs)::S.H} a (w.alloc (.cells us.toArray t)):=by
 refine h.newObj hn (.pointer (some ⟨w.heap.size,0,none⟩)) (aG.alloc w _) (λb hb'=>?_) (.box cs) λk=>?_
 ·simp only[hb,Bi]at hb';omega
 ·exact⟨w.heap.size,us,t,rfl,heap_alloc_new w _,rl6 hs k (λm hm=>n0 β n _ hm) (λm hm=>by rw[n3,Af (Ne.symm hm)]) hr⟩
theorem vc6 {d n t:Nat}{vs:List V}[ht:TZero E.P t vs](hn:S.aD n=true)(hs:Jj n vs=false):Grow E S ⟨some d,.alloc t,ty,pos,af,gd⟩ {S with H:=(n,.box vs)::S.H} (.ptr n 0):=Grow.mk λβ a w h=>by
 obtain⟨i,z,hi,hz,h1,h2⟩:=kc4 ht;refine⟨.pointer (some ⟨w.heap.size,0,none⟩),w.alloc (.cells z.cells t),upd β n (.pointer (some ⟨w.heap.size,0,none⟩)),?_,aG.alloc w _,?_,⟨w.heap.size,jw6 _ _ _,rfl⟩⟩
 ·simp[execOp,Instr.alloc,zeroValue,typeInfo,hi,hz,newVar,newRow]
 ·have:=h.Xy hn hs (jv5 h1) t;simpa using this
theorem vt0 {d n t:Nat}{x:Operand}{v:V}{vs:List V}(hx:S.ev x=some v)(hox:Cm x=true)(hown:Pp S v=true)(hc:Ij v vs)(hn:S.aD n=true)(hs:Jj n vs=false):Grow E S ⟨some d,.box t x,ty,pos,af,gd⟩ {S with H:=(n,.box vs)::S.H} (.ptr n 0):=Grow.mk λβ a w h=>by
 obtain⟨h1,_⟩:=hc.rep h (h.ev hx hox) (kc5 hown);refine⟨.pointer (some ⟨w.heap.size,0,none⟩),w.alloc (.cells (a.eval x).cells t),upd β n (.pointer (some ⟨w.heap.size,0,none⟩)),?_,aG.alloc w _,?_,⟨w.heap.size,jw6 _ _ _,rfl⟩⟩
 ·simp[execOp,Instr.box,newVar,newRow]
 ·have:=h.Xy hn hs h1 t;simpa using this
theorem StB.Yj {C:Ctx}{β:Nat->Hd}{a:Act}{w:World}(h:StB C β S a w){n b:Nat}{cs xs cs':List V}(hl:look n S.H=some (.box cs))(hb':(β n).v=.pointer (some ⟨b,0,none⟩)){o:Nat}(hr:Repl cs o xs cs'){us:List Value}
 (hx:Cs w (Mut C.M0 β S.H) β S.H xs us) {vs:List Value} {t:TypeId} (hv:w.heap[b]? =some (.cells vs.toArray t (0,0))):
 StB C β {S with H:=(n,.box cs')::S.H} a (w.setRow b (vs.take o++us++vs.drop (o+us.length)).toArray):=by
 obtain⟨b2,vs2,t2,h1,h2,h3⟩:=h.obs n _ hl;rw[hb']at h1;cases h1;rw[hv]at h2;simp only[Bi,Obj.cells.injEq]at h2;obtain⟨e1,rfl,_⟩:=h2;have e1:vs=vs2:=by simpa using congrArg Array.toList e1
 subst e1;have hbn:hb (β n).v=some b:=by rw[hb'];rfl
 have hH:∀ m e sz sh xs k,look m ((n,Ob.box cs')::S.H)=some (.row e sz sh xs k)->∃ sh' xs',look m S.H=some (.row e sz sh' xs' k):=λm e sz sh xs k hm=>by
  rw[n3]at hm;split at hm
  ·cases hm
  ·exact⟨sh,xs,hm⟩
 refine h.turn hl (λ_ _=>rfl) rfl rfl rfl (by simp) (λk _ hk=>setRow_other w b k _ (λe=>hk (by rw[hbn,e]))) (λb h=>.inl h) (λb' o' y h4 h5 _=>absurd trivial h5) (λ_ _ _ _ _=>trivial)
  (λk t x v _=>Dc.keep k (λ_=>rfl) hH x v) (λ_=>rfl) (λk m cs vs _ _=>Cs.keep k (λ_=>rfl) hH _ vs) (λk=>?_)
 refine⟨b,_,t,hb',setRow_heap w b _ _ t _ hv,Cs.keep k (λ_=>rfl) hH _ _ ?_⟩;obtain⟨e2,_⟩:=hr.eq;have hlen:=hx.length;rw[e2,<-hlen];have happ:∀ {l1:List V} {m1:List Value},Cs w (Mut C.M0 β S.H) β S.H l1 m1->∀ {l2:List V} {m2:List Value},Cs w (Mut C.M0 β S.H) β S.H l2 m2->Cs w (Mut C.M0 β S.H) β S.H (l1++l2) (m1++m2):=by
  intro l1
  induction l1 with
  |nil=>intro m1 h l2 m2 h';simp only[Cs]at h;subst h;exact h'
  |cons y l ih=>intro m1 h l2 m2 h';obtain⟨v,r,rfl,h5,h6⟩:=h;exact⟨v,_,rfl,h5,ih h6 h'⟩
 have htake:∀ (k:Nat) {l:List V} {m:List Value},Cs w (Mut C.M0 β S.H) β S.H l m->Cs w (Mut C.M0 β S.H) β S.H (l.take k) (m.take k)/\Cs w (Mut C.M0 β S.H) β S.H (l.drop k) (m.drop k):=by
  intro k
  induction k with
  |zero=>intro l m h;exact⟨by simp[Cs],h⟩
  |succ k ih=>
   intro l m h;cases l with
   |nil=>simp only[Cs]at h;subst h;exact⟨by simp[Cs],by simp[Cs]⟩
   |cons y l=>obtain⟨v,r,rfl,h5,h6⟩:=h;exact⟨⟨v,_,rfl,h5,(ih h6).1⟩,(ih h6).2⟩
 exact happ (happ (htake o h3).1 hx) (htake _ h3).2
theorem vc7 {t n off m:Nat}{x y:Operand}{v:V}{vs cs cs':List V}[ht:TSize E.P t m](hx:S.ev x=some (.ptr n off))(hox:Cm x=true)(hy:S.ev y=some v)(hoy:Cm y=true)(hown:Pp S v=true)(hl:look n S.H=some (.box cs))(hc:Ij v vs)(hm:vs.length=m)(hr:Repl cs off vs cs'):
 Turn E S ⟨none,.store t x y,ty,pos,af,gd⟩ {S with H:=(n,.box cs')::S.H}:=Turn.mk λβ a w h=>by
 obtain⟨b,h1,h2⟩:=h.ev hx hox;obtain⟨b2,us,t2,h3,h4,h5⟩:=h.obs n _ hl;rw[h1]at h3;cases h3;obtain⟨h6,h7⟩:=hc.rep h (h.ev hy hoy) (kc5 hown);obtain⟨_,h8⟩:=hr.eq;have hlen:=h6.length;have hlen5:=h5.length;have hst:=run_storeCells_at E.P b off t2 (a.eval y).cells.toList 0 us.toArray w h4 (by simp at hlen ⊢;omega) h7;simp only[Nat.add_zero]at hst;cases hi:E.P.info? t with
 |none=>have:=ht.ok;rw[hi]at this;cases this
 |some i=>
  have hsz:i.size=m:=by have:=ht.ok;rw[hi]at this;simpa using this
  have hsz2:(a.eval y).cells.size=i.size:=by simp at hlen;omega
  refine⟨_,?_,β,h.Yj hl h1 hr h6 h4⟩;simp[execOp,h2,Instr.storeAt,Instr.sureAddr,storeVar,jc1 hi,hsz2,hst]
end
end
section
inductive Pure:V->Prop
 |d (x:D):Pure (.d x)
 |nils (sz:Nat):Pure (.nils sz)
 |tup {vs:List V} (h:∀ v∈vs,Pure v):Pure (.tup vs)
 |clo {fn:Fn} {f c:List V} (h:∀ v∈f,Pure v) (h':∀ v∈c,Pure v):Pure (.clo fn f c)
theorem Cs.pure {w w':World}{M M':Nat->Nat->Prop}{β β':Nat->Hd}{H H':List (Nat × Ob)}:∀ {vs:List V},(∀ v∈vs,∀ u,Dc w M β H v u->Dc w' M' β' H' v u)->∀ {us:List Value},Cs w M β H vs us->Cs w' M' β' H' vs us
 |[],_,_,h=>h
 |v::vs,hv,_,⟨u,r,h1,h2,h3⟩=>⟨u,r,h1,hv v Aw u h2,Cs.pure (λv hm=>hv v (Ax _ hm)) h3⟩
theorem Pure.keep {v:V}(hp:Pure v):∀ {w w':World} {M M':Nat->Nat->Prop} {β β':Nat->Hd} {H H':List (Nat × Ob)},aI w M w' M'->∀ u,Dc w M β H v u->Dc w' M' β' H' v u:=by
 induction hp with
 |d x=>intro w w' M M' β β' H H' k u h;exact Gv.keep k x u h
 |nils=>intro w w' M M' β β' H H' k u h;exact h
 |tup _ ih=>
  intro w w' M M' β β' H H' k u h;obtain⟨us,h1,h2⟩:=h;exact⟨us,h1,Cs.pure (λv hv u hu=>ih v hv k u hu) h2⟩
 |clo _ _ ih ih'=>
  intro w w' M M' β β' H H' k u h;obtain⟨fs,gs,h1,h2,h3⟩:=h;exact⟨fs,gs,h1,Cs.pure (λv hv u hu=>ih v hv k u hu) h2,Cs.pure (λv hv u hu=>ih' v hv k u hu) h3⟩
inductive Arg (H:List (Nat × Ob)):V->V->Prop
 |d (x:D):Arg H (.d x) (.d x)
 |own {n k e sz:Nat} {xs:List D} (h:look n H=some (.row e sz true xs k)):Arg H (.own n k) (.d (.list sz xs))
 |nils (sz:Nat):Arg H (.nils sz) (.d (.list sz []))
 |clo0 (fn:Fn):Arg H (.clo fn [] []) (.clo fn [] [])
inductive Args (H:List (Nat × Ob)):List V->List V->Prop
 |nil:Args H [] []
 |cons {v v':V} {vs vs':List V} (h:Arg H v v') (t:Args H vs vs'):Args H (v::vs) (v'::vs')
theorem Arg.rep {C:Ctx}{β:Nat->Hd}{S:Sd}{a:Act}{w:World}(h:StB C β S a w){v v':V}(ha:Arg S.H v v'){u:Value}(hu:Dc w (Mut C.M0 β S.H) β S.H v u):Dc w (Mut C.M0 β S.H) qf6 [] v' u:=by
 cases ha with
 |d x=>exact hu
 |own hl=>exact(ToD.own hl).rep h hu
 |nils sz=>exact(ToD.nils sz).rep h hu
 |clo0 fn=>obtain⟨fs,gs,h1,h2,h3⟩:=hu;exact⟨fs,gs,h1,h2,h3⟩
theorem Arg.pure {H:List (Nat × Ob)}{v v':V}(ha:Arg H v v'):Pure v':=by
 cases ha with
 |d x=>exact .d x
 |own _=>exact .d _
 |nils sz=>exact .d _
 |clo0 fn=>exact .clo (λ_ h=>by cases h) (λ_ h=>by cases h)
theorem Args.rep {C:Ctx}{β:Nat->Hd}{S:Sd}{a:Act}{w:World}(h:StB C β S a w){vs vs':List V}(ha:Args S.H vs vs'):∀ {us:List Value},Cs w (Mut C.M0 β S.H) β S.H vs us->Cs w (Mut C.M0 β S.H) qf6 [] vs' us:=by
 induction ha with
 |nil=>intro us h;exact h
 |cons h1 _ ih=>intro us hu;obtain⟨u,r,h2,h3,h4⟩:=hu;exact⟨u,r,h2,h1.rep h h3,ih h4⟩
def vc8 (gl:List (Nat × List D))(w:World)(M:Nat->Nat->Prop):Prop:=∀ g cs,look g gl=some cs->Sw w M g cs
def FnD (P:Program)(gl:List (Nat × List D))(f:FuncId)(args:List V)(R:V->Prop):Prop:=
 ∀ (w:World) (M:Nat->Nat->Prop) (us:List Value),(∀ b o,M b o->b<w.heap.size)->Cs w M qf6 [] args us->vc8 gl w M->
   Calls P f us.toArray w λe w'=>∃ v x,R v/\Pure v/\e=.returned x/\Below w.heap.size w w'/\Dc w' M qf6 [] v x
theorem FnD.mono {P:Program}{gl:List (Nat × List D)}{f:FuncId}{args:List V}{R R':V->Prop}(h:FnD P gl f args R)(hr:∀ v,R v->R' v):FnD P gl f args R':=
 λw M us h1 h2 h3=>(h w M us h1 h2 h3).mono λ_ _ ⟨v,x,h4,h5⟩=>⟨v,x,hr v h4,h5⟩
theorem StB.mut_low {C:Ctx}{β:Nat->Hd}{S:Sd}{a:Act}{w:World}(h:StB C β S a w):∀ b o,Mut C.M0 β S.H b o->b<w.heap.size:=by
 rintro b o (hm|⟨n,ob,h1,h2,_⟩)
 ·have:=h.low b o hm;have:=h.frame.size;omega
 ·exact h.old h1 h2
section
variable {E:Set}{Q:Exit->Sd->Prop}{S:Sd}{ops:Array Oper}{draw:Bool}{rest:Todo}{way:Ji}{ty:TypeId}{pos:String}{af:Array Edge}{gd:Option (Nat × Bool)}
theorem rl7 {P:Program}{f:Nat}(hf:TFun P f)(a:Act)(xs:List Operand)(ats:Array TypeId)(dst:Option Tmp)(w:World):
 (execOp a.eval ⟨dst,.call {callee:=.value (.func f),args:=xs.toArray,argTypes:=ats},ty,pos,af,gd⟩).run P w=.ok (.enter f (xs.map a.eval).toArray) w:=by
 have:=hf.ok;unfold qy5 at this;cases hfn:P.funcs[f]? with
 |none=>rw[hfn]at this;cases this
 |some fn=>
  rw[hfn]at this;simp only[Aa,Bz]at this;have h2:¬fn.name= "runtime.NumGoroutine":=by simpa using this.2
  cases hb:fn.body with
  |none=>rw[hb]at this;cases this.1
  |some c=>simp[execOp,resolve,Act.eval,Deferred.ofValue,invoke,callFunc,hfn,hb,h2]
theorem vc9 {d f:Nat}{xs:List Operand}{ats:Array TypeId}{vs vs':List V}{R:V->Prop}[hf:TFun E.P f](hx:Evs S xs vs)(ha:Args S.H vs vs')(hc:FnD E.P S.gl f vs' R)(hd:d<E.C.nt){o:Oper}
 (ho:o=⟨some d,.call {callee:=.value (.func f),args:=xs.toArray,argTypes:=ats},ty,pos,af,gd⟩) (hg:S.gd ops o=some true) (hw:way.loud=true)
 (h:∀ v,R v->TR E draw ops Q rest (S.put d v)):TR E draw ops Q (.step o way rest) S:=λa w hS=>by
 have hS0:=hS;have key:∀ w1,aG w w1->∀ K:Act->World->Prop,(∀ a2 w2 v,R v->aG w1 w2->St E.C (S.put d v) a2 w2->K a2 w2)->o.wp E.P a w1 K (Qof E.C Q):=λw1 g K hK=>by
  obtain⟨β,hB⟩:=hS.later g;unfold Oper.wp;subst ho;rw[rl7 hf,Oper.upon_enter];refine(hc w1 (Mut E.C.M0 β S.H) _ hB.mut_low (ha.rep hB (hx.rep hB)) hB.glob).mono ?_;rintro e w2 ⟨v,x,hr,hp,rfl,hb',hv⟩;have g2:aG w1 w2:=hb';refine hK _ _ v hr g2 ⟨β,(hB.later g2).put hd (hp.keep (aI.refl _ _) x hv)⟩
 have hdf:p9 o=false:=by subst ho;rfl
 cases draw with
 |true=>
  dsimp only;cases way with
  |pure=>cases hw
  |quiet=>cases hw
  |grow=>
   simp only[x5];intro n;rw[Sd.Dv hS0 hg,Ad rfl];exact key n.w n.grows _ λa2 w2 v hr g2 hs2=>⟨g2,h v hr _ _ hs2⟩
  |bar=>
   simp only[x5];intro n;rw[Sd.Dv hS0 hg,Ad rfl];exact key n.w n.grows _ λa2 w2 v hr g2 hs2=>h v hr _ _ hs2
 |false=>exact l5 hS0 hg hdf λK hK=>key w (aG.refl w) K λa2 w2 v hr _ hs2=>hK _ _ (h v hr _ _ hs2)
inductive Res (P:Program)(S:Sd):List ResultVar->List V->Prop
 |nil:Res P S [] []
 |tmp {t:Tmp} {v v':V} {rs:List ResultVar} {vs:List V} (hl:S.ev (.tmp t)=some v) (ha:Arg S.H v v') (h:Res P S rs vs):Res P S (.tmp t::rs) (v'::vs)
 |cell {t n ty off:Nat} {cs:List V} {v v':V} {rs:List ResultVar} {vs:List V} [ht:TCell P ty] (hl:S.ev (.tmp t)=some (.ptr n off)) (hb:look n S.H=some (.box cs)) (hc:cs[off]? =some v) (ha:Arg S.H v v') (h:Res P S rs vs):Res P S (.cell t ty::rs) (v'::vs)
 |cells {t n ty off m:Nat} {cs cs':List V} {ds:List D} {rs:List ResultVar} {vs:List V} [ht:TAgg P ty m] (hl:S.ev (.tmp t)=some (.ptr n off)) (hb:look n S.H=some (.box cs)) (hc:Cut cs off m cs') (ha:Nh S.H cs' ds) (hn:ds.all D.scalar=true) (h:Res P S rs vs):Res P S (.cell t ty::rs) (.d (.agg ds)::vs)
def aF:List V->V
 |[v]=>v
 |vs=>.tup vs
structure Ends (P:Program)(rs:List ResultVar)(R:V->Prop)(e:Exit)(S:Sd):Prop where
 how:e=.ret\/e=.normal
 res:∃ vs,Res P S rs vs/\R (aF vs)
theorem mk6 {P:Program}{rs:List ResultVar}{R:V->Prop}:ky7 (Ends P rs R):=λc S h=>by rcases h.how with h|h<;>cases h
theorem qy6 {P:Program}{s:Sem Value}{w w':World}{x:Value}(h:((do pure (.value (<-s)):Sem Next)).run P w=.ok (.value x) w'):s.run P w=.ok x w':=by
 simp only[Sem.run_bind]at h;cases hs:s.run P w with
 |ok v w2=>rw[hs]at h;simp only[Result.andThen_ok,Sem.run_pure,Result.ok.injEq,Next.value.injEq]at h;rw[h.1,h.2]
 |halt x w2=>rw[hs]at h;simp[Result.andThen]at h
theorem jl2 {P:Program}{a:Act}{t ty:Nat}{w w':World}{x:Value}{b o:Nat}(he:a.eval (.tmp t)=.pointer (some ⟨b,o,none⟩))(h:(execOp a.eval ⟨none,.load ty (.tmp t),0,"",#[],none⟩).run P w=.ok (.value x) w'):
 ((do loadVar ty (<-asAddr (a.tmps.getD t undef))):Sem Value).run P w=.ok x w':=by
 have h1:=qy6 (s:=Instr.loadAt ty (a.eval (.tmp t))) h;rw[he]at h1;have he':a.tmps.getD t undef=.pointer (some ⟨b,o,none⟩):=he;rw[he'];exact h1
theorem vd0 {P:Program}{C:Ctx}{β:Nat->Hd}{a:Act}{w:World}(h:StB C β S a w){rs:List ResultVar}{vs:List V}(hr:Res P S rs vs):
 ∃ us:List Value,(rs.mapM fun|.tmp t=>pure (a.tmps.getD t undef)|.cell c t=>do loadVar t (<-asAddr (a.tmps.getD c undef)):Sem (List Value)).run P w=.ok us w/\Cs w (Mut C.M0 β S.H) qf6 [] vs us/\∀ v∈vs,Pure v:=by
 induction hr with
 |nil=>exact⟨[],rfl,rfl,λv hv=>by cases hv⟩
 |@tmp t v v' rs vs hl ha hr ih=>
  obtain⟨us,h1,h2,h3⟩:=ih;have h5:Dc w (Mut C.M0 β S.H) β S.H v (a.tmps.getD t undef):=h.ev hl rfl;refine⟨a.tmps.getD t undef::us,?_,⟨_,us,rfl,ha.rep h h5,h2⟩,λv hv=>?_⟩
  ·simp only[List.mapM_cons,Sem.run_bind,Sem.run_pure,Result.andThen_ok,h1]
  ·rcases Bc.1 hv with rfl|hv
   ·exact ha.pure
   ·exact h3 v hv
 |@cell t n ty off cs v v' rs vs ht hl hb hc ha hr ih=>
  obtain⟨us,h1,h2,h3⟩:=ih;obtain⟨x,h4,h5⟩:=(js2 (t:=ty) (E:=⟨P,C,none⟩) (S:=S) (dst:=none) (ty:=0) (pos:= "") (af:=#[]) (gd:=none) (x:=.tmp t) hl hb hc).out β a w h;obtain⟨b,_,_,_,h6,_⟩:=h.Ue (x:=.tmp t) hl hb;have h7:=jl2 h6 (h4 w (aG.refl w));refine⟨x::us,?_,⟨x,us,rfl,ha.rep h h5,h2⟩,λv hv=>?_⟩
  ·simp only[List.mapM_cons,Sem.run_bind]at h7 ⊢;rw[h7];simp only[Result.andThen_ok,h1,Sem.run_pure]
  ·rcases Bc.1 hv with rfl|hv
   ·exact ha.pure
   ·exact h3 v hv
 |@cells t n ty off m cs cs' ds rs vs ht hl hb hc ha hn hr ih=>
  obtain⟨us,h1,h2,h3⟩:=ih;obtain⟨x,h4,h5⟩:=(ju8 (t:=ty) (E:=⟨P,C,none⟩) (S:=S) (dst:=none) (ty:=0) (pos:= "") (af:=#[]) (gd:=none) (x:=.tmp t) hl hb hc ha hn).out β a w h;obtain⟨b,_,_,_,h6,_⟩:=h.Ue (x:=.tmp t) hl hb;have h7:=jl2 h6 (h4 w (aG.refl w));refine⟨x::us,?_,⟨x,us,rfl,h5,h2⟩,λv hv=>?_⟩
  ·simp only[List.mapM_cons,Sem.run_bind]at h7 ⊢;rw[h7];simp only[Result.andThen_ok,h1,Sem.run_pure]
  ·rcases Bc.1 hv with rfl|hv
   ·exact .d _
   ·exact h3 v hv
structure After (Ds:List Nat)(w w':World):Prop where
 os:w'.os=w.os
 tape:w'.tape=w.tape
 output:w'.output=w.output
 size:w'.heap.size=w.heap.size
 block:∀ k,k∉Ds->w'.heap[k]? =w.heap[k]?
theorem ke2 {F:Fence}{n:Nat}{P:Program}{fn:Func}{tmps:Array Value}{R:Ending->World->Prop}:∀ (Ds:List Nat) (w:World),Ds.Nodup->(∀ D∈Ds,w.heap[D]? =some (.deferred (some [])))->
 (∀ w',After Ds w w'->LeavesIn F n P fn tmps R [] .returning w')->LeavesInM F n P fn tmps R (Ds.map ro2) .returning w
 |[],w,_,_,h=>h w ⟨rfl,rfl,rfl,rfl,λ_ _=>rfl⟩
 |D::Ds,w,hnd,hD,h=>by
  obtain⟨h1,h2⟩:=List.nodup_cons.1 hnd;refine⟨by simp,.inl ⟨D,_,rfl,run_takeDeferred (hD D Aw),ke2 Ds (w.putObj D (.deferred none)) h2 (λD' h'=>?_) (λw' hw'=>h w' ?_)⟩⟩
  ·rw[World.putObj_heap_other (by rintro rfl;exact h1 h')];exact hD D' (Ax _ h')
  ·refine⟨hw'.os,hw'.tape,hw'.output,hw'.size.trans (by simp[World.putObj]),λk hk=>?_⟩;rw[Bc,not_or]at hk;rw[hw'.block k hk.2,World.putObj_heap_other hk.1]
theorem StB.after {C:Ctx}{β:Nat->Hd}{a:Act}{w w':World}(h:StB C β S a w){Ds:List Nat}(hD:∀ D∈Ds,w.heap[D]? =some (.deferred (some []))/\C.w0.heap.size<=D/\∀ p∈C.sys,p.1≠D)(k:After Ds w w'):StB C β S {a with defers:=[]} w':=by
 have hn:∀ b o,w.heap[b]? =some o->rr7 o=false->b∉Ds:=λb o ho hs hb=>by
  rw[(hD b hb).1]at ho;cases ho;cases hs
 have kp:aI w (Mut C.M0 β S.H) w' (Mut C.M0 β S.H):=⟨λb o y h1 h2=>⟨h1,by
  have:b∉Ds:=λhb=>by simp[World.cell?,(hD b hb).1]at h2
  rw[<-h2];exact World.cell?_of_block (k.block b this)⟩,λb ob hs h1 h2=>⟨h1,(k.block b (hn b _ h2 hs)).trans h2⟩⟩
 have hr:∀ n e sz sh xs q,look n S.H=some (.row e sz sh xs q)->∃ sh' xs',look n S.H=some (.row e sz sh' xs' q):=λn e sz sh xs q h=>⟨sh,xs,h⟩;refine⟨h.size,h.small,⟨[],rfl,List.nodup_nil,λD h=>by cases h⟩,λp hp=>⟨(k.block p.1 (λhb=>(hD p.1 hb).2.2 p hp rfl)).trans (h.sys p hp).1,(h.sys p hp).2⟩,λt v hl=>?_,λn ob hl=>?_,h.apart,h.place,λg cs hl=>(h.glob g cs hl).keep kp,?_,h.out,h.low,h.fix,h.has⟩
 ·obtain⟨x,h1,h2⟩:=h.env t v hl;exact⟨x,h1,Dc.keep kp (λ_=>rfl) hr v x h2⟩
 ·have h1:=h.obs n ob hl;refine La.keep kp (λb hb'=>?_) (λvs h2=>Cs.keep kp (λ_=>rfl) hr _ _ h2) h1;obtain⟨o,h2,h3,_⟩:=h1.kind hb';exact k.block b (hn b o h2 h3)
 ·exact⟨k.os.trans h.frame.os,k.tape.trans h.frame.tape,k.output.trans h.frame.output,by rw[k.size];exact h.frame.size,λi hi he=>(k.block i (λhb=>by have:=(hD i hb).2.1;omega)).trans (h.frame.block i hi he)⟩
theorem ko6 {P:Program}{f:FuncId}{fn:Func}{c:Code}{C:Ctx}{S:Sd}{us:List Value}{w:World}{Q:Exit->Sd->Prop}{R:Ending->World->Prop}(hf:P.funcs[f]? =some fn)(hb:fn.body=some c)(h:TC ⟨P,C,none⟩ c Q S)
 (hst:St C S {tmps:=us.toArray++Array.replicate (fn.ntmps - us.toArray.size) undef,defers:=[]} w)
 (hR:∀ e S' β a' w',StB C β S' a' w'->Q e S'->(e=.ret\/e=.normal)/\∃ x,(results fn a'.tmps).run P w'=.ok x w'/\R (.returned x) w'):Calls P f us.toArray w R:=by
 refine(callsIn_wide (n:=0)).1 (callsIn_of_wp_marks hf hb trivial ?_ rfl);refine wpIn_mono (h _ _ hst) λe a' w' hq=>?_;obtain⟨S',⟨β,hB⟩,hq⟩:=hq;obtain⟨Ds,h1,h2,h3⟩:=hB.defers;have key:LeavesInM (WF none) 0 P fn a'.tmps R a'.defers .returning w':=by
  rw[h1];refine ke2 Ds w' h2 (λD hD=>(h3 D hD).1) λw2 hw2=>?_;obtain⟨_,x,h4,h5⟩:=hR e S' β {a' with defers:=[]} w2 (hB.after h3 hw2) hq;exact⟨x,h4,h5⟩
 rcases(hR e S' β _ _ hB hq).1 with rfl|rfl<;>exact key
def ko7 (args:List V):List (Nat × V):=args.zipIdx.map λx=>(x.2,x.1)
theorem my2 {w:World}{M:Nat->Nat->Prop}{β:Nat->Hd}{H:List (Nat × Ob)}{args:List V}{us:List Value}(hargs:Cs w M β H args us){C:Ctx}{nt:Nat}(hle:args.length<=nt)(hs:nt<=100000){t:Nat}{v:V}(hl:look t (ko7 args)=some v):
 ∃ x,kw5 C {tmps:=us.toArray++Array.replicate (nt - us.toArray.size) undef,defers:=[]} t=some x/\Dc w M β H v x:=by
 have hm:=kw4 hl;obtain⟨⟨v',t'⟩,h1,h2⟩:=Br.1 hm;simp only[Bh]at h2;obtain⟨rfl,rfl⟩:=h2;have h3:args[t']? =some v':=by
  have:=List.mem_zipIdx h1;simp at this;obtain⟨h4,h5⟩:=this;rw[h5];exact Ar h4
 obtain⟨u,h4,h5⟩:=Cs.get hargs h3;refine⟨u,?_,h5⟩;have hlt:t'<us.length:=(Ay.1 h4).1;have hlen:=hargs.length;have:Nat.blt t' 100000=true:=Nat.ble_eq_true_of_le (by omega);simp only[kw5,this,cond_true];rw[Array.getElem?_append_left (by simpa using hlt)];simpa using h4
theorem ko8 {P:Program}{fn:Func}{rs:Array ResultVar}{a:Act}{w:World}{us':List Value}(hr:fn.results=rs)(h3:(rs.toList.mapM fun|.tmp t=>pure (a.tmps.getD t undef)|.cell c t=>do loadVar t (<-asAddr (a.tmps.getD c undef)):Sem (List Value)).run P w=.ok us' w):
 (results fn a.tmps).run P w=.ok (if h:us'.toArray.size=1 then us'.toArray[0] else .tuple us'.toArray) w:=by
 unfold results;rw[hr,Array.mapM_eq_mapM_toList];simp only[Sem.run_bind,Sem.run_map];refine(congrArg (λr:Result (List Value)=>(r.andThen λa w'=>Result.ok a.toArray w').andThen λa w'=>Sem.run P (pure (if h:a.size=1 then a[0] else Value.tuple a)) w') h3).trans ?_;simp only[Result.andThen_ok,Sem.run_pure]
theorem mk7 {w:World}{M:Nat->Nat->Prop}{β:Nat->Hd}{H:List (Nat × Ob)}{vs:List V}{us:List Value}(h6:Cs w M β H vs us):Dc w M β H (aF vs) (if h:us.toArray.size=1 then us.toArray[0] else .tuple us.toArray):=by
 have hlen:=h6.length;unfold aF;split
 ·obtain⟨u,r,rfl,h7,h8⟩:=h6;simp only[Cs]at h8;subst h8;exact h7
 ·rename_i hne;have:us.toArray.size≠1:=by
   intro h1;rw[List.size_toArray,hlen]at h1;obtain⟨v,hv⟩:=List.length_eq_one_iff.1 h1;exact hne v hv
  rw[dif_neg this];exact⟨us,rfl,h6⟩
theorem rl8 {P:Program}{gl:List (Nat × List D)}{f:FuncId}{fn:Func}{c:Code}{args:List V}{R:V->Prop}{nt:Nat}{rs:Array ResultVar}(hf:P.funcs[f]? =some fn)(hb:fn.body=some c)(hn:fn.ntmps=nt)(hr:fn.results=rs)(hle:args.length<=nt)(hs:nt<=100000)
 (h:∀ w M,TC ⟨P,Ctx.fn nt w M,none⟩ c (Ends P rs.toList R) ⟨ko7 args,[],gl⟩):FnD P gl f args R:=λw M us hlow hargs hgl=>by
 have hlen:=hargs.length;have hM:Mut M qf6 []=M:=by
  funext b o;apply propext;constructor
  ·rintro(h|⟨n,ob,h1,_⟩)
   ·exact h
   ·cases h1
  ·exact .inl
 refine ko6 hf hb (h w M) ?_ λe S' β a' w' hB hq=>⟨hq.how,?_⟩
 ·refine⟨qf6,⟨?_,hs,⟨[],rfl,List.nodup_nil,(λD h=>by cases h)⟩,(λp hp=>by cases hp),?_,(λn ob hl=>by cases hl),(λn m b ob ob' _ hl=>by cases hl),(λn ob b hl=>by cases hl),?_,Frm.refl _ _,(λn ob b o hl=>by cases hl),hlow,(λn hn=>by cases hn),(λn hn=>by cases hn)⟩⟩
  ·simp[hn,Ctx.fn];omega
  ·intro t v hl;dsimp only[Ctx.fn]at hl ⊢;rw[hM,hn];exact my2 hargs hle hs hl
  ·dsimp only[Ctx.fn];rw[hM];exact hgl
 ·obtain⟨_,vs,hres,hR⟩:=hq;obtain⟨us',h3,h4,h5⟩:=vd0 hB hres;have hk:aI w' (Mut M β S'.H) w' M:=aI.weak λb o hm=>.inl hm;refine⟨_,ko8 hr h3,aF vs,_,hR,?_,rfl,Frm.below (w:=w) hB.frame,mk7 (Cs.pure (λv hv u hu=>(h5 v hv).keep hk u hu) h4)⟩;unfold aF;split
  ·exact h5 _ (by simp)
  ·exact .tup h5
end
end
section
inductive Build (P:Program)(S:Sd)(t:Nat):List D->List (Nat × Operand)->List D->Prop
 |nil (zs:List D):Build P S t zs [] zs
 |cons {zs zs' ds cs:List D} {f off ft m:Nat} {x:Operand} {v:V} {d:D} {ps:List (Nat × Operand)} [hf:aJ P t f off ft] [hs:TSize P ft m] (hx:S.ev x=some v) (ho:Cm x=true) (hd:ToD S.H v d) (hc:Fv d cs) (hm:cs.length=m) (hr:Repl zs off cs zs') (h:Build P S t zs' ps ds):
  Build P S t zs ((f,x)::ps) ds
theorem ku8 (off:Nat)(l:List Value)(cs:Array Value)(h:off+l.length<=cs.size):
 (l.toArray.zipIdx.foldl (λcs (x:Value × Nat)=>cs.setIfInBounds (off+x.2) x.1) cs)=(cs.toList.take off++l++cs.toList.drop (off+l.length)).toArray:=by
 have:=Go.Great.foldl_set off l 0 cs;obtain⟨h1,h2⟩:=this;have e:l.toArray.zipIdx.foldl (λcs (x:Value × Nat)=>cs.setIfInBounds (off+x.2) x.1) cs=(l.zipIdx 0).foldl (λcs (x:Value × Nat)=>cs.setIfInBounds (off+x.2) x.1) cs:=by
  simp
 rw[e];apply Array.ext_getElem?;intro k;rw[h2 k];have hlt:(cs.toList.take off).length=off:=by simp;omega
 by_cases hk:off<=k/\k<off+l.length
 ·rw[Ad (by omega)];simp only[List.getElem?_toArray,Eg];rw[Fg (by omega),En (by omega),hlt];congr 1
 ·rw[Af (by omega)];simp only[List.getElem?_toArray,Eg];by_cases hk2:k<off
  ·rw[En (by omega),Et,Ad hk2];simp
  ·rw[Fg (by omega),Fg (by omega),hlt,Eo];simp only[Array.getElem?_toList];congr 1;omega
theorem Build.rep {P:Program}{C:Ctx}{β:Nat->Hd}{S:Sd}{a:Act}{w:World}(h:StB C β S a w){t:Nat}{fs:Array Field}(hu:P.underlying t=some (.struct fs)){places:Array (Nat × Nat)}(hp:∀ (f:Nat) (fd:Field) i,fs[f]? =some fd->P.info? fd.type=some i->places[f]? =some (fd.offset,i.size))
 {zs ds:List D} {ps:List (Nat × Operand)} (hb:Build P S t zs ps ds):∀ {us:List Value},Dz w (Mut C.M0 β S.H) zs us->
 ∃ vs:List Value,Instr.fill (places[·]?) us.toArray (ps.map λx=>(x.1,a.eval x.2))=some vs.toArray/\Dz w (Mut C.M0 β S.H) ds vs:=by
 induction hb with
 |nil zs=>intro us hr;exact⟨us,rfl,hr⟩
 |@cons zs zs' ds cs f off ft m x v d ps hf hs hx ho hd hc hm hr hb ih=>
  intro us hrep;obtain⟨fs',fd,i,hu',h1,h2,h3,h4,_⟩:=jn8 hf;rw[hu]at hu';cases hu';have hi:i.size=m:=by have:=hs.ok;rw[h4]at this;simpa using this
  have hpl:=hp f fd i h1 (by rw[h3];exact h4);have hd':=hd.rep h (h.ev hx ho);have hcs:=hc.rep hd';have hlen:=hcs.length;obtain⟨h5,h6⟩:=hr.eq;have hul:=hrep.length;have hsz:(a.eval x).cells.size=m:=by simp at hlen;omega
  have hnew:Dz w (Mut C.M0 β S.H) zs' (us.take off++(a.eval x).cells.toList++us.drop (off+(a.eval x).cells.toList.length)):=by
   rw[h5,<-hlen];exact((hrep.take off).append hcs).append (hrep.drop _)
  obtain⟨vs,h7,h8⟩:=ih hnew;refine⟨vs,?_,h8⟩;simp only[List.map_cons,Instr.fill,hpl];rw[Af (by
   simp only[ne_eq,Bn,Ah,not_or,Eb,List.size_toArray];simp at hlen;omega)]
  have hfo:=ku8 fd.offset (a.eval x).cells.toList us.toArray (by simp at hlen ⊢;omega);rw[Array.toArray_toList]at hfo;simp only[List.toList_toArray]at hfo;rw[hfo,h2];exact h7
section
variable {E:Set}{S:Sd}{dst:Option Tmp}{ty:TypeId}{pos:String}{af:Array Edge}{gd:Option (Nat × Bool)}
theorem ku9 {P:Program}(fs:List Field)(h:∀ fd∈fs,(P.info? fd.type).isSome=true):
 ∃ ps:List (Nat × Nat),(∀ w,(fs.mapM λf=>do pure (f.offset,<-sizeOf f.type):Sem (List (Nat × Nat))).run P w=.ok ps w)/\∀ (f:Nat) (fd:Field) i,fs[f]? =some fd->P.info? fd.type=some i->ps[f]? =some (fd.offset,i.size):=by
 induction fs with
 |nil=>exact⟨[],λ_=>rfl,λf fd i hf=>by simp at hf⟩
 |cons x fs ih=>
  obtain⟨ps,h1,h2⟩:=ih (λfd hfd=>h fd (Ax _ hfd));cases hi:P.info? x.type with
  |none=>have:=h x Aw;rw[hi]at this;cases this
  |some i=>
   refine⟨(x.offset,i.size)::ps,λw=>?_,λf fd j hf hj=>?_⟩
   ·simp only[List.mapM_cons,Sem.run_bind,jc1 hi,Result.andThen_ok,Sem.run_pure,h1]
   ·cases f with
    |zero=>simp at hf;subst hf;rw[hi]at hj;cases hj;rfl
    |succ f=>exact h2 f fd j (by simpa using hf) hj
def my3 (P:Program)(t:Nat):Bool:=match P.underlying t with
 |some (.struct fs)=>fs.toList.all λfd=>(P.info? fd.type).isSome
 |_=>false
class aL (P:Program)(t:Nat):Prop where
 ok:my3 P t=true
theorem ke3 {P:Program}{t:Nat}(h:aL P t):∃ fs,P.underlying t=some (.struct fs)/\∀ fd∈fs.toList,(P.info? fd.type).isSome=true:=by
 have:=h.ok;unfold my3 at this;split at this
 ·rename_i fs hu;exact⟨fs,hu,By.1 this⟩
 ·cases this
inductive Lp:List V->List D->Prop
 |nil:Lp [] []
 |d {x:D} {vs:List V} {xs:List D} (h:Lp vs xs):Lp (.d x::vs) (x::xs)
 |nils {sz:Nat} {vs:List V} {xs:List D} (h:Lp vs xs):Lp (.nils sz::vs) (.list sz []::xs)
 |none {sz:Nat} {vs:List V} {xs:List D} (h:Lp vs xs):Lp (.nils sz::vs) (.nil sz::xs)
theorem qy7 {w:World}{M:Nat->Nat->Prop}{vs:List V}{ds:List D}(hz:Lp vs ds):∀ {us:List Value},jj5 us vs=true->Dz w M ds us:=by
 induction hz with
 |nil=>intro us h;cases us with|nil=>rfl|cons _ _=>cases h
 |@d x vs xs hz ih=>
  intro us h;cases us with
  |nil=>cases h
  |cons u us=>
   simp only[jj5,Aa]at h;refine⟨u,us,rfl,?_,jh2 (β:=qf6) (H:=[]) h.1,ih h.2⟩;have:=h.1;unfold js7 at this;split at this<;>first|rfl|cases this
 |@nils sz vs xs hz ih=>
  intro us h;cases us with
  |nil=>cases h
  |cons u us=>
   simp only[jj5,Aa]at h;have hu:u=.slice none 0 0:=jh2 (w:=w) (M:=M) (β:=qf6) (H:=[]) h.1;subst hu;exact⟨_,us,rfl,rfl,⟨none,0,[],rfl,Ap _,Ak _,λ_=>rfl,rfl,Reads.nil _ _ _⟩,ih h.2⟩
 |@none sz vs xs hz ih=>
  intro us h;cases us with
  |nil=>cases h
  |cons u us=>
   simp only[jj5,Aa]at h;have hu:u=.slice none 0 0:=jh2 (w:=w) (M:=M) (β:=qf6) (H:=[]) h.1;subst hu;exact⟨_,us,rfl,rfl,rfl,ih h.2⟩
theorem qy8 {t:Nat}{ps:List (Nat × Operand)}{vs:List V}{zs ds:List D}[ht:aL E.P t][hz:TZero E.P t vs](hzd:Lp vs zs)(hb:Build E.P S t zs ps ds):aH E S ⟨dst,.build t ps.toArray,ty,pos,af,gd⟩ (.d (.agg ds)):=aH.mk λβ a w h=>by
 obtain⟨fs,hu,hfs⟩:=ke3 ht;obtain⟨i,z,hi,hiz,h1,_⟩:=kc4 hz;obtain⟨pl,h2,h3⟩:=ku9 (P:=E.P) fs.toList hfs;obtain⟨us,h4,h5⟩:=hb.rep h hu (places:=pl.toArray) (λf fd i hf hi=>by simpa using h3 f fd i (by simpa using hf) hi) (qy7 (w:=w) (M:=Mut E.C.M0 β S.H) hzd h1);refine⟨.agg us.toArray,λw' _=>?_,us,rfl,h5⟩;have hpl:(fs.mapM λf=>do pure (f.offset,<-sizeOf f.type):Sem (Array (Nat × Nat))).run E.P w'=.ok pl.toArray w':=by
  rw[Array.mapM_eq_mapM_toList];simp only[Sem.run_map];refine(congrArg (λr:Result (List (Nat × Nat))=>r.andThen λa w'=>Result.ok a.toArray w') (h2 w')).trans ?_;rfl
 rw[Array.toArray_toList]at h4;simp only[execOp,Sem.run_bind,Instr.build,zeroValue,typeInfo,hi,hiz,run_underlying hu,Sem.run_pure,Result.andThen_ok,program,Sem.run];simp only[hpl,Result.andThen_ok];have e:(ps.toArray.map λx=>(x.1,a.eval x.2)).toList=ps.map λx=>(x.1,a.eval x.2):=by simp
 rw[e,h4];rfl
end
end
section
inductive Elems (S:Sd)(sz:Nat):Nat->List (Nat × Operand)->List D->Prop
 |nil (i:Nat):Elems S sz i [] []
 |cons {i:Nat} {x:Operand} {v:V} {d:D} {cs:List D} {ps:List (Nat × Operand)} {ds:List D} (hx:S.ev x=some v) (ho:Cm x=true) (hd:ToD S.H v d) (hc:Fv d cs) (hm:cs.length=sz) (h:Elems S sz (i+1) ps ds):Elems S sz i ((i,x)::ps) (d::ds)
theorem Elems.rep {C:Ctx}{β:Nat->Hd}{S:Sd}{a:Act}{w:World}(h:StB C β S a w){sz i:Nat}{ps:List (Nat × Operand)}{ds:List D}(he:Elems S sz i ps ds):
 ∃ us:List Value,ps.map (λx=>(x.1,a.eval x.2))=(us.zipIdx i).map (λx=>(x.2,x.1))/\us.length=ds.length/\(∀ u∈us,u.cells.size=sz)/\Gb w (Mut C.M0 β S.H) sz ds (us.flatMap λv=>v.cells.toList):=by
 induction he with
 |nil i=>exact⟨[],rfl,rfl,(λu hu=>by cases hu),rfl⟩
 |@cons i x v d cs ps ds hx ho hd hc hm _ ih=>
  obtain⟨us,h1,h2,h3,h4⟩:=ih;have h5:=hd.rep h (h.ev hx ho);have h6:=(hc.rep h5).length;have h7:(a.eval x).cells.size=sz:=by simp at h6;omega
  refine⟨a.eval x::us,?_,by simp[h2],λu hu=>?_,a.eval x,_,by simp,h7,h5,h4⟩
  ·simp only[List.map_cons,h1,List.zipIdx_cons]
  ·rcases Bc.1 hu with rfl|hu
   ·exact h7
   ·exact h3 u hu
theorem StB.newRow {C:Ctx}{β:Nat->Hd}{S:Sd}{a:Act}{w w':World}(h:StB C β S a w){n e sz:Nat}{sh:Bool}{xs:List D}(hn:S.aD n=true)(g:aG w w'){v:Value}{ys:List Value}(hv:∀ b,v.ownBlock=some b->w.heap.size<=b)(hown:w'.ownsRow 0 e sz v xs.length ys)
 (hr:Gb w (Mut C.M0 β S.H) sz xs ys):StB C (upd β n v) {S with H:=(n,.row e sz sh xs 0)::S.H} a w':=
 h.newObj hn v g (λb hb'=>hv b (by rw[<-ql4 hown];exact hb')) _ λk=>⟨ys,hown,Gb.keep k _ _ _ hr⟩
section
variable {E:Set}{Q:Exit->Sd->Prop}{S:Sd}{ops:Array Oper}{draw:Bool}{rest:Todo}{way:Ji}{ty:TypeId}{pos:String}{af:Array Edge}{gd:Option (Nat × Bool)}
theorem js8 {w:World}{M:Nat->Nat->Prop}{β:Nat->Hd}{H:List (Nat × Ob)}{n:Nat}{v:Value}{k:Nat}:Dc w M (upd β n v) H (.own n k) v:=λ_ _ _ _ _=>(jw6 β n v).symm
theorem vt1 {d n t e sz len:Nat}{ps:List (Nat × Operand)}{xs:List D}[ht:aK E.P t e sz](hp:Elems S sz 0 ps xs)(hlen:xs.length=len)(hsmall:len * sz<=16777216)(hn:S.aD n=true):
 Grow E S ⟨some d,.buildSlice t len ps.toArray,ty,pos,af,gd⟩ {S with H:=(n,.row e sz true xs 0)::S.H} (.own n 0):=Grow.mk λβ a w h=>by
 obtain⟨bytes,⟨i,z,hu,hi,hz,hs,hby,hzs,hpos⟩,_⟩:=jg0 ht;obtain⟨us,h1,h2,h3,h4⟩:=hp.rep h;have hfl:(us.flatMap λv=>v.cells.toList).length=len * sz:=by rw[h4.length,hlen]
 have hown:=kv3 w (us.flatMap λv=>v.cells.toList) e len sz 0 hfl (by unfold maxLen;have:=Nat.le_mul_of_pos_right len hpos;omega) (Ak _);have hst:∀ w',w'=w.alloc (.cells (us.flatMap λv=>v.cells.toList).toArray e)->StB E.C (upd β n (.slice (some ⟨w.heap.size,0,none⟩) len len)) {S with H:=(n,.row e sz true xs 0)::S.H} a w':=λw' e'=>by
  subst e';refine h.newRow hn (aG.alloc w _) (λb hb'=>?_) (by rw[hlen];exact hown) h4;simp only[Value.ownBlock,Bi]at hb';omega
 refine⟨.slice (some ⟨w.heap.size,0,none⟩) len len,_,_,?_,aG.alloc w _,hst _ rfl,js8⟩;have hparts:(ps.toArray.map λx=>(x.1,a.eval x.2)).toList=(us.zipIdx 0).map (λx=>(x.2,x.1)):=by simp[<-h1]
 by_cases h0:len=0
 ·subst h0;have hus:us=[]:=Bg (by rw[h2,hlen]);subst hus;simp only[List.zipIdx_nil,Bj]at hparts;have hps:ps=[]:=by simpa using hparts
  subst hps;have e0:Array.range 0=#[]:=Array.eq_empty_of_size_eq_zero (by simp);simp[execOp,Instr.buildSlice,run_underlying hu,jc1 hi,Instr.fill,newRow,e0]
 ·have hne:¬len * i.size=0:=by rw[hs];exact Nat.mul_ne_zero h0 (by omega)
  have hf:=Go.Great.fill_whole (s:=sz) hpos us ((Array.range (len * sz)).map (z.cells[·% z.cells.size]!)) h3 (by simp;rw[h2,hlen]);have hr:=run_buildSlice (P:=E.P) w t e len (ps.toArray.map λx=>(x.1,a.eval x.2)) _ i z hu hi hz (by rw[hs];omega) hne (by rw[hs,hparts];exact hf);simp only[execOp,Sem.run_bind,hr,Result.andThen_ok,Sem.run_pure]
structure Xq (E:Set)(S:Sd)(o:Oper)(S':Nat->Sd)(v:Nat->V):Prop where
 out:∀ β a w,StB E.C β S a w->∃ x w' β' k,(execOp a.eval o).run E.P w=.ok (.value x) w'/\StB E.C β' (S' k) a w'/\Dc w' (Mut E.C.M0 β' (S' k).H) β' (S' k).H (v k) x
theorem rl9 {o:Oper}{d:Nat}{S':Nat->Sd}{v:Nat->V}(hq:Xq E S o S' v)(hdst:o.dst=some d)(hd:d<E.C.nt)(hg:S.gd ops o=some true)(hdf:p9 o=false)(hw:Jv draw way=true)(h:∀ k,TR E draw ops Q rest ((S' k).put d (v k))):TR E draw ops Q (.step o way rest) S:=λa w hS=>by
 have hS0:=hS;have key:∀ w1,aG w w1->∀ K:Act->World->Prop,(∀ k a2 w2,St E.C ((S' k).put d (v k)) a2 w2->K a2 w2)->o.wp E.P a w1 K (Qof E.C Q):=λw1 g K hK=>by
  obtain⟨β,hB⟩:=hS.later g;obtain⟨x,w',β',k,h1,h2,h3⟩:=hq.out β a w1 hB;refine p8 h1 (hK k _ _ ?_);rw[hdst];exact⟨β',h2.put hd h3⟩
 cases draw with
 |true=>
  dsimp only;cases way with
  |pure=>cases hw
  |quiet=>cases hw
  |grow=>cases hw
  |bar=>
   simp only[x5];intro n;rw[Sd.Dv hS0 hg,Ad rfl];exact key n.w n.grows _ λk a2 w2 hs2=>h k _ _ hs2
 |false=>exact l5 hS0 hg hdf λK hK=>key w (aG.refl w) K λk a2 w2 hs2=>hK _ _ (h k _ _ hs2)
theorem jz6 {P:Program}{a:Act}{s x:Operand}{t:TypeId}{dst:Option Tmp}{w w':World}{v:Value}(h:(Builtin.append_ #[t,t] ty #[a.eval s,a.eval x]).run P w=.ok v w'):
 (execOp a.eval ⟨dst,.call {callee:=.builtin .append,args:=#[s,x],argTypes:=#[t,t]},ty,pos,af,gd⟩).run P w=.ok (.value v) w':=by
 simp[execOp,resolve,invoke,builtin,h]
theorem rm0 {d t e sz n k:Nat}{sh:Bool}{s x:Operand}{v:V}{xs ys:List D}[ht:aK E.P t e sz](hs:S.ev s=some (.own n k))(hos:Cm s=true)(hl:look n S.H=some (.row e sz sh xs k))(hx:S.ev x=some v)(hox:Cm x=true)(hy:ToD S.H v (.list sz ys))(hlen:xs.length+ys.length<=100000000000)(hN:E.C.N.contains n=false):
 Xq E S ⟨some d,.call {callee:=.builtin .append,args:=#[s,x],argTypes:=#[t,t]},ty,pos,af,gd⟩ (λk'=>{S with H:=(n,.row e sz sh (xs++ys) k')::S.H}) (λk'=>.own n k'):=Xq.mk λβ a w h=>by
 obtain⟨bytes,he,hby⟩:=jg0 ht;have h1:a.eval s=(β n).v:=h.ev hs hos e sz sh xs hl;obtain⟨olds,h2,h3⟩:=h.obs n _ hl;obtain⟨xa,xc,news,h4,h5,h6,h7,h8,h9⟩:=hy.rep h (h.ev hx hox);obtain⟨v',w',h10,h11,h12⟩:=ql3 (P:=E.P) (ty:=ty) w he h2 (xa:=xa) (m:=ys.length) (xc:=xc) (news:=news) h8.length (λj u hu=>by
  obtain⟨b,o,e1,_,e2⟩:=h9 j u hu;exact⟨b,o,e1,e2⟩) h7 h5 h8.one hlen hby
 refine⟨v',w',_,max (ro5 S.env) (ro6 S.H),jz6 (by rw[h1,h4];exact h10),h.append hl h2 h3 h8 h11 h12 _ (Ap _) hN,js8⟩
theorem rm1 {d n t e sz sz':Nat}{s x:Operand}{v:V}{ys:List D}[ht:aK E.P t e sz](hs:S.ev s=some (.nils sz'))(hos:Cm s=true)(hx:S.ev x=some v)(hox:Cm x=true)(hy:ToD S.H v (.list sz ys))(hlen:ys.length<=100000000000)(hn:S.aD n=true):
 Grow E S ⟨some d,.call {callee:=.builtin .append,args:=#[s,x],argTypes:=#[t,t]},ty,pos,af,gd⟩ {S with H:=(n,.row e sz true ys 0)::S.H} (.own n 0):=Grow.mk λβ a w h=>by
 obtain⟨bytes,he,hby⟩:=jg0 ht;have h1:a.eval s=.slice none 0 0:=h.ev hs hos;obtain⟨xa,xc,news,h4,h5,h6,h7,h8,h9⟩:=hy.rep h (h.ev hx hox);obtain⟨v',w',h10,h11,h12⟩:=ql3 (P:=E.P) (ty:=ty) w he (World.ownsRow_nil w 0 e sz) (xa:=xa) (m:=ys.length) (xc:=xc) (news:=news) h8.length (λj u hu=>by
  obtain⟨b,o,e1,_,e2⟩:=h9 j u hu;exact⟨b,o,e1,e2⟩) h7 h5 h8.one (by omega) hby
 rw[Es,Ae]at h11;have hg:aG w w'/\∀ b,v'.ownBlock=some b->w.heap.size<=b:=by
  rcases h12 with ⟨h13,h14⟩|⟨h13,h14⟩
  ·exact⟨(Below.refl _ _).grown h14 (Ap _) (λk hk=>by cases hk),λb hb'=>by rw[h13]at hb';cases hb'⟩
  ·exact⟨(Below.refl _ _).grown h14 (Ap _) (λk hk=>by cases hk),h13⟩
 exact⟨v',w',upd β n v',jz6 (by rw[h1,h4];exact h10),hg.1,h.newRow hn hg.1 hg.2 h11 h8,js8⟩
theorem StB.Wl {C:Ctx}{β:Nat->Hd}{a:Act}{w:World}(h:StB C β S a w){n e sz:Nat}(hn:S.aD n=true):StB C (upd β n (.slice none 0 0)) {S with H:=(n,.row e sz true [] 0)::S.H} a w:=
 h.newRow hn (aG.refl w) (λb hb'=>by cases hb') (World.ownsRow_nil w 0 e sz) rfl
end
end
end Go.Proofs.YtklklgfpkpglgaaGreatDoor
