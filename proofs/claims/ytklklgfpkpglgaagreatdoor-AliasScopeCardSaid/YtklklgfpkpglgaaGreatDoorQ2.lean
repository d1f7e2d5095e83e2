/- Parts. -/
import Derived.Test.YtklklgfpkpglgaaGreatDoorQ1
import Derived.Maps.AppendAt
set_option linter.all false
set_option maxRecDepth 100000
set_option maxHeartbeats 0
namespace Go.Proofs.YtklklgfpkpglgaaGreatDoor
open Go.RowKit
section
inductive V where
 |d (x:D)
 |own (n k:Nat)
 |nils (sz:Nat)
 |zc
 |ptr (n off:Nat)
 |sl (n off l c:Nat)
 |el (n k i off:Nat)
 |suf (n k p:Nat)
 |win (n k p m:Nat)
 |map (n:Nat)
 |clo (fn:Fn) (first caps:List V)
 |tup (vs:List V)
 |agg (vs:List V)
 |ifc (t:TypeId) (v:V)
 |bsl (n off l:Nat)
theorem At:type_of% @V.d.injEq:=@V.d.injEq
inductive Ob where
 |box (cs:List V)
 |row (e sz:Nat) (sh:Bool) (xs:List D) (k:Nat)
 |map (ks vs:List D)
 |imap (cs:List V)
 |smap (e sz:Nat) (f:ByteArray->List D) (x:Option (ByteArray × V))
 |hbox (e sz:Nat) (xs:List D) (i:Nat) (cs:List V)
 |sbox (cs:List V)
 |miter (ks vs:List D) (left:List Nat) (cur:Option Nat)
def look {α:Type}(t:Nat):List (Nat × α)->Option α
 |[]=>none
 |(s,v)::r=>bif Nat.beq s t then some v else look t r
theorem n9 {s t:Nat}:Nat.beq s t=false↔s≠t:=by
 constructor
 ·rintro h rfl;simp at h
 ·intro h;cases hb:Nat.beq s t with
  |false=>rfl
  |true=>exact absurd (Bo hb) h
theorem j6 {α:Type}(t s:Nat)(v:α)(r:List (Nat × α)):look t ((s,v)::r)=if s=t then some v else look t r:=by
 show(bif Nat.beq s t then some v else look t r)=_;by_cases h:s=t
 ·subst h;simp
 ·simp only[n9.2 h,cond_false,Af h]
theorem kw4 {α:Type}{t:Nat}:∀ {l:List (Nat × α)} {v:α},look t l=some v->(t,v)∈l
 |[],_,h=>by simp[look]at h
 |(s,u)::r,v,h=>by
  rw[j6]at h;split at h
  ·rename_i e;subst e;cases h;exact Aw
  ·exact Ax _ (kw4 h)
def hb:Value->Option Nat
 |.pointer (some a)=>some a.block
 |.slice (some a) _ _=>some a.block
 |.map (some r)=>some r
 |_=>none
structure Hd where
 v:Value
 bs:List Nat
def qf6:Nat->Hd:=λ_=>⟨.nilFunc,[]⟩
def Ob.deep:Ob->Bool
 |.smap _ _ _ _=>true
 |.hbox _ _ _ _ _=>true
 |_=>false
def own (h:Hd)(ob:Ob)(b:Nat):Prop:=hb h.v=some b\/(ob.deep=true/\b∈h.bs)
theorem z8 {h:Hd}{ob:Ob}{b:Nat}(hd:ob.deep=false):own h ob b↔hb h.v=some b:=by
 unfold own;rw[hd];simp
def blk (h:Hd)(ob:Ob):List Nat:=(hb h.v).toList++(if ob.deep then h.bs else [])
theorem qj0 {h:Hd}{ob:Ob}{b:Nat}:b∈blk h ob↔own h ob b:=by
 unfold blk own;cases hd:ob.deep<;>simp
def Ob.cells:Ob->List V
 |.box cs=>cs
 |.imap cs=>cs
 |.hbox _ _ _ _ cs=>cs
 |.sbox cs=>cs
 |.smap _ _ _ (some (_,v))=>[v]
 |_=>[]
def Ob.mut:Ob->Nat->Prop
 |.box _,_=>True
 |.row _ sz sh xs _,o=>sh=false\/xs.length * sz<=o
 |.map _ _,_=>True
 |.imap _,_=>True
 |.smap _ _ _ _,_=>True
 |.hbox _ _ _ _ _,_=>True
 |.sbox _,_=>True
 |.miter _ _ _ _,_=>True
theorem Ob.Xx (ob:Ob):∃ o,ob.mut o:=by
 cases ob with
 |row e sz sh xs k=>exact⟨xs.length * sz,.inr (Ap _)⟩
 |_=>exact⟨0,trivial⟩
structure Sd where
 env:List (Nat × V)
 H:List (Nat × Ob)
 gl:List (Nat × List D)
structure Ctx where
 nt:Nat
 E:List Nat
 w0:World
 M0:Nat->Nat->Prop
 N:List Nat
 b0:Nat->Value
 g:Nat->Value
 sys:List (Nat × Obj)
def Ctx.fn (nt:Nat)(w:World)(M:Nat->Nat->Prop):Ctx:=⟨nt,[],w,M,[],λ_=>.nilFunc,λ_=>.nilFunc,[]⟩
def kw5 (C:Ctx)(a:Act)(t:Nat):Option Value:=bif Nat.blt t 100000 then a.tmps[t]? else some (C.g t)
def ro2 (D:Nat):Deferred:={target:=.collected D,args:=#[]}
def Mut (M0:Nat->Nat->Prop)(β:Nat->Hd)(H:List (Nat × Ob))(b o:Nat):Prop:=
 M0 b o\/∃ n ob,look n H=some ob/\own (β n) ob b/\ob.mut o
mutual
def Dc (w:World)(M:Nat->Nat->Prop)(β:Nat->Hd)(H:List (Nat × Ob)):V->Value->Prop
 |.d x,v=>Gv w M x v
 |.own n k,v=>∀ e sz sh xs,look n H=some (.row e sz sh xs k)->v=(β n).v
 |.nils _,v=>v=.slice none 0 0
 |.zc,v=>∃ a,v=.slice a 0 0
 |.ptr n off,v=>∃ b,(β n).v=.pointer (some ⟨b,0,none⟩)/\v=.pointer (some ⟨b,off,none⟩)
 |.sl n off l c,v=>∃ b,(β n).v=.pointer (some ⟨b,0,none⟩)/\v=.slice (some ⟨b,off,none⟩) l c
 |.el n k i off,v=>∀ e sz sh xs,look n H=some (.row e sz sh xs k)->∃ b l c,(β n).v=.slice (some ⟨b,0,none⟩) l c/\v=.pointer (some ⟨b,i * sz+off,none⟩)
 |.suf n k p,v=>∀ e sz sh xs,look n H=some (.row e sz sh xs k)->∃ a l c a',(β n).v=.slice a l c/\p<=l/\v=.slice a' (l - p) (c - p)/\(c≠p->a'=a.map (·.add (p * sz)))/\(a'=none↔a=none)
 |.win n k p m,v=>∀ e sz sh xs,look n H=some (.row e sz sh xs k)->∃ a l c a' c',(β n).v=.slice a l c/\p+m<=l/\v=.slice a' m c'/\m<=c'/\(m≠0->a'=a.map (·.add (p * sz)))/\c'<=maxLen/\(a'=none->c'=0)
 |.map n,v=>∃ r,(β n).v=.map (some r)/\v=.map (some r)
 |.clo fn f c,v=>∃ fs gs:List Value,v=.func fn fs.toArray gs.toArray/\Cs w M β H f fs/\Cs w M β H c gs
 |.tup vs,v=>∃ us:List Value,v=.tuple us.toArray/\Cs w M β H vs us
 |.agg vs,v=>∃ us:List Value,v=.agg us.toArray/\(∀ u∈us,u.oneCell'=true)/\Cs w M β H vs us
 |.ifc t x,v=>∃ u:Value,v=.iface t u/\Dc w M β H x u
 |.bsl n off l,v=>∃ b c,(β n).v=.pointer (some ⟨b,0,none⟩)/\v=.slice (some ⟨b,off,none⟩) l c/\l<=c/\c<=maxLen
def Cs (w:World)(M:Nat->Nat->Prop)(β:Nat->Hd)(H:List (Nat × Ob)):List V->List Value->Prop
 |[],vs=>vs=[]
 |x::xs,vs=>∃ (v:Value) (r:List Value),vs=v::r/\Dc w M β H x v/\Cs w M β H xs r
end
structure IMap (es:List MapEntry)(c:Nat)(vs:List Value):Prop where
 here:∀ e∈es,∃ i:Nat,e.key=.int .i64 i/\vs[i]? =some e.val
 all:∀ (i:Nat) x,vs[i]? =some x->x≠.slice none 0 0->∃ e∈es,e.key=.int .i64 i
 one:es.Pairwise λx y=>x.key≠y.key
 born:∀ e∈es,e.born<c
structure SMap (w:World)(M:Nat->Nat->Prop)(e sz:Nat)(f:ByteArray->List D)(x:Option ByteArray)(es:List MapEntry)(c:Nat)(r:Nat)(bs:List Nat):Prop where
 key:∀ en∈es,∃ s,en.key=.string s
 one:es.Pairwise λx y=>x.key≠y.key
 born:∀ en∈es,en.born<c
 here:∀ en∈es,∀ s,en.key=.string s->x≠some s->∃ ys,w.ownsRow 0 e sz en.val (f s).length ys/\Gb w M sz (f s) ys
 none:∀ s,x≠some s->(∀ en∈es,en.key≠.string s)->f s=[]
 blk:∀ b,b∈bs↔∃ en∈es,∃ s,en.key=.string s/\x≠some s/\hb en.val=some b
 apart:∀ en∈es,∀ en'∈es,∀ s s' b,en.key=.string s->en'.key=.string s'->x≠some s->x≠some s'->s≠s'->hb en.val=some b->hb en'.val≠some b
 map:r∉bs
def Lies (es:List MapEntry)(s:ByteArray)(u:Value):Prop:=(∃ en∈es,en.key=.string s/\en.val=u)\/((∀ en∈es,en.key≠.string s)/\u=.slice none 0 0)
def La (w:World)(M:Nat->Nat->Prop)(β:Nat->Hd)(H:List (Nat × Ob))(h:Hd):Ob->Prop
 |.box cs=>∃ (b:Nat) (vs:List Value) (t:TypeId),h.v=.pointer (some ⟨b,0,none⟩)/\w.heap[b]? =some (.cells vs.toArray t (0,0))/\Cs w M β H cs vs
 |.row e sz _ xs _=>∃ ys:List Value,w.ownsRow 0 e sz h.v xs.length ys/\Gb w M sz xs ys
 |.map ks us=>∃ (r:Nat) (es:Array MapEntry) (clock:Nat),h.v=.map (some r)/\w.heap[r]? =some (.map es clock)/\Hg w M ks (es.toList.map (·.key))/\Hg w M us (es.toList.map (·.val))/\Born es.toList clock
 |.imap cs=>∃ (r:Nat) (es:Array MapEntry) (clock:Nat) (vs:List Value),h.v=.map (some r)/\w.heap[r]? =some (.map es clock)/\Cs w M β H cs vs/\IMap es.toList clock vs
 |.smap e sz f x=>∃ (r:Nat) (es:Array MapEntry) (clock:Nat),h.v=.map (some r)/\w.heap[r]? =some (.map es clock)/\SMap w M e sz f (x.map (·.1)) es.toList clock r h.bs/\∀ s v,x=some (s,v)->∃ u,Dc w M β H v u/\Lies es.toList s u
 |.hbox e sz xs i cs=>∃ (b:Nat) (vs:List Value) (u:Value) (t:TypeId) (ys:List Value),h.v=.pointer (some ⟨b,0,none⟩)/\w.heap[b]? =some (.cells (vs.set i u).toArray t (0,0))/\w.ownsRow 0 e sz u xs.length ys/\Gb w M sz xs ys/\(∀ q,q∈h.bs↔hb u=some q)/\b∉h.bs/\i<vs.length/\Cs w M β H cs vs
 |.sbox cs=>∃ (b:Nat) (vs us:List Value) (t:TypeId),h.v=.pointer (some ⟨b,0,none⟩)/\w.heap[b]? =some (.cells (vs++us).toArray t (0,0))/\Cs w M β H cs vs
 |.miter ks us left cur=>∃ b:Nat,h.v=.pointer (some ⟨b,0,none⟩)/\((w.heap[b]? =some (.mapIter none 0 #[] 0)/\ks=[]/\left=[]/\cur=none)\/∃ (m:Nat) (es:Array MapEntry) (c:Nat) (seen:Array Nat),w.heap[b]? =some (.mapIter (some m) c seen c)/\w.heap[m]? =some (.map es c)/\(∀ o,¬M m o)/\Hg w M ks (es.toList.map (·.key))/\Hg w M us (es.toList.map (·.val))/\Born es.toList c/\(∀ i e,es[i]? =some e->(i∈left↔seen.contains e.born=false))/\left.Nodup/\∀ i,cur=some i->∃ e,es[i]? =some e/\seen.back? =some e.born)
structure Frm (E:List Nat)(w w':World):Prop where
 os:w'.os=w.os
 tape:w'.tape=w.tape
 output:w'.output=w.output
 size:w.heap.size<=w'.heap.size
 block:∀ k,k<w.heap.size->k∉E->w'.heap[k]? =w.heap[k]?
structure StB (C:Ctx)(β:Nat->Hd)(S:Sd)(a:Act)(w:World):Prop where
 size:a.tmps.size=C.nt
 small:C.nt<=100000
 defers:∃ Ds:List Nat,a.defers=Ds.map ro2/\Ds.Nodup/\∀ D∈Ds,w.heap[D]? =some (.deferred (some []))/\C.w0.heap.size<=D/\∀ p∈C.sys,p.1≠D
 sys:∀ p∈C.sys,w.heap[p.1]? =some p.2/\rr7 p.2=true/\C.w0.heap.size<=p.1
 env:∀ t v,look t S.env=some v->∃ x,kw5 C a t=some x/\Dc w (Mut C.M0 β S.H) β S.H v x
 obs:∀ n ob,look n S.H=some ob->La w (Mut C.M0 β S.H) β S.H (β n) ob
 apart:∀ n m b ob ob',n≠m->look n S.H=some ob->look m S.H=some ob'->own (β n) ob b->¬own (β m) ob' b
 place:∀ n ob b,look n S.H=some ob->own (β n) ob b->b∈C.E\/C.w0.heap.size<=b
 glob:∀ g cs,look g S.gl=some cs->Sw w (Mut C.M0 β S.H) g cs
 frame:Frm C.E C.w0 w
 out:∀ n ob b o,look n S.H=some ob->own (β n) ob b->¬C.M0 b o
 low:∀ b o,C.M0 b o->b<C.w0.heap.size
 fix:∀ n∈C.N,(β n).v=C.b0 n
 has:∀ n∈C.N,(look n S.H).isSome=true
def St (C:Ctx)(S:Sd)(a:Act)(w:World):Prop:=∃ β,StB C β S a w
mutual
theorem Dc.keep {w w':World}{M M':Nat->Nat->Prop}{β β':Nat->Hd}{H H':List (Nat × Ob)}(k:aI w M w' M')
 (hβ:∀ n,β' n=β n) (hH:∀ n e sz sh xs k,look n H'=some (.row e sz sh xs k)->∃ sh' xs',look n H=some (.row e sz sh' xs' k)):
 ∀ (x:V) (v:Value),Dc w M β H x v->Dc w' M' β' H' x v
 |.d x,v,h=>Gv.keep k x v h
 |.own n q,v,h=>λe sz sh xs hl=>by
  obtain⟨sh',xs',h1⟩:=hH n e sz sh xs q hl;rw[hβ];exact h e sz sh' xs' h1
 |.nils _,_,h=>h
 |.zc,_,h=>h
 |.ptr n off,_,h=>by simp only[Dc]at h ⊢;rw[hβ];exact h
 |.sl n off _ _,_,h=>by simp only[Dc]at h ⊢;rw[hβ];exact h
 |.el n q i off,v,h=>λe sz sh xs hl=>by
  obtain⟨sh',xs',h1⟩:=hH n e sz sh xs q hl;rw[hβ];exact h e sz sh' xs' h1
 |.suf n q p,v,h=>λe sz sh xs hl=>by
  obtain⟨sh',xs',h1⟩:=hH n e sz sh xs q hl;rw[hβ];exact h e sz sh' xs' h1
 |.win n q p m,v,h=>λe sz sh xs hl=>by
  obtain⟨sh',xs',h1⟩:=hH n e sz sh xs q hl;rw[hβ];exact h e sz sh' xs' h1
 |.map n,_,h=>by simp only[Dc]at h ⊢;rw[hβ];exact h
 |.clo _ f c,_,⟨fs,gs,h1,h2,h3⟩=>⟨fs,gs,h1,Cs.keep k hβ hH f fs h2,Cs.keep k hβ hH c gs h3⟩
 |.tup vs,_,⟨us,h1,h2⟩=>⟨us,h1,Cs.keep k hβ hH vs us h2⟩
 |.agg vs,_,⟨us,h1,h0,h2⟩=>⟨us,h1,h0,Cs.keep k hβ hH vs us h2⟩
 |.ifc _ x,_,⟨u,h1,h2⟩=>⟨u,h1,Dc.keep k hβ hH x u h2⟩
 |.bsl n off _,_,h=>by simp only[Dc]at h ⊢;rw[hβ];exact h
theorem Cs.keep {w w':World}{M M':Nat->Nat->Prop}{β β':Nat->Hd}{H H':List (Nat × Ob)}(k:aI w M w' M')
 (hβ:∀ n,β' n=β n) (hH:∀ n e sz sh xs k,look n H'=some (.row e sz sh xs k)->∃ sh' xs',look n H=some (.row e sz sh' xs' k)):
 ∀ (xs:List V) (vs:List Value),Cs w M β H xs vs->Cs w' M' β' H' xs vs
 |[],_,h=>h
 |x::xs,_,⟨v,r,h1,h2,h3⟩=>⟨v,r,h1,Dc.keep k hβ hH x v h2,Cs.keep k hβ hH xs r h3⟩
end
mutual
def V.says (n:Nat):V->Bool
 |.d _=>false
 |.own m _=>Nat.beq m n
 |.nils _=>false
 |.zc=>false
 |.ptr m _=>Nat.beq m n
 |.sl m _ _ _=>Nat.beq m n
 |.el m _ _ _=>Nat.beq m n
 |.suf m _ _=>Nat.beq m n
 |.win m _ _ _=>Nat.beq m n
 |.map m=>Nat.beq m n
 |.clo _ f c=>Jj n f || Jj n c
 |.tup vs=>Jj n vs
 |.agg vs=>Jj n vs
 |.ifc _ x=>x.says n
 |.bsl m _ _=>Nat.beq m n
def Jj (n:Nat):List V->Bool
 |[]=>false
 |v::r=>v.says n || Jj n r
end
def Ob.says (n:Nat)(ob:Ob):Bool:=Jj n ob.cells
def kf0 (n:Nat):List (Nat × V)->Bool
 |[]=>true
 |(_,v)::r=>!v.says n && kf0 n r
def jw2 (n:Nat):List (Nat × Ob)->Bool
 |[]=>true
 |(m,o)::r=>!Nat.beq m n && !o.says n && jw2 n r
def Sd.aD (S:Sd)(n:Nat):Bool:=kf0 n S.env && jw2 n S.H
theorem jh9 {n t:Nat}:∀ {l:List (Nat × V)} {v:V},kf0 n l=true->look t l=some v->v.says n=false
 |[],_,_,h=>by simp[look]at h
 |(s,u)::r,v,h,hl=>by
  simp only[kf0,Aa,Bz]at h;rw[j6]at hl;split at hl
  ·cases hl;exact h.1
  ·exact jh9 h.2 hl
theorem ja8 {n m:Nat}:∀ {l:List (Nat × Ob)} {o:Ob},jw2 n l=true->look m l=some o->m≠n/\o.says n=false
 |[],_,_,h=>by simp[look]at h
 |(s,u)::r,v,h,hl=>by
  simp only[jw2,Aa,Bz]at h;rw[j6]at hl;split at hl
  ·rename_i e;subst e;cases hl;exact⟨n9.1 h.1.1,h.1.2⟩
  ·exact ja8 h.2 hl
theorem Sd.Mg {S:Sd}{n:Nat}(h:S.aD n=true):look n S.H=none:=by
 simp only[Sd.aD,Aa]at h;cases hl:look n S.H with
 |none=>rfl
 |some o=>exact absurd rfl (ja8 h.2 hl).1
mutual
theorem Dc.aD {w w':World}{M M':Nat->Nat->Prop}{β β':Nat->Hd}{H H':List (Nat × Ob)}{q:Nat}(k:aI w M w' M')
 (hβ:∀ n,n≠q->β' n=β n) (hH:∀ n,n≠q->look n H'=look n H):
 ∀ (x:V) (v:Value),x.says q=false->Dc w M β H x v->Dc w' M' β' H' x v
 |.d x,v,_,h=>Gv.keep k x v h
 |.own n q',v,hs,h=>λe sz sh xs hl=>by
  have hne:n≠q:=n9.1 (by simpa only[V.says]using hs);rw[hH n hne]at hl;rw[hβ n hne];exact h e sz sh xs hl
 |.nils _,_,_,h=>h
 |.zc,_,_,h=>h
 |.ptr n off,_,hs,h=>by
  have hne:n≠q:=n9.1 (by simpa only[V.says]using hs);simp only[Dc]at h ⊢;rw[hβ n hne];exact h
 |.sl n off _ _,_,hs,h=>by
  have hne:n≠q:=n9.1 (by simpa only[V.says]using hs);simp only[Dc]at h ⊢;rw[hβ n hne];exact h
 |.el n q' i off,v,hs,h=>λe sz sh xs hl=>by
  have hne:n≠q:=n9.1 (by simpa only[V.says]using hs);rw[hH n hne]at hl;rw[hβ n hne];exact h e sz sh xs hl
 |.suf n q' p,v,hs,h=>λe sz sh xs hl=>by
  have hne:n≠q:=n9.1 (by simpa only[V.says]using hs);rw[hH n hne]at hl;rw[hβ n hne];exact h e sz sh xs hl
 |.win n q' p m,v,hs,h=>λe sz sh xs hl=>by
  have hne:n≠q:=n9.1 (by simpa only[V.says]using hs);rw[hH n hne]at hl;rw[hβ n hne];exact h e sz sh xs hl
 |.map n,_,hs,h=>by
  have hne:n≠q:=n9.1 (by simpa only[V.says]using hs);simp only[Dc]at h ⊢;rw[hβ n hne];exact h
 |.clo _ f c,_,hs,⟨fs,gs,h1,h2,h3⟩=>by
  simp only[V.says,Bool.or_eq_false_iff]at hs;exact⟨fs,gs,h1,Cs.aD k hβ hH f fs hs.1 h2,Cs.aD k hβ hH c gs hs.2 h3⟩
 |.tup vs,_,hs,⟨us,h1,h2⟩=>⟨us,h1,Cs.aD k hβ hH vs us (by simpa [V.says]using hs) h2⟩
 |.agg vs,_,hs,⟨us,h1,h0,h2⟩=>⟨us,h1,h0,Cs.aD k hβ hH vs us (by simpa [V.says]using hs) h2⟩
 |.ifc _ x,_,hs,⟨u,h1,h2⟩=>⟨u,h1,Dc.aD k hβ hH x u (by simpa [V.says]using hs) h2⟩
 |.bsl n off _,_,hs,h=>by
  have hne:n≠q:=n9.1 (by simpa only[V.says]using hs);simp only[Dc]at h ⊢;rw[hβ n hne];exact h
theorem Cs.aD {w w':World}{M M':Nat->Nat->Prop}{β β':Nat->Hd}{H H':List (Nat × Ob)}{q:Nat}(k:aI w M w' M')
 (hβ:∀ n,n≠q->β' n=β n) (hH:∀ n,n≠q->look n H'=look n H):
 ∀ (xs:List V) (vs:List Value),Jj q xs=false->Cs w M β H xs vs->Cs w' M' β' H' xs vs
 |[],_,_,h=>h
 |x::xs,_,hs,⟨v,r,h1,h2,h3⟩=>by
  simp only[Jj,Bool.or_eq_false_iff]at hs;exact⟨v,r,h1,Dc.aD k hβ hH x v hs.1 h2,Cs.aD k hβ hH xs r hs.2 h3⟩
end
theorem Cs.length {w:World}{M:Nat->Nat->Prop}{β:Nat->Hd}{H:List (Nat × Ob)}:∀ {xs:List V} {vs:List Value},Cs w M β H xs vs->vs.length=xs.length
 |[],_,h=>by simp only[Cs]at h;subst h;rfl
 |_::xs,_,h=>by
  simp only[Cs]at h;obtain⟨v,r,rfl,_,h4⟩:=h;simp[Cs.length h4]
theorem Cs.get {w:World}{M:Nat->Nat->Prop}{β:Nat->Hd}{H:List (Nat × Ob)}:∀ {xs:List V} {vs:List Value},Cs w M β H xs vs->∀ {i:Nat} {x:V},xs[i]? =some x->∃ v,vs[i]? =some v/\Dc w M β H x v
 |[],_,_,_,_,hx=>by simp at hx
 |y::xs,_,h,0,x,hx=>by
  simp only[Cs]at h;obtain⟨v,r,rfl,h2,_⟩:=h;simp at hx;subst hx;exact⟨v,rfl,h2⟩
 |y::xs,_,h,i+1,x,hx=>by
  simp only[Cs]at h;obtain⟨v,r,rfl,h2,h3⟩:=h;simpa using Cs.get h3 (i:=i) (x:=x) (by simpa using hx)
theorem Cs.set {w:World}{M:Nat->Nat->Prop}{β:Nat->Hd}{H:List (Nat × Ob)}:∀ {xs:List V} {vs:List Value},Cs w M β H xs vs->∀ (i:Nat) {x:V} {v:Value},Dc w M β H x v->Cs w M β H (xs.set i x) (vs.set i v)
 |[],_,h,i,_,_,_=>by simp only[Cs]at h;subst h;simp[Cs]
 |y::xs,_,h,0,x,v,hx=>by
  simp only[Cs]at h;obtain⟨u,r,rfl,h2,h3⟩:=h;exact⟨v,r,rfl,hx,h3⟩
 |y::xs,_,h,i+1,x,v,hx=>by
  simp only[Cs]at h;obtain⟨u,r,rfl,h2,h3⟩:=h;exact⟨u,_,rfl,h2,Cs.set h3 i hx⟩
theorem Frm.refl (E:List Nat)(w:World):Frm E w w:=⟨rfl,rfl,rfl,Ap _,λ_ _ _=>rfl⟩
theorem Frm.trans {E:List Nat}{a b c:World}(h:Frm E a b)(k:Frm E b c):Frm E a c:=
 ⟨k.os.trans h.os,k.tape.trans h.tape,k.output.trans h.output,Fe h.size k.size,λi hi he=>(k.block i (Nat.lt_of_lt_of_le hi h.size) he).trans (h.block i hi he)⟩
theorem Frm.grows {E:List Nat}{a b c:World}(h:Frm E a b)(k:aG b c):Frm E a c:=
 h.trans ⟨k.os,k.tape,k.output,k.size,λi hi _=>k.block i hi⟩
theorem Frm.below {w w':World}(h:Frm [] w w'):Below w.heap.size w w':=⟨h.os,h.tape,h.output,h.size,λk hk=>h.block k hk (by simp)⟩
theorem Frm.of_below {w w':World}(h:Below w.heap.size w w')(E:List Nat):Frm E w w':=⟨h.os,h.tape,h.output,h.size,λk hk _=>h.block k hk⟩
theorem qj1 {w:World}{e sz n b:Nat}{v:Value}{ys:List Value}(h:w.ownsRow 0 e sz v n ys)(hv:hb v=some b):∃ cs:Array Value,w.heap[b]? =some (.cells cs e (0,0)):=by
 rcases h.2 with ⟨rfl,_⟩|⟨g,cap,cur,rfl,_,hh,_⟩
 ·simp[hb]at hv
 ·simp only[hb,Bi]at hv;subst hv;exact⟨cur,hh⟩
theorem ka6 {w w':World}{e sz n:Nat}{v:Value}{ys:List Value}(h:w.ownsRow 0 e sz v n ys)(hk:∀ b,hb v=some b->w'.heap[b]? =w.heap[b]?):w'.ownsRow 0 e sz v n ys:=by
 refine⟨h.1,?_⟩;rcases h.2 with h2|⟨g,cap,cur,hv,hg,hh,r⟩
 ·exact .inl h2
 ·exact .inr ⟨g,cap,cur,hv,hg,by rw[hk g (by rw[hv];rfl)];exact hh,r⟩
theorem SMap.keep {w w':World}{M M':Nat->Nat->Prop}{e sz:Nat}{f:ByteArray->List D}{x:Option ByteArray}{es:List MapEntry}{c r:Nat}{bs:List Nat}(k:aI w M w' M')(h:SMap w M e sz f x es c r bs)
 (hk:∀ b∈bs,w'.heap[b]? =w.heap[b]?):SMap w' M' e sz f x es c r bs:=
 ⟨h.key,h.one,h.born,λen he s h1 h2=>by
   obtain⟨ys,h3,h4⟩:=h.here en he s h1 h2;exact⟨ys,ka6 h3 (λb hb'=>hk b ((h.blk b).2 ⟨en,he,s,h1,h2,hb'⟩)),Gb.keep k _ _ _ h4⟩,h.none,h.blk,h.apart,h.map⟩
theorem La.keep {w w':World}{M M':Nat->Nat->Prop}{β β':Nat->Hd}{H H':List (Nat × Ob)}{v:Hd}(k:aI w M w' M'):∀ {ob:Ob},
 (∀ b,own v ob b->w'.heap[b]? =w.heap[b]?)->(∀ vs,Cs w M β H ob.cells vs->Cs w' M' β' H' ob.cells vs)->La w M β H v ob->La w' M' β' H' v ob
 |.box cs,hblk,hL,⟨b,vs,t,h1,h2,h3⟩=>⟨b,vs,t,h1,by rw[hblk b (.inl (by rw[h1];rfl))];exact h2,hL vs h3⟩
 |.row e sz _ xs _,hblk,_,⟨ys,h1,h2⟩=>⟨ys,ka6 h1 (λb hb'=>hblk b (.inl hb')),Gb.keep k _ _ _ h2⟩
 |.map _ _,hblk,_,⟨r,es,clock,h1,h2,h3,h4⟩=>⟨r,es,clock,h1,by rw[hblk r (.inl (by rw[h1];rfl))];exact h2,Hg.keep k _ _ h3,Hg.keep k _ _ h4.1,h4.2⟩
 |.imap cs,hblk,hL,⟨r,es,clock,vs,h1,h2,h3,h4⟩=>⟨r,es,clock,vs,h1,by rw[hblk r (.inl (by rw[h1];rfl))];exact h2,hL vs h3,h4⟩
 |.smap e sz f x,hblk,hL,⟨r,es,clock,h1,h2,h3,h4⟩=>⟨r,es,clock,h1,by rw[hblk r (.inl (by rw[h1];rfl))];exact h2,h3.keep k (λb hb'=>hblk b (.inr ⟨rfl,hb'⟩)),λs y hx=>by
  obtain⟨u,h5,h6⟩:=h4 s y hx;subst hx;have h7:=hL [u] ⟨u,[],rfl,h5,rfl⟩;obtain⟨u',_,h8,h9,_⟩:=h7;cases h8;exact⟨u,h9,h6⟩⟩
 |.hbox e sz xs i cs,hblk,hL,⟨b,vs,u,t,ys,h1,h2,h3,h4,h5,h6,h7,h8⟩=>⟨b,vs,u,t,ys,h1,by rw[hblk b (.inl (by rw[h1];rfl))];exact h2,ka6 h3 (λq hq=>hblk q (.inr ⟨rfl,(h5 q).2 hq⟩)),Gb.keep k _ _ _ h4,h5,h6,h7,hL vs h8⟩
 |.sbox cs,hblk,hL,⟨b,vs,us,t,h1,h2,h3⟩=>⟨b,vs,us,t,h1,by rw[hblk b (.inl (by rw[h1];rfl))];exact h2,hL vs h3⟩
 |.miter ks us left cur,hblk,_,⟨b,h1,h2⟩=>⟨b,h1,by
  have e:w'.heap[b]? =w.heap[b]? :=hblk b (.inl (by rw[h1];rfl));rcases h2 with ⟨h3,h4⟩|⟨m,es,c,seen,h3,h4,h5,h6,h7,h8⟩
  ·exact .inl ⟨by rw[e];exact h3,h4⟩
  ·exact .inr ⟨m,es,c,seen,by rw[e];exact h3,(k.obj m _ rfl h5 h4).2,(k.obj m _ rfl h5 h4).1,Hg.keep k _ _ h6,Hg.keep k _ _ h7,h8⟩⟩
theorem La.kind {w:World}{M:Nat->Nat->Prop}{β:Nat->Hd}{H:List (Nat × Ob)}{v:Hd}:∀ {ob:Ob},La w M β H v ob->∀ {b:Nat},own v ob b->∃ o,w.heap[b]? =some o/\rr7 o=false/\(∀ es c,o=.map es c->ob.mut 0)
 |.box cs,⟨b,vs,t,h1,h2,h3⟩,b',hb'=>by
  rw[z8 rfl,h1]at hb';cases hb';exact⟨_,h2,rfl,λ_ _ h=>by cases h⟩
 |.row e sz _ xs _,⟨ys,h1,h2⟩,b',hb'=>by
  obtain⟨cs,h3⟩:=qj1 h1 ((z8 rfl).1 hb');exact⟨_,h3,rfl,λ_ _ h=>by cases h⟩
 |.map _ _,⟨r,es,clock,h1,h2,h3⟩,b',hb'=>by
  rw[z8 rfl,h1]at hb';cases hb';exact⟨_,h2,rfl,λ_ _ _=>trivial⟩
 |.imap _,⟨r,es,clock,vs,h1,h2,h3⟩,b',hb'=>by
  rw[z8 rfl,h1]at hb';cases hb';exact⟨_,h2,rfl,λ_ _ _=>trivial⟩
 |.smap e sz f x,⟨r,es,clock,h1,h2,h3,_⟩,b',hb'=>by
  rcases hb' with hb'|⟨_,hb'⟩
  ·rw[h1]at hb';cases hb';exact⟨_,h2,rfl,λ_ _ _=>trivial⟩
  ·obtain⟨en,h5,s,h6,h7,h8⟩:=(h3.blk b').1 hb';obtain⟨ys,h9,_⟩:=h3.here en h5 s h6 h7;obtain⟨cs,h10⟩:=qj1 h9 h8;exact⟨_,h10,rfl,λ_ _ _=>trivial⟩
 |.hbox e sz xs i cs,⟨b,vs,u,t,ys,h1,h2,h3,h4,h5,h6,_⟩,b',hb'=>by
  rcases hb' with hb'|⟨_,hb'⟩
  ·rw[h1]at hb';cases hb';exact⟨_,h2,rfl,λ_ _ _=>trivial⟩
  ·obtain⟨cs,h10⟩:=qj1 h3 ((h5 b').1 hb');exact⟨_,h10,rfl,λ_ _ _=>trivial⟩
 |.sbox cs,⟨b,vs,us,t,h1,h2,h3⟩,b',hb'=>by
  rw[z8 rfl,h1]at hb';cases hb';exact⟨_,h2,rfl,λ_ _ h=>by cases h⟩
 |.miter ks us left cur,⟨b,h1,h2⟩,b',hb'=>by
  rw[z8 rfl,h1]at hb';cases hb';rcases h2 with ⟨h3,_⟩|⟨m,es,c,seen,h3,_⟩
  ·exact⟨_,h3,rfl,λ_ _ h=>by cases h⟩
  ·exact⟨_,h3,rfl,λ_ _ h=>by cases h⟩
theorem La.lt {w:World}{M:Nat->Nat->Prop}{β:Nat->Hd}{H:List (Nat × Ob)}{v:Hd}{ob:Ob}(h:La w M β H v ob){b:Nat}(hb':own v ob b):b<w.heap.size:=by
 obtain⟨o,h1,_⟩:=h.kind hb';exact(Bw.1 h1).1
theorem La.later {w w':World}{M:Nat->Nat->Prop}{β:Nat->Hd}{H:List (Nat × Ob)}{v:Hd}(g:aG w w'){ob:Ob}(h:La w M β H v ob):La w' M β H v ob:=
 La.keep (aI.below g) (λb hb'=>g.block b (h.lt hb')) (λ_ hL=>Cs.keep (aI.below g) (λ_=>rfl) (λ_ _ _ sh xs _ h=>⟨sh,xs,h⟩) _ _ hL) h
theorem StB.later {C:Ctx}{β:Nat->Hd}{S:Sd}{a:Act}{w w':World}(h:StB C β S a w)(g:aG w w'):StB C β S a w' where
 size:=h.size
 small:=h.small
 defers:=let ⟨Ds,h1,h2,h3⟩:=h.defers;⟨Ds,h1,h2,λD hD=>⟨(g.block D (Bw.1 (h3 D hD).1).1).trans (h3 D hD).1,(h3 D hD).2⟩⟩
 sys:=λp hp=>⟨(g.block p.1 (Bw.1 (h.sys p hp).1).1).trans (h.sys p hp).1,(h.sys p hp).2⟩
 env:=λt v hl=>let ⟨x,h1,h2⟩:=h.env t v hl;⟨x,h1,Dc.keep (aI.below g) (λ_=>rfl) (λ_ _ _ sh xs _ h=>⟨sh,xs,h⟩) _ _ h2⟩
 obs:=λn ob hl=>(h.obs n ob hl).later g
 apart:=h.apart
 place:=h.place
 glob:=λg' cs hl=>(h.glob g' cs hl).keep (aI.below g)
 frame:=h.frame.grows g
 out:=h.out
 low:=h.low
 fix:=h.fix
 has:=h.has
theorem St.later {C:Ctx}{S:Sd}{a:Act}{w w':World}(h:St C S a w)(g:aG w w'):St C S a w':=let ⟨β,h⟩:=h;⟨β,h.later g⟩
def qj2:Value->D
 |.int k n=>.int k n
 |.bool b=>.bool b
 |.string s=>.str s
 |.slice none 0 0=>.list 0 []
 |x=>.raw x
def ki2:Value->V
 |.int k n=>.d (.int k n)
 |.bool b=>.d (.bool b)
 |.string s=>.d (.str s)
 |.slice none 0 0=>.nils 0
 |.pointer a=>.d (.raw (.pointer a))
 |.map a=>.d (.raw (.map a))
 |.nilFunc=>.d (.raw .nilFunc)
 |.agg cs=>.d (.agg (cs.toList.map qj2))
 |_=>.tup []
def Sd.ev (S:Sd):Operand->Option V
 |.tmp t=>bif Nat.blt t 100000 then look t S.env else none
 |.const v=>some (ki2 v)
 |.global g=>(look g S.gl).map λcs=>.d (.ref cs 0)
 |.func f=>some (.clo (.func f) [] [])
def kw6:Value->Bool
 |.int _ _|.bool _|.string _|.slice none 0 0|.pointer _|.map _|.nilFunc=>true
 |.agg cs=>cs.toList.all fun|.agg _|.tuple _=>false|_=>true
 |_=>false
theorem ki3 (w:World)(M:Nat->Nat->Prop):∀ l:List Value,(l.all fun|.agg _|.tuple _=>false|_=>true)=true->
 Dz w M (l.map qj2) l
 |[],_=>rfl
 |x::l,h=>by
  simp only[Ei,Aa]at h;refine⟨x,l,rfl,?_,?_,ki3 w M l h.2⟩
  ·cases x<;>simp_all [Value.oneCell']
  ·unfold qj2;split
   ·rfl
   ·rfl
   ·rfl
   ·exact⟨none,0,[],rfl,Ap _,Ak _,λ_=>rfl,rfl,Reads.nil _ _ _⟩
   ·refine⟨rfl,?_⟩;cases x<;>simp_all [Value.oneCell']
theorem mz2 {w:World}{M:Nat->Nat->Prop}{β:Nat->Hd}{H:List (Nat × Ob)}{v:Value}(h:kw6 v=true):Dc w M β H (ki2 v) v:=by
 unfold ki2;split
 ·rfl
 ·rfl
 ·rfl
 ·rfl
 ·exact⟨rfl,rfl⟩
 ·exact⟨rfl,rfl⟩
 ·exact⟨rfl,rfl⟩
 ·rename_i cs;exact⟨cs.toList,by simp,ki3 w M _ (by simpa [kw6]using h)⟩
 ·rename_i h1 h2 h3 h4 h5 h6 h7 h8;unfold kw6 at h;split at h<;>simp_all
def Cm:Operand->Bool
 |.const v=>kw6 v
 |_=>true
theorem StB.ev {C:Ctx}{β:Nat->Hd}{S:Sd}{a:Act}{w:World}(h:StB C β S a w){x:Operand}{v:V}(hx:S.ev x=some v)(ho:Cm x=true):Dc w (Mut C.M0 β S.H) β S.H v (a.eval x):=by
 cases x with
 |tmp t=>
  simp only[Sd.ev]at hx;cases ht:Nat.blt t 100000 with
  |false=>rw[ht]at hx;cases hx
  |true=>
   rw[ht]at hx;obtain⟨u,h1,h2⟩:=h.env t v hx;simp only[kw5,ht,cond_true]at h1;have:a.eval (.tmp t)=u:=by simp[Act.eval,Array.getD_eq_getD_getElem?,h1]
   rw[this];exact h2
 |const u=>
  simp only[Sd.ev,Bi]at hx;subst hx;exact mz2 ho
 |global g=>
  simp only[Sd.ev,Fi]at hx;obtain⟨cs,h1,rfl⟩:=hx;exact(h.glob g cs h1).ref
 |func f=>
  simp only[Sd.ev,Bi]at hx;subst hx;exact⟨[],[],rfl,rfl,rfl⟩
def Sd.put (S:Sd)(t:Nat)(v:V):Sd:={S with env:=(t,v)::S.env}
theorem ru8 (a:Act)(t:Nat)(x:Value)(ht:t<a.tmps.size)(s:Nat):(a.put (some t) x).tmps[s]? =if t=s then some x else a.tmps[s]? :=by
 simp only[Act.put,Array.getElem?_setIfInBounds,ht,if_true]
theorem rd2 (C:Ctx)(a:Act)(t:Nat)(x:Value)(ht:t<a.tmps.size)(h0:t<100000)(s:Nat):kw5 C (a.put (some t) x) s=if t=s then some x else kw5 C a s:=by
 unfold kw5;cases hs:Nat.blt s 100000 with
 |true=>simp only[cond_true];exact ru8 a t x ht s
 |false=>
  simp only[cond_false];have:¬s<100000:=λh=>by have h2:Nat.blt s 100000=true:=Nat.ble_eq_true_of_le h;rw[h2]at hs;cases hs
  rw[Af (by omega)]
theorem StB.put {C:Ctx}{β:Nat->Hd}{S:Sd}{a:Act}{w:World}(h:StB C β S a w){t:Nat}(ht:t<C.nt){v:V}{x:Value}(hx:Dc w (Mut C.M0 β S.H) β S.H v x):StB C β (S.put t v) (a.put (some t) x) w where
 size:=by simp[Act.put,h.size]
 small:=h.small
 defers:=h.defers
 sys:=h.sys
 env:=λs u hl=>by
  rw[rd2 C a t x (by rw[h.size];exact ht) (Nat.lt_of_lt_of_le ht h.small)];have hl':look s ((t,v)::S.env)=some u:=hl;rw[j6]at hl';split
  ·rename_i e;rw[Ad e]at hl';cases hl';exact⟨x,rfl,hx⟩
  ·rename_i e;rw[Af e]at hl';exact h.env s u hl'
 obs:=h.obs
 apart:=h.apart
 place:=h.place
 glob:=h.glob
 frame:=h.frame
 out:=h.out
 low:=h.low
 fix:=h.fix
 has:=h.has
theorem StB.weak {C:Ctx}{β:Nat->Hd}{S S':Sd}{a:Act}{w:World}(h:StB C β S a w)(he:∀ t v,look t S'.env=some v->look t S.env=some v)
 (hH:∀ n ob,look n S'.H=some ob->look n S.H=some ob) (hg:∀ g cs,look g S'.gl=some cs->look g S.gl=some cs) (hN:∀ n∈C.N,(look n S'.H).isSome=true):StB C β S' a w:=by
 have k:aI w (Mut C.M0 β S.H) w (Mut C.M0 β S'.H):=aI.weak λb o hm=>by
  rcases hm with hm|⟨n,ob,h1,h2,h3⟩
  ·exact .inl hm
  ·exact .inr ⟨n,ob,hH n ob h1,h2,h3⟩
 have hr:∀ n e sz sh xs k,look n S'.H=some (.row e sz sh xs k)->∃ sh' xs',look n S.H=some (.row e sz sh' xs' k):=λn e sz sh xs k hl=>⟨sh,xs,hH n _ hl⟩;refine⟨h.size,h.small,h.defers,h.sys,λt v hl=>?_,λn ob hl=>?_,λn m b ob ob' hne h1 h2=>h.apart n m b ob ob' hne (hH n ob h1) (hH m ob' h2),λn ob b hl=>h.place n ob b (hH n ob hl),λg cs hl=>(h.glob g cs (hg g cs hl)).keep k,h.frame,λn ob b o hl=>h.out n ob b o (hH n ob hl),h.low,h.fix,hN⟩
 ·obtain⟨x,h1,h2⟩:=h.env t v (he t v hl);exact⟨x,h1,Dc.keep k (λ_=>rfl) hr v x h2⟩
 ·exact La.keep k (λ_ _=>rfl) (λ_ hL=>Cs.keep k (λ_=>rfl) hr _ _ hL) (h.obs n ob (hH n ob hl))
end
section
end
end Go.Proofs.YtklklgfpkpglgaaGreatDoor
