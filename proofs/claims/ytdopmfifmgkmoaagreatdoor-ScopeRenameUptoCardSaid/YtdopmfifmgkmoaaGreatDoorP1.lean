/- Parts: Base, Base2, D1, Mix, Mix2. -/
import Derived.WalkKit
import Derived.WalkSpells
import Derived.WalkLawsBesides
import Derived.Lib.Hide
import Derived.Laws.AppendOwnNone
import Derived.OwnWalkIn
import Derived.Deep.QuietTactic
import Derived.BigQuiet
import Derived.TacticsInMore
import Derived.OrdersIn
set_option linter.all false
set_option maxRecDepth 100000
set_option maxHeartbeats 16000000
namespace Go.Proofs.YtdopmfifmgkmoaaGreatDoor
open Go.RowKit
theorem Aa:type_of% @List.length_map:=@List.length_map
theorem Ab:type_of% @Bool.and_eq_true:=@Bool.and_eq_true
theorem Ac{α:Type _}{a:α}{b c:List α}:a::b++c=a::(b++c):=rfl
theorem Ad{α:Type _}(b:List α):[]++b=b:=rfl
theorem Ae:type_of% @if_pos:=@if_pos
theorem Af:type_of% @if_neg:=@if_neg
theorem Ag:type_of% @List.length_append:=@List.length_append
theorem Ah:type_of% @Nat.lt_or_ge:=@Nat.lt_or_ge
theorem Ai:type_of% @List.length_cons:=@List.length_cons
theorem Aj:type_of% @List.length_take:=@List.length_take
theorem Ak:type_of% @Nat.zero_le:=@Nat.zero_le
theorem Al:type_of% @decide_eq_true_eq:=@decide_eq_true_eq
theorem Am:type_of% @List.map_cons:=@List.map_cons
theorem Ao:type_of% @List.take_of_length_le:=@List.take_of_length_le
theorem Ap:type_of% @List.map_append:=@List.map_append
theorem Aq{α:Type _}:([]:List α).length=0:=rfl
theorem Ar:type_of% @List.getElem_mem:=@List.getElem_mem
theorem As:type_of% @Nat.le_refl:=@Nat.le_refl
theorem At:type_of% @List.eq_nil_of_length_eq_zero:=@List.eq_nil_of_length_eq_zero
theorem Au:type_of% @List.take_length:=@List.take_length
theorem Av:type_of% @Bool.false_and:=@Bool.false_and
theorem Aw{α:Type _}{β:Type _}{f:α→β}:[].map f=[]:=rfl
theorem Ay:type_of% @Bool.false_eq_true:=@Bool.false_eq_true
theorem Az:type_of% @Bool.and_false:=@Bool.and_false
theorem Ba:type_of% @List.take_succ_eq_append_getElem:=@List.take_succ_eq_append_getElem
theorem Bb:type_of% @List.append_assoc:=@List.append_assoc
theorem Bc:type_of% @Bool.true_and:=@Bool.true_and
theorem Bd:type_of% @List.drop_eq_getElem_cons:=@List.drop_eq_getElem_cons
theorem Be:type_of% @List.getElem?_eq_getElem:=@List.getElem?_eq_getElem
theorem Bf:type_of% @List.mem_cons:=@List.mem_cons
theorem Bg:type_of% @Prod.mk.injEq:=@Prod.mk.injEq
theorem Bh:type_of% @List.getElem?_eq_some_iff:=@List.getElem?_eq_some_iff
theorem Bi:type_of% @List.mem_cons_self:=@List.mem_cons_self
theorem Bj:type_of% @Nat.eq_of_beq_eq_true:=@Nat.eq_of_beq_eq_true
theorem Bk:type_of% @List.mem_cons_of_mem:=@List.mem_cons_of_mem
theorem Bl:type_of% @List.length_drop:=@List.length_drop
theorem Bm:type_of% @Option.some.injEq:=@Option.some.injEq
theorem Bn:type_of% @Bool.and_true:=@Bool.and_true
theorem Bo:type_of% @Bool.or_eq_true:=@Bool.or_eq_true
theorem Bp:type_of% @List.append_nil:=@List.append_nil
theorem Bq:type_of% @decide_eq_false:=@decide_eq_false
theorem Br:type_of% @List.drop_of_length_le:=@List.drop_of_length_le
theorem Bs:type_of% @List.mem_map:=@List.mem_map
theorem Bt:type_of% @decide_eq_true:=@decide_eq_true
theorem Bu:type_of% @List.mem_append:=@List.mem_append
theorem Bv:type_of% @Decidable.not_not:=@Decidable.not_not
theorem Bw:type_of% @Array.getElem?_eq_some_iff:=@Array.getElem?_eq_some_iff
theorem Bx:type_of% @List.getElem?_map:=@List.getElem?_map
theorem By:type_of% @Bool.not_eq_true':=@Bool.not_eq_true'
theorem Bz:type_of% @List.getElem_cons_succ:=@List.getElem_cons_succ
theorem Ea:type_of% @Bool.or_false:=@Bool.or_false
theorem Eb:type_of% @beq_iff_eq:=@beq_iff_eq
theorem Ec:type_of% @List.all_eq_true:=@List.all_eq_true
theorem Ed:type_of% @Bool.false_or:=@Bool.false_or
theorem Ee:type_of% @Bool.true_or:=@Bool.true_or
theorem Ef:type_of% @Bool.false_ne_true:=@Bool.false_ne_true
theorem Eg:type_of% @List.take_succ_cons:=@List.take_succ_cons
theorem Eh:type_of% @Bool.or_true:=@Bool.or_true
theorem Ei:type_of% @List.all_cons:=@List.all_cons
theorem Ej:type_of% @Bool.eq_iff_iff:=@Bool.eq_iff_iff
theorem Ek:type_of% @List.mem_of_getElem?:=@List.mem_of_getElem?
theorem El:type_of% @List.length_eq_zero_iff:=@List.length_eq_zero_iff
theorem Em:type_of% @List.mem_singleton:=@List.mem_singleton
theorem En:type_of% @Int.toNat_of_nonneg:=@Int.toNat_of_nonneg
theorem Eo:type_of% @List.any_eq_true:=@List.any_eq_true
theorem Ep:type_of% @List.map_take:=@List.map_take
theorem Er:type_of% @List.mem_iff_getElem:=@List.mem_iff_getElem
theorem Es:type_of% @Nat.add_mul:=@Nat.add_mul
theorem Et:type_of% @List.drop_zero:=@List.drop_zero
theorem Eu:type_of% @List.drop_length:=@List.drop_length
theorem Ev:type_of% @List.take_append_drop:=@List.take_append_drop
theorem Ew:type_of% @List.length_replicate:=@List.length_replicate
theorem Ey:type_of% @Nat.add_assoc:=@Nat.add_assoc
theorem Ez:type_of% @List.getElem_cons_zero:=@List.getElem_cons_zero
theorem Fc:type_of% @Nat.le_trans:=@Nat.le_trans
theorem Fd:type_of% @List.take_zero:=@List.take_zero
theorem Fe:type_of% @List.set_append_right:=@List.set_append_right
theorem Ff:type_of% @List.set_cons_zero:=@List.set_cons_zero
theorem Fh:type_of% @List.getElem?_drop:=@List.getElem?_drop
theorem Fi:type_of% @List.getElem?_append_right:=@List.getElem?_append_right
theorem Fj:type_of% @List.size_toArray:=@List.size_toArray
theorem Fk:type_of% @List.getElem?_append_left:=@List.getElem?_append_left
theorem Fl:type_of% @Option.map_some:=@Option.map_some
theorem Fp:type_of% @Bool.not_eq_false':=@Bool.not_eq_false'
theorem Fq:type_of% @Nat.le_of_eq:=@Nat.le_of_eq
theorem Fr:type_of% @List.getElem?_take:=@List.getElem?_take
theorem Ft:type_of% @Nat.zero_add:=@Nat.zero_add
section
def Rd (w:World)(B:Nat)(a:Option Addr)(xs:List Value):Prop:=
 ∀ j x,xs[j]? =some x->∃ b o,a=some ⟨b,o,none⟩/\b<B/\w.cell? ⟨b,o+j,none⟩=some x
theorem Rd.below {w w':World}{B B':Nat}{a:Option Addr}{xs:List Value}(h:Rd w B a xs)(hb:Below B' w w')(hB:B<=B'):Rd w' B a xs:=by
 intro j x hx;obtain⟨b,o,e,hlt,hc⟩:=h j x hx;exact⟨b,o,e,hlt,(hb.cell (p:=⟨b,o+j,none⟩) (by show b<B';omega)).trans hc⟩
theorem Rd.Rx {w:World}{base:Nat}{e:TypeId}{size:Nat}{a:Option Addr}{n c:Nat}{xs:List Value}
 (h:w.ownsRow base e size (.slice a n c) n xs):Rd w w.heap.size a xs:=by
 intro j x hx;rcases h.2 with ⟨hv,hn⟩|⟨g,cap,cur,hv,_⟩
 ·have hl:=h.1;subst hn;simp at hl;subst hl;simp at hx
 ·simp at hv;obtain⟨rfl,rfl⟩:=hv;have hc:=h.cells (g:=g) (by simp[Value.ownBlock]) j x hx;have ha:(⟨g,0,none⟩:Addr).add j=⟨g,0+j,none⟩:=by unfold Addr.add;split<;>simp_all
  rw[ha]at hc;exact⟨g,0,rfl,World.block_lt_of_cell? w ⟨g,0+j,none⟩ hc,hc⟩
theorem jd4 {w:World}{base:Nat}{e:TypeId}{size:Nat}{v:Value}{n:Nat}{xs:List Value}
 (h:w.ownsRow base e size v n xs):∃ a c,v=.slice a n c/\n<=c/\c<=maxLen/\(a=none->c=0):=by
 rcases h.2 with ⟨rfl,rfl⟩|⟨g,cap,cur,rfl,_,_,h1,h2,_⟩
 ·exact⟨none,0,rfl,As _,Ak _,fun _=>rfl⟩
 ·exact⟨_,cap,rfl,h1,h2,fun h=>by cases h⟩
structure Sl (w:World)(B:Nat)(a:Option Addr)(n c size:Nat)(xs:List Value):Prop where
 len:xs.length=n * size
 rd:Rd w B a xs
 cap:n<=c
 max:c<=maxLen
 nil:a=none->c=0
theorem Sl.below {w w':World}{B B':Nat}{a:Option Addr}{n c size:Nat}{xs:List Value}(h:Sl w B a n c size xs)(hb:Below B' w w')(hB:B<=B'):Sl w' B a n c size xs:=
 ⟨h.len,h.rd.below hb hB,h.cap,h.max,h.nil⟩
theorem Sl.Rx {w:World}{base:Nat}{e:TypeId}{size:Nat}{a:Option Addr}{n c:Nat}{xs:List Value}
 (h:w.ownsRow base e size (.slice a n c) n xs):Sl w w.heap.size a n c size xs:=by
 refine⟨h.1,Rd.Rx h,?_,?_,?_⟩<;>
 ·rcases h.2 with ⟨hv,hn⟩|⟨g,cap,cur,hv,_,_,h1,h2,_⟩<;>simp at hv<;>obtain⟨rfl,h'⟩:=hv<;>simp_all
def rh8 (P:Program)(t e:TypeId)(size bytes:Nat):Prop:=
 ∃ i z,P.underlying t=some (.slice e)/\P.info? e=some i/\i.zero=some z/\i.size=size/\i.bytes=bytes/\z.cells.size=size/\0<size
theorem mw6 {P:Program}{t e:TypeId}{z:Value}{size bytes:Nat}(h:(P.info? e).map (fun i=>(i.zero,i.size,i.bytes))=some (some z,size,bytes))
 (ht:P.underlying t=some (.slice e)) (hz:z.cells.size=size) (h0:0<size):rh8 P t e size bytes:=by
 obtain⟨i,h1,h2,h3,h4⟩:=info_parts h;exact⟨i,z,ht,h1,h2,h3,h4,hz,h0⟩
theorem mw7 {w:World}{base base':Nat}{e:TypeId}{size:Nat}{v:Value}{n:Nat}{xs:List Value}(h:w.ownsRow base e size v n xs)(hB:base'<=base):w.ownsRow base' e size v n xs:=by
 refine⟨h.1,?_⟩;rcases h.2 with h2|⟨g,cap,cur,hv,hg,hh,r⟩
 ·exact .inl h2
 ·exact .inr ⟨g,cap,cur,hv,Fc hB hg,hh,r⟩
theorem kq4 (w:World)(xs:List Value)(e:TypeId)(n size base:Nat)(h:xs.length=n * size)(hm:n<=maxLen)(hb:base<=w.heap.size):
 (w.alloc (.cells xs.toArray e)).ownsRow base e size (.slice (some ⟨w.heap.size,0,none⟩) n n) n xs:=
 ⟨h,.inr ⟨w.heap.size,n,xs.toArray,rfl,hb,heap_alloc_new w _,As _,hm,by simpa using h,by simp[<-h]⟩⟩
theorem md5 {w w':World}{base:Nat}{e:TypeId}{size:Nat}{v:Value}{n:Nat}{xs:List Value}(hown:w.ownsRow base e size v n xs)(hb:base<=w.heap.size)
 (hg:w.grownBy w' v.ownBlock):Below base w w':=
 (Below.refl base w).grown hg hb (fun k hk=>(hown.lt k hk).1)
theorem mw8 {P:Program}{w:World}{ops:Array Oper}{rest:List Oper}{o:Oper}{a:Act}{Q:Exit->Act->World->Prop}(hgd:o.guard=none)(s x:Operand)(t:TypeId)
 (ho:o.op=.call {callee:=.builtin .append,args:=#[s,x],argTypes:=#[t,t]})
 {e:TypeId} {size bytes:Nat} (he:rh8 P t e size bytes)
 {base:Nat} {va:Option Addr} {n c:Nat} {xs:List Value} (hs:a.eval s=.slice va n c) (hown:w.ownsRow base e size (.slice va n c) n xs)
 {B:Nat} {xa:Option Addr} {m xc:Nat} {news:List Value} (hx:a.eval x=.slice xa m xc) (hsl:Sl w B xa m xc size news) (h1:∀ u∈news,u.oneCell'=true)
 (h63:n+m<=100000000000) (hby:bytes<=1024) (hbase:base<=w.heap.size)
 (h:∀ a' c' w',w'.ownsRow base e size (.slice a' (n+m) c') (n+m) (xs++news)->w.grownBy w' (Value.slice va n c).ownBlock->Below base w w'->wpList P ops Q rest (a.put o.dst (.slice a' (n+m) c')) w'):
 wpList P ops Q (o::rest) a w:=by
 obtain⟨i,z,ht,hi,hz,hsize,hbytes,hzs,hpos⟩:=he;have hbound:(n+m) * bytes<=140737488355328:=Fc (Nat.mul_le_mul h63 hby) (by omega);cases xa with
 |none=>
  have hc0:=hsl.nil rfl;have hm0:m=0:=by have:=hsl.cap;omega
  subst hm0;subst hc0;have hn0:news=[]:=At (by have:=hsl.len;omega);subst hn0;refine wpList_append_own_none hgd s x t ho base e i size ht hi _ n xs hs hown hx ?_;have:=h va c w (by simpa using hown) ⟨rfl,rfl,rfl,As _,fun _ _ _=>rfl⟩ (Below.refl _ _);simpa using this
 |some ad=>
  refine wpList_append_own w hgd s x t ho base e i z size bytes ht hi hz hsize hbytes hzs hpos _ n xs hs hown ad m xc news hx hsl.len ?_ h1 (by unfold maxLen;omega) hbound hbase ?_
  ·intro j u hu;obtain⟨b,o',e',_,hc⟩:=hsl.rd j u hu;cases e';have ha:(⟨b,o',none⟩:Addr).add j=⟨b,o'+j,none⟩:=by unfold Addr.add;split<;>simp_all
   rw[ha];exact hc
  ·intro v' w' hown' hg _;obtain⟨a',c',rfl,_⟩:=jd4 hown';exact h a' c' w' hown' hg (md5 hown hbase hg)
end
section
end
section
inductive D where
 |int (k:IntKind) (n:Int)
 |bool (b:Bool)
 |str (s:ByteArray)
 |raw (v:Value)
 |list (sz:Nat) (xs:List D)
 |nil (sz:Nat)
 |agg (cs:List D)
 |ref (cs:List D) (off:Nat)
 |clo (fn:Fn) (first caps:List D)
 |map (ks vs:List D)
theorem An:type_of% @D.bool.injEq:=@D.bool.injEq
def qy9:Obj->Bool
 |.deferred _=>true
 |.loop _=>true
 |_=>false
def Reads (w:World)(M:Nat->Nat->Prop)(a:Option Addr)(ys:List Value):Prop:=
 ∀ j y,ys[j]? =some y->∃ b o,a=some ⟨b,o,none⟩/\¬M b (o+j)/\w.cell? ⟨b,o+j,none⟩=some y
mutual
def Gd (w:World)(M:Nat->Nat->Prop):D->Value->Prop
 |.int k n,v=>v=.int k n
 |.bool b,v=>v=.bool b
 |.str s,v=>v=.string s
 |.raw x,v=>v=x/\x.oneCell'=true
 |.nil _,v=>v=.slice none 0 0
 |.list sz xs,v=>∃ (a:Option Addr) (c:Nat) (ys:List Value),v=.slice a xs.length c/\xs.length<=c/\c<=maxLen/\(a=none->c=0)/\Gl w M sz xs ys/\Reads w M a ys
 |.agg cs,v=>∃ vs:List Value,v=.agg vs.toArray/\Dv w M cs vs
 |.ref cs off,v=>∃ (b o:Nat) (vs:List Value),v=.pointer (some ⟨b,o+off,none⟩)/\Dv w M cs vs/\Reads w M (some ⟨b,o,none⟩) vs
 |.clo fn f c,v=>∃ fs gs:List Value,v=.func fn fs.toArray gs.toArray/\Dv w M f fs/\Dv w M c gs
 |.map ks vs,v=>∃ (r:Nat) (es:Array MapEntry) (c:Nat),v=.map (some r)/\w.heap[r]? =some (.map es c)/\(∀ o,¬M r o)/\Iq w M ks (es.toList.map (·.key))/\Iq w M vs (es.toList.map (·.val))
def Dv (w:World)(M:Nat->Nat->Prop):List D->List Value->Prop
 |[],vs=>vs=[]
 |x::xs,vs=>∃ (v:Value) (r:List Value),vs=v::r/\v.oneCell'=true/\Gd w M x v/\Dv w M xs r
def Iq (w:World)(M:Nat->Nat->Prop):List D->List Value->Prop
 |[],vs=>vs=[]
 |x::xs,vs=>∃ (v:Value) (r:List Value),vs=v::r/\Gd w M x v/\Iq w M xs r
def Gl (w:World)(M:Nat->Nat->Prop)(sz:Nat):List D->List Value->Prop
 |[],vs=>vs=[]
 |x::xs,vs=>∃ (v:Value) (r:List Value),vs=v.cells.toList++r/\v.cells.size=sz/\Gd w M x v/\Gl w M sz xs r
end
structure Keeps (w:World)(M:Nat->Nat->Prop)(w':World)(M':Nat->Nat->Prop):Prop where
 cell:∀ b o y,¬M b o->w.cell? ⟨b,o,none⟩=some y->¬M' b o/\w'.cell? ⟨b,o,none⟩=some y
 obj:∀ b ob,qy9 ob=false->(∀ o,¬M b o)->w.heap[b]? =some ob->(∀ o,¬M' b o)/\w'.heap[b]? =some ob
theorem Keeps.refl (a:World)(A:Nat->Nat->Prop):Keeps a A a A:=⟨fun _ _ _ h1 h2=>⟨h1,h2⟩,fun _ _ _ h1 h2=>⟨h1,h2⟩⟩
theorem Keeps.weak {a:World}{A B:Nat->Nat->Prop}(h:∀ b o,B b o->A b o):Keeps a A a B:=⟨fun _ _ _ h1 h2=>⟨fun h3=>h1 (h _ _ h3),h2⟩,fun _ _ _ h1 h2=>⟨fun o h3=>h1 o (h _ _ h3),h2⟩⟩
theorem Reads.keep {w w':World}{M M':Nat->Nat->Prop}(k:Keeps w M w' M'){a:Option Addr}{ys:List Value}(h:Reads w M a ys):Reads w' M' a ys:=fun j y hj=>by
 obtain⟨b,o,e,hm,hc⟩:=h j y hj;obtain⟨h1,h2⟩:=k.cell b (o+j) y hm hc;exact⟨b,o,e,h1,h2⟩
mutual
theorem Gd.keep {w w':World}{M M':Nat->Nat->Prop}(k:Keeps w M w' M'):∀ (x:D) (v:Value),Gd w M x v->Gd w' M' x v
 |.int _ _,_,h=>h
 |.bool _,_,h=>h
 |.str _,_,h=>h
 |.raw _,_,h=>h
 |.nil _,_,h=>h
 |.list _ xs,_,⟨a,c,ys,h1,h2,h3,h4,h5,h6⟩=>⟨a,c,ys,h1,h2,h3,h4,Gl.keep k _ xs ys h5,h6.keep k⟩
 |.agg cs,_,⟨vs,h1,h2⟩=>⟨vs,h1,Dv.keep k cs vs h2⟩
 |.ref cs _,_,⟨b,o,vs,h1,h2,h3⟩=>⟨b,o,vs,h1,Dv.keep k cs vs h2,h3.keep k⟩
 |.clo _ f c,_,⟨fs,gs,h1,h2,h3⟩=>⟨fs,gs,h1,Dv.keep k f fs h2,Dv.keep k c gs h3⟩
 |.map ks vs,_,⟨r,es,c,h1,h2,h3,h4,h5⟩=>⟨r,es,c,h1,(k.obj r _ rfl h3 h2).2,(k.obj r _ rfl h3 h2).1,Iq.keep k ks _ h4,Iq.keep k vs _ h5⟩
theorem Dv.keep {w w':World}{M M':Nat->Nat->Prop}(k:Keeps w M w' M'):∀ (xs:List D) (vs:List Value),Dv w M xs vs->Dv w' M' xs vs
 |[],_,h=>h
 |x::xs,_,⟨v,r,h1,h2,h3,h4⟩=>⟨v,r,h1,h2,Gd.keep k x v h3,Dv.keep k xs r h4⟩
theorem Iq.keep {w w':World}{M M':Nat->Nat->Prop}(k:Keeps w M w' M'):∀ (xs:List D) (vs:List Value),Iq w M xs vs->Iq w' M' xs vs
 |[],_,h=>h
 |x::xs,_,⟨v,r,h1,h3,h4⟩=>⟨v,r,h1,Gd.keep k x v h3,Iq.keep k xs r h4⟩
theorem Gl.keep {w w':World}{M M':Nat->Nat->Prop}(k:Keeps w M w' M'):∀ (sz:Nat) (xs:List D) (vs:List Value),Gl w M sz xs vs->Gl w' M' sz xs vs
 |_,[],_,h=>h
 |sz,x::xs,_,⟨v,r,h1,h2,h3,h4⟩=>⟨v,r,h1,h2,Gd.keep k x v h3,Gl.keep k sz xs r h4⟩
end
theorem Dv.length {w:World}{M:Nat->Nat->Prop}:∀ {xs:List D} {vs:List Value},Dv w M xs vs->vs.length=xs.length
 |[],_,h=>by simp only[Dv]at h;subst h;rfl
 |_::xs,_,h=>by
  simp only[Dv]at h;obtain⟨v,r,rfl,_,_,h4⟩:=h;simp[Dv.length h4]
theorem Gl.length {w:World}{M:Nat->Nat->Prop}{sz:Nat}:∀ {xs:List D} {vs:List Value},Gl w M sz xs vs->vs.length=xs.length * sz
 |[],_,h=>by simp only[Gl]at h;subst h;simp
 |_::xs,_,h=>by
  simp only[Gl]at h;obtain⟨v,r,rfl,h2,_,h4⟩:=h;simp[Gl.length h4,h2,Es,Nat.add_comm]
theorem Dv.one {w:World}{M:Nat->Nat->Prop}:∀ {xs:List D} {vs:List Value},Dv w M xs vs->∀ u∈vs,u.oneCell'=true
 |[],_,h,_,hu=>by simp only[Dv]at h;subst h;cases hu
 |_::xs,_,h,u,hu=>by
  simp only[Dv]at h;obtain⟨v,r,rfl,h2,_,h4⟩:=h;rcases Bf.1 hu with rfl|hu
  ·exact h2
  ·exact Dv.one h4 u hu
theorem Gd.one {w:World}{M:Nat->Nat->Prop}{x:D}{v:Value}(h:Gd w M x v):∀ u∈v.cells.toList,u.oneCell'=true:=by
 intro u hu;cases x<;>simp only[Gd]at h
 case agg cs=>
  obtain⟨vs,rfl,h2⟩:=h;exact Dv.one h2 u (by simpa [Value.cells]using hu)
 case raw x=>obtain⟨rfl,h1⟩:=h;cases v<;>simp_all [Value.cells,Value.oneCell']
 case list=>obtain⟨a,c,ys,rfl,_⟩:=h;simp[Value.cells]at hu;subst hu;rfl
 case ref=>obtain⟨a,c,ys,rfl,_⟩:=h;simp[Value.cells]at hu;subst hu;rfl
 case clo=>obtain⟨a,c,rfl,_⟩:=h;simp[Value.cells]at hu;subst hu;rfl
 case map=>obtain⟨r,es,c,rfl,_⟩:=h;simp[Value.cells]at hu;subst hu;rfl
 all_goals subst h;simp[Value.cells]at hu;subst hu;rfl
theorem Gl.one {w:World}{M:Nat->Nat->Prop}{sz:Nat}:∀ {xs:List D} {vs:List Value},Gl w M sz xs vs->∀ u∈vs,u.oneCell'=true
 |[],_,h,_,hu=>by simp only[Gl]at h;subst h;cases hu
 |_::xs,_,h,u,hu=>by
  simp only[Gl]at h;obtain⟨v,r,rfl,_,h3,h4⟩:=h;rcases Bu.1 hu with hu|hu
  ·exact h3.one u hu
  ·exact Gl.one h4 u hu
theorem Dv.get {w:World}{M:Nat->Nat->Prop}:∀ {xs:List D} {vs:List Value},Dv w M xs vs->∀ {i:Nat} {x:D},xs[i]? =some x->∃ v,vs[i]? =some v/\v.oneCell'=true/\Gd w M x v
 |[],_,_,_,_,hx=>by simp at hx
 |y::xs,_,h,0,x,hx=>by
  simp only[Dv]at h;obtain⟨v,r,rfl,h2,h3,_⟩:=h;simp at hx;subst hx;exact⟨v,rfl,h2,h3⟩
 |y::xs,_,h,i+1,x,hx=>by
  simp only[Dv]at h;obtain⟨v,r,rfl,h2,h3,h4⟩:=h;simpa using Dv.get h4 (i:=i) (x:=x) (by simpa using hx)
theorem Gl.get {w:World}{M:Nat->Nat->Prop}{sz:Nat}:∀ {xs:List D} {vs:List Value},Gl w M sz xs vs->∀ {i:Nat} {x:D},xs[i]? =some x->
 ∃ v,Gd w M x v/\v.cells.size=sz/\∀ j u,v.cells.toList[j]? =some u->vs[i * sz+j]? =some u
 |[],_,_,_,_,hx=>by simp at hx
 |y::xs,_,h,0,x,hx=>by
  simp only[Gl]at h;obtain⟨v,r,rfl,h2,h3,_⟩:=h;simp at hx;subst hx;refine⟨v,h3,h2,fun j u hu=>?_⟩;have hj:j<v.cells.toList.length:=(Bh.1 hu).1;rw[Nat.zero_mul,Ft,Fk hj];exact hu
 |y::xs,_,h,i+1,x,hx=>by
  simp only[Gl]at h;obtain⟨v,r,rfl,h2,h3,h4⟩:=h;obtain⟨u,k1,k2,k3⟩:=Gl.get h4 (i:=i) (x:=x) (by simpa using hx);refine⟨u,k1,k2,fun j t ht=>?_⟩;rw[Fi (by simp[h2,Es];omega)];have:=k3 j t ht
  rwa [show(i+1) * sz+j - v.cells.toList.length=i * sz+j by simp[h2,Es];omega]
theorem Dv.append {w:World}{M:Nat->Nat->Prop}:∀ {xs:List D} {vs:List Value},Dv w M xs vs->∀ {ys:List D} {us:List Value},Dv w M ys us->Dv w M (xs++ys) (vs++us)
 |[],_,h,_,_,h'=>by simp only[Dv]at h;subst h;exact h'
 |y::xs,_,h,_,_,h'=>by
  simp only[Dv]at h;obtain⟨v,r,rfl,h2,h3,h4⟩:=h;exact⟨v,_,rfl,h2,h3,Dv.append h4 h'⟩
theorem Gl.append {w:World}{M:Nat->Nat->Prop}{sz:Nat}:∀ {xs:List D} {vs:List Value},Gl w M sz xs vs->∀ {ys:List D} {us:List Value},Gl w M sz ys us->Gl w M sz (xs++ys) (vs++us)
 |[],_,h,_,_,h'=>by simp only[Gl]at h;subst h;exact h'
 |y::xs,_,h,_,_,h'=>by
  simp only[Gl]at h;obtain⟨v,r,rfl,h2,h3,h4⟩:=h;exact⟨v,_,by rw[Bb],h2,h3,Gl.append h4 h'⟩
theorem Dv.drop {w:World}{M:Nat->Nat->Prop}:∀ (k:Nat) {xs:List D} {vs:List Value},Dv w M xs vs->Dv w M (xs.drop k) (vs.drop k)
 |0,_,_,h=>h
 |k+1,[],_,h=>by simp only[Dv]at h;subst h;simp[Dv]
 |k+1,y::xs,_,h=>by
  simp only[Dv]at h;obtain⟨v,r,rfl,_,_,h4⟩:=h;exact Dv.drop k h4
theorem Dv.take {w:World}{M:Nat->Nat->Prop}:∀ (k:Nat) {xs:List D} {vs:List Value},Dv w M xs vs->Dv w M (xs.take k) (vs.take k)
 |0,_,_,_=>by simp[Dv]
 |k+1,[],_,h=>by simp only[Dv]at h;subst h;simp[Dv]
 |k+1,y::xs,_,h=>by
  simp only[Dv]at h;obtain⟨v,r,rfl,h2,h3,h4⟩:=h;exact⟨v,_,rfl,h2,h3,Dv.take k h4⟩
theorem Gl.drop {w:World}{M:Nat->Nat->Prop}{sz:Nat}:∀ (k:Nat) {xs:List D} {vs:List Value},Gl w M sz xs vs->k<=xs.length->Gl w M sz (xs.drop k) (vs.drop (k * sz))
 |0,_,_,h,_=>by simpa using h
 |k+1,[],_,h,hk=>by simp at hk
 |k+1,y::xs,_,h,hk=>by
  simp only[Gl]at h;obtain⟨v,r,rfl,h2,_,h4⟩:=h;have:=Gl.drop k h4 (by simpa using hk);have e:(v.cells.toList++r).drop ((k+1) * sz)=r.drop (k * sz):=by
   have hl:v.cells.toList.length=sz:=by simpa using h2
   rw[List.drop_append,Br (l:=v.cells.toList) (by rw[hl,Es];omega),hl,Es,Nat.one_mul,Nat.add_sub_cancel];rfl
  rw[e];exact this
theorem Gl.take {w:World}{M:Nat->Nat->Prop}{sz:Nat}:∀ (k:Nat) {xs:List D} {vs:List Value},Gl w M sz xs vs->k<=xs.length->Gl w M sz (xs.take k) (vs.take (k * sz))
 |0,_,_,_,_=>by simp[Gl]
 |k+1,[],_,h,hk=>by simp at hk
 |k+1,y::xs,_,h,hk=>by
  simp only[Gl]at h;obtain⟨v,r,rfl,h2,h3,h4⟩:=h;have:=Gl.take k h4 (by simpa using hk);refine⟨v,_,?_,h2,h3,this⟩;rw[List.take_append,Ao (by simp[h2,Es])];simp[h2,Es]
theorem Reads.nil (w:World)(M:Nat->Nat->Prop)(a:Option Addr):Reads w M a []:=fun j y h=>by simp at h
theorem Keeps.below {w w':World}{M:Nat->Nat->Prop}(h:Below w.heap.size w w'):Keeps w M w' M:=⟨fun b o y h1 h2=>
 ⟨h1,(h.cell (p:=⟨b,o,none⟩) (World.block_lt_of_cell? w ⟨b,o,none⟩ h2)).trans h2⟩,fun b ob _ h1 h2=>⟨h1,(h.block b (Bw.1 h2).1).trans h2⟩⟩
def Sy (w:World)(M:Nat->Nat->Prop)(g:Nat)(cs:List D):Prop:=∃ (vs:List Value) (t:TypeId) (f:Nat × Nat),w.heap[g]? =some (.cells vs.toArray t f)/\(∀ o,¬M g o)/\Dv w M cs vs
theorem Sy.keep {w w':World}{M M':Nat->Nat->Prop}(k:Keeps w M w' M'){g:Nat}{cs:List D}(h:Sy w M g cs):Sy w' M' g cs:=by
 obtain⟨vs,t,f,h1,h2,h3⟩:=h;obtain⟨q1,q2⟩:=k.obj g _ rfl h2 h1;exact⟨vs,t,f,q2,q1,Dv.keep k _ _ h3⟩
theorem Sy.ref {w:World}{M:Nat->Nat->Prop}{g:Nat}{cs:List D}(h:Sy w M g cs):Gd w M (.ref cs 0) (.pointer (some ⟨g,0,none⟩)):=by
 obtain⟨vs,t,f,h1,h2,h3⟩:=h;refine⟨g,0,vs,rfl,h3,fun j y hy=>⟨g,0,rfl,h2 _,?_⟩⟩;simp[World.cell?,h1,hy]
theorem Iq.length {w:World}{M:Nat->Nat->Prop}:∀ {xs:List D} {vs:List Value},Iq w M xs vs->vs.length=xs.length
 |[],_,h=>by simp only[Iq]at h;subst h;rfl
 |_::xs,_,h=>by
  simp only[Iq]at h;obtain⟨v,r,rfl,_,h4⟩:=h;simp[Iq.length h4]
theorem Iq.get {w:World}{M:Nat->Nat->Prop}:∀ {xs:List D} {vs:List Value},Iq w M xs vs->∀ {i:Nat} {x:D},xs[i]? =some x->∃ v,vs[i]? =some v/\Gd w M x v
 |[],_,_,_,_,hx=>by simp at hx
 |y::xs,_,h,0,x,hx=>by
  simp only[Iq]at h;obtain⟨v,r,rfl,h3,_⟩:=h;simp at hx;subst hx;exact⟨v,rfl,h3⟩
 |y::xs,_,h,i+1,x,hx=>by
  simp only[Iq]at h;obtain⟨v,r,rfl,h3,h4⟩:=h;simpa using Iq.get h4 (i:=i) (x:=x) (by simpa using hx)
theorem Iq.append {w:World}{M:Nat->Nat->Prop}:∀ {xs:List D} {vs:List Value},Iq w M xs vs->∀ {ys:List D} {us:List Value},Iq w M ys us->Iq w M (xs++ys) (vs++us)
 |[],_,h,_,_,h'=>by simp only[Iq]at h;subst h;exact h'
 |y::xs,_,h,_,_,h'=>by
  simp only[Iq]at h;obtain⟨v,r,rfl,h3,h4⟩:=h;exact⟨v,_,rfl,h3,Iq.append h4 h'⟩
theorem Iq.set {w:World}{M:Nat->Nat->Prop}:∀ {xs:List D} {vs:List Value},Iq w M xs vs->∀ (i:Nat) {x:D} {v:Value},Gd w M x v->Iq w M (xs.set i x) (vs.set i v)
 |[],_,h,i,_,_,_=>by simp only[Iq]at h;subst h;simp[Iq]
 |y::xs,_,h,0,x,v,hx=>by
  simp only[Iq]at h;obtain⟨u,r,rfl,h2,h3⟩:=h;exact⟨v,r,rfl,hx,h3⟩
 |y::xs,_,h,i+1,x,v,hx=>by
  simp only[Iq]at h;obtain⟨u,r,rfl,h2,h3⟩:=h;exact⟨u,_,rfl,h2,Iq.set h3 i hx⟩
end
section
def Grows (w w':World):Prop:=Below w.heap.size w w'
theorem Grows.refl (w:World):Grows w w:=Below.refl _ _
theorem Grows.trans {a b c:World}(h:Grows a b)(k:Grows b c):Grows a c:=Below.trans h (Below.mono k h.size)
theorem Grows.drew (w:World):Grows w w.drew:=(Below.refl _ _).drew
theorem Grows.alloc (w:World)(o:Obj):Grows w (w.alloc o):=(Below.refl _ _).alloc (As _) _
structure Late (W:World) where
 w:World
 grows:Grows W w
section
variable {P:Program}{ops:Array Oper}{Q:Exit->Act->World->Prop}{md:Region.Mode}
def opG (P:Program)(ops:Array Oper)(Q:Exit->Act->World->Prop)(i:Nat)(K:Act->World->Prop)(a:Act)(w:World):Prop:=
 match ops[i]? with
 |none=>K a w
 |some o=>if Region.wanted o (yielded ops a.tmps)=true then o.wp P a w K Q else K (a.put o.dst undef) w
theorem jp5 {i:Nat}{K K':Act->World->Prop}{a:Act}{w:World}(h:∀ a w,K a w->K' a w)(hh:opG P ops Q i K a w):opG P ops Q i K' a w:=by
 unfold opG at *;split
 ·rename_i ho;simp only[ho]at hh;exact h _ _ hh
 ·rename_i o ho;simp only[ho]at hh;split
  ·rename_i hw;rw[Ae hw]at hh;exact Oper.wp_mono h hh
  ·rename_i hw;rw[Af hw]at hh;exact h _ _ hh
def AnyG (P:Program)(md:Region.Mode)(ops:Array Oper)(Q:Exit->Act->World->Prop)(bar:Nat->Bool):Nat->Array Bool->Act->World->Prop
 |0,listed,a,w=>∀ w',Grows w w'->Region.ready md ops listed=[]/\Q .normal a w'
 |f+1,listed,a,w=>∀ w',Grows w w'->(Region.ready md ops listed=[]->Q .normal a w')/\
   ∀ i∈Region.ready md ops listed,opG P ops Q i (fun a' w''=>(bar i=false->Grows w' w'')/\AnyG P md ops Q bar f (listed.setIfInBounds i true) a' w'') a w'
theorem AnyG.up {bar:Nat->Bool}{f:Nat}{listed:Array Bool}{a:Act}{w w':World}(h:AnyG P md ops Q bar f listed a w)(hg:Grows w w'):AnyG P md ops Q bar f listed a w':=by
 cases f with
 |zero=>exact fun w2 h2=>h w2 (hg.trans h2)
 |succ f=>exact fun w2 h2=>h w2 (hg.trans h2)
theorem AnyG.any {bar:Nat->Bool}:∀ (f:Nat) (listed:Array Bool) (a:Act) (w:World),AnyG P md ops Q bar f listed a w->wpAny P md ops Q f listed a w:=by
 intro f
 induction f with
 |zero=>intro listed a w h;exact h w (Grows.refl w)
 |succ f ih=>
  intro listed a w h;obtain⟨h1,h2⟩:=h w (Grows.refl w);refine⟨h1,fun i hi=>?_⟩;have h3:=h2 i hi;unfold opG at h3;unfold wpOp;split
  ·rename_i ho;simp only[ho]at h3;exact ih _ _ _ h3.2
  ·rename_i o ho;simp only[ho]at h3;split
   ·rename_i hw;rw[Ae hw]at h3;exact .inl (Oper.wp_mono (fun a w h=>ih _ _ _ h.2) h3)
   ·rename_i hw;rw[Af hw]at h3;exact ih _ _ _ h3.2
def Jz (P:Program)(ops:Array Oper)(o:Oper)(v:Value)(a:Act)(w:World):Prop:=
 (Region.wanted o (yielded ops a.tmps)=true/\∀ w',Grows w w'->Oper.quietUpon P (Grows w') w' v ((execOp a.eval o).run P w'))\/
 (Region.wanted o (yielded ops a.tmps)=false/\v=undef)
theorem Jz.up {o:Oper}{v:Value}{a:Act}{w w':World}(h:Jz P ops o v a w)(hg:Grows w w'):Jz P ops o v a w':=
 h.imp (fun⟨h1,h2⟩=>⟨h1,fun w2 g=>h2 w2 (hg.trans g)⟩) id
theorem Jz.of_same {o:Oper}{v:Value}{a a':Act}{w:World}(hy:Jz P ops o v a w)(he:execOp a'.eval o=execOp a.eval o)
 (hw:Region.wanted o (yielded ops a'.tmps)=Region.wanted o (yielded ops a.tmps)):Jz P ops o v a' w:=by
 unfold Jz at *;rw[he,hw];exact hy
theorem Jz.opG {i:Nat}{o:Oper}{v:Value}{a:Act}{w w':World}(hi:ops[i]? =some o)(hy:Jz P ops o v a w)(hg:Grows w w'){K:Act->World->Prop}
 (h:∀ w'',Grows w' w''->K (a.put o.dst v) w''):opG P ops Q i K a w':=by
 unfold Go.Proofs.YtdopmfifmgkmoaaGreatDoor.opG;simp only[hi];rcases hy with ⟨hw,hv⟩|⟨hw,rfl⟩
 ·rw[Ae hw];have h3:=hv w' hg;unfold Oper.wp;generalize (execOp a.eval o).run P w'=r at *;cases r with
  |ok x w2=>
   cases x<;>simp only[Oper.quietUpon]at h3<;>simp only[Oper.upon]
   case value u=>obtain⟨rfl,rfl⟩:=h3;exact h _ (Grows.refl _)
   case skip=>obtain⟨rfl,rfl⟩:=h3;exact h _ (Grows.refl _)
   case enter f args=>
    obtain⟨rfl,hc⟩:=h3;exact hc.mono fun e w3 ⟨he,hg3⟩=>by subst he;exact h _ hg3
  |halt x w2=>simp only[Oper.quietUpon]at h3
 ·rw[Af (by rw[hw];decide)];exact h _ (Grows.refl _)
theorem qz0 {j:Nat}{oi oj:Oper}{v:Value}(hj:ops[j]? =some oj)(hap:oi.apart ops oj=true)
 (hsi:∀ cs b,oi.op≠.select cs b) (hsj:∀ cs b,oj.op≠.select cs b)
 (hQ:∀ c a w,Q (.panic c) (a.put oi.dst v) w->Q (.panic c) a w) {K:Act->World->Prop} {a:Act} {w w0:World}
 (hy:Jz P ops oi v a w0) (h:opG P ops Q j K (a.put oi.dst v) w):
 opG P ops Q j (fun a' w'=>Jz P ops oi v a' w0/\K (a'.put oi.dst v) w') a w:=by
 obtain⟨h1,h2,h3⟩:=Oper.apart_spec hap;have keep:∀ (b:Act),Jz P ops oi v b w0->∀ u,Jz P ops oi v (b.put oj.dst u) w0:=fun b hb u=>
  hb.of_same (execOp_put oi hsi b oj.dst u h3) (wanted_put oi b oj.dst u h3)
 unfold opG at *;simp only[hj]at *;rw[wanted_put oj a oi.dst v h1]at h;split
 ·rename_i hw;rw[Ae hw]at h;unfold Oper.wp at *;rw[execOp_put oj hsj a oi.dst v h1]at h;generalize (execOp a.eval oj).run P w=r at *;cases r with
  |ok x w'=>
   cases x<;>simp only[Oper.upon]at h ⊢
   case value u=>exact⟨keep a hy u,by rw[<-Act.put_comm a v u h2];exact h⟩
   case skip=>exact⟨keep a hy _,by rw[<-Act.put_comm a v undef h2];exact h⟩
   case defer d=>
    refine⟨keep {a with defers:=d::a.defers} (hy.of_same rfl rfl) _,?_⟩;rw[<-Act.put_comm _ v undef h2,<-Act.put_defers];exact h
   case enter f args=>
    refine Calls.mono h fun e w'' he=>?_;cases e with
    |returned u=>exact⟨keep a hy u,by rw[<-Act.put_comm a v u h2];exact he⟩
    |panicked c=>exact hQ _ _ _ he
    |outgrown=>exact he
   case row row args=>exact Rows.mono h fun u w'' he=>⟨keep a hy u,by rw[<-Act.put_comm a v u h2];exact he⟩
  |halt x w'=>
   cases x<;>simp only[Oper.upon]at h ⊢
   case panic u=>exact hQ _ _ _ h
 ·rename_i hw;rw[Af hw]at h;exact⟨keep a hy _,by rw[<-Act.put_comm a v undef h2];exact h⟩
def ke3 (ops:Array Oper):Bool:=ops.all fun o=>match o.op with|.defer _=>false|_=>true
theorem Uw {ops:Array Oper}(h:ke3 ops=true){i:Nat}{o:Oper}(ho:ops[i]? =some o)(c:Call):o.op≠.defer c:=by
 intro heq;have:=Array.all_eq_true_iff_forall_mem.1 h o (Array.mem_of_getElem? ho);simp[heq]at this
theorem Sb {o:Oper}{a:Act}{w:World}{K:Act->World->Prop}{l n:Nat}(hd:∀ c,o.op≠.defer c)(h:o.wp P a w K Q):o.wpIn (Fence.wide.inRound l) n P a w K Q:=by
 unfold Oper.wp at h;refine⟨fun _ _=>trivial,?_⟩;rw[Oper.semAt_eq _ _ _ hd];generalize (execOp a.eval o).run P w=r at *;cases r with
 |ok x w'=>
  cases x<;>simp only[Oper.upon]at h<;>simp only[Oper.uponIn]
  case value v=>exact h
  case skip=>exact h
  case defer d=>exact h
  case enter f args=>exact⟨fun hx=>by simp[Fence.wide]at hx,callsIn_wide.2 h⟩
  case row row args=>
   refine⟨fun hx=>by simp[Fence.wide]at hx,fun c cs _=>?_⟩;obtain⟨v,w'',h1,h2⟩:=h c cs;exact⟨v,w'',h1,stepsIn_wide.2 h2⟩
 |halt x w'=>cases x<;>simp only[Oper.upon]at h<;>simp only[Oper.uponIn]<;>exact h
theorem AnyG.anyIn {bar:Nat->Bool}{l n:Nat}(hd:ke3 ops=true):∀ (f:Nat) (listed:Array Bool) (a:Act) (w:World),AnyG P md ops Q bar f listed a w->
 wpAnyIn (Fence.wide.inRound l) n P md ops Q f listed a w:=by
 intro f
 induction f with
 |zero=>intro listed a w h;exact h w (Grows.refl w)
 |succ f ih=>
  intro listed a w h;obtain⟨h1,h2⟩:=h w (Grows.refl w);refine⟨h1,fun i hi=>?_⟩;have h3:=h2 i hi;unfold opG at h3;unfold wpOpIn;split
  ·rename_i ho;simp only[ho]at h3;exact ih _ _ _ h3.2
  ·rename_i o ho;simp only[ho]at h3;split
   ·rename_i hw;rw[Ae hw]at h3;exact Sb (Uw hd ho) (Oper.wp_mono (fun a w h=>ih _ _ _ h.2) h3)
   ·rename_i hw;rw[Af hw]at h3;exact⟨fun _ _=>trivial,ih _ _ _ h3.2⟩
end
section
variable {P:Program}{ops:Array Oper}{Q:Exit->Act->World->Prop}{o:Oper}{rest:List (Oper × Way)}{a:Act}{w:World}
end
end
section
section
variable {P:Program}{ops:Array Oper}{Q:Exit->Act->World->Prop}{md:Region.Mode}
theorem AnyG.Xq {bar:Nat->Bool}{i:Nat}{oi:Oper}{v:Value}(hi:ops[i]? =some oi)(hsel:∀ (j:Nat) (o:Oper) cs b,ops[j]? =some o->o.op≠.select cs b)
 (hQ:∀ c a w,Q (.panic c) (a.put oi.dst v) w->Q (.panic c) a w)
 (D:Nat->Bool) (hD:∀ k ok,ops[k]? =some ok->D k=true->∃ e∈ok.after,Region.binds md e=true/\(e.on=i\/D e.on=true)) (hbar:∀ j,bar j=true->D j=true):
 ∀ (f:Nat) (listed:Array Bool) (a:Act) (w:World),
   (∀ j oj,ops[j]? =some oj->j≠i->listed.getD j true=false->(∀ e∈oj.after,Region.binds md e=true->e.on≠i)->oi.apart ops oj=true)->
   (∀ k,D k=true->listed.getD k true=false)->i∈Region.ready md ops listed->Jz P ops oi v a w->
   AnyG P md ops Q bar f (listed.setIfInBounds i true) (a.put oi.dst v) w->AnyG P md ops Q bar (f+1) listed a w:=by
 intro f
 induction f with
 |zero=>
  intro listed a w _ _ hr hy H w' hg;refine⟨fun h=>(by rw[h]at hr;cases hr),fun j hj=>?_⟩;by_cases hji:j=i
  ·subst hji;exact hy.opG hi hg fun w'' g=>⟨fun _=>g,H.up (hg.trans g)⟩
  ·have:=ready_mono hj hji;rw[(H w' hg).1]at this;cases this
 |succ f ih=>
  intro listed a w hfree hun0 hr hy H w' hg;refine⟨fun h=>(by rw[h]at hr;cases hr),fun j hj=>?_⟩;by_cases hji:j=i
  ·subst hji;exact hy.opG hi hg fun w'' g=>⟨fun _=>g,H.up (hg.trans g)⟩
  ·obtain⟨hjun,oj,hoj,hall⟩:=mem_ready.1 hj;have hnot:∀ e∈oj.after,Region.binds md e=true->e.on≠i:=fun e he hb heq=>by
    have h1:=hall e he hb;have h0:=(mem_ready.1 hr).1;rw[heq]at h1;rcases Ah i listed.size with h'|h'
    ·simp[h']at h0 h1;rw[h0]at h1;cases h1
    ·simp[Array.getElem?_eq_none h']at h1
   have hDj:D j=false:=by
    cases hb:D j with
    |false=>rfl
    |true=>
     obtain⟨e,he,hb1,hb2⟩:=hD j oj hoj hb;rcases hb2 with hb2|hb2
     ·exact absurd hb2 (hnot e he hb1)
     ·have h1:=hall e he hb1;have h2:=hun0 _ hb2;rcases Ah e.on listed.size with h'|h'
      ·simp[h']at h1 h2;rw[h2]at h1;cases h1
      ·simp[Array.getElem?_eq_none h']at h1
   have hbj:bar j=false:=by
    cases hb:bar j with
    |false=>rfl
    |true=>rw[hbar j hb]at hDj;cases hDj
   have h1:=(H w' hg).2 j (ready_mono hj hji);have h2:=qz0 hoj (hfree j oj hoj hji hjun hnot) (fun cs b=>hsel i oi cs b hi) (fun cs b=>hsel j oj cs b hoj) hQ hy h1;have hfree':∀ k ok,ops[k]? =some ok->k≠i->(listed.setIfInBounds j true).getD k true=false->
    (∀ e∈ok.after,Region.binds md e=true->e.on≠i)->oi.apart ops ok=true:=fun k ok hk hki hun hno=>by
    refine hfree k ok hk hki ?_ hno;by_cases hjk:j=k
    ·subst hjk;exact hjun
    ·rw[getD_set_ne true hjk]at hun;exact hun
   refine jp5 (fun a' w'' h3=>⟨fun _=>h3.2.1 hbj,ih (listed.setIfInBounds j true) a' w'' hfree' (fun k hk=>by
    rw[getD_set_ne true (show j≠k by rintro rfl;rw[hDj]at hk;cases hk)];exact hun0 k hk) (ready_mono hr (Ne.symm hji)) (h3.1.up (hg.trans (h3.2.1 hbj))) ?_⟩) h2
   rw[Array.setIfInBounds_comm _ _ hji];exact h3.2.2
def Wd (md:Region.Mode)(ops:Array Oper)(bars:List Nat)(listed:Array Bool)(i:Nat)(D:List Nat):Bool:=
 D.all (fun k=>match ops[k]? with
  |some ok=>ok.after.any (fun e=>Region.binds md e && (e.on == i || D.contains e.on))
  |none=>false) && D.all (fun k=>!listed.getD k true) && bars.all (fun j=>D.contains j)
theorem md6 {md:Region.Mode}{ops:Array Oper}{bars:List Nat}{listed:Array Bool}{i:Nat}{D:List Nat}(h:Wd md ops bars listed i D=true):
 (∀ k ok,ops[k]? =some ok->D.contains k=true->∃ e∈ok.after,Region.binds md e=true/\(e.on=i\/D.contains e.on=true))/\(∀ k,D.contains k=true->listed.getD k true=false)/\(∀ j,bars.contains j=true->D.contains j=true):=by
 simp only[Wd,Ab,Ec]at h;obtain⟨⟨h1,h2⟩,h3⟩:=h;refine⟨fun k ok hk hD=>?_,fun k hD=>by simpa using h2 k (by simpa using hD),fun j hj=>h3 j (by simpa using hj)⟩;have:=h1 k (by simpa using hD);simp only[hk,Array.any_eq_true']at this;obtain⟨e,he,h4⟩:=this;simp only[Ab,Bo,Eb]at h4;exact⟨e,he,h4.1,h4.2⟩
end
end
end Go.Proofs.YtdopmfifmgkmoaaGreatDoor
