/- Parts. -/
import Derived.WalkKit
import Derived.WalkSpells
import Derived.WalkLawsBesides
import Derived.Lib.Hide
import Derived.Laws.AppendOwnNone
import Derived.OwnWalkIn
import Derived.Deep.QuietTactic
import Derived.BigQuiet
import Derived.TacticsInMore
import Derived.OrdersIn
set_option linter.all false
set_option maxRecDepth 100000
set_option maxHeartbeats 0
namespace Go.Proofs.YtklklgfpkpglgaaGreatDoor
open Go.RowKit
theorem Aa:type_of% @Bool.and_eq_true:=@Bool.and_eq_true
theorem Ab:type_of% @List.length_map:=@List.length_map
theorem Ac{α:Type _}{a:α}{b c:List α}:a::b++c=a::(b++c):=rfl
theorem Ad:type_of% @if_pos:=@if_pos
theorem Ae{α:Type _}(b:List α):[]++b=b:=rfl
theorem Af:type_of% @if_neg:=@if_neg
theorem Ag:type_of% @List.length_append:=@List.length_append
theorem Ah:type_of% @decide_eq_true_eq:=@decide_eq_true_eq
theorem Ai:type_of% @Nat.lt_or_ge:=@Nat.lt_or_ge
theorem Aj:type_of% @List.length_cons:=@List.length_cons
theorem Ak:type_of% @Nat.zero_le:=@Nat.zero_le
theorem An:type_of% @List.take_succ_eq_append_getElem:=@List.take_succ_eq_append_getElem
theorem Ao:type_of% @List.getElem_mem:=@List.getElem_mem
theorem Ap:type_of% @Nat.le_refl:=@Nat.le_refl
theorem Aq:type_of% @List.length_take:=@List.length_take
theorem Ar:type_of% @List.getElem?_eq_getElem:=@List.getElem?_eq_getElem
theorem As:type_of% @Bool.false_and:=@Bool.false_and
theorem Au:type_of% @List.mem_append:=@List.mem_append
theorem Av:type_of% @List.map_append:=@List.map_append
theorem Aw:type_of% @List.mem_cons_self:=@List.mem_cons_self
theorem Ax:type_of% @List.mem_cons_of_mem:=@List.mem_cons_of_mem
theorem Ay:type_of% @List.getElem?_eq_some_iff:=@List.getElem?_eq_some_iff
theorem Az{α:Type _}:([]:List α).length=0:=rfl
theorem Ba:type_of% @List.take_of_length_le:=@List.take_of_length_le
theorem Bb:type_of% @Bool.false_eq_true:=@Bool.false_eq_true
theorem Bc:type_of% @List.mem_cons:=@List.mem_cons
theorem Be:type_of% @Bool.and_false:=@Bool.and_false
theorem Bf:type_of% @Bool.true_and:=@Bool.true_and
theorem Bg:type_of% @List.eq_nil_of_length_eq_zero:=@List.eq_nil_of_length_eq_zero
theorem Bh:type_of% @Prod.mk.injEq:=@Prod.mk.injEq
theorem Bi:type_of% @Option.some.injEq:=@Option.some.injEq
theorem Bj{α:Type _}{β:Type _}{f:α→β}:[].map f=[]:=rfl
theorem Bk:type_of% @List.drop_eq_getElem_cons:=@List.drop_eq_getElem_cons
theorem Bl:type_of% @decide_eq_false:=@decide_eq_false
theorem Bm:type_of% @decide_eq_true:=@decide_eq_true
theorem Bn:type_of% @Bool.or_eq_true:=@Bool.or_eq_true
theorem Bo:type_of% @Nat.eq_of_beq_eq_true:=@Nat.eq_of_beq_eq_true
theorem Bp:type_of% @List.getElem?_map:=@List.getElem?_map
theorem Bq:type_of% @List.drop_of_length_le:=@List.drop_of_length_le
theorem Br:type_of% @List.mem_map:=@List.mem_map
theorem Bs:type_of% @List.mem_singleton:=@List.mem_singleton
theorem Bu:type_of% @Bool.and_true:=@Bool.and_true
theorem Bv:type_of% @List.take_length:=@List.take_length
theorem Bw:type_of% @Array.getElem?_eq_some_iff:=@Array.getElem?_eq_some_iff
theorem Bx:type_of% @List.length_drop:=@List.length_drop
theorem By:type_of% @List.all_eq_true:=@List.all_eq_true
theorem Bz:type_of% @Bool.not_eq_true':=@Bool.not_eq_true'
theorem Ea:type_of% @List.mem_of_getElem?:=@List.mem_of_getElem?
theorem Eb:type_of% @Decidable.not_not:=@Decidable.not_not
theorem Ec:type_of% @Bool.or_false:=@Bool.or_false
theorem Ed:type_of% @beq_iff_eq:=@beq_iff_eq
theorem Ee:type_of% @Bool.false_or:=@Bool.false_or
theorem Ef:type_of% @Bool.true_or:=@Bool.true_or
theorem Eg:type_of% @List.append_assoc:=@List.append_assoc
theorem Eh:type_of% @Bool.or_true:=@Bool.or_true
theorem Ei:type_of% @List.all_cons:=@List.all_cons
theorem Ej:type_of% @Bool.eq_iff_iff:=@Bool.eq_iff_iff
theorem Ek:type_of% @List.any_eq_true:=@List.any_eq_true
theorem El:type_of% @List.flatMap_cons:=@List.flatMap_cons
theorem Em:type_of% @List.length_eq_zero_iff:=@List.length_eq_zero_iff
theorem En:type_of% @List.getElem?_append_left:=@List.getElem?_append_left
theorem Eo:type_of% @List.getElem?_drop:=@List.getElem?_drop
theorem Ep:type_of% @Int.toNat_of_nonneg:=@Int.toNat_of_nonneg
theorem Er:type_of% @Option.map_some:=@Option.map_some
theorem Es:type_of% @Nat.zero_add:=@Nat.zero_add
theorem Et:type_of% @List.getElem?_take:=@List.getElem?_take
theorem Eu:type_of% @Int.le_refl:=@Int.le_refl
theorem Ev:type_of% @List.mem_iff_getElem:=@List.mem_iff_getElem
theorem Ew:type_of% @List.drop_zero:=@List.drop_zero
theorem Ey:type_of% @List.append_nil:=@List.append_nil
theorem Ez:type_of% @List.take_succ_cons:=@List.take_succ_cons
theorem Fa:type_of% @Nat.add_mul:=@Nat.add_mul
theorem Fb:type_of% @List.getElem_cons_succ:=@List.getElem_cons_succ
theorem Fc:type_of% @List.map_take:=@List.map_take
theorem Fd:type_of% @Nat.add_assoc:=@Nat.add_assoc
theorem Fe:type_of% @Nat.le_trans:=@Nat.le_trans
theorem Ff:type_of% @List.length_replicate:=@List.length_replicate
theorem Fg:type_of% @List.getElem?_append_right:=@List.getElem?_append_right
theorem Fh:type_of% @List.mem_range:=@List.mem_range
theorem Fi:type_of% @Option.map_eq_some_iff:=@Option.map_eq_some_iff
theorem Fj:type_of% @List.pairwise_iff_getElem:=@List.pairwise_iff_getElem
theorem Fk:type_of% @List.sizeOf_lt_of_mem:=@List.sizeOf_lt_of_mem
theorem Fl:type_of% @List.drop_length:=@List.drop_length
theorem Fm:type_of% @List.ext_getElem?:=@List.ext_getElem?
theorem Fp:type_of% @Nat.lt_trichotomy:=@Nat.lt_trichotomy
section
def Rd (w:World)(B:Nat)(a:Option Addr)(xs:List Value):Prop:=
 ∀ j x,xs[j]? =some x->∃ b o,a=some ⟨b,o,none⟩/\b<B/\w.cell? ⟨b,o+j,none⟩=some x
theorem Rd.below {w w':World}{B B':Nat}{a:Option Addr}{xs:List Value}(h:Rd w B a xs)(hb:Below B' w w')(hB:B<=B'):Rd w' B a xs:=by
 intro j x hx;obtain⟨b,o,e,hlt,hc⟩:=h j x hx;exact⟨b,o,e,hlt,(hb.cell (p:=⟨b,o+j,none⟩) (by show b<B';omega)).trans hc⟩
theorem Rd.Rm {w:World}{base:Nat}{e:TypeId}{size:Nat}{a:Option Addr}{n c:Nat}{xs:List Value}
 (h:w.ownsRow base e size (.slice a n c) n xs):Rd w w.heap.size a xs:=by
 intro j x hx;rcases h.2 with ⟨hv,hn⟩|⟨g,cap,cur,hv,_⟩
 ·have hl:=h.1;subst hn;simp at hl;subst hl;simp at hx
 ·simp at hv;obtain⟨rfl,rfl⟩:=hv;have hc:=h.cells (g:=g) (by simp[Value.ownBlock]) j x hx;have ha:(⟨g,0,none⟩:Addr).add j=⟨g,0+j,none⟩:=by unfold Addr.add;split<;>simp_all
  rw[ha]at hc;exact⟨g,0,rfl,World.block_lt_of_cell? w ⟨g,0+j,none⟩ hc,hc⟩
theorem jd9 {w:World}{base:Nat}{e:TypeId}{size:Nat}{v:Value}{n:Nat}{xs:List Value}
 (h:w.ownsRow base e size v n xs):∃ a c,v=.slice a n c/\n<=c/\c<=maxLen/\(a=none->c=0):=by
 rcases h.2 with ⟨rfl,rfl⟩|⟨g,cap,cur,rfl,_,_,h1,h2,_⟩
 ·exact⟨none,0,rfl,Ap _,Ak _,λ_=>rfl⟩
 ·exact⟨_,cap,rfl,h1,h2,λh=>by cases h⟩
structure Sl (w:World)(B:Nat)(a:Option Addr)(n c size:Nat)(xs:List Value):Prop where
 len:xs.length=n * size
 rd:Rd w B a xs
 cap:n<=c
 max:c<=maxLen
 nil:a=none->c=0
theorem Sl.below {w w':World}{B B':Nat}{a:Option Addr}{n c size:Nat}{xs:List Value}(h:Sl w B a n c size xs)(hb:Below B' w w')(hB:B<=B'):Sl w' B a n c size xs:=
 ⟨h.len,h.rd.below hb hB,h.cap,h.max,h.nil⟩
theorem Sl.Rm {w:World}{base:Nat}{e:TypeId}{size:Nat}{a:Option Addr}{n c:Nat}{xs:List Value}
 (h:w.ownsRow base e size (.slice a n c) n xs):Sl w w.heap.size a n c size xs:=by
 refine⟨h.1,Rd.Rm h,?_,?_,?_⟩<;>
 ·rcases h.2 with ⟨hv,hn⟩|⟨g,cap,cur,hv,_,_,h1,h2,_⟩<;>simp at hv<;>obtain⟨rfl,h'⟩:=hv<;>simp_all
def ve2 (P:Program)(t e:TypeId)(size bytes:Nat):Prop:=
 ∃ i z,P.underlying t=some (.slice e)/\P.info? e=some i/\i.zero=some z/\i.size=size/\i.bytes=bytes/\z.cells.size=size/\0<size
theorem qf8 {P:Program}{t e:TypeId}{z:Value}{size bytes:Nat}(h:(P.info? e).map (λi=>(i.zero,i.size,i.bytes))=some (some z,size,bytes))
 (ht:P.underlying t=some (.slice e)) (hz:z.cells.size=size) (h0:0<size):ve2 P t e size bytes:=by
 obtain⟨i,h1,h2,h3,h4⟩:=info_parts h;exact⟨i,z,ht,h1,h2,h3,h4,hz,h0⟩
theorem md2 {w:World}{base base':Nat}{e:TypeId}{size:Nat}{v:Value}{n:Nat}{xs:List Value}(h:w.ownsRow base e size v n xs)(hB:base'<=base):w.ownsRow base' e size v n xs:=by
 refine⟨h.1,?_⟩;rcases h.2 with h2|⟨g,cap,cur,hv,hg,hh,r⟩
 ·exact .inl h2
 ·exact .inr ⟨g,cap,cur,hv,Fe hB hg,hh,r⟩
theorem kv3 (w:World)(xs:List Value)(e:TypeId)(n size base:Nat)(h:xs.length=n * size)(hm:n<=maxLen)(hb:base<=w.heap.size):
 (w.alloc (.cells xs.toArray e)).ownsRow base e size (.slice (some ⟨w.heap.size,0,none⟩) n n) n xs:=
 ⟨h,.inr ⟨w.heap.size,n,xs.toArray,rfl,hb,heap_alloc_new w _,Ap _,hm,by simpa using h,by simp[<-h]⟩⟩
theorem ml8 {w w':World}{base:Nat}{e:TypeId}{size:Nat}{v:Value}{n:Nat}{xs:List Value}(hown:w.ownsRow base e size v n xs)(hb:base<=w.heap.size)
 (hg:w.grownBy w' v.ownBlock):Below base w w':=
 (Below.refl base w).grown hg hb (λk hk=>(hown.lt k hk).1)
theorem qf9 {P:Program}{w:World}{ops:Array Oper}{rest:List Oper}{o:Oper}{a:Act}{Q:Exit->Act->World->Prop}(hgd:o.guard=none)(s x:Operand)(t:TypeId)
 (ho:o.op=.call {callee:=.builtin .append,args:=#[s,x],argTypes:=#[t,t]})
 {e:TypeId} {size bytes:Nat} (he:ve2 P t e size bytes)
 {base:Nat} {va:Option Addr} {n c:Nat} {xs:List Value} (hs:a.eval s=.slice va n c) (hown:w.ownsRow base e size (.slice va n c) n xs)
 {B:Nat} {xa:Option Addr} {m xc:Nat} {news:List Value} (hx:a.eval x=.slice xa m xc) (hsl:Sl w B xa m xc size news) (h1:∀ u∈news,u.oneCell'=true)
 (h63:n+m<=100000000000) (hby:bytes<=1024) (hbase:base<=w.heap.size)
 (h:∀ a' c' w',w'.ownsRow base e size (.slice a' (n+m) c') (n+m) (xs++news)->w.grownBy w' (Value.slice va n c).ownBlock->Below base w w'->wpList P ops Q rest (a.put o.dst (.slice a' (n+m) c')) w'):
 wpList P ops Q (o::rest) a w:=by
 obtain⟨i,z,ht,hi,hz,hsize,hbytes,hzs,hpos⟩:=he;have hbound:(n+m) * bytes<=140737488355328:=Fe (Nat.mul_le_mul h63 hby) (by omega);cases xa with
 |none=>
  have hc0:=hsl.nil rfl;have hm0:m=0:=by have:=hsl.cap;omega
  subst hm0;subst hc0;have hn0:news=[]:=Bg (by have:=hsl.len;omega);subst hn0;refine wpList_append_own_none hgd s x t ho base e i size ht hi _ n xs hs hown hx ?_;have:=h va c w (by simpa using hown) ⟨rfl,rfl,rfl,Ap _,λ_ _ _=>rfl⟩ (Below.refl _ _);simpa using this
 |some ad=>
  refine wpList_append_own w hgd s x t ho base e i z size bytes ht hi hz hsize hbytes hzs hpos _ n xs hs hown ad m xc news hx hsl.len ?_ h1 (by unfold maxLen;omega) hbound hbase ?_
  ·intro j u hu;obtain⟨b,o',e',_,hc⟩:=hsl.rd j u hu;cases e';have ha:(⟨b,o',none⟩:Addr).add j=⟨b,o'+j,none⟩:=by unfold Addr.add;split<;>simp_all
   rw[ha];exact hc
  ·intro v' w' hown' hg _;obtain⟨a',c',rfl,_⟩:=jd9 hown';exact h a' c' w' hown' hg (ml8 hown hbase hg)
end
section
end
section
inductive D where
 |int (k:IntKind) (n:Int)
 |bool (b:Bool)
 |str (s:ByteArray)
 |raw (v:Value)
 |list (sz:Nat) (xs:List D)
 |nil (sz:Nat)
 |agg (cs:List D)
 |ref (cs:List D) (off:Nat)
 |clo (fn:Fn) (first caps:List D)
 |map (ks vs:List D)
theorem Am:type_of% @D.bool.injEq:=@D.bool.injEq
def rr7:Obj->Bool
 |.deferred _=>true
 |.loop _=>true
 |_=>false
def Reads (w:World)(M:Nat->Nat->Prop)(a:Option Addr)(ys:List Value):Prop:=
 ∀ j y,ys[j]? =some y->∃ b o,a=some ⟨b,o,none⟩/\¬M b (o+j)/\w.cell? ⟨b,o+j,none⟩=some y
structure Born (es:List MapEntry)(c:Nat):Prop where
 lt:∀ e∈es,e.born<c
 ne:es.Pairwise λx y=>x.born≠y.born
theorem Born.nil (c:Nat):Born [] c:=⟨λe h=>(by cases h),.nil⟩
theorem Born.push {es:List MapEntry}{c:Nat}(h:Born es c){e:MapEntry}(he:e.born=c):Born (es++[e]) (c+1):=
 ⟨λx hx=>by
   rcases Au.1 hx with hx|hx
   ·exact Nat.lt_succ_of_lt (h.lt x hx)
   ·rw[Bs]at hx;subst hx;omega,List.pairwise_append.2 ⟨h.ne,by simp,λx hx y hy=>by
   rw[Bs]at hy;subst hy;have:=h.lt x hx;omega⟩⟩
theorem Born.of_born {es es':List MapEntry}{c:Nat}(h:Born es c)(he:es'.map (·.born)=es.map (·.born)):Born es' c:=
 ⟨λe hm=>by
   have:e.born∈es'.map (·.born):=List.mem_map_of_mem hm;rw[he]at this;obtain⟨x,hx,e1⟩:=Br.1 this;rw[<-e1];exact h.lt x hx,by
   have:=h.ne;rw[<-List.pairwise_map (f:=λe:MapEntry=>e.born) (R:=λa b=>a≠b)]at this ⊢;rw[he];exact this⟩
theorem Born.modify {es:List MapEntry}{c:Nat}(h:Born es c)(i:Nat)(f:MapEntry->MapEntry)(hf:∀ e,(f e).born=e.born):Born (es.modify i f) c:=h.of_born (by
 apply Fm;intro j;simp only[Bp,List.getElem?_modify];cases es[j]? with
 |none=>rfl
 |some x=>
  simp only[Er,Functor.map];split
  ·rw[hf]
  ·rfl)
mutual
def Gv (w:World)(M:Nat->Nat->Prop):D->Value->Prop
 |.int k n,v=>v=.int k n
 |.bool b,v=>v=.bool b
 |.str s,v=>v=.string s
 |.raw x,v=>v=x/\x.oneCell'=true
 |.nil _,v=>v=.slice none 0 0
 |.list sz xs,v=>∃ (a:Option Addr) (c:Nat) (ys:List Value),v=.slice a xs.length c/\xs.length<=c/\c<=maxLen/\(a=none->c=0)/\Gb w M sz xs ys/\Reads w M a ys
 |.agg cs,v=>∃ vs:List Value,v=.agg vs.toArray/\Dz w M cs vs
 |.ref cs off,v=>∃ (b o:Nat) (vs:List Value),v=.pointer (some ⟨b,o+off,none⟩)/\Dz w M cs vs/\Reads w M (some ⟨b,o,none⟩) vs
 |.clo fn f c,v=>∃ fs gs:List Value,v=.func fn fs.toArray gs.toArray/\Dz w M f fs/\Dz w M c gs
 |.map ks vs,v=>∃ (r:Nat) (es:Array MapEntry) (c:Nat),v=.map (some r)/\w.heap[r]? =some (.map es c)/\(∀ o,¬M r o)/\Hg w M ks (es.toList.map (·.key))/\Hg w M vs (es.toList.map (·.val))/\Born es.toList c
def Dz (w:World)(M:Nat->Nat->Prop):List D->List Value->Prop
 |[],vs=>vs=[]
 |x::xs,vs=>∃ (v:Value) (r:List Value),vs=v::r/\v.oneCell'=true/\Gv w M x v/\Dz w M xs r
def Hg (w:World)(M:Nat->Nat->Prop):List D->List Value->Prop
 |[],vs=>vs=[]
 |x::xs,vs=>∃ (v:Value) (r:List Value),vs=v::r/\Gv w M x v/\Hg w M xs r
def Gb (w:World)(M:Nat->Nat->Prop)(sz:Nat):List D->List Value->Prop
 |[],vs=>vs=[]
 |x::xs,vs=>∃ (v:Value) (r:List Value),vs=v.cells.toList++r/\v.cells.size=sz/\Gv w M x v/\Gb w M sz xs r
end
structure aI (w:World)(M:Nat->Nat->Prop)(w':World)(M':Nat->Nat->Prop):Prop where
 cell:∀ b o y,¬M b o->w.cell? ⟨b,o,none⟩=some y->¬M' b o/\w'.cell? ⟨b,o,none⟩=some y
 obj:∀ b ob,rr7 ob=false->(∀ o,¬M b o)->w.heap[b]? =some ob->(∀ o,¬M' b o)/\w'.heap[b]? =some ob
theorem aI.trans {a b c:World}{A B C:Nat->Nat->Prop}(h:aI a A b B)(k:aI b B c C):aI a A c C:=
 ⟨λx o y h1 h2=>let ⟨h3,h4⟩:=h.cell x o y h1 h2;k.cell x o y h3 h4,λx o hs h1 h2=>let ⟨h3,h4⟩:=h.obj x o hs h1 h2;k.obj x o hs h3 h4⟩
theorem aI.refl (a:World)(A:Nat->Nat->Prop):aI a A a A:=⟨λ_ _ _ h1 h2=>⟨h1,h2⟩,λ_ _ _ h1 h2=>⟨h1,h2⟩⟩
theorem aI.weak {a:World}{A B:Nat->Nat->Prop}(h:∀ b o,B b o->A b o):aI a A a B:=⟨λ_ _ _ h1 h2=>⟨λh3=>h1 (h _ _ h3),h2⟩,λ_ _ _ h1 h2=>⟨λo h3=>h1 o (h _ _ h3),h2⟩⟩
theorem Reads.keep {w w':World}{M M':Nat->Nat->Prop}(k:aI w M w' M'){a:Option Addr}{ys:List Value}(h:Reads w M a ys):Reads w' M' a ys:=λj y hj=>by
 obtain⟨b,o,e,hm,hc⟩:=h j y hj;obtain⟨h1,h2⟩:=k.cell b (o+j) y hm hc;exact⟨b,o,e,h1,h2⟩
mutual
theorem Gv.keep {w w':World}{M M':Nat->Nat->Prop}(k:aI w M w' M'):∀ (x:D) (v:Value),Gv w M x v->Gv w' M' x v
 |.int _ _,_,h=>h
 |.bool _,_,h=>h
 |.str _,_,h=>h
 |.raw _,_,h=>h
 |.nil _,_,h=>h
 |.list _ xs,_,⟨a,c,ys,h1,h2,h3,h4,h5,h6⟩=>⟨a,c,ys,h1,h2,h3,h4,Gb.keep k _ xs ys h5,h6.keep k⟩
 |.agg cs,_,⟨vs,h1,h2⟩=>⟨vs,h1,Dz.keep k cs vs h2⟩
 |.ref cs _,_,⟨b,o,vs,h1,h2,h3⟩=>⟨b,o,vs,h1,Dz.keep k cs vs h2,h3.keep k⟩
 |.clo _ f c,_,⟨fs,gs,h1,h2,h3⟩=>⟨fs,gs,h1,Dz.keep k f fs h2,Dz.keep k c gs h3⟩
 |.map ks vs,_,⟨r,es,c,h1,h2,h3,h4,h5,h6⟩=>⟨r,es,c,h1,(k.obj r _ rfl h3 h2).2,(k.obj r _ rfl h3 h2).1,Hg.keep k ks _ h4,Hg.keep k vs _ h5,h6⟩
theorem Dz.keep {w w':World}{M M':Nat->Nat->Prop}(k:aI w M w' M'):∀ (xs:List D) (vs:List Value),Dz w M xs vs->Dz w' M' xs vs
 |[],_,h=>h
 |x::xs,_,⟨v,r,h1,h2,h3,h4⟩=>⟨v,r,h1,h2,Gv.keep k x v h3,Dz.keep k xs r h4⟩
theorem Hg.keep {w w':World}{M M':Nat->Nat->Prop}(k:aI w M w' M'):∀ (xs:List D) (vs:List Value),Hg w M xs vs->Hg w' M' xs vs
 |[],_,h=>h
 |x::xs,_,⟨v,r,h1,h3,h4⟩=>⟨v,r,h1,Gv.keep k x v h3,Hg.keep k xs r h4⟩
theorem Gb.keep {w w':World}{M M':Nat->Nat->Prop}(k:aI w M w' M'):∀ (sz:Nat) (xs:List D) (vs:List Value),Gb w M sz xs vs->Gb w' M' sz xs vs
 |_,[],_,h=>h
 |sz,x::xs,_,⟨v,r,h1,h2,h3,h4⟩=>⟨v,r,h1,h2,Gv.keep k x v h3,Gb.keep k sz xs r h4⟩
end
theorem Dz.length {w:World}{M:Nat->Nat->Prop}:∀ {xs:List D} {vs:List Value},Dz w M xs vs->vs.length=xs.length
 |[],_,h=>by simp only[Dz]at h;subst h;rfl
 |_::xs,_,h=>by
  simp only[Dz]at h;obtain⟨v,r,rfl,_,_,h4⟩:=h;simp[Dz.length h4]
theorem Gb.length {w:World}{M:Nat->Nat->Prop}{sz:Nat}:∀ {xs:List D} {vs:List Value},Gb w M sz xs vs->vs.length=xs.length * sz
 |[],_,h=>by simp only[Gb]at h;subst h;simp
 |_::xs,_,h=>by
  simp only[Gb]at h;obtain⟨v,r,rfl,h2,_,h4⟩:=h;simp[Gb.length h4,h2,Fa,Nat.add_comm]
theorem Dz.one {w:World}{M:Nat->Nat->Prop}:∀ {xs:List D} {vs:List Value},Dz w M xs vs->∀ u∈vs,u.oneCell'=true
 |[],_,h,_,hu=>by simp only[Dz]at h;subst h;cases hu
 |_::xs,_,h,u,hu=>by
  simp only[Dz]at h;obtain⟨v,r,rfl,h2,_,h4⟩:=h;rcases Bc.1 hu with rfl|hu
  ·exact h2
  ·exact Dz.one h4 u hu
theorem Gv.one {w:World}{M:Nat->Nat->Prop}{x:D}{v:Value}(h:Gv w M x v):∀ u∈v.cells.toList,u.oneCell'=true:=by
 intro u hu;cases x<;>simp only[Gv]at h
 case agg cs=>
  obtain⟨vs,rfl,h2⟩:=h;exact Dz.one h2 u (by simpa [Value.cells]using hu)
 case raw x=>obtain⟨rfl,h1⟩:=h;cases v<;>simp_all [Value.cells,Value.oneCell']
 case list=>obtain⟨a,c,ys,rfl,_⟩:=h;simp[Value.cells]at hu;subst hu;rfl
 case ref=>obtain⟨a,c,ys,rfl,_⟩:=h;simp[Value.cells]at hu;subst hu;rfl
 case clo=>obtain⟨a,c,rfl,_⟩:=h;simp[Value.cells]at hu;subst hu;rfl
 case map=>obtain⟨r,es,c,rfl,_⟩:=h;simp[Value.cells]at hu;subst hu;rfl
 all_goals subst h;simp[Value.cells]at hu;subst hu;rfl
theorem Gb.one {w:World}{M:Nat->Nat->Prop}{sz:Nat}:∀ {xs:List D} {vs:List Value},Gb w M sz xs vs->∀ u∈vs,u.oneCell'=true
 |[],_,h,_,hu=>by simp only[Gb]at h;subst h;cases hu
 |_::xs,_,h,u,hu=>by
  simp only[Gb]at h;obtain⟨v,r,rfl,_,h3,h4⟩:=h;rcases Au.1 hu with hu|hu
  ·exact h3.one u hu
  ·exact Gb.one h4 u hu
theorem Dz.get {w:World}{M:Nat->Nat->Prop}:∀ {xs:List D} {vs:List Value},Dz w M xs vs->∀ {i:Nat} {x:D},xs[i]? =some x->∃ v,vs[i]? =some v/\v.oneCell'=true/\Gv w M x v
 |[],_,_,_,_,hx=>by simp at hx
 |y::xs,_,h,0,x,hx=>by
  simp only[Dz]at h;obtain⟨v,r,rfl,h2,h3,_⟩:=h;simp at hx;subst hx;exact⟨v,rfl,h2,h3⟩
 |y::xs,_,h,i+1,x,hx=>by
  simp only[Dz]at h;obtain⟨v,r,rfl,h2,h3,h4⟩:=h;simpa using Dz.get h4 (i:=i) (x:=x) (by simpa using hx)
theorem Gb.get {w:World}{M:Nat->Nat->Prop}{sz:Nat}:∀ {xs:List D} {vs:List Value},Gb w M sz xs vs->∀ {i:Nat} {x:D},xs[i]? =some x->
 ∃ v,Gv w M x v/\v.cells.size=sz/\∀ j u,v.cells.toList[j]? =some u->vs[i * sz+j]? =some u
 |[],_,_,_,_,hx=>by simp at hx
 |y::xs,_,h,0,x,hx=>by
  simp only[Gb]at h;obtain⟨v,r,rfl,h2,h3,_⟩:=h;simp at hx;subst hx;refine⟨v,h3,h2,λj u hu=>?_⟩;have hj:j<v.cells.toList.length:=(Ay.1 hu).1;rw[Nat.zero_mul,Es,En hj];exact hu
 |y::xs,_,h,i+1,x,hx=>by
  simp only[Gb]at h;obtain⟨v,r,rfl,h2,h3,h4⟩:=h;obtain⟨u,k1,k2,k3⟩:=Gb.get h4 (i:=i) (x:=x) (by simpa using hx);refine⟨u,k1,k2,λj t ht=>?_⟩;rw[Fg (by simp[h2,Fa];omega)];have:=k3 j t ht
  rwa [show(i+1) * sz+j - v.cells.toList.length=i * sz+j by simp[h2,Fa];omega]
theorem Dz.append {w:World}{M:Nat->Nat->Prop}:∀ {xs:List D} {vs:List Value},Dz w M xs vs->∀ {ys:List D} {us:List Value},Dz w M ys us->Dz w M (xs++ys) (vs++us)
 |[],_,h,_,_,h'=>by simp only[Dz]at h;subst h;exact h'
 |y::xs,_,h,_,_,h'=>by
  simp only[Dz]at h;obtain⟨v,r,rfl,h2,h3,h4⟩:=h;exact⟨v,_,rfl,h2,h3,Dz.append h4 h'⟩
theorem Gb.append {w:World}{M:Nat->Nat->Prop}{sz:Nat}:∀ {xs:List D} {vs:List Value},Gb w M sz xs vs->∀ {ys:List D} {us:List Value},Gb w M sz ys us->Gb w M sz (xs++ys) (vs++us)
 |[],_,h,_,_,h'=>by simp only[Gb]at h;subst h;exact h'
 |y::xs,_,h,_,_,h'=>by
  simp only[Gb]at h;obtain⟨v,r,rfl,h2,h3,h4⟩:=h;exact⟨v,_,by rw[Eg],h2,h3,Gb.append h4 h'⟩
theorem Dz.drop {w:World}{M:Nat->Nat->Prop}:∀ (k:Nat) {xs:List D} {vs:List Value},Dz w M xs vs->Dz w M (xs.drop k) (vs.drop k)
 |0,_,_,h=>h
 |k+1,[],_,h=>by simp only[Dz]at h;subst h;simp[Dz]
 |k+1,y::xs,_,h=>by
  simp only[Dz]at h;obtain⟨v,r,rfl,_,_,h4⟩:=h;exact Dz.drop k h4
theorem Dz.take {w:World}{M:Nat->Nat->Prop}:∀ (k:Nat) {xs:List D} {vs:List Value},Dz w M xs vs->Dz w M (xs.take k) (vs.take k)
 |0,_,_,_=>by simp[Dz]
 |k+1,[],_,h=>by simp only[Dz]at h;subst h;simp[Dz]
 |k+1,y::xs,_,h=>by
  simp only[Dz]at h;obtain⟨v,r,rfl,h2,h3,h4⟩:=h;exact⟨v,_,rfl,h2,h3,Dz.take k h4⟩
theorem Gb.drop {w:World}{M:Nat->Nat->Prop}{sz:Nat}:∀ (k:Nat) {xs:List D} {vs:List Value},Gb w M sz xs vs->k<=xs.length->Gb w M sz (xs.drop k) (vs.drop (k * sz))
 |0,_,_,h,_=>by simpa using h
 |k+1,[],_,h,hk=>by simp at hk
 |k+1,y::xs,_,h,hk=>by
  simp only[Gb]at h;obtain⟨v,r,rfl,h2,_,h4⟩:=h;have:=Gb.drop k h4 (by simpa using hk);have e:(v.cells.toList++r).drop ((k+1) * sz)=r.drop (k * sz):=by
   have hl:v.cells.toList.length=sz:=by simpa using h2
   rw[List.drop_append,Bq (l:=v.cells.toList) (by rw[hl,Fa];omega),hl,Fa,Nat.one_mul,Nat.add_sub_cancel];rfl
  rw[e];exact this
theorem Gb.take {w:World}{M:Nat->Nat->Prop}{sz:Nat}:∀ (k:Nat) {xs:List D} {vs:List Value},Gb w M sz xs vs->k<=xs.length->Gb w M sz (xs.take k) (vs.take (k * sz))
 |0,_,_,_,_=>by simp[Gb]
 |k+1,[],_,h,hk=>by simp at hk
 |k+1,y::xs,_,h,hk=>by
  simp only[Gb]at h;obtain⟨v,r,rfl,h2,h3,h4⟩:=h;have:=Gb.take k h4 (by simpa using hk);refine⟨v,_,?_,h2,h3,this⟩;rw[List.take_append,Ba (by simp[h2,Fa])];simp[h2,Fa]
theorem Reads.nil (w:World)(M:Nat->Nat->Prop)(a:Option Addr):Reads w M a []:=λj y h=>by simp at h
theorem aI.below {w w':World}{M:Nat->Nat->Prop}(h:Below w.heap.size w w'):aI w M w' M:=⟨λb o y h1 h2=>
 ⟨h1,(h.cell (p:=⟨b,o,none⟩) (World.block_lt_of_cell? w ⟨b,o,none⟩ h2)).trans h2⟩,λb ob _ h1 h2=>⟨h1,(h.block b (Bw.1 h2).1).trans h2⟩⟩
def Sw (w:World)(M:Nat->Nat->Prop)(g:Nat)(cs:List D):Prop:=∃ (vs:List Value) (t:TypeId) (f:Nat × Nat),w.heap[g]? =some (.cells vs.toArray t f)/\(∀ o,¬M g o)/\Dz w M cs vs
theorem Sw.keep {w w':World}{M M':Nat->Nat->Prop}(k:aI w M w' M'){g:Nat}{cs:List D}(h:Sw w M g cs):Sw w' M' g cs:=by
 obtain⟨vs,t,f,h1,h2,h3⟩:=h;obtain⟨q1,q2⟩:=k.obj g _ rfl h2 h1;exact⟨vs,t,f,q2,q1,Dz.keep k _ _ h3⟩
theorem Sw.ref {w:World}{M:Nat->Nat->Prop}{g:Nat}{cs:List D}(h:Sw w M g cs):Gv w M (.ref cs 0) (.pointer (some ⟨g,0,none⟩)):=by
 obtain⟨vs,t,f,h1,h2,h3⟩:=h;refine⟨g,0,vs,rfl,h3,λj y hy=>⟨g,0,rfl,h2 _,?_⟩⟩;simp[World.cell?,h1,hy]
theorem Hg.length {w:World}{M:Nat->Nat->Prop}:∀ {xs:List D} {vs:List Value},Hg w M xs vs->vs.length=xs.length
 |[],_,h=>by simp only[Hg]at h;subst h;rfl
 |_::xs,_,h=>by
  simp only[Hg]at h;obtain⟨v,r,rfl,_,h4⟩:=h;simp[Hg.length h4]
theorem Hg.get {w:World}{M:Nat->Nat->Prop}:∀ {xs:List D} {vs:List Value},Hg w M xs vs->∀ {i:Nat} {x:D},xs[i]? =some x->∃ v,vs[i]? =some v/\Gv w M x v
 |[],_,_,_,_,hx=>by simp at hx
 |y::xs,_,h,0,x,hx=>by
  simp only[Hg]at h;obtain⟨v,r,rfl,h3,_⟩:=h;simp at hx;subst hx;exact⟨v,rfl,h3⟩
 |y::xs,_,h,i+1,x,hx=>by
  simp only[Hg]at h;obtain⟨v,r,rfl,h3,h4⟩:=h;simpa using Hg.get h4 (i:=i) (x:=x) (by simpa using hx)
theorem Hg.append {w:World}{M:Nat->Nat->Prop}:∀ {xs:List D} {vs:List Value},Hg w M xs vs->∀ {ys:List D} {us:List Value},Hg w M ys us->Hg w M (xs++ys) (vs++us)
 |[],_,h,_,_,h'=>by simp only[Hg]at h;subst h;exact h'
 |y::xs,_,h,_,_,h'=>by
  simp only[Hg]at h;obtain⟨v,r,rfl,h3,h4⟩:=h;exact⟨v,_,rfl,h3,Hg.append h4 h'⟩
theorem Hg.set {w:World}{M:Nat->Nat->Prop}:∀ {xs:List D} {vs:List Value},Hg w M xs vs->∀ (i:Nat) {x:D} {v:Value},Gv w M x v->Hg w M (xs.set i x) (vs.set i v)
 |[],_,h,i,_,_,_=>by simp only[Hg]at h;subst h;simp[Hg]
 |y::xs,_,h,0,x,v,hx=>by
  simp only[Hg]at h;obtain⟨u,r,rfl,h2,h3⟩:=h;exact⟨v,r,rfl,hx,h3⟩
 |y::xs,_,h,i+1,x,v,hx=>by
  simp only[Hg]at h;obtain⟨u,r,rfl,h2,h3⟩:=h;exact⟨u,_,rfl,h2,Hg.set h3 i hx⟩
end
section
def aG (w w':World):Prop:=Below w.heap.size w w'
theorem aG.refl (w:World):aG w w:=Below.refl _ _
theorem aG.trans {a b c:World}(h:aG a b)(k:aG b c):aG a c:=Below.trans h (Below.mono k h.size)
theorem aG.drew (w:World):aG w w.drew:=(Below.refl _ _).drew
theorem aG.alloc (w:World)(o:Obj):aG w (w.alloc o):=(Below.refl _ _).alloc (Ap _) _
structure Late (W:World) where
 w:World
 grows:aG W w
section
variable {P:Program}{ops:Array Oper}{Q:Exit->Act->World->Prop}{md:Region.Mode}
def opG (P:Program)(ops:Array Oper)(Q:Exit->Act->World->Prop)(i:Nat)(K:Act->World->Prop)(a:Act)(w:World):Prop:=
 match ops[i]? with
 |none=>K a w
 |some o=>if Region.wanted o (yielded ops a.tmps)=true then o.wp P a w K Q else K (a.put o.dst undef) w
theorem jr2 {i:Nat}{K K':Act->World->Prop}{a:Act}{w:World}(h:∀ a w,K a w->K' a w)(hh:opG P ops Q i K a w):opG P ops Q i K' a w:=by
 unfold opG at *;split
 ·rename_i ho;simp only[ho]at hh;exact h _ _ hh
 ·rename_i o ho;simp only[ho]at hh;split
  ·rename_i hw;rw[Ad hw]at hh;exact Oper.wp_mono h hh
  ·rename_i hw;rw[Af hw]at hh;exact h _ _ hh
def AnyG (P:Program)(md:Region.Mode)(ops:Array Oper)(Q:Exit->Act->World->Prop)(bar:Nat->Bool):Nat->Array Bool->Act->World->Prop
 |0,listed,a,w=>∀ w',aG w w'->Region.ready md ops listed=[]/\Q .normal a w'
 |f+1,listed,a,w=>∀ w',aG w w'->(Region.ready md ops listed=[]->Q .normal a w')/\
   ∀ i∈Region.ready md ops listed,opG P ops Q i (λa' w''=>(bar i=false->aG w' w'')/\AnyG P md ops Q bar f (listed.setIfInBounds i true) a' w'') a w'
theorem AnyG.up {bar:Nat->Bool}{f:Nat}{listed:Array Bool}{a:Act}{w w':World}(h:AnyG P md ops Q bar f listed a w)(hg:aG w w'):AnyG P md ops Q bar f listed a w':=by
 cases f with
 |zero=>exact λw2 h2=>h w2 (hg.trans h2)
 |succ f=>exact λw2 h2=>h w2 (hg.trans h2)
theorem AnyG.any {bar:Nat->Bool}:∀ (f:Nat) (listed:Array Bool) (a:Act) (w:World),AnyG P md ops Q bar f listed a w->wpAny P md ops Q f listed a w:=by
 intro f
 induction f with
 |zero=>intro listed a w h;exact h w (aG.refl w)
 |succ f ih=>
  intro listed a w h;obtain⟨h1,h2⟩:=h w (aG.refl w);refine⟨h1,λi hi=>?_⟩;have h3:=h2 i hi;unfold opG at h3;unfold wpOp;split
  ·rename_i ho;simp only[ho]at h3;exact ih _ _ _ h3.2
  ·rename_i o ho;simp only[ho]at h3;split
   ·rename_i hw;rw[Ad hw]at h3;exact .inl (Oper.wp_mono (λa w h=>ih _ _ _ h.2) h3)
   ·rename_i hw;rw[Af hw]at h3;exact ih _ _ _ h3.2
def Jy (P:Program)(ops:Array Oper)(o:Oper)(v:Value)(a:Act)(w:World):Prop:=
 (Region.wanted o (yielded ops a.tmps)=true/\∀ w',aG w w'->Oper.quietUpon P (aG w') w' v ((execOp a.eval o).run P w'))\/
 (Region.wanted o (yielded ops a.tmps)=false/\v=undef)
theorem Jy.up {o:Oper}{v:Value}{a:Act}{w w':World}(h:Jy P ops o v a w)(hg:aG w w'):Jy P ops o v a w':=
 h.imp (λ⟨h1,h2⟩=>⟨h1,λw2 g=>h2 w2 (hg.trans g)⟩) id
theorem Jy.of_same {o:Oper}{v:Value}{a a':Act}{w:World}(hy:Jy P ops o v a w)(he:execOp a'.eval o=execOp a.eval o)
 (hw:Region.wanted o (yielded ops a'.tmps)=Region.wanted o (yielded ops a.tmps)):Jy P ops o v a' w:=by
 unfold Jy at *;rw[he,hw];exact hy
theorem Jy.opG {i:Nat}{o:Oper}{v:Value}{a:Act}{w w':World}(hi:ops[i]? =some o)(hy:Jy P ops o v a w)(hg:aG w w'){K:Act->World->Prop}
 (h:∀ w'',aG w' w''->K (a.put o.dst v) w''):opG P ops Q i K a w':=by
 unfold Go.Proofs.YtklklgfpkpglgaaGreatDoor.opG;simp only[hi];rcases hy with ⟨hw,hv⟩|⟨hw,rfl⟩
 ·rw[Ad hw];have h3:=hv w' hg;unfold Oper.wp;generalize (execOp a.eval o).run P w'=r at *;cases r with
  |ok x w2=>
   cases x<;>simp only[Oper.quietUpon]at h3<;>simp only[Oper.upon]
   case value u=>obtain⟨rfl,rfl⟩:=h3;exact h _ (aG.refl _)
   case skip=>obtain⟨rfl,rfl⟩:=h3;exact h _ (aG.refl _)
   case enter f args=>
    obtain⟨rfl,hc⟩:=h3;exact hc.mono λe w3 ⟨he,hg3⟩=>by subst he;exact h _ hg3
  |halt x w2=>simp only[Oper.quietUpon]at h3
 ·rw[Af (by rw[hw];decide)];exact h _ (aG.refl _)
theorem rr8 {j:Nat}{oi oj:Oper}{v:Value}(hj:ops[j]? =some oj)(hap:oi.apart ops oj=true)
 (hsi:∀ cs b,oi.op≠.select cs b) (hsj:∀ cs b,oj.op≠.select cs b)
 (hQ:∀ c a w,Q (.panic c) (a.put oi.dst v) w->Q (.panic c) a w) {K:Act->World->Prop} {a:Act} {w w0:World}
 (hy:Jy P ops oi v a w0) (h:opG P ops Q j K (a.put oi.dst v) w):
 opG P ops Q j (λa' w'=>Jy P ops oi v a' w0/\K (a'.put oi.dst v) w') a w:=by
 obtain⟨h1,h2,h3⟩:=Oper.apart_spec hap;have keep:∀ (b:Act),Jy P ops oi v b w0->∀ u,Jy P ops oi v (b.put oj.dst u) w0:=λb hb u=>
  hb.of_same (execOp_put oi hsi b oj.dst u h3) (wanted_put oi b oj.dst u h3)
 unfold opG at *;simp only[hj]at *;rw[wanted_put oj a oi.dst v h1]at h;split
 ·rename_i hw;rw[Ad hw]at h;unfold Oper.wp at *;rw[execOp_put oj hsj a oi.dst v h1]at h;generalize (execOp a.eval oj).run P w=r at *;cases r with
  |ok x w'=>
   cases x<;>simp only[Oper.upon]at h ⊢
   case value u=>exact⟨keep a hy u,by rw[<-Act.put_comm a v u h2];exact h⟩
   case skip=>exact⟨keep a hy _,by rw[<-Act.put_comm a v undef h2];exact h⟩
   case defer d=>
    refine⟨keep {a with defers:=d::a.defers} (hy.of_same rfl rfl) _,?_⟩;rw[<-Act.put_comm _ v undef h2,<-Act.put_defers];exact h
   case enter f args=>
    refine Calls.mono h λe w'' he=>?_;cases e with
    |returned u=>exact⟨keep a hy u,by rw[<-Act.put_comm a v u h2];exact he⟩
    |panicked c=>exact hQ _ _ _ he
    |outgrown=>exact he
   case row row args=>exact Rows.mono h λu w'' he=>⟨keep a hy u,by rw[<-Act.put_comm a v u h2];exact he⟩
  |halt x w'=>
   cases x<;>simp only[Oper.upon]at h ⊢
   case panic u=>exact hQ _ _ _ h
 ·rename_i hw;rw[Af hw]at h;exact⟨keep a hy _,by rw[<-Act.put_comm a v undef h2];exact h⟩
def kg9 (ops:Array Oper):Bool:=ops.all λo=>match o.op with|.defer _=>false|_=>true
theorem Us {ops:Array Oper}(h:kg9 ops=true){i:Nat}{o:Oper}(ho:ops[i]? =some o)(c:Call):o.op≠.defer c:=by
 intro heq;have:=Array.all_eq_true_iff_forall_mem.1 h o (Array.mem_of_getElem? ho);simp[heq]at this
theorem Sr {o:Oper}{a:Act}{w:World}{K:Act->World->Prop}{l n:Nat}(hd:∀ c,o.op≠.defer c)(h:o.wp P a w K Q):o.wpIn (Fence.wide.inRound l) n P a w K Q:=by
 unfold Oper.wp at h;refine⟨λ_ _=>trivial,?_⟩;rw[Oper.semAt_eq _ _ _ hd];generalize (execOp a.eval o).run P w=r at *;cases r with
 |ok x w'=>
  cases x<;>simp only[Oper.upon]at h<;>simp only[Oper.uponIn]
  case value v=>exact h
  case skip=>exact h
  case defer d=>exact h
  case enter f args=>exact⟨λhx=>by simp[Fence.wide]at hx,callsIn_wide.2 h⟩
  case row row args=>
   refine⟨λhx=>by simp[Fence.wide]at hx,λc cs _=>?_⟩;obtain⟨v,w'',h1,h2⟩:=h c cs;exact⟨v,w'',h1,stepsIn_wide.2 h2⟩
 |halt x w'=>cases x<;>simp only[Oper.upon]at h<;>simp only[Oper.uponIn]<;>exact h
theorem AnyG.anyIn {bar:Nat->Bool}{l n:Nat}(hd:kg9 ops=true):∀ (f:Nat) (listed:Array Bool) (a:Act) (w:World),AnyG P md ops Q bar f listed a w->
 wpAnyIn (Fence.wide.inRound l) n P md ops Q f listed a w:=by
 intro f
 induction f with
 |zero=>intro listed a w h;exact h w (aG.refl w)
 |succ f ih=>
  intro listed a w h;obtain⟨h1,h2⟩:=h w (aG.refl w);refine⟨h1,λi hi=>?_⟩;have h3:=h2 i hi;unfold opG at h3;unfold wpOpIn;split
  ·rename_i ho;simp only[ho]at h3;exact ih _ _ _ h3.2
  ·rename_i o ho;simp only[ho]at h3;split
   ·rename_i hw;rw[Ad hw]at h3;exact Sr (Us hd ho) (Oper.wp_mono (λa w h=>ih _ _ _ h.2) h3)
   ·rename_i hw;rw[Af hw]at h3;exact⟨λ_ _=>trivial,ih _ _ _ h3.2⟩
end
section
variable {P:Program}{ops:Array Oper}{Q:Exit->Act->World->Prop}{o:Oper}{rest:List (Oper × Way)}{a:Act}{w:World}
end
end
section
section
variable {P:Program}{ops:Array Oper}{Q:Exit->Act->World->Prop}{md:Region.Mode}
theorem AnyG.Xu {bar:Nat->Bool}{i:Nat}{oi:Oper}{v:Value}(hi:ops[i]? =some oi)(hsel:∀ (j:Nat) (o:Oper) cs b,ops[j]? =some o->o.op≠.select cs b)
 (hQ:∀ c a w,Q (.panic c) (a.put oi.dst v) w->Q (.panic c) a w)
 (D:Nat->Bool) (hD:∀ k ok,ops[k]? =some ok->D k=true->∃ e∈ok.after,Region.binds md e=true/\(e.on=i\/D e.on=true)) (hbar:∀ j,bar j=true->D j=true):
 ∀ (f:Nat) (listed:Array Bool) (a:Act) (w:World),
   (∀ j oj,ops[j]? =some oj->j≠i->listed.getD j true=false->(∀ e∈oj.after,Region.binds md e=true->e.on≠i)->oi.apart ops oj=true)->
   (∀ k,D k=true->listed.getD k true=false)->i∈Region.ready md ops listed->Jy P ops oi v a w->
   AnyG P md ops Q bar f (listed.setIfInBounds i true) (a.put oi.dst v) w->AnyG P md ops Q bar (f+1) listed a w:=by
 intro f
 induction f with
 |zero=>
  intro listed a w _ _ hr hy H w' hg;refine⟨λh=>(by rw[h]at hr;cases hr),λj hj=>?_⟩;by_cases hji:j=i
  ·subst hji;exact hy.opG hi hg λw'' g=>⟨λ_=>g,H.up (hg.trans g)⟩
  ·have:=ready_mono hj hji;rw[(H w' hg).1]at this;cases this
 |succ f ih=>
  intro listed a w hfree hun0 hr hy H w' hg;refine⟨λh=>(by rw[h]at hr;cases hr),λj hj=>?_⟩;by_cases hji:j=i
  ·subst hji;exact hy.opG hi hg λw'' g=>⟨λ_=>g,H.up (hg.trans g)⟩
  ·obtain⟨hjun,oj,hoj,hall⟩:=mem_ready.1 hj;have hnot:∀ e∈oj.after,Region.binds md e=true->e.on≠i:=λe he hb heq=>by
    have h1:=hall e he hb;have h0:=(mem_ready.1 hr).1;rw[heq]at h1;rcases Ai i listed.size with h'|h'
    ·simp[h']at h0 h1;rw[h0]at h1;cases h1
    ·simp[Array.getElem?_eq_none h']at h1
   have hDj:D j=false:=by
    cases hb:D j with
    |false=>rfl
    |true=>
     obtain⟨e,he,hb1,hb2⟩:=hD j oj hoj hb;rcases hb2 with hb2|hb2
     ·exact absurd hb2 (hnot e he hb1)
     ·have h1:=hall e he hb1;have h2:=hun0 _ hb2;rcases Ai e.on listed.size with h'|h'
      ·simp[h']at h1 h2;rw[h2]at h1;cases h1
      ·simp[Array.getElem?_eq_none h']at h1
   have hbj:bar j=false:=by
    cases hb:bar j with
    |false=>rfl
    |true=>rw[hbar j hb]at hDj;cases hDj
   have h1:=(H w' hg).2 j (ready_mono hj hji);have h2:=rr8 hoj (hfree j oj hoj hji hjun hnot) (λcs b=>hsel i oi cs b hi) (λcs b=>hsel j oj cs b hoj) hQ hy h1;have hfree':∀ k ok,ops[k]? =some ok->k≠i->(listed.setIfInBounds j true).getD k true=false->
    (∀ e∈ok.after,Region.binds md e=true->e.on≠i)->oi.apart ops ok=true:=λk ok hk hki hun hno=>by
    refine hfree k ok hk hki ?_ hno;by_cases hjk:j=k
    ·subst hjk;exact hjun
    ·rw[getD_set_ne true hjk]at hun;exact hun
   refine jr2 (λa' w'' h3=>⟨λ_=>h3.2.1 hbj,ih (listed.setIfInBounds j true) a' w'' hfree' (λk hk=>by
    rw[getD_set_ne true (show j≠k by rintro rfl;rw[hDj]at hk;cases hk)];exact hun0 k hk) (ready_mono hr (Ne.symm hji)) (h3.1.up (hg.trans (h3.2.1 hbj))) ?_⟩) h2
   rw[Array.setIfInBounds_comm _ _ hji];exact h3.2.2
def Xb (md:Region.Mode)(ops:Array Oper)(bars:List Nat)(listed:Array Bool)(i:Nat)(D:List Nat):Bool:=
 D.all (λk=>match ops[k]? with
  |some ok=>ok.after.any (λe=>Region.binds md e && (e.on == i || D.contains e.on))
  |none=>false) && D.all (λk=>!listed.getD k true) && bars.all (λj=>D.contains j)
theorem ml9 {md:Region.Mode}{ops:Array Oper}{bars:List Nat}{listed:Array Bool}{i:Nat}{D:List Nat}(h:Xb md ops bars listed i D=true):
 (∀ k ok,ops[k]? =some ok->D.contains k=true->∃ e∈ok.after,Region.binds md e=true/\(e.on=i\/D.contains e.on=true))/\(∀ k,D.contains k=true->listed.getD k true=false)/\(∀ j,bars.contains j=true->D.contains j=true):=by
 simp only[Xb,Aa,By]at h;obtain⟨⟨h1,h2⟩,h3⟩:=h;refine⟨λk ok hk hD=>?_,λk hD=>by simpa using h2 k (by simpa using hD),λj hj=>h3 j (by simpa using hj)⟩;have:=h1 k (by simpa using hD);simp only[hk,Array.any_eq_true']at this;obtain⟨e,he,h4⟩:=this;simp only[Aa,Bn,Ed]at h4;exact⟨e,he,h4.1,h4.2⟩
end
end
end Go.Proofs.YtklklgfpkpglgaaGreatDoor
