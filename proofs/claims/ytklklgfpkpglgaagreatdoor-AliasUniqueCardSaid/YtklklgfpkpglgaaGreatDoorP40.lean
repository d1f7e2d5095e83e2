/- Parts: A1, A5, A6, A2, A3, A4. -/
import Derived.Test.YtklklgfpkpglgaaGreatDoorP32
set_option linter.all false
set_option maxRecDepth 100000
set_option maxHeartbeats 16000000
namespace Go.Proofs.YtklklgfpkpglgaaGreatDoor
open Go.RowKit Go.Proofs.Tryz
section
namespace Al
noncomputable instance memDec (s:ByteArray)(l:List ByteArray):Decidable (s∈l):=Classical.propDecidable _
mutual
def jy9:Ex->List ByteArray
 |.mk kind _ _ _ s l=>(if Dl kind then [s] else [])++jc6 l
def jc6:List Ex->List ByteArray
 |[]=>[]
 |e::l=>jy9 e++jc6 l
end
theorem je2:∀ l:List Ex,jc6 l=l.flatMap jy9
 |[]=>rfl
 |e::l=>by rw[jc6,je2 l];rfl
theorem qm4 (e:Ex):jy9 e=(if Dl e.kind then [e.s] else [])++e.l.flatMap jy9:=by
 cases e;simp only[jy9,je2,Ex.kind,Ex.s,Ex.l];rfl
mutual
theorem kx8:∀ e:Ex,(jy9 e).length<=exN e
 |.mk kind _ _ _ s l=>by
  have:=jz0 l;simp only[jy9,exN,Ag];split<;>simp<;>omega
theorem jz0:∀ l:List Ex,(jc6 l).length<=Gj l
 |[]=>by simp[jc6]
 |e::l=>by
  have:=kx8 e;have:=jz0 l;simp only[jc6,Gj,Ag];omega
end
noncomputable def addN (l:List ByteArray)(s:ByteArray):List ByteArray:=if s∈l then l else l++[s]
noncomputable def Il (l ns:List ByteArray):List ByteArray:=ns.foldl addN l
theorem jg8 {l:List ByteArray}{s x:ByteArray}:x∈addN l s↔x∈l\/x=s:=by
 unfold addN;split
 ·rename_i h;constructor
  ·exact .inl
  ·rintro(h'|rfl)
   ·exact h'
   ·exact h
 ·simp
theorem kg8 {x:ByteArray}:∀ {ns l:List ByteArray},x∈Il l ns↔x∈l\/x∈ns
 |[],l=>by simp[Il]
 |s::ns,l=>by
  have:=@kg8 x ns (addN l s);rw[show Il l (s::ns)=Il (addN l s) ns from rfl,this,jg8,Bc,or_assoc]
theorem jn5 {l ns:List ByteArray}{j:Nat}(h:j<ns.length):Il l (ns.take (j+1))=addN (Il l (ns.take j)) ns[j]:=by
 unfold Il;rw[Ao h,List.foldl_append];rfl
def at1 {α:Type}(s:ByteArray):List (ByteArray × α)->Option α
 |[]=>none
 |(x,v)::l=>if x=s then some v else at1 s l
def up1 {α:Type}(s:ByteArray)(v:α):List (ByteArray × α)->List (ByteArray × α)
 |[]=>[(s,v)]
 |(x,u)::l=>if x=s then (x,v)::l else (x,u)::up1 s v l
theorem qm5 {α:Type}{s:ByteArray}:∀ {l:List (ByteArray × α)},at1 s l=none↔s∉l.map (·.1)
 |[]=>by simp[at1]
 |(x,u)::l=>by
  simp only[at1,Aq,Bc,not_or];split
  ·rename_i h;subst h;simp
  ·rename_i h;rw[qm5 (l:=l)];exact⟨fun h1=>⟨fun e=>h e.symm,h1⟩,fun h1=>h1.2⟩
theorem mg6 {α:Type}{s:ByteArray}{v:α}:∀ {l:List (ByteArray × α)},at1 s l=some v->(s,v)∈l
 |[],h=>by simp[at1]at h
 |(x,u)::l,h=>by
  simp only[at1]at h;split at h
  ·rename_i e;subst e;cases h;exact Az
  ·exact Bb _ (mg6 h)
theorem mu6 {α:Type}{s:ByteArray}:∀ {l:List (ByteArray × α)} {i:Nat} {x:ByteArray × α},l[i]? =some x->x.1=s->(∀ j,j<i->∀ y,l[j]? =some y->y.1≠s)->at1 s l=some x.2/\∀ v,up1 s v l=l.set i (s,v)
 |[],i,x,h,_,_=>by simp at h
 |(x,u)::l,0,y,h,he,_=>by
  simp only[List.getElem?_cons_zero,Bf]at h;subst h;simp only at he;subst he;simp[at1,up1]
 |(x,u)::l,i+1,y,h,he,hf=>by
  have h0:=hf 0 (Nat.succ_pos i) (x,u) rfl;have hi:=mu6 (l:=l) (i:=i) (x:=y) (by simpa using h) he fun j hj z hz=>hf (j+1) (by omega) z (by simpa using hz);simp only at h0;simp only[at1,up1,Ae h0,List.set_cons_succ];exact⟨hi.1,fun v=>by rw[hi.2 v]⟩
structure Pc where
 formals:List Fo
 occ:List ByteArray
 wr:List ByteArray
def rg7:Option Pc->List ByteArray
 |some q=>q.occ
 |none=>[]
def wrO:Option Pc->List ByteArray
 |some q=>q.wr
 |none=>[]
def foO:Option Pc->List Fo
 |some q=>q.formals
 |none=>[]
structure Wd where
 known:List ByteArray
 is:List (ByteArray × ByteArray)
 procs:List (ByteArray × Pc)
inductive Base (is:List (ByteArray × ByteArray)):ByteArray->ByteArray->Prop
 |done {s:ByteArray} (h:at1 s is=none):Base is s s
 |step {s v b:ByteArray} (h:at1 s is=some v) (k:Base is v b):Base is s b
theorem Base.det {is:List (ByteArray × ByteArray)}{s b:ByteArray}(h:Base is s b):∀ {c:ByteArray},Base is s c->b=c:=by
 induction h with
 |done h=>
  intro c k;cases k with
  |done=>rfl
  |step h' _=>rw[h]at h';cases h'
 |step h _ ih=>
  intro c k;cases k with
  |done h'=>rw[h]at h';cases h'
  |step h' k'=>
   rw[h]at h';cases h';exact ih k'
open Classical in
noncomputable def Dw (is:List (ByteArray × ByteArray))(s:ByteArray):ByteArray:=if h:∃ b,Base is s b then Classical.choose h else s
def Rank (is:List (ByteArray × ByteArray)):Prop:=∃ r:ByteArray->Nat,∀ x∈is,r x.2<r x.1
theorem Rank.base {is:List (ByteArray × ByteArray)}(h:Rank is)(s:ByteArray):Base is s (Dw is s):=by
 have hex:∃ b,Base is s b:=by
  obtain⟨r,hr⟩:=h;obtain⟨n,hn⟩:∃ n,r s=n:=⟨_,rfl⟩
  induction n using Nat.strongRecOn generalizing s with
  |_ n ih=>
   cases ha:at1 s is with
   |none=>exact⟨s,.done ha⟩
   |some v=>
    have:=hr _ (mg6 ha);obtain⟨b,hb⟩:=ih (r v) (by simp only at this;omega) v rfl;exact⟨b,.step ha hb⟩
 unfold Dw;rw[dif_pos hex];exact Classical.choose_spec hex
def jc3 (e:Ex):Bool:=e.kind == 4 || e.kind == 5
def vb6 (f:Fo):Bool:=!f.val && (f.type.kind == 1 || f.type.kind == 2 || f.type.kind == 3)
noncomputable def jt9 (known:List ByteArray)(kind:Int)(exprs:List Ex):List Ex:=
 if kind=5 then (match exprs with
  |e::l=>if e.kind=4/\e.s∉known then l else e::l
  |[]=>[]) else exprs
def rx2 (cond chan time:Ex)(targets values:List Ex):List Ex:=[cond,chan,time]++targets++values
def jd4:List Gu->List Ex
 |[]=>[]
 |.mk _ _ cond chan targets values time _::l=>rx2 cond chan time targets values++jd4 l
noncomputable def mk2 (known:List ByteArray)(kind:Int)(chan base count e:Ex)(targets exprs:List Ex)(guards:List Gu):List Ex:=[chan,base,count,e]++targets++jt9 known kind exprs++jd4 guards
mutual
noncomputable def n0 (w:Wd):Pr->List ByteArray
 |.mk kind name chan targets exprs rep guards l _ (.mk _ _ _ se _ _ sb)=>jc6 (mk2 w.known kind chan rep.base rep.count se targets exprs guards)++
  (if kind=17 then rg7 (at1 name w.procs) else [])++(je3 w sb++(ji7 w guards++je3 w l))
noncomputable def je3 (w:Wd):List Pr->List ByteArray
 |[]=>[]
 |p::l=>n0 w p++je3 w l
noncomputable def ji7 (w:Wd):List Gu->List ByteArray
 |[]=>[]
 |.mk _ _ _ _ _ _ _ body::l=>je3 w body++ji7 w l
end
def jh7:List Gu->List Ex
 |[]=>[]
 |.mk _ _ _ _ targets _ _ _::l=>targets++jh7 l
def Rx:List Fo->Bool
 |f::_=>vb6 f
 |[]=>false
def Ky (q:Option Pc):List Ex->List Fo->List Ex
 |[],_=>[]
 |e::l,fs=>(if jc3 e && (q.isNone || Rx fs) then [e] else [])++Ky q l (fs.drop 1)
mutual
noncomputable def ka7 (w:Wd):Pr->List ByteArray
 |.mk kind name _ targets exprs _ guards l _ (.mk _ _ _ _ _ _ sb)=>
  ((targets++jh7 guards++(if kind=17 then Ky (at1 name w.procs) exprs (foO (at1 name w.procs)) else [])).map fun e=>Dw w.is e.s)++
  (if kind=17 then wrO (at1 name w.procs) else [])++(km9 w sb++(kx9 w guards++km9 w l))
noncomputable def km9 (w:Wd):List Pr->List ByteArray
 |[]=>[]
 |p::l=>ka7 w p++km9 w l
noncomputable def kx9 (w:Wd):List Gu->List ByteArray
 |[]=>[]
 |.mk _ _ _ _ _ _ _ body::l=>km9 w body++kx9 w l
end
noncomputable def Kt (w:Wd)(rep:ByteArray)(sk:Int)(sn:List ByteArray)(se:ByteArray)(sf:List Fo):Wd:=
 let w1:Wd:={w with known:=Il (if rep=ByteArray.empty then Il w.known sn else addN (Il w.known sn) rep) (sf.map (·.name))}
 if sk=3 then (match sn with|s::_=>{w1 with is:=up1 s se w1.is}|[]=>w1) else w1
noncomputable def Kb (w:Wd)(sk:Int)(sn:List ByteArray)(sf:List Fo)(occ wr:List ByteArray):Wd:=
 if sk=5 then (match sn with|s::_=>{w with procs:=up1 s ⟨sf,occ,wr⟩ w.procs}|[]=>w) else w
mutual
noncomputable def x7 (w:Wd):Pr->Wd
 |.mk _ _ _ _ _ rep guards l _ (.mk sk _ sn se _ sf sb)=>
  let w3:=Gb (Kt w rep.name sk sn se.s sf) sb
  let w4:=Kb w3 sk sn sf (match sb with|b::_=>n0 w3 b|[]=>[]) (match sb with|b::_=>ka7 w3 b|[]=>[])
  Gb (Gz w4 guards) l
noncomputable def Gb (w:Wd):List Pr->Wd
 |[]=>w
 |p::l=>Gb (x7 w p) l
noncomputable def Gz (w:Wd):List Gu->Wd
 |[]=>w
 |.mk _ _ _ _ _ _ _ body::l=>Gz (Gb w body) l
end
noncomputable def je4 (set l:List ByteArray):Bool:=l.any fun s=>decide (s∈set)
noncomputable def Jd (w:Wd)(l:List Ex):List ByteArray:=(jc6 l).map (Dw w.is)
noncomputable def Jj (w:Wd)(sk:Int)(se:Ex)(l0:Pr):Bool:=
 if sk=2 then !je4 (ka7 w l0) (Jd w [se]) else if sk=3 then !decide (se.s∈n0 w l0) && !je4 (ka7 w l0) (Jd w se.l) else true
noncomputable def Kr (w:Wd):List Fo->List Ex->List ByteArray->List ByteArray->Option (List ByteArray × List ByteArray)
 |f::fs,e::l,vars,vals=>
  if f.val then Kr w fs l vars (vals++Jd w [e])
  else if jc3 e then (if Dw w.is e.s∈vars then none else Kr w fs l (addN vars (Dw w.is e.s)) vals)
  else Kr w fs l vars vals
 |_,_,vars,vals=>some (vars,vals)
noncomputable def Og (w:Wd)(name:ByteArray)(exprs:List Ex):Bool:=
 match at1 name w.procs with
 |none=>true
 |some q=>match Kr w q.formals exprs [] []with
  |none=>false
  |some (vars,vals)=>!je4 vars (q.occ.map (Dw w.is)) && (!je4 vars vals && !je4 q.wr vals)
noncomputable def Jl (w:Wd):List ByteArray->List Ex->Option Nat
 |_,[]=>none
 |met,e::l=>if Dw w.is e.s∈met then some 0 else (Jl w (addN met (Dw w.is e.s)) l).map (· +1)
noncomputable def Ng (w:Wd)(l:List Ex):Bool:=(Jl w [] l).isSome
mutual
noncomputable def brB (w:Wd):Pr->Bool
 |.mk kind name _ targets exprs _ guards l _ (.mk sk _ _ se _ _ sb)=>
  (kind == 18 && !Jj w sk se (match l with|a::_=>a|[]=>pr0)) || (kind == 17 && !Og w name exprs) || Ng w targets || Tk w sb || Uq w guards || Tk w l
noncomputable def Tk (w:Wd):List Pr->Bool
 |[]=>false
 |p::l=>brB w p || Tk w l
noncomputable def Uq (w:Wd):List Gu->Bool
 |[]=>false
 |.mk _ _ _ _ targets _ _ body::l=>Ng w targets || Tk w body || Uq w l
end
end Al
end
section
namespace Al
def Dq (K:List ByteArray):List D:=K.map .str
def Dr (K:List ByteArray):List D:=K.map fun _=>.bool true
def Md {α:Type}(l:List (ByteArray × α)):List D:=l.map fun x=>.str x.1
def Mw {α:Type}(f:α->D)(l:List (ByteArray × α)):List D:=l.map fun x=>f x.2
theorem js7 {K:List ByteArray}{s:ByteArray}:D.str s∈Dq K↔s∈K:=by
 unfold Dq;rw[Bl];constructor
 ·rintro⟨x,h,e⟩;cases e;exact h
 ·exact fun h=>⟨s,h,rfl⟩
theorem ra8 {K:List ByteArray}{i:Nat}:(Dr K).set i (.bool true)=Dr K:=by
 apply Fu;intro j;rw[List.getElem?_set];unfold Dr;split
 ·rename_i h;subst h;split
  ·rename_i h;simp at h;simp[h]
  ·rename_i h;simp at h;simp[h]
 ·rfl
theorem kn0 {K:List ByteArray}{s:ByteArray}:∀ y∈Dq K,Comp .str (.str s) y:=fun y hy=>by
 obtain⟨x,_,rfl⟩:=Bl.1 hy;exact .str _ _
theorem mg7 {α:Type}{l:List (ByteArray × α)}{s:ByteArray}:∀ y∈Md l,Comp .str (.str s) y:=fun y hy=>by
 obtain⟨x,_,rfl⟩:=Bl.1 hy;exact .str _ _
theorem ro1 {K:List ByteArray}{s:ByteArray}(h:s∈K):addN K s=K:=Ad h
theorem ra9 {K:List ByteArray}{s:ByteArray}(h:s∉K):addN K s=K++[s]:=Ae h
theorem rg8 {K:List ByteArray}{i:Nat}{z:D}(h:(Dr K)[i]? =some z):z=.bool true:=by
 unfold Dr at h;rw[Bp]at h;cases hk:K[i]? with
 |none=>rw[hk]at h;cases h
 |some x=>rw[hk]at h;cases h;rfl
theorem mg8 {α:Type}{f:α->D}{l:List (ByteArray × α)}{s:ByteArray}{i:Nat}(hi:(Md l)[i]? =some (.str s))(hf:∀ j:Nat,j<i->(Md l)[j]? ≠some (.str s)):
 ∃ v,l[i]? =some (s,v)/\at1 s l=some v/\(Mw f l)[i]? =some (f v)/\∀ u,Mw f (up1 s u l)=(Mw f l).set i (f u)/\Md (up1 s u l)=Md l:=by
 unfold Md at hi hf;rw[Bp]at hi;cases hl:l[i]? with
 |none=>rw[hl]at hi;cases hi
 |some x=>
  rw[hl]at hi;simp only[Ey,Bf,D.str.injEq]at hi;obtain⟨h1,h2⟩:=mu6 hl hi fun j hj y hy e=>hf j hj (by rw[Bp,hy,<-e];rfl);obtain⟨x1,x2⟩:=x;simp only at hi;subst hi;refine⟨x2,rfl,h1,by unfold Mw;rw[Bp,hl];rfl,fun u=>⟨?_,?_⟩⟩
  ·rw[h2 u];unfold Mw;rw[List.map_set]
  ·rw[h2 u];unfold Md;rw[List.map_set];apply Fu;intro j;rw[List.getElem?_set];split
   ·rename_i e;subst e;simp only[Ab,Bp,hl,Ey];rw[Ad (Ay.1 hl).1]
   ·rfl
theorem mu7 {α:Type}{f:α->D}{l:List (ByteArray × α)}{s:ByteArray}(h:D.str s∉Md l):at1 s l=none/\∀ u,Mw f (up1 s u l)=Mw f l++[f u]/\Md (up1 s u l)=Md l++[.str s]:=by
 have h0:at1 s l=none:=qm5.2 fun hm=>h (by
  obtain⟨x,hx,rfl⟩:=Bl.1 hm;exact Bl.2 ⟨x,hx,rfl⟩)
 refine⟨h0,fun u=>?_⟩;have:up1 s u l=l++[(s,u)]:=by
  clear h
  induction l with
  |nil=>rfl
  |cons x l ih=>
   obtain⟨x1,x2⟩:=x;simp only[at1]at h0;split at h0
   ·cases h0
   ·rename_i hx;simp only[up1,Ae hx,ih h0,Ac]
 rw[this];unfold Mw Md;simp
section
variable {E:Set}{Q:Exit->Sd->Prop}{ops:Array Oper}{draw:Bool}{rest:Todo}{way:Jh}{ty:TypeId}{pos:String}{af:Array Edge}{gd:Option (Nat × Bool)}{dst:Option Tmp}
variable {env:List (Nat × V)}{H:List (Nat × Ob)}{gl:List (Nat × List D)}{d:Nat}{t k e n:Nat}{x y z:Operand}{s:ByteArray}{K:List ByteArray}{α:Type}{f:α->D}{l:List (ByteArray × α)}{ok:Bool}{zv:V}
theorem jz1 [ht:TMap E.P t k e][hkk:TKey E.P k .str][hz:Jp E.P e (.d (.bool false))]
 (h1:s∈K->TR E draw ops Q rest ⟨(d,ka6 ok (.d (.bool true)) true)::env,H,gl⟩) (h2:s∉K->TR E draw ops Q rest ⟨(d,ka6 ok (.d (.bool false)) false)::env,H,gl⟩)
 (hx:Sd.ev ⟨env,H,gl⟩ x=some (.map n):=by exact rfl) (hox:Cn x=true:=by exact rfl) (hl:look n H=some (.map (Dq K) (Dr K)):=by exact rfl) (hy:Sd.ev ⟨env,H,gl⟩ y=some (.d (.str s)):=by exact rfl) (hoy:Cn y=true:=by exact rfl)
 (hd:d<E.C.nt:=by exact ltd rfl) (hg:Sd.gd ⟨env,H,gl⟩ ops ⟨some d,.lookup t x y ok,ty,pos,af,gd⟩=some true:=by exact rfl) (hw:way.known=false:=by exact rfl):
 TR E draw ops Q (.step ⟨some d,.lookup t x y ok,ty,pos,af,gd⟩ way rest) ⟨env,H,gl⟩:=
 mb2 hx hox hl hy hoy (.str _ _) hd hg hw kn0 (by simp[Dq,Dr]) (fun i z h3 h4 _=>by
  rw[rg8 h4];exact h1 (js7.1 (Bu h3))) fun h=>h2 fun hm=>h (js7.2 hm)
theorem jn6 [ht:TMap E.P t k e][hkk:TKey E.P k .str][hz:Jp E.P e (.d (.bool false))]
 (h1:s∈K->TR E draw ops Q rest ⟨(d,ka6 ok (.d (.bool true)) true)::env,H,gl⟩) (h2:s∉K->TR E draw ops Q rest ⟨(d,ka6 ok (.d (.bool false)) false)::env,H,gl⟩)
 (hx:Sd.ev ⟨env,H,gl⟩ x=some (.d (.map (Dq K) (Dr K))):=by exact rfl) (hox:Cn x=true:=by exact rfl) (hy:Sd.ev ⟨env,H,gl⟩ y=some (.d (.str s)):=by exact rfl) (hoy:Cn y=true:=by exact rfl)
 (hd:d<E.C.nt:=by exact ltd rfl) (hg:Sd.gd ⟨env,H,gl⟩ ops ⟨some d,.lookup t x y ok,ty,pos,af,gd⟩=some true:=by exact rfl) (hw:way.known=false:=by exact rfl):
 TR E draw ops Q (.step ⟨some d,.lookup t x y ok,ty,pos,af,gd⟩ way rest) ⟨env,H,gl⟩:=
 qb8 hx hox hy hoy (.str _ _) hd hg hw kn0 (by simp[Dq,Dr]) (fun i z h3 h4 _=>by
  rw[rg8 h4];exact h1 (js7.1 (Bu h3))) fun h=>h2 fun hm=>h (js7.2 hm)
theorem Rv [ht:TMap E.P t k e][hkk:TKey E.P k .str][hz:Jp E.P e zv]
 (h1:∀ v,at1 s l=some v->TR E draw ops Q rest ⟨(d,ka6 ok (.d (f v)) true)::env,H,gl⟩) (h2:at1 s l=none->TR E draw ops Q rest ⟨(d,ka6 ok zv false)::env,H,gl⟩)
 (hx:Sd.ev ⟨env,H,gl⟩ x=some (.map n):=by exact rfl) (hox:Cn x=true:=by exact rfl) (hl:look n H=some (.map (Md l) (Mw f l)):=by exact rfl) (hy:Sd.ev ⟨env,H,gl⟩ y=some (.d (.str s)):=by exact rfl) (hoy:Cn y=true:=by exact rfl)
 (hd:d<E.C.nt:=by exact ltd rfl) (hg:Sd.gd ⟨env,H,gl⟩ ops ⟨some d,.lookup t x y ok,ty,pos,af,gd⟩=some true:=by exact rfl) (hw:way.known=false:=by exact rfl):
 TR E draw ops Q (.step ⟨some d,.lookup t x y ok,ty,pos,af,gd⟩ way rest) ⟨env,H,gl⟩:=
 mb2 hx hox hl hy hoy (.str _ _) hd hg hw mg7 (by simp[Md,Mw]) (fun i z h3 h4 h5=>by
  obtain⟨v,_,h6,h7,_⟩:=mg8 (f:=f) h3 h5;rw[h4]at h7;cases h7;exact h1 v h6) fun h=>h2 (mu7 (f:=f) h).1
theorem jm0 [ht:TMap E.P t k e][hkk:TKey E.P k .str]{v:V}
 (h:TR E draw ops Q rest ⟨env,(n,.map (Dq (addN K s)) (Dr (addN K s)))::H,gl⟩)
 (hx:Sd.ev ⟨env,H,gl⟩ x=some (.map n):=by exact rfl) (hox:Cn x=true:=by exact rfl) (hl:look n H=some (.map (Dq K) (Dr K)):=by exact rfl) (hy:Sd.ev ⟨env,H,gl⟩ y=some (.d (.str s)):=by exact rfl) (hoy:Cn y=true:=by exact rfl)
 (hz:Sd.ev ⟨env,H,gl⟩ z=some v:=by exact rfl) (hoz:Cn z=true:=by exact rfl) (hu:ToD H v (.bool true):=by exact .d _) (hg:Sd.gd ⟨env,H,gl⟩ ops ⟨none,.mapUpdate t x y z,ty,pos,af,gd⟩=some true:=by exact rfl) (hw:Js draw way=true:=by exact rfl):
 TR E draw ops Q (.step ⟨none,.mapUpdate t x y z,ty,pos,af,gd⟩ way rest) ⟨env,H,gl⟩:=
 mb4 hx hox hl hy hoy hz hoz hu (.str _ _) hg hw kn0 (fun i hi _=>by
  rw[ra8];rw[ro1 (js7.1 (Bu hi))]at h;exact h) fun hn=>by
  rw[ra9 fun hm=>hn (js7.2 hm)]at h;simpa [Dq,Dr]using h
theorem mu8 [ht:TMap E.P t k e][hkk:TKey E.P k .str]{v:V}{a:α}
 (h:TR E draw ops Q rest ⟨env,(n,.map (Md (up1 s a l)) (Mw f (up1 s a l)))::H,gl⟩)
 (hx:Sd.ev ⟨env,H,gl⟩ x=some (.map n):=by exact rfl) (hox:Cn x=true:=by exact rfl) (hl:look n H=some (.map (Md l) (Mw f l)):=by exact rfl) (hy:Sd.ev ⟨env,H,gl⟩ y=some (.d (.str s)):=by exact rfl) (hoy:Cn y=true:=by exact rfl)
 (hz:Sd.ev ⟨env,H,gl⟩ z=some v:=by exact rfl) (hoz:Cn z=true:=by exact rfl) (hu:ToD H v (f a):=by exact .d _) (hg:Sd.gd ⟨env,H,gl⟩ ops ⟨none,.mapUpdate t x y z,ty,pos,af,gd⟩=some true:=by exact rfl) (hw:Js draw way=true:=by exact rfl):
 TR E draw ops Q (.step ⟨none,.mapUpdate t x y z,ty,pos,af,gd⟩ way rest) ⟨env,H,gl⟩:=
 mb4 hx hox hl hy hoy hz hoz hu (.str _ _) hg hw mg7 (fun i hi hf=>by
  obtain⟨v,_,_,_,h7⟩:=mg8 (f:=f) hi hf;rw[<-(h7 a).1,<-(h7 a).2];exact h) fun hn=>by
  obtain⟨_,h7⟩:=mu7 (f:=f) hn;rw[<-(h7 a).1,<-(h7 a).2];exact h
theorem ky0 {ks vs:List D}[ht:TMap E.P t k e](n:Nat)(h:TR E draw ops Q rest ⟨(d,.ptr n 0)::env,(n,.miter ks vs (List.range ks.length) none)::H,gl⟩)(hx:Sd.ev ⟨env,H,gl⟩ x=some (.d (.map ks vs)):=by exact rfl)(hox:Cn x=true:=by exact rfl)(hn:Sd.fresh ⟨env,H,gl⟩ n=true:=by exact rfl)
 (hd:d<E.C.nt:=by exact ltd rfl) (hg:Sd.gd ⟨env,H,gl⟩ ops ⟨some d,.range t x,ty,pos,af,gd⟩=some true:=by exact rfl) (hw:way.loud=true:=by exact rfl):TR E draw ops Q (.step ⟨some d,.range t x,ty,pos,af,gd⟩ way rest) ⟨env,H,gl⟩:=jo7 (qv7 hx hox hn) rfl hd hg rfl hw h
theorem mu9 [ht:TMap E.P t k e](n:Nat)(h:TR E draw ops Q rest ⟨(d,.ptr n 0)::env,(n,.miter [] [] [] none)::H,gl⟩)(hx:Sd.ev ⟨env,H,gl⟩ x=some (.d (.raw (.map none))):=by exact rfl)(hox:Cn x=true:=by exact rfl)(hn:Sd.fresh ⟨env,H,gl⟩ n=true:=by exact rfl)
 (hd:d<E.C.nt:=by exact ltd rfl) (hg:Sd.gd ⟨env,H,gl⟩ ops ⟨some d,.range t x,ty,pos,af,gd⟩=some true:=by exact rfl) (hw:way.loud=true:=by exact rfl):TR E draw ops Q (.step ⟨some d,.range t x,ty,pos,af,gd⟩ way rest) ⟨env,H,gl⟩:=jo7 (qv8 hx hox hn) rfl hd hg rfl hw h
theorem Xa {ks vs:List D}{left:List Nat}{cur:Option Nat}(hin:∀ i∈left,i<ks.length)(h1:∀ i k v,i∈left->ks[i]? =some k->vs[i]? =some v->TR E draw ops Q rest ⟨(d,.tup [.d (.bool true),.d k,.d v])::env,(n,.miter ks vs (left.erase i) (some i))::H,gl⟩)
 (h2:left=[]->TR E draw ops Q rest ⟨(d,.tup [.d (.bool false)])::env,H,gl⟩) (hx:Sd.ev ⟨env,H,gl⟩ x=some (.ptr n 0):=by exact rfl) (hox:Cn x=true:=by exact rfl) (hl:look n H=some (.miter ks vs left cur):=by exact rfl)
 (hd:d<E.C.nt:=by exact ltd rfl) (hg:Sd.gd ⟨env,H,gl⟩ ops ⟨some d,.next x false,ty,pos,af,gd⟩=some true:=by exact rfl) (hw:Js draw way=true:=by exact rfl):TR E draw ops Q (.step ⟨some d,.next x false,ty,pos,af,gd⟩ way rest) ⟨env,H,gl⟩:=
 rk7 hx hox hl hin hd rfl hg hw h1 h2
end
end Al
end
section
section
variable {E:Set}{Q:Exit->Sd->Prop}{ops:Array Oper}{draw:Bool}{rest:Todo}{way:Jh}{ty:TypeId}{pos:String}{af:Array Edge}{gd:Option (Nat × Bool)}{d:Nat}
variable {env:List (Nat × V)}{H:List (Nat × Ob)}{gl:List (Nat × List D)}
theorem Gi {ι:Type}{Wp:ι->Prop}{r:ι->V}{H1:ι->List (Nat × Ob)}{f:Nat}{fx:Operand}{xs:List Operand}{ats:Array TypeId}{fs gs vs args:List V}{H0:List (Nat × Ob)}[hf:TFun E.P f](h:∀ i,Wp i->TR E draw ops Q rest ⟨(d,r i)::env,H1 i++H,gl⟩)(hfx:Sd.ev ⟨env,H,gl⟩ fx=some (.clo (.func f) fs gs):=by exact rfl)(hof:Cn fx=true:=by exact rfl)(hx:Evs ⟨env,H,gl⟩ xs vs:=by(repeat (first|exact Evs.nil|apply Evs.cons rfl rfl));fail_if_success intros)(ha:Jo H (fs++vs++gs) args:=by(repeat (first|exact Jo.nil|apply Jo.cons (Mc.own rfl)|apply Jo.cons (Mc.nils _)|apply Jo.cons (Mc.same _)));fail_if_success intros)(hc:FnE E.P gl f args H0 (fun v H2=>∃ i,Wp i/\v=r i/\H2=H1 i))(hs:Qo H H0:=by(repeat (first|exact Qo.nil|apply Qo.cons rfl));fail_if_success intros)(hwm:Om H0=true:=by exact rfl)(hd:d<E.C.nt:=by exact ltd rfl)(hg:Sd.gd ⟨env,H,gl⟩ ops ⟨some d,.call {callee:=.value fx,args:=xs.toArray,argTypes:=ats},ty,pos,af,gd⟩=some true:=by exact rfl)(hw:Js draw way=true:=by exact rfl)(hfr:∀ i,Nq ⟨env,H,gl⟩ H0 (H1 i)=true:=by(intro _;exact rfl)):TR E draw ops Q (.step ⟨some d,.call {callee:=.value fx,args:=xs.toArray,argTypes:=ats},ty,pos,af,gd⟩ way rest) ⟨env,H,gl⟩:=
 qc4 (fun _ _ e=>by obtain⟨i,hi,rfl,rfl⟩:=e;exact⟨hfr i,h i hi⟩) (hfx:=hfx) (hof:=hof) (hx:=hx) (ha:=ha) (hc:=hc) (hs:=hs) (hwm:=hwm) (hd:=hd) (hg:=hg) (hw:=hw)
theorem kf3 (id:Nat){S:Sd}{x y:Code}{dr:Bool}(h:TC E (.seq (.seq (.region id ops dr) x) y) Q S):TC E (.seq (.seq (.region id ops dr) x) y) Q S:=h
theorem jq9 {x y:Code}{ι:Type}(ts ns:List Nat)(ch:ι->List (Nat × V))(oh:ι->List (Nat × Ob))(P:ι->Prop){env':List (Nat × V)}{H':List (Nat × Ob)}
 (h1:TC E x (Exit.Nf (fun S1=>∃ i,P i/\Wk E.C S1 ⟨ch i++env',oh i++H',gl⟩) Q) ⟨env,H,gl⟩) (h2:∀ i,P i->TC E y Q ⟨ch i++env',oh i++H',gl⟩) (hd:Drop ts env env':=by(repeat (first|exact Drop.nil|apply Drop.drop rfl|apply Drop.take rfl));fail_if_success intros) (hn:Drop ns H H':=by(repeat (first|exact Drop.nil|apply Drop.drop rfl|apply Drop.take rfl));fail_if_success intros):TC E (.seq x y) Q ⟨env,H,gl⟩:=jj2 _ P h1 h2
theorem jv6 {c:Code}{t e sz sz':Nat}(n:Nat)(hl:look t env=some (.nils sz'))(hn:Sd.fresh ⟨env,H,gl⟩ n=true)(h:TC E c Q ⟨(t,.own n 0)::env,(n,.row e sz true [] 0)::H,gl⟩):TC E c Q ⟨env,H,gl⟩:=fun a w ⟨β,hB⟩=>by
 have h1:=hB.Uv (e:=e) (sz:=sz) hn;refine h a w ⟨_,{h1 with env:=fun s v hs=>?_}⟩;dsimp only at hs;rw[j5]at hs;split at hs
 ·rename_i e';subst e';cases hs;obtain⟨x,h2,h3⟩:=hB.env t _ hl;exact⟨x,h2,fun e' sz'' sh xs hl'=>by rw[jx0];exact h3⟩
 ·exact h1.env s v hs
theorem mn7 {c:Code}(t m:Nat){ks us:List D}{ns:List Nat}{H':List (Nat × Ob)}(hl:look t env=some (.map m))(hm:look m H=some (.map ks us))(h2:Drop ns H H')(hn:(look m H').isNone=true)(hN:(E.C.N.all fun n=>(look n H').isSome)=true)
 (h:TC E c Q ⟨(t,.d (.map ks us))::env,H',gl⟩):TC E c Q ⟨env,H,gl⟩:=fun a w ⟨β,hB⟩=>by
 have hB':=hB.weak (S':=⟨env,H',gl⟩) (fun _ _ h=>h) (fun n ob h=>h2.look h) (fun _ _ h=>h) (fun n hn=>Bt.1 hN n hn);have hne:look m H'=none:=by simpa using hn
 have hk:Keeps w (Mut E.C.M0 β H) w (Mut E.C.M0 β H'):=Keeps.weak fun b o hm=>by
  rcases hm with hm|⟨m,ob,q1,q2,q3⟩
  ·exact .inl hm
  ·exact .inr ⟨m,ob,h2.look q1,q2,q3⟩
 have hfree:∀ ob b o,look m H=some ob->hb (β m).v=some b->¬Mut E.C.M0 β H' b o:=fun ob b o hlm hbm hmut=>by
  rcases hmut with q|⟨m2,ob2,q1,q2,q3⟩
  ·exact hB.out m ob b o hlm (.inl hbm) q
  ·have:m≠m2:=by rintro rfl;rw[hne]at q1;cases q1
   exact hB.apart m m2 b ob ob2 this hlm (h2.look q1) (.inl hbm) q2
 refine h a w ⟨β,{hB' with env:=fun s v hs=>?_}⟩;dsimp only at hs;rw[j5]at hs;split at hs
 ·rename_i e;subst e;cases hs;obtain⟨x,q1,rr,r1,rfl⟩:=hB.env t _ hl;obtain⟨r0,es,clock,r3,r4,r5,r6,r7⟩:=hB.obs m _ hm;rw[r1]at r3;cases r3;exact⟨_,q1,rr,es,clock,rfl,r4,fun o=>hfree _ rr o hm (by rw[r1];rfl),Hg.keep hk _ _ r5,Hg.keep hk _ _ r6,r7⟩
 ·exact hB'.env s v hs
variable {n:Nat}{x:Operand}{K:List ByteArray}{left:List Nat}{cur:Option Nat}
theorem qm6 {i:Nat}{s:ByteArray}(h:K[i]? =some s):(Al.Dq K)[i]? =some (.str s):=by
 unfold Al.Dq;rw[Bp,h];rfl
theorem qm7 {i:Nat}{s:ByteArray}(h:K[i]? =some s):(Al.Dr K)[i]? =some (.bool true):=by
 unfold Al.Dr;rw[Bp,h];rfl
theorem mn8 (hin:∀ i∈left,i<K.length)(h1:∀ i s,i∈left->K[i]? =some s->TR E draw ops Q rest ⟨(d,.tup [.d (.bool true),.d (.str s),.d (.bool true)])::env,(n,.miter (Al.Dq K) (Al.Dr K) (left.erase i) (some i))::H,gl⟩)
 (h2:left=[]->TR E draw ops Q rest ⟨(d,.tup [.d (.bool false)])::env,H,gl⟩) (hx:Sd.ev ⟨env,H,gl⟩ x=some (.ptr n 0):=by exact rfl) (hox:Cn x=true:=by exact rfl) (hl:look n H=some (.miter (Al.Dq K) (Al.Dr K) left cur):=by exact rfl)
 (hd:d<E.C.nt:=by exact ltd rfl) (hg:Sd.gd ⟨env,H,gl⟩ ops ⟨some d,.next x false,ty,pos,af,gd⟩=some true:=by exact rfl) (hw:Js draw way=true:=by exact rfl):TR E draw ops Q (.step ⟨some d,.next x false,ty,pos,af,gd⟩ way rest) ⟨env,H,gl⟩:=
 Al.Xa (fun i hi=>by rw[show(Al.Dq K).length=K.length from Ab ..];exact hin i hi) (fun i k v hi hk hv=>by
  have hi2:=hin i hi;have h3:K[i]? =some K[i]:=At hi2;rw[qm6 h3]at hk;rw[qm7 h3]at hv;cases hk;cases hv;exact h1 i K[i] hi h3) h2 hx hox hl hd hg hw
theorem qm8 (h:TR E draw ops Q rest ⟨(d,.tup [.d (.bool false)])::env,H,gl⟩)(hx:Sd.ev ⟨env,H,gl⟩ x=some (.ptr n 0):=by exact rfl)(hox:Cn x=true:=by exact rfl)(hl:look n H=some (.miter [] [] [] none):=by exact rfl)
 (hd:d<E.C.nt:=by exact ltd rfl) (hg:Sd.gd ⟨env,H,gl⟩ ops ⟨some d,.next x false,ty,pos,af,gd⟩=some true:=by exact rfl) (hw:Js draw way=true:=by exact rfl):TR E draw ops Q (.step ⟨some d,.next x false,ty,pos,af,gd⟩ way rest) ⟨env,H,gl⟩:=
 Al.Xa (fun i hi=>by cases hi) (fun i _ _ hi=>by cases hi) (fun _=>h) hx hox hl hd hg hw
theorem ky1 {i:Nat}{s:ByteArray}(hs:K[i]? =some s)(h:TR E draw ops Q rest ⟨(d,.tup [.d (.str s),.d (.bool true)])::env,H,gl⟩)(hx:Sd.ev ⟨env,H,gl⟩ x=some (.ptr n 0):=by exact rfl)(hox:Cn x=true:=by exact rfl)(hl:look n H=some (.miter (Al.Dq K) (Al.Dr K) left (some i)):=by exact rfl)
 (hd:d<E.C.nt:=by exact ltd rfl) (hg:Sd.gd ⟨env,H,gl⟩ ops ⟨some d,.entry x,ty,pos,af,gd⟩=some true:=by exact rfl) (hw:way.known=false:=by exact rfl):TR E draw ops Q (.step ⟨some d,.entry x,ty,pos,af,gd⟩ way rest) ⟨env,H,gl⟩:=
 jl9 (rk8 hx hox hl (qm6 hs) (qm7 hs)) rfl hd hg rfl hw h
end
end
section
namespace Al
def wd0:Wd:=⟨[],[],[]⟩
theorem ky2 {e:Ex}{s:ByteArray}:∀ {l:List Ex},e∈l->s∈jy9 e->s∈jc6 l
 |x::l,he,hs=>by
  simp only[jc6,Ap];rcases Bc.1 he with rfl|he
  ·exact .inl hs
  ·exact .inr (ky2 he hs)
theorem jk1 (l m:List Ex):jc6 (l++m)=jc6 l++jc6 m:=by
 rw[je2,je2,je2,List.flatMap_append]
theorem kg9 {e:Ex}(h:Dl e.kind=true):e.s∈jy9 e:=by
 rw[qm4,Ad h];simp
theorem rb0 {known:List ByteArray}{kind:Int}{exprs:List Ex}{s:ByteArray}(h:s∈jc6 (jt9 [] kind exprs)):s∈jc6 (jt9 known kind exprs):=by
 unfold jt9 at *;split
 ·rename_i hk;rw[Ad hk]at h;cases exprs with
  |nil=>exact h
  |cons e l=>
   simp only at h ⊢;split
   ·rename_i h1;rw[Ad ⟨h1.1,by simp⟩]at h;exact h
   ·split at h
    ·simp only[jc6,Ap];exact .inr h
    ·exact h
 ·rename_i hk;rw[Ae hk]at h;exact h
theorem rb1 {known:List ByteArray}{kind:Int}{chan base count e:Ex}{targets exprs:List Ex}{guards:List Gu}{s:ByteArray}(h:s∈jc6 (mk2 [] kind chan base count e targets exprs guards)):s∈jc6 (mk2 known kind chan base count e targets exprs guards):=by
 unfold mk2 at *;simp only[jk1,Ap]at h ⊢;rcases h with (h|h)|h
 ·exact .inl (.inl h)
 ·exact .inl (.inr (rb0 h))
 ·exact .inr h
mutual
theorem qm9 (w:Wd){s:ByteArray}:∀ p:Pr,s∈n0 wd0 p->s∈n0 w p
 |.mk kind name chan targets exprs rep guards l _ (.mk _ _ _ se _ _ sb),h=>by
  have h0:(if kind=17 then rg7 (at1 name wd0.procs) else [])=([]:List ByteArray):=by split<;>rfl
  simp only[n0]at h ⊢;rw[h0]at h;simp only[Ea,Ap]at h ⊢;rcases h with h|h|h|h
  ·exact .inl (.inl (rb1 h))
  ·exact .inr (.inl (kh0 w sb h))
  ·exact .inr (.inr (.inl (mv0 w guards h)))
  ·exact .inr (.inr (.inr (kh0 w l h)))
theorem kh0 (w:Wd){s:ByteArray}:∀ l:List Pr,s∈je3 wd0 l->s∈je3 w l
 |[],h=>h
 |p::l,h=>by
  simp only[je3,Ap]at h ⊢;exact h.imp (qm9 w p) (kh0 w l)
theorem mv0 (w:Wd){s:ByteArray}:∀ l:List Gu,s∈ji7 wd0 l->s∈ji7 w l
 |[],h=>h
 |.mk _ _ _ _ _ _ _ body::l,h=>by
  simp only[ji7,Ap]at h ⊢;exact h.imp (kh0 w body) (mv0 w l)
end
def qn0 (l:List Ex):Prop:=∀ e∈l,Dl e.kind=true
mutual
def rt7:Pr->Prop
 |.mk _ _ _ targets _ _ guards l _ (.mk sk _ _ se _ _ sb)=>qn0 targets/\(sk=3->Dl se.kind=true)/\ky3 sb/\mg9 guards/\ky3 l
def ky3:List Pr->Prop
 |[]=>True
 |p::l=>rt7 p/\ky3 l
def mg9:List Gu->Prop
 |[]=>True
 |.mk _ _ _ _ targets _ _ body::l=>qn0 targets/\ky3 body/\mg9 l
end
section
variable (G:ByteArray->Prop)
structure Qw (w:Wd):Prop where
 is:∀ x∈w.is,G x.2
 procs:∀ x∈w.procs,∀ s∈x.2.wr,G s
variable {G}
theorem qn1 {is:List (ByteArray × ByteArray)}(hi:∀ x∈is,G x.2){s b:ByteArray}(h:Base is s b):G s->G b:=by
 induction h with
 |done=>exact id
 |step h _ ih=>exact fun _=>ih (hi _ (mg6 h))
theorem mn9 {is:List (ByteArray × ByteArray)}(hi:∀ x∈is,G x.2){s:ByteArray}(h:G s):G (Dw is s):=by
 unfold Dw;split
 ·rename_i hex;exact qn1 hi (Classical.choose_spec hex) h
 ·exact h
theorem ks3 {q:Option Pc}{e:Ex}:∀ {l:List Ex} {fs:List Fo},e∈Ky q l fs->e∈l/\jc3 e=true
 |[],fs,h=>by simp[Ky]at h
 |x::l,fs,h=>by
  simp only[Ky,Ap]at h;rcases h with h|h
  ·split at h
   ·rename_i hc;simp only[Bn]at h;subst h;simp only[Aa]at hc;exact⟨Az,hc.1⟩
   ·cases h
  ·have:=ks3 h;exact⟨Bb _ this.1,this.2⟩
theorem ky4 {e:Ex}(h:jc3 e=true):Dl e.kind=true:=by
 simp only[jc3,Bm,Bx]at h;rcases h with h|h<;>rw[h]<;>rfl
theorem mh0 {e:Ex}:∀ {l:List Gu},e∈jh7 l->mg9 l->Dl e.kind=true/\∀ s∈jy9 e,s∈jc6 (jd4 l)
 |[],h,_=>by simp[jh7]at h
 |.mk _ _ cond chan targets values time body::l,h,⟨h1,h2,h3⟩=>by
  simp only[jh7,Ap]at h;rcases h with h|h
  ·refine⟨h1 e h,fun s hs=>?_⟩;simp only[jd4,rx2,jk1,Ap];exact .inl (.inl (.inr (ky2 h hs)))
  ·obtain⟨h4,h5⟩:=mh0 h h3;refine⟨h4,fun s hs=>?_⟩;simp only[jd4,jk1,Ap];exact .inr (h5 s hs)
mutual
theorem mo0 {w:Wd}(hw:Qw G w):∀ p:Pr,rt7 p->(∀ s∈n0 wd0 p,G s)->∀ s∈ka7 w p,G s
 |.mk kind name chan targets exprs rep guards l _ (.mk sk _ _ se _ _ sb),ht,hs,s,h=>by
  obtain⟨h1,h2,h3,h4,h5⟩:=ht;have hx:∀ x∈jc6 (mk2 [] kind chan rep.base rep.count se targets exprs guards),G x:=fun x hx=>hs x (by
   simp only[n0,Ap];exact .inl (.inl hx))
  simp only[ka7,Ap]at h;rcases h with (h|h)|h|h|h
  ·obtain⟨e,he,rfl⟩:=Bl.1 h;refine mn9 hw.is ?_;simp only[Ap]at he;rcases he with (he|he)|he
   ·exact hx _ (by
     simp only[mk2,jk1,Ap];exact .inl (.inl (.inr (ky2 he (kg9 (h1 e he))))))
   ·obtain⟨h6,h7⟩:=mh0 he h4;exact hx _ (by
     simp only[mk2,jk1,Ap];exact .inr (h7 _ (kg9 h6)))
   ·split at he
    ·rename_i hk;obtain⟨h6,h7⟩:=ks3 he;exact hx _ (by
      simp only[mk2,jk1,Ap];refine .inl (.inr ?_);unfold jt9;rw[Ae (by omega)];exact ky2 h6 (kg9 (ky4 h7)))
    ·cases he
  ·split at h
   ·cases hq:at1 name w.procs with
    |some q=>
     rw[hq]at h;exact hw.procs _ (mg6 hq) s h
    |none=>rw[hq]at h;cases h
   ·cases h
  ·exact kh1 hw sb h3 (fun s h=>hs s (by simp only[n0,Ap];exact .inr (.inl h))) s h
  ·exact mv1 hw guards h4 (fun s h=>hs s (by simp only[n0,Ap];exact .inr (.inr (.inl h)))) s h
  ·exact kh1 hw l h5 (fun s h=>hs s (by simp only[n0,Ap];exact .inr (.inr (.inr h)))) s h
theorem kh1 {w:Wd}(hw:Qw G w):∀ l:List Pr,ky3 l->(∀ s∈je3 wd0 l,G s)->∀ s∈km9 w l,G s
 |[],_,_,s,h=>by simp[km9]at h
 |p::l,ht,hs,s,h=>by
  simp only[km9,Ap]at h;rcases h with h|h
  ·exact mo0 hw p ht.1 (fun s h=>hs s (by simp only[je3,Ap];exact .inl h)) s h
  ·exact kh1 hw l ht.2 (fun s h=>hs s (by simp only[je3,Ap];exact .inr h)) s h
theorem mv1 {w:Wd}(hw:Qw G w):∀ l:List Gu,mg9 l->(∀ s∈ji7 wd0 l,G s)->∀ s∈kx9 w l,G s
 |[],_,_,s,h=>by simp[kx9]at h
 |.mk _ _ _ _ _ _ _ body::l,ht,hs,s,h=>by
  simp only[kx9,Ap]at h;rcases h with h|h
  ·exact kh1 hw body ht.2.1 (fun s h=>hs s (by simp only[ji7,Ap];exact .inl h)) s h
  ·exact mv1 hw l ht.2.2 (fun s h=>hs s (by simp only[ji7,Ap];exact .inr h)) s h
end
theorem mo1 {α:Type}{s:ByteArray}{v:α}{x:ByteArray × α}:∀ {l:List (ByteArray × α)},x∈up1 s v l->x∈l\/x.2=v
 |[],h=>by simp only[up1,Bn]at h;subst h;exact .inr rfl
 |(y,u)::l,h=>by
  simp only[up1]at h;split at h
  ·rcases Bc.1 h with rfl|h
   ·exact .inr rfl
   ·exact .inl (Bb _ h)
  ·rcases Bc.1 h with rfl|h
   ·exact .inl Az
   ·exact(mo1 h).imp (Bb _) id
theorem mz8 {w:Wd}(hw:Qw G w)(rep:ByteArray)(sk:Int)(sn:List ByteArray)(se:ByteArray)(sf:List Fo)(h:sk=3->G se):Qw G (Kt w rep sk sn se sf):=by
 unfold Kt;dsimp only;split
 ·rename_i hk;split
  ·exact⟨fun x hx=>by
    rcases mo1 hx with hx|hx
    ·exact hw.is x hx
    ·rw[hx];exact h hk,hw.procs⟩
  ·exact⟨hw.is,hw.procs⟩
 ·exact⟨hw.is,hw.procs⟩
theorem mz9 {w:Wd}(hw:Qw G w)(sk:Int)(sn:List ByteArray)(sf:List Fo)(occ wr:List ByteArray)(h:∀ s∈wr,G s):Qw G (Kb w sk sn sf occ wr):=by
 unfold Kb;split
 ·split
  ·exact⟨hw.is,fun x hx=>by
    rcases mo1 hx with hx|hx
    ·exact hw.procs x hx
    ·rw[hx];exact h⟩
  ·exact hw
 ·exact hw
mutual
theorem mh1:∀ (p:Pr) {w:Wd},Qw G w->rt7 p->(∀ s∈n0 wd0 p,G s)->Qw G (x7 w p)
 |.mk kind name chan targets exprs rep guards l _ (.mk sk _ sn se _ sf sb),w,hw,ht,hs=>by
  obtain⟨h1,h2,h3,h4,h5⟩:=ht;have q1:∀ s∈je3 wd0 sb,G s:=fun s h=>hs s (by simp only[n0,Ap];exact .inr (.inl h));have q2:∀ s∈ji7 wd0 guards,G s:=fun s h=>hs s (by simp only[n0,Ap];exact .inr (.inr (.inl h)));have q3:∀ s∈je3 wd0 l,G s:=fun s h=>hs s (by simp only[n0,Ap];exact .inr (.inr (.inr h)));have g1:=mz8 hw rep.name sk sn se.s sf fun hk=>hs _ (by
   simp only[n0,mk2,jk1,Ap];refine .inl (.inl (.inl (.inl (.inl ?_))));simp only[jc6,Ap];exact .inr (.inr (.inr (.inl (kg9 (h2 hk))))))
  have g2:=js8 sb g1 h3 q1;simp only[x7];refine js8 l (ks4 guards (mz9 g2 _ _ _ _ _ fun s hm=>?_) h4 q2) h5 q3;cases sb with
  |nil=>cases hm
  |cons b r=>
   simp only at hm;exact mo0 g2 b h3.1 (fun s h=>q1 s (by simp only[je3,Ap];exact .inl h)) s hm
theorem js8:∀ (l:List Pr) {w:Wd},Qw G w->ky3 l->(∀ s∈je3 wd0 l,G s)->Qw G (Gb w l)
 |[],w,hw,_,_=>by simpa [Gb]using hw
 |p::l,w,hw,ht,hs=>by
  simp only[Gb];exact js8 l (mh1 p hw ht.1 fun s h=>hs s (by simp only[je3,Ap];exact .inl h)) ht.2 fun s h=>hs s (by simp only[je3,Ap];exact .inr h)
theorem ks4:∀ (l:List Gu) {w:Wd},Qw G w->mg9 l->(∀ s∈ji7 wd0 l,G s)->Qw G (Gz w l)
 |[],w,hw,_,_=>by simpa [Gz]using hw
 |.mk _ _ _ _ _ _ _ body::l,w,hw,ht,hs=>by
  simp only[Gz];exact ks4 l (js8 body hw ht.2.1 fun s h=>hs s (by simp only[ji7,Ap];exact .inl h)) ht.2.2 fun s h=>hs s (by simp only[ji7,Ap];exact .inr h)
end
end
theorem rx3 {p:Pr}{w0:Wd}(hi:w0.is=[])(hp:w0.procs=[])(ht:rt7 p){s:ByteArray}(h:s∈ka7 (x7 w0 p) p):s∈n0 (x7 w0 p) p:=by
 have hs:∀ s∈n0 wd0 p,s∈n0 (x7 w0 p) p:=fun s h=>qm9 _ p h;have hw:Qw (fun s=>s∈n0 (x7 w0 p) p) w0:=⟨fun x hx=>(by rw[hi]at hx;cases hx),fun x hx=>(by rw[hp]at hx;cases hx)⟩;exact mo0 (mh1 p hw ht hs) p ht hs s h
end Al
end
section
namespace Al
open Classical in
noncomputable def num (s:ByteArray):Nat:=if h:∃ k,s=Sc.newName k then Classical.choose h+1 else 0
theorem ro2 (k:Nat):num (Sc.newName k)=k+1:=by
 have hex:∃ j,Sc.newName k=Sc.newName j:=⟨k,rfl⟩;unfold num;rw[dif_pos hex,<-Sc.Mq (Classical.choose_spec hex)]
open Classical in
noncomputable def rk (has:ByteArray->Prop)(s:ByteArray):Nat:=if has s then 0 else num s
theorem rg9 {has:ByteArray->Prop}{k:Nat}(h:¬has (Sc.newName k)):rk has (Sc.newName k)=k+1:=by
 unfold rk;rw[Ae h,ro2]
theorem js9 {e:Ex}(h:Lx.Iw e=true):Dl e.kind=true:=by
 unfold Lx.Iw at h;simp only[Aa,Bm,Ak]at h;rcases h.1 with h|h<;>rw[h]<;>rfl
theorem rb2 {s:Sp}(h:Lx.Kh s=true)(hk:s.kind=3):Dl s.e.kind=true:=by
 unfold Lx.Kh at h;rw[Ae (by omega),Ae (by omega),Ad hk]at h;simp only[Aa]at h;exact js9 h.1.1.1.1.2
section
variable (r:ByteArray->Nat)
mutual
def isR:Pr->Prop
 |.mk _ _ _ _ _ _ guards l _ (.mk sk _ sn se _ _ sb)=>(sk=3->∀ x∈sn.head?,r se.s<r x)/\rb3 sb/\rh0 guards/\rb3 l
def rb3:List Pr->Prop
 |[]=>True
 |p::l=>isR p/\rb3 l
def rh0:List Gu->Prop
 |[]=>True
 |.mk _ _ _ _ _ _ _ body::l=>rb3 body/\rh0 l
end
def Kq (w:Wd):Prop:=∀ x∈w.is,r x.2<r x.1
variable {r}
theorem Kq.rank {w:Wd}(h:Kq r w):Rank w.is:=⟨r,h⟩
theorem mv2 {α:Type}{s:ByteArray}{v:α}{x:ByteArray × α}:∀ {l:List (ByteArray × α)},x∈up1 s v l->x∈l\/x=(s,v)
 |[],h=>by simp only[up1,Bn]at h;exact .inr h
 |(y,u)::l,h=>by
  simp only[up1]at h;split at h
  ·rename_i hy;rcases Bc.1 h with rfl|h
   ·rw[hy];exact .inr rfl
   ·exact .inl (Bb _ h)
  ·rcases Bc.1 h with rfl|h
   ·exact .inl Az
   ·exact(mv2 h).imp (Bb _) id
theorem kn1 {w:Wd}(hw:Kq r w)(rep:ByteArray)(sk:Int)(sn:List ByteArray)(se:ByteArray)(sf:List Fo)(h:sk=3->∀ x∈sn.head?,r se<r x):Kq r (Kt w rep sk sn se sf):=by
 unfold Kt;dsimp only;split
 ·rename_i hk;split
  ·rename_i s l;intro x hx;rcases mv2 hx with hx|rfl
   ·exact hw x hx
   ·exact h hk s rfl
  ·exact hw
 ·exact hw
theorem qn2 (w:Wd)(sk:Int)(sn:List ByteArray)(sf:List Fo)(occ wr:List ByteArray):(Kb w sk sn sf occ wr).is=w.is:=by
 unfold Kb;split
 ·split<;>rfl
 ·rfl
mutual
theorem ks5:∀ (p:Pr) {w:Wd},Kq r w->isR r p->Kq r (x7 w p)
 |.mk _ _ _ _ _ rep guards l _ (.mk sk _ sn se _ sf sb),w,hw,⟨h1,h2,h3,h4⟩=>by
  simp only[x7];refine jo8 l (kn2 guards ?_ h3) h4;intro x hx;rw[qn2]at hx;exact jo8 sb (kn1 hw rep.name sk sn se.s sf h1) h2 x hx
theorem jo8:∀ (l:List Pr) {w:Wd},Kq r w->rb3 r l->Kq r (Gb w l)
 |[],w,hw,_=>by simpa [Gb]using hw
 |p::l,w,hw,⟨h1,h2⟩=>by
  simp only[Gb];exact jo8 l (ks5 p hw h1) h2
theorem kn2:∀ (l:List Gu) {w:Wd},Kq r w->rh0 r l->Kq r (Gz w l)
 |[],w,hw,_=>by simpa [Gz]using hw
 |.mk _ _ _ _ _ _ _ body::l,w,hw,⟨h1,h2⟩=>by
  simp only[Gz];exact kn2 l (jo8 body hw h1) h2
end
end
def Qn (σ:Sc.W):Prop:=∀ s,∀ x∈σ.env s,∃ k:Nat,x.fresh=Sc.newName k/\(k:Int)<=σ.count/\¬σ.has (Sc.newName k)
theorem ji8 {σ τ:Sc.W}(h:τ.tk=σ.tk):τ.has=σ.has:=by
 funext s;unfold Sc.W.has;rw[h]
theorem Qn.grow {σ τ:Sc.W}{n:Nat}(h:Qn σ)(g:Sc.Grow σ τ n)(h0:0<=σ.count):Qn τ:=fun s x hx=>by
 rw[g.env]at hx;obtain⟨k,h1,h2,h3⟩:=h s x hx;have:=g.lo h0;exact⟨k,h1,by omega,by rw[ji8 g.tk];exact h3⟩
theorem mv3:∀ (ns:List ByteArray) {xs:List Sc.Ent} {f:ByteArray->List Sc.Ent} {s:ByteArray} {x:Sc.Ent},x∈Sc.Cm f ns xs s->x∈f s\/x∈xs
 |[],xs,f,s,x,h=>by simp only[Sc.Cm]at h;exact .inl h
 |n::ns,[],f,s,x,h=>by simp only[Sc.Cm]at h;exact .inl h
 |n::ns,y::xs,f,s,x,h=>by
  simp only[Sc.Cm]at h;rcases mv3 ns h with h|h
  ·split at h
   ·rcases Ap.1 h with h|h
    ·exact .inl h
    ·rw[Bn]at h;subst h;exact .inr Az
   ·exact .inl h
  ·exact .inr (Bb _ h)
theorem Qn.push {σ:Sc.W}(h:Qn σ){ns:List ByteArray}{xs:List Sc.Ent}{c:Int}{τ:Sc.W}(ht:τ.tk=σ.tk)(hc:σ.count<=τ.count)(hi:Sc.Incr σ.has c xs τ.count){e:ByteArray->List Sc.Ent}(he:e=Sc.Cm σ.env ns xs):Qn {τ with env:=e}:=fun s x hx=>by
 subst he;have hh:({τ with env:=Sc.Cm σ.env ns xs}:Sc.W).has=σ.has:=ji8 ht;rw[hh];rcases mv3 ns hx with hx|hx
 ·obtain⟨k,h1,h2,h3⟩:=h s x hx;exact⟨k,h1,by show(k:Int)<=τ.count;omega,h3⟩
 ·obtain⟨k,h1,_,h2,h3⟩:=Sc.Sg hi x hx;exact⟨k,h1,h2,h3⟩
structure HeadR (σ:Sc.W)(s:Sp)(a:Sc.Head × Sc.W):Prop where
 mid:∃ c,Sc.Incr σ.has σ.count a.1.own c/\Sc.Incr σ.has c a.1.inner a.2.count
 names:a.1.names=a.1.own.map (·.fresh)
 e:∃ τ:Sc.W,τ.env=σ.env/\a.1.e=(Cj τ s.e).1/\a.2=(Cj τ s.e).2
open Sc in
theorem rx4 (σ:Sc.W)(h0:0<=σ.count)(s:Sp):HeadR σ s (Sc.Gl σ s):=by
 unfold Sc.Gl;dsimp only;obtain⟨o,ho⟩:∃ o,o=Cs (Cr σ s.names) (s.names.map fun _=>Dv σ.env s):=⟨_,rfl⟩;have i1:=jj6 (s.names.map fun _=>Dv σ.env s) (Cr σ s.names) h0;have g1:=(Jw σ s.names).trans (Ip (s.names.map fun _=>Dv σ.env s) (Cr σ s.names));rw[<-ho]at i1 g1 ⊢;have c1:=g1.lo h0;obtain⟨i,hi⟩:∃ i,i=Cs (Cr o.2 (s.formals.map (·.name))) (s.formals.map fun f=>(false,Ct σ.env f.type)):=⟨_,rfl⟩;have i2:=jj6 (s.formals.map fun f=>(false,Ct σ.env f.type)) (Cr o.2 (s.formals.map (·.name))) (by show 0<=o.2.count;omega);have g2:=(Jw o.2 (s.formals.map (·.name))).trans (Ip (s.formals.map fun f=>(false,Ct σ.env f.type)) (Cr o.2 (s.formals.map (·.name))));rw[<-hi]at i2 g2 ⊢;have c2:=g2.lo (by omega);have g3:=(Kj i.2 s.type).trans (Ns (f:=Cw) (fun _=>1) (fun f σ=>Jr σ f) s.formals (Dm i.2 s.type).2);have c3:=g3.lo (by omega);have g4:=Cy s.e (v7 Cw (Dm i.2 s.type).2 s.formals).2;have c4:=g4.lo (by omega);have e1:W.has (Cr σ s.names)=σ.has:=rfl;have e2:W.has (Cr o.2 (s.formals.map (·.name)))=σ.has:=by
  show o.2.has=σ.has;exact ji8 g1.tk
 rw[e1]at i1;rw[e2]at i2;refine⟨⟨o.2.count,i1,i2.up (by dsimp only;omega)⟩,rfl,(v7 Cw (Dm i.2 s.type).2 s.formals).2,?_,rfl,rfl⟩;rw[g3.env,g2.env,g1.env]
theorem rx5 {has:ByteArray->Prop}{σ τ:Sc.W}(he:Qn σ)(hh:has=σ.has)(ht:τ.env=σ.env)(s:ByteArray)(hf:(s,false)∈(Sc.nameOf τ s).2.ev->has s){k:Nat}(hk:σ.count<k)(hn:¬has (Sc.newName k)):rk has (Sc.nameOf τ s).1<rk has (Sc.newName k):=by
 rw[rg9 hn];unfold Sc.nameOf at hf ⊢;rw[ht]at hf ⊢;cases hl:(σ.env s).getLast? with
 |some x=>
  obtain⟨j,h1,h2,h3⟩:=he s x (List.mem_of_getLast? hl);dsimp only;rw[h1,rg9 (by rw[hh];exact h3)];omega
 |none=>
  rw[hl]at hf;have:=hf (by simp[Sc.step]);dsimp only;unfold rk;rw[Ad this];omega
theorem rx6 (σ:Sc.W)(e:Ex)(h:Dl e.kind=true):(Cj σ e).1.s=(Sc.nameOf σ e.s).1/\(Sc.nameOf σ e.s).2.ev<+:(Cj σ e).2.ev:=by
 cases e with
 |mk kind op ty n s l=>
  simp only[Ex.kind]at h;simp only[Cj,h,if_true,Ex.s];exact⟨trivial,(Sc.Lb l _).pre⟩
open Sc in
theorem ro3 (σ:Sc.W)(h0:0<=σ.count)(kind:Int)(name:ByteArray)(chan:Ex)(targets exprs:List Ex)(rep:Rp):Sc.Incr σ.has σ.count (Fz σ kind name chan targets exprs rep).1.own (Fz σ kind name chan targets exprs rep).2.count:=by
 have ga:Sc.Grow σ (if kind=17 then nameOf σ name else (name,σ)).2 1:=by
  split
  ·exact Ia σ name
  ·exact Sc.Grow.refl _ _
 unfold Fz;dsimp only;generalize (if kind=17 then nameOf σ name else (name,σ))=a at ga ⊢;have g4:=((ga.trans (Cy chan a.2)).trans (Dz targets _)).trans (Ib (Db σ.env kind chan exprs) _ exprs);generalize Du (Db σ.env kind chan exprs) (v7 Cj (Cj a.2 chan).2 targets).2 exprs=x at g4 ⊢;have q1:=g4.lo h0;unfold Jc;split
 ·exact q1
 ·dsimp only;obtain⟨k,k1,k2,k3,k4⟩:=jp9 x.2 (by omega);have g5:=Cy rep.base (Cu x.2).2;have g6:=Cy rep.count (Cj (Cu x.2).2 rep.base).2;have q5:=g5.lo (by omega);have q6:=g6.lo (by omega);rw[ji8 g4.tk]at k3;exact⟨k,k1,by omega,k3,by show(k:Int)<=_;omega⟩
open Sc in
mutual
theorem qn3 {has:ByteArray->Prop}:∀ (p:Pr) (σ:Sc.W),Ik p->Qn σ->0<=σ.count->has=σ.has->(∀ s,(s,false)∈(Fx σ p).2.ev->has s)->isR (rk has) (Fx σ p).1
 |.mk kind name chan targets exprs rep guards l procs (.mk sk st sn se spp sf sb),σ,ha,he,h0,hh,hf=>by
  simp only[Ik]at ha;obtain⟨a1,a2,a3,a4⟩:=ha;have hz:=jo6 _ (by rw[Lx.Iy,Aa]at a1;exact a1.1);have hsp:kind=18->Lx.Kh (.mk sk st sn se spp sf sb)=true:=fun hk=>by
   rw[Lx.Iy,Aa]at a1;exact Lx.Ol _ a1.1 hk
  simp only[Pr.kind,Pr.rep,Pr.spec]at hz;have gh:=Nt σ kind name chan targets exprs rep;have ih:=ro3 σ h0 kind name chan targets exprs rep;simp only[Fx]at hf ⊢;generalize Fz σ kind name chan targets exprs rep=a at gh ih hf ⊢;have q1:=gh.lo h0;have e1:a.2.has=σ.has:=ji8 gh.tk;by_cases hk:kind=18
  ·rw[Ad hk]at hf ⊢;have gs:=Nh a.2 (.mk sk st sn se spp sf []);have hs:=rx4 a.2 (by omega) (.mk sk st sn se spp sf []);generalize Gl a.2 (.mk sk st sn se spp sf [])=s at gs hs hf ⊢;have q2:=gs.lo (by omega);obtain⟨⟨c,i1,i2⟩,hn,τ,t1,t2,t3⟩:=hs;rw[e1]at i1 i2;have l1:=i1.le;have l2:=i2.le;have gb:=Gy sb {s.2 with env:=Cm σ.env (sf.map (·.name)) s.1.inner};have tb:=jz2 (has:=has) sb {s.2 with env:=Cm σ.env (sf.map (·.name)) s.1.inner} a2 (Qn.push he (gs.tk.trans gh.tk) (by omega) i2 rfl) (by dsimp only;omega) (by rw[hh];exact(ji8 (gs.tk.trans gh.tk)).symm);generalize Ga {s.2 with env:=Cm σ.env (sf.map (·.name)) s.1.inner} sb=b at gb tb hf ⊢;have q3:=gb.lo (by dsimp only;omega);dsimp only at q3;have htb:b.2.tk=σ.tk:=gb.tk.trans (gs.tk.trans gh.tk);have gg:=Ir guards {b.2 with env:=Cm σ.env sn s.1.own};have tg:=ky5 (has:=has) guards {b.2 with env:=Cm σ.env sn s.1.own} a3 (Qn.push he htb (by omega) (i1.up (by omega)) rfl) (by dsimp only;omega) (by rw[hh];exact(ji8 htb).symm);generalize Gm {b.2 with env:=Cm σ.env sn s.1.own} guards=g at gg tg hf ⊢;have q4:=gg.lo (by dsimp only;omega);dsimp only at q4;have htg:g.2.tk=σ.tk:=gg.tk.trans htb;have gm:=Gy l g.2;have tm:=jz2 (has:=has) l g.2 a4 (fun s' x hx=>by
    rw[gg.env]at hx;obtain⟨k,r1,r2,r3⟩:=Qn.push he htb (τ:=b.2) (by omega) (i1.up (by omega)) rfl s' x hx;refine⟨k,r1,by dsimp only at r2;omega,?_⟩;rw[ji8 htg];rw[ji8 (σ:=σ) (by exact htb)]at r3;exact r3) (by omega) (by rw[hh];exact(ji8 htg).symm)
   generalize Ga g.2 l=m at gm tm hf ⊢;dsimp only at hf ⊢;have p1:∀ x∈g.2.ev,x∈m.2.ev:=fun x hx=>gm.pre.subset hx;have p2:∀ x∈b.2.ev,x∈m.2.ev:=fun x hx=>p1 x (gg.pre.subset hx);have p3:∀ x∈s.2.ev,x∈m.2.ev:=fun x hx=>p2 x (gb.pre.subset hx);simp only[isR];refine⟨fun h3 x hx=>?_,tb fun s' h'=>hf s' (p2 _ h'),tg fun s' h'=>hf s' (p1 _ h'),tm fun s' h'=>hf s' h'⟩;rw[hn]at hx;cases ho:s.1.own with
   |nil=>rw[ho]at hx;cases hx
   |cons y ys=>
    rw[ho]at hx i1;simp only[Aq,List.head?_cons,Option.mem_def,Bf]at hx;subst hx;obtain⟨k,k1,k2,k3,_⟩:=i1;have hek:Dl se.kind=true:=rb2 (hsp hk) h3;obtain⟨x1,x2⟩:=rx6 τ se hek;rw[k1,t2];simp only[Sp.e];rw[x1];refine rx5 he hh (by rw[t1,gh.env]) se.s (fun hm=>hf _ (p3 _ ?_)) (by omega) (by rw[hh];exact k3);rw[t3];exact x2.subset hm
  ·rw[Ae hk]at hf ⊢;have hsp:=hz.2.1 hk;simp only[sp0,Sp.mk.injEq]at hsp;obtain⟨rfl,rfl,rfl,rfl,rfl,rfl,rfl⟩:=hsp;have gg:=Ir guards {a.2 with env:=Cm σ.env (if rep.name=ByteArray.empty then [] else [rep.name]) a.1.own};rw[show σ.has=σ.has from rfl]at ih;have tg:=ky5 (has:=has) guards {a.2 with env:=Cm σ.env (if rep.name=ByteArray.empty then [] else [rep.name]) a.1.own} a3 (Qn.push he gh.tk (by omega) ih rfl) (by dsimp only;omega) (by rw[hh];exact e1.symm);generalize Gm {a.2 with env:=Cm σ.env (if rep.name=ByteArray.empty then [] else [rep.name]) a.1.own} guards=g at gg tg hf ⊢;have q4:=gg.lo (by dsimp only;omega);dsimp only at q4;have htg:g.2.tk=σ.tk:=gg.tk.trans gh.tk;have gm:=Gy l g.2;have tm:=jz2 (has:=has) l g.2 a4 (fun s' x hx=>by
    rw[gg.env]at hx;obtain⟨k,r1,r2,r3⟩:=Qn.push he gh.tk (τ:=a.2) (by omega) ih rfl s' x hx;refine⟨k,r1,by dsimp only at r2;omega,?_⟩;rw[ji8 htg];rw[ji8 (σ:=σ) (by exact gh.tk)]at r3;exact r3) (by omega) (by rw[hh];exact(ji8 htg).symm)
   generalize Ga g.2 l=m at gm tm hf ⊢;dsimp only at hf ⊢;simp only[isR,rb3];exact⟨fun h=>by omega,trivial,tg fun s' h'=>hf s' (gm.pre.subset h'),tm fun s' h'=>hf s' h'⟩
theorem jz2 {has:ByteArray->Prop}:∀ (l:List Pr) (σ:Sc.W),ja1 l->Qn σ->0<=σ.count->has=σ.has->(∀ s,(s,false)∈(Ga σ l).2.ev->has s)->rb3 (rk has) (Ga σ l).1
 |[],σ,_,_,_,_,_=>by simp[Ga,rb3]
 |p::l,σ,ha,he,h0,hh,hf=>by
  simp only[Ga]at hf ⊢;have g:=Ll p σ;have g2:=Gy l (Fx σ p).2;have:=g.lo h0;exact⟨qn3 p σ ha.1 he h0 hh fun s h=>hf s (g2.pre.subset h),jz2 l (Fx σ p).2 ha.2 (he.grow g h0) (by omega) (by rw[hh];exact(ji8 g.tk).symm) hf⟩
theorem ky5 {has:ByteArray->Prop}:∀ (l:List Gu) (σ:Sc.W),je1 l->Qn σ->0<=σ.count->has=σ.has->(∀ s,(s,false)∈(Gm σ l).2.ev->has s)->rh0 (rk has) (Gm σ l).1
 |[],σ,_,_,_,_,_=>by simp[Gm,rh0]
 |.mk kind name cond chan targets values time body::l,σ,ha,he,h0,hh,hf=>by
  simp only[Gm,Iu]at hf ⊢;have gh:=Nr σ cond chan targets values time;generalize Hl σ cond chan targets values time=a at gh hf ⊢;have q1:=gh.lo h0;have g:=Gy body a.2;have q2:=g.lo (by omega);have g2:=Ir l (Ga a.2 body).2;simp only[rh0];exact⟨jz2 body a.2 ha.1 (he.grow gh h0) (by omega) (by rw[hh];exact(ji8 gh.tk).symm) fun s h=>hf s (g2.pre.subset h),ky5 l (Ga a.2 body).2 ha.2 ((he.grow gh h0).grow g (by omega)) (by omega) (by rw[hh];exact(ji8 (g.tk.trans gh.tk)).symm) hf⟩
end
end Al
end
section
namespace Al
open Lx Sc
structure Facts (p:Pr):Prop where
 head:Gj [p.chan,p.rep.base,p.rep.count,p.spec.e]<=7000/\Gj p.targets<=6000/\Gj p.exprs<=6000
 targets:∀ e∈p.targets,Iw e=true
 exprs:p.kind=5->p.exprs≠[]
 lens:p.targets.length<=6000/\p.exprs.length<=6000/\p.guards.length<=16/\p.l.length<=2048
 spec:p.kind=18->p.l≠[]/\Kh p.spec=true
 none:p.kind≠18->p.spec=sp0
 gus:∀ g∈p.guards,Le g=true
theorem jd5 {p:Pr}(h:Gq p=true):Facts p:=by
 have h1:=kc3 h;have ho:=jo6 p (by rw[Iy,Aa]at h;exact h.1);have hl:p.l.length<=2048:=by
  rw[Iy,Aa]at h;simpa using h.2
 obtain⟨s1,⟨_,_,s4,_⟩,s5,s6,_⟩:=h1;unfold Ho Mr at s1;refine⟨⟨by simp only[Gj];omega,by omega,by omega⟩,?_,fun hk=>?_,⟨by have:=n5 p.targets;omega,by have:=n5 p.exprs;omega,s5,hl⟩,fun hk=>?_,ho.2.1,s6⟩
 ·unfold Gq at h;simp only[Aa]at h;obtain⟨_,⟨⟨⟨⟨⟨⟨_,_⟩,_⟩,_⟩,ht⟩,_⟩,_⟩,_⟩:=h;unfold Dj at ht;rw[Aa,Bt]at ht;exact ht.2
 ·have:=(ho.2.2.1 hk).2;unfold Dj at this;rw[Aa]at this;rintro e;rw[e]at this;have:=this.1;simp[hasB]at this
 ·rw[Iy,Aa]at h;refine⟨?_,Ol p h.1 hk⟩;have h2:=h.1;unfold mx1 at h2;simp only[hk,Int.reduceEq,or_self,if_false,if_true,Aa,Ak]at h2;intro e;rw[e]at h2;simp at h2
theorem mo2 {α:Type}{l:List α}{b:Int}{f:α->Bool}(h:Dj l 1 b f=true):l≠[]:=by
 rintro rfl;simp[Dj,hasB]at h
structure SpFacts (s:Sp):Prop where
 names:s.names≠[]
 e:s.kind=3->Iw s.e=true
 body:s.kind=5->s.body.length=1
 other:s.kind≠5->s.body=[]
 formals:s.formals.length<=8
theorem jz3 {s:Sp}(h:Kh s=true):SpFacts s:=by
 have hs:=qi0 h;have hc:=ju6 s h;refine⟨?_,fun hk=>?_,hc.2.1,hc.2.2,hs.2.1⟩
 ·unfold Kh at h
  repeat' split at h
  all_goals first
   |cases h
   |(simp only[Aa]at h
     first
      |exact mo2 h.1.1.1.1.2
      |exact mo2 h.1.1.1.2
      |exact mo2 h.1.1.2)
 ·unfold Kh at h;rw[Ae (by omega),Ae (by omega),Ad hk]at h;simp only[Aa]at h;exact h.1.1.1.1.2
structure GuFacts (g:Gu):Prop where
 head:Gj [g.cond,g.chan,g.time]<=4864/\Gj g.targets<=4864/\Gj g.values<=4864
 targets:∀ e∈g.targets,Iw e=true
 body:g.body.length=1
theorem kh2 {g:Gu}(h:Le g=true):GuFacts g:=by
 have h1:=qh9 h;unfold Py at h1;unfold Le Dj at h;simp only[Aa,Ak,Bt]at h;exact⟨⟨by simp only[Gj];omega,by omega,by omega⟩,h.1.2.2,h.1.1.1.1.1.1.2⟩
end Al
end
end Go.Proofs.YtklklgfpkpglgaaGreatDoor
