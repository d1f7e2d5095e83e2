/- Parts. -/
import Derived.Test.YtklklgfpkpglgaaGreatDoorW28
import Derived.Test.YtklklgfpkpglgaaGreatDoorW17
set_option linter.all false
set_option maxRecDepth 100000
set_option maxHeartbeats 0
namespace Go.Proofs.YtklklgfpkpglgaaGreatDoor
open Go.RowKit Go.Proofs.Tryz
section
namespace Al
noncomputable instance memDec (s:ByteArray)(l:List ByteArray):Decidable (s∈l):=Classical.propDecidable _
mutual
def Il:Ex->List ByteArray
 |.mk kind _ _ _ s l=>(if Dm kind then [s] else [])++Jv l
def Jv:List Ex->List ByteArray
 |[]=>[]
 |e::l=>Il e++Jv l
end
theorem jg3:∀ l:List Ex,Jv l=l.flatMap Il
 |[]=>rfl
 |e::l=>by rw[Jv,jg3 l];rfl
theorem mm6 (e:Ex):Il e=(if Dm e.kind then [e.s] else [])++e.l.flatMap Il:=by
 cases e;simp only[Il,jg3,Ex.kind,Ex.s,Ex.l];rfl
mutual
theorem kf9:∀ e:Ex,(Il e).length<=exN e
 |.mk kind _ _ _ s l=>by
  have:=jq8 l;simp only[Il,exN,Ag];split<;>simp<;>omega
theorem jq8:∀ l:List Ex,(Jv l).length<=Gb l
 |[]=>by simp[Jv]
 |e::l=>by
  have:=kf9 e;have:=jq8 l;simp only[Jv,Gb,Ag];omega
end
noncomputable def addN (l:List ByteArray)(s:ByteArray):List ByteArray:=if s∈l then l else l++[s]
noncomputable def Ik (l ns:List ByteArray):List ByteArray:=ns.foldl addN l
theorem jg8 {l:List ByteArray}{s x:ByteArray}:x∈addN l s↔x∈l\/x=s:=by
 unfold addN;split
 ·rename_i h;constructor
  ·exact .inl
  ·rintro(h'|rfl)
   ·exact h'
   ·exact h
 ·simp
theorem kg0 {x:ByteArray}:∀ {ns l:List ByteArray},x∈Ik l ns↔x∈l\/x∈ns
 |[],l=>by simp[Ik]
 |s::ns,l=>by
  have:=@kg0 x ns (addN l s);rw[show Ik l (s::ns)=Ik (addN l s) ns from rfl,this,jg8,Bg,or_assoc]
theorem jn3 {l ns:List ByteArray}{j:Nat}(h:j<ns.length):Ik l (ns.take (j+1))=addN (Ik l (ns.take j)) ns[j]:=by
 unfold Ik;rw[Ao h,List.foldl_append];rfl
def at1 {α:Type}(s:ByteArray):List (ByteArray × α)->Option α
 |[]=>none
 |(x,v)::l=>if x=s then some v else at1 s l
def up1 {α:Type}(s:ByteArray)(v:α):List (ByteArray × α)->List (ByteArray × α)
 |[]=>[(s,v)]
 |(x,u)::l=>if x=s then (x,v)::l else (x,u)::up1 s v l
theorem qm6 {α:Type}{s:ByteArray}:∀ {l:List (ByteArray × α)},at1 s l=none↔s∉l.map (·.1)
 |[]=>by simp[at1]
 |(x,u)::l=>by
  simp only[at1,Ap,Bg,not_or];split
  ·rename_i h;subst h;simp
  ·rename_i h;rw[qm6 (l:=l)];exact⟨λh1=>⟨λe=>h e.symm,h1⟩,λh1=>h1.2⟩
theorem qm7 {α:Type}{s:ByteArray}{v:α}:∀ {l:List (ByteArray × α)},at1 s l=some v->(s,v)∈l
 |[],h=>by simp[at1]at h
 |(x,u)::l,h=>by
  simp only[at1]at h;split at h
  ·rename_i e;subst e;cases h;exact Be
  ·exact Bh _ (qm7 h)
theorem ms9 {α:Type}{s:ByteArray}:∀ {l:List (ByteArray × α)} {i:Nat} {x:ByteArray × α},l[i]? =some x->x.1=s->(∀ j,j<i->∀ y,l[j]? =some y->y.1≠s)->at1 s l=some x.2/\∀ v,up1 s v l=l.set i (s,v)
 |[],i,x,h,_,_=>by simp at h
 |(x,u)::l,0,y,h,he,_=>by
  simp only[List.getElem?_cons_zero,Bl]at h;subst h;simp only at he;subst he;simp[at1,up1]
 |(x,u)::l,i+1,y,h,he,hf=>by
  have h0:=hf 0 (Nat.succ_pos i) (x,u) rfl;have hi:=ms9 (l:=l) (i:=i) (x:=y) (by simpa using h) he λj hj z hz=>hf (j+1) (by omega) z (by simpa using hz);simp only at h0;simp only[at1,up1,Af h0,List.set_cons_succ];exact⟨hi.1,λv=>by rw[hi.2 v]⟩
structure Pc where
 ax:List Fo
 occ:List ByteArray
 wr:List ByteArray
def ro8:Option Pc->List ByteArray
 |some q=>q.occ
 |none=>[]
def wrO:Option Pc->List ByteArray
 |some q=>q.wr
 |none=>[]
def foO:Option Pc->List Fo
 |some q=>q.ax
 |none=>[]
structure Wd where
 known:List ByteArray
 is:List (ByteArray × ByteArray)
 ay:List (ByteArray × Pc)
inductive Base (is:List (ByteArray × ByteArray)):ByteArray->ByteArray->Prop
 |done {s:ByteArray} (h:at1 s is=none):Base is s s
 |step {s v b:ByteArray} (h:at1 s is=some v) (k:Base is v b):Base is s b
theorem Base.det {is:List (ByteArray × ByteArray)}{s b:ByteArray}(h:Base is s b):∀ {c:ByteArray},Base is s c->b=c:=by
 induction h with
 |done h=>
  intro c k;cases k with
  |done=>rfl
  |step h' _=>rw[h]at h';cases h'
 |step h _ ih=>
  intro c k;cases k with
  |done h'=>rw[h]at h';cases h'
  |step h' k'=>
   rw[h]at h';cases h';exact ih k'
open Classical in
noncomputable def Dq (is:List (ByteArray × ByteArray))(s:ByteArray):ByteArray:=if h:∃ b,Base is s b then Classical.choose h else s
def Rank (is:List (ByteArray × ByteArray)):Prop:=∃ r:ByteArray->Nat,∀ x∈is,r x.2<r x.1
theorem Rank.base {is:List (ByteArray × ByteArray)}(h:Rank is)(s:ByteArray):Base is s (Dq is s):=by
 have hex:∃ b,Base is s b:=by
  obtain⟨r,hr⟩:=h;obtain⟨n,hn⟩:∃ n,r s=n:=⟨_,rfl⟩
  induction n using Nat.strongRecOn generalizing s with
  |_ n ih=>
   cases ha:at1 s is with
   |none=>exact⟨s,.done ha⟩
   |some v=>
    have:=hr _ (qm7 ha);obtain⟨b,hb⟩:=ih (r v) (by simp only at this;omega) v rfl;exact⟨b,.step ha hb⟩
 unfold Dq;rw[dif_pos hex];exact Classical.choose_spec hex
def jg4 (e:Ex):Bool:=e.kind == 4 || e.kind == 5
def vc8 (f:Fo):Bool:=!f.val && (f.type.kind == 1 || f.type.kind == 2 || f.type.kind == 3)
noncomputable def ke0 (known:List ByteArray)(kind:Int)(au:List Ex):List Ex:=
 if kind=5 then (match au with
  |e::l=>if e.kind=4/\e.s∉known then l else e::l
  |[]=>[]) else au
def vc9 (cond av time:Ex)(aj values:List Ex):List Ex:=[cond,av,time]++aj++values
def je8:List Gu->List Ex
 |[]=>[]
 |.mk _ _ cond av aj values time _::l=>vc9 cond av time aj values++je8 l
noncomputable def qs9 (known:List ByteArray)(kind:Int)(av base count e:Ex)(aj au:List Ex)(ak:List Gu):List Ex:=[av,base,count,e]++aj++ke0 known kind au++je8 ak
mutual
noncomputable def jc4 (w:Wd):Pr->List ByteArray
 |.mk kind name av aj au rep ak l _ (.mk _ _ _ se _ _ sb)=>Jv (qs9 w.known kind av rep.base rep.count se aj au ak)++
  (if kind=17 then ro8 (at1 name w.ay) else [])++(ju1 w sb++(ke1 w ak++ju1 w l))
noncomputable def ju1 (w:Wd):List Pr->List ByteArray
 |[]=>[]
 |p::l=>jc4 w p++ju1 w l
noncomputable def ke1 (w:Wd):List Gu->List ByteArray
 |[]=>[]
 |.mk _ _ _ _ _ _ _ body::l=>ju1 w body++ke1 w l
end
def jj0:List Gu->List Ex
 |[]=>[]
 |.mk _ _ _ _ aj _ _ _::l=>aj++jj0 l
def Tc:List Fo->Bool
 |f::_=>vc8 f
 |[]=>false
def Ng (q:Option Pc):List Ex->List Fo->List Ex
 |[],_=>[]
 |e::l,fs=>(if jg4 e && (q.isNone || Tc fs) then [e] else [])++Ng q l (fs.drop 1)
mutual
noncomputable def jv4 (w:Wd):Pr->List ByteArray
 |.mk kind name _ aj au _ ak l _ (.mk _ _ _ _ _ _ sb)=>
  ((aj++jj0 ak++(if kind=17 then Ng (at1 name w.ay) au (foO (at1 name w.ay)) else [])).map λe=>Dq w.is e.s)++
  (if kind=17 then wrO (at1 name w.ay) else [])++(kx2 w sb++(mm7 w ak++kx2 w l))
noncomputable def kx2 (w:Wd):List Pr->List ByteArray
 |[]=>[]
 |p::l=>jv4 w p++kx2 w l
noncomputable def mm7 (w:Wd):List Gu->List ByteArray
 |[]=>[]
 |.mk _ _ _ _ _ _ _ body::l=>kx2 w body++mm7 w l
end
noncomputable def Mg (w:Wd)(rep:ByteArray)(sk:Int)(sn:List ByteArray)(se:ByteArray)(sf:List Fo):Wd:=
 let w1:Wd:={w with known:=Ik (if rep=ByteArray.empty then Ik w.known sn else addN (Ik w.known sn) rep) (sf.map (·.name))}
 if sk=3 then (match sn with|s::_=>{w1 with is:=up1 s se w1.is}|[]=>w1) else w1
noncomputable def Lf (w:Wd)(sk:Int)(sn:List ByteArray)(sf:List Fo)(occ wr:List ByteArray):Wd:=
 if sk=5 then (match sn with|s::_=>{w with ay:=up1 s ⟨sf,occ,wr⟩ w.ay}|[]=>w) else w
mutual
noncomputable def n5 (w:Wd):Pr->Wd
 |.mk _ _ _ _ _ rep ak l _ (.mk sk _ sn se _ sf sb)=>
  let w3:=Gf (Mg w rep.name sk sn se.s sf) sb
  let w4:=Lf w3 sk sn sf (match sb with|b::_=>jc4 w3 b|[]=>[]) (match sb with|b::_=>jv4 w3 b|[]=>[])
  Gf (Ho w4 ak) l
noncomputable def Gf (w:Wd):List Pr->Wd
 |[]=>w
 |p::l=>Gf (n5 w p) l
noncomputable def Ho (w:Wd):List Gu->Wd
 |[]=>w
 |.mk _ _ _ _ _ _ _ body::l=>Ho (Gf w body) l
end
noncomputable def jd3 (set l:List ByteArray):Bool:=l.any λs=>decide (s∈set)
noncomputable def Ir (w:Wd)(l:List Ex):List ByteArray:=(Jv l).map (Dq w.is)
noncomputable def Ja (w:Wd)(sk:Int)(se:Ex)(l0:Pr):Bool:=
 if sk=2 then !jd3 (jv4 w l0) (Ir w [se]) else if sk=3 then !decide (se.s∈jc4 w l0) && !jd3 (jv4 w l0) (Ir w se.l) else true
noncomputable def Le (w:Wd):List Fo->List Ex->List ByteArray->List ByteArray->Option (List ByteArray × List ByteArray)
 |f::fs,e::l,vars,vals=>
  if f.val then Le w fs l vars (vals++Ir w [e])
  else if jg4 e then (if Dq w.is e.s∈vars then none else Le w fs l (addN vars (Dq w.is e.s)) vals)
  else Le w fs l vars vals
 |_,_,vars,vals=>some (vars,vals)
noncomputable def Ow (w:Wd)(name:ByteArray)(au:List Ex):Bool:=
 match at1 name w.ay with
 |none=>true
 |some q=>match Le w q.ax au [] []with
  |none=>false
  |some (vars,vals)=>!jd3 vars (q.occ.map (Dq w.is)) && (!jd3 vars vals && !jd3 q.wr vals)
noncomputable def Jm (w:Wd):List ByteArray->List Ex->Option Nat
 |_,[]=>none
 |met,e::l=>if Dq w.is e.s∈met then some 0 else (Jm w (addN met (Dq w.is e.s)) l).map (· +1)
noncomputable def Nl (w:Wd)(l:List Ex):Bool:=(Jm w [] l).isSome
mutual
noncomputable def brB (w:Wd):Pr->Bool
 |.mk kind name _ aj au _ ak l _ (.mk sk _ _ se _ _ sb)=>
  (kind == 18 && !Ja w sk se (match l with|a::_=>a|[]=>pr0)) || (kind == 17 && !Ow w name au) || Nl w aj || Um w sb || Vw w ak || Um w l
noncomputable def Um (w:Wd):List Pr->Bool
 |[]=>false
 |p::l=>brB w p || Um w l
noncomputable def Vw (w:Wd):List Gu->Bool
 |[]=>false
 |.mk _ _ _ _ aj _ _ body::l=>Nl w aj || Um w body || Vw w l
end
end Al
end
section
namespace Al
def Di (K:List ByteArray):List D:=K.map .str
def Dj (K:List ByteArray):List D:=K.map λ_=>.bool true
def Mq {α:Type}(l:List (ByteArray × α)):List D:=l.map λx=>.str x.1
def Nh {α:Type}(f:α->D)(l:List (ByteArray × α)):List D:=l.map λx=>f x.2
theorem jt0 {K:List ByteArray}{s:ByteArray}:D.str s∈Di K↔s∈K:=by
 unfold Di;rw[Bx];constructor
 ·rintro⟨x,h,e⟩;cases e;exact h
 ·exact λh=>⟨s,h,rfl⟩
theorem ra9 {K:List ByteArray}{i:Nat}:(Dj K).set i (.bool true)=Dj K:=by
 apply Fr;intro j;rw[List.getElem?_set];unfold Dj;split
 ·rename_i h;subst h;split
  ·rename_i h;simp at h;simp[h]
  ·rename_i h;simp at h;simp[h]
 ·rfl
theorem kl8 {K:List ByteArray}{s:ByteArray}:∀ y∈Di K,Comp .str (.str s) y:=λy hy=>by
 obtain⟨x,_,rfl⟩:=Bx.1 hy;exact .str _ _
theorem mf7 {α:Type}{l:List (ByteArray × α)}{s:ByteArray}:∀ y∈Mq l,Comp .str (.str s) y:=λy hy=>by
 obtain⟨x,_,rfl⟩:=Bx.1 hy;exact .str _ _
theorem ro9 {K:List ByteArray}{s:ByteArray}(h:s∈K):addN K s=K:=Ae h
theorem rb0 {K:List ByteArray}{s:ByteArray}(h:s∉K):addN K s=K++[s]:=Af h
theorem rh1 {K:List ByteArray}{i:Nat}{z:D}(h:(Dj K)[i]? =some z):z=.bool true:=by
 unfold Dj at h;rw[Bs]at h;cases hk:K[i]? with
 |none=>rw[hk]at h;cases h
 |some x=>rw[hk]at h;cases h;rfl
theorem mf8 {α:Type}{f:α->D}{l:List (ByteArray × α)}{s:ByteArray}{i:Nat}(hi:(Mq l)[i]? =some (.str s))(hf:∀ j:Nat,j<i->(Mq l)[j]? ≠some (.str s)):
 ∃ v,l[i]? =some (s,v)/\at1 s l=some v/\(Nh f l)[i]? =some (f v)/\∀ u,Nh f (up1 s u l)=(Nh f l).set i (f u)/\Mq (up1 s u l)=Mq l:=by
 unfold Mq at hi hf;rw[Bs]at hi;cases hl:l[i]? with
 |none=>rw[hl]at hi;cases hi
 |some x=>
  rw[hl]at hi;simp only[Fa,Bl,D.str.injEq]at hi;obtain⟨h1,h2⟩:=ms9 hl hi λj hj y hy e=>hf j hj (by rw[Bs,hy,<-e];rfl);obtain⟨x1,x2⟩:=x;simp only at hi;subst hi;refine⟨x2,rfl,h1,by unfold Nh;rw[Bs,hl];rfl,λu=>⟨?_,?_⟩⟩
  ·rw[h2 u];unfold Nh;rw[List.map_set]
  ·rw[h2 u];unfold Mq;rw[List.map_set];apply Fr;intro j;rw[List.getElem?_set];split
   ·rename_i e;subst e;simp only[Aa,Bs,hl,Fa];rw[Ae (Bb.1 hl).1]
   ·rfl
theorem mt0 {α:Type}{f:α->D}{l:List (ByteArray × α)}{s:ByteArray}(h:D.str s∉Mq l):at1 s l=none/\∀ u,Nh f (up1 s u l)=Nh f l++[f u]/\Mq (up1 s u l)=Mq l++[.str s]:=by
 have h0:at1 s l=none:=qm6.2 λhm=>h (by
  obtain⟨x,hx,rfl⟩:=Bx.1 hm;exact Bx.2 ⟨x,hx,rfl⟩)
 refine⟨h0,λu=>?_⟩;have:up1 s u l=l++[(s,u)]:=by
  clear h
  induction l with
  |nil=>rfl
  |cons x l ih=>
   obtain⟨x1,x2⟩:=x;simp only[at1]at h0;split at h0
   ·cases h0
   ·rename_i hx;simp only[up1,Af hx,ih h0,Ac]
 rw[this];unfold Nh Mq;simp
section
variable {E:Set}{Q:Exit->Sd->Prop}{ops:Array Oper}{draw:Bool}{rest:Todo}{way:Jj}{ty:TypeId}{pos:String}{af:Array Edge}{gd:Option (Nat × Bool)}{dst:Option Tmp}
variable {env:List (Nat × V)}{H:List (Nat × Ob)}{gl:List (Nat × List D)}{d:Nat}{t k e n:Nat}{x y z:Operand}{s:ByteArray}{K:List ByteArray}{α:Type}{f:α->D}{l:List (ByteArray × α)}{ok:Bool}{zv:V}
theorem jy5 [ht:TMap E.P t k e][hkk:TKey E.P k .str][hz:Jq E.P e (.d (.bool false))]
 (h1:s∈K->TR E draw ops Q rest ⟨(d,jz9 ok (.d (.bool true)) true)::env,H,gl⟩) (h2:s∉K->TR E draw ops Q rest ⟨(d,jz9 ok (.d (.bool false)) false)::env,H,gl⟩)
 (hx:Sd.ev ⟨env,H,gl⟩ x=some (.map n):=by exact rfl) (hox:Cn x=true:=by exact rfl) (hl:look n H=some (.map (Di K) (Dj K)):=by exact rfl) (hy:Sd.ev ⟨env,H,gl⟩ y=some (.d (.str s)):=by exact rfl) (hoy:Cn y=true:=by exact rfl)
 (hd:d<E.C.nt:=by exact ltd rfl) (hg:Sd.gd ⟨env,H,gl⟩ ops ⟨some d,.lookup t x y ok,ty,pos,af,gd⟩=some true:=by exact rfl) (hw:way.known=false:=by exact rfl):
 TR E draw ops Q (.step ⟨some d,.lookup t x y ok,ty,pos,af,gd⟩ way rest) ⟨env,H,gl⟩:=
 ma0 hx hox hl hy hoy (.str _ _) hd hg hw kl8 (by simp[Di,Dj]) (λi z h3 h4 _=>by
  rw[rh1 h4];exact h1 (jt0.1 (Bz h3))) λh=>h2 λhm=>h (jt0.2 hm)
theorem jn4 [ht:TMap E.P t k e][hkk:TKey E.P k .str][hz:Jq E.P e (.d (.bool false))]
 (h1:s∈K->TR E draw ops Q rest ⟨(d,jz9 ok (.d (.bool true)) true)::env,H,gl⟩) (h2:s∉K->TR E draw ops Q rest ⟨(d,jz9 ok (.d (.bool false)) false)::env,H,gl⟩)
 (hx:Sd.ev ⟨env,H,gl⟩ x=some (.d (.map (Di K) (Dj K))):=by exact rfl) (hox:Cn x=true:=by exact rfl) (hy:Sd.ev ⟨env,H,gl⟩ y=some (.d (.str s)):=by exact rfl) (hoy:Cn y=true:=by exact rfl)
 (hd:d<E.C.nt:=by exact ltd rfl) (hg:Sd.gd ⟨env,H,gl⟩ ops ⟨some d,.lookup t x y ok,ty,pos,af,gd⟩=some true:=by exact rfl) (hw:way.known=false:=by exact rfl):
 TR E draw ops Q (.step ⟨some d,.lookup t x y ok,ty,pos,af,gd⟩ way rest) ⟨env,H,gl⟩:=
 qa7 hx hox hy hoy (.str _ _) hd hg hw kl8 (by simp[Di,Dj]) (λi z h3 h4 _=>by
  rw[rh1 h4];exact h1 (jt0.1 (Bz h3))) λh=>h2 λhm=>h (jt0.2 hm)
theorem Sz [ht:TMap E.P t k e][hkk:TKey E.P k .str][hz:Jq E.P e zv]
 (h1:∀ v,at1 s l=some v->TR E draw ops Q rest ⟨(d,jz9 ok (.d (f v)) true)::env,H,gl⟩) (h2:at1 s l=none->TR E draw ops Q rest ⟨(d,jz9 ok zv false)::env,H,gl⟩)
 (hx:Sd.ev ⟨env,H,gl⟩ x=some (.map n):=by exact rfl) (hox:Cn x=true:=by exact rfl) (hl:look n H=some (.map (Mq l) (Nh f l)):=by exact rfl) (hy:Sd.ev ⟨env,H,gl⟩ y=some (.d (.str s)):=by exact rfl) (hoy:Cn y=true:=by exact rfl)
 (hd:d<E.C.nt:=by exact ltd rfl) (hg:Sd.gd ⟨env,H,gl⟩ ops ⟨some d,.lookup t x y ok,ty,pos,af,gd⟩=some true:=by exact rfl) (hw:way.known=false:=by exact rfl):
 TR E draw ops Q (.step ⟨some d,.lookup t x y ok,ty,pos,af,gd⟩ way rest) ⟨env,H,gl⟩:=
 ma0 hx hox hl hy hoy (.str _ _) hd hg hw mf7 (by simp[Mq,Nh]) (λi z h3 h4 h5=>by
  obtain⟨v,_,h6,h7,_⟩:=mf8 (f:=f) h3 h5;rw[h4]at h7;cases h7;exact h1 v h6) λh=>h2 (mt0 (f:=f) h).1
theorem jl7 [ht:TMap E.P t k e][hkk:TKey E.P k .str]{v:V}
 (h:TR E draw ops Q rest ⟨env,(n,.map (Di (addN K s)) (Dj (addN K s)))::H,gl⟩)
 (hx:Sd.ev ⟨env,H,gl⟩ x=some (.map n):=by exact rfl) (hox:Cn x=true:=by exact rfl) (hl:look n H=some (.map (Di K) (Dj K)):=by exact rfl) (hy:Sd.ev ⟨env,H,gl⟩ y=some (.d (.str s)):=by exact rfl) (hoy:Cn y=true:=by exact rfl)
 (hz:Sd.ev ⟨env,H,gl⟩ z=some v:=by exact rfl) (hoz:Cn z=true:=by exact rfl) (hu:ToD H v (.bool true):=by exact .d _) (hg:Sd.gd ⟨env,H,gl⟩ ops ⟨none,.mapUpdate t x y z,ty,pos,af,gd⟩=some true:=by exact rfl) (hw:Jy draw way=true:=by exact rfl):
 TR E draw ops Q (.step ⟨none,.mapUpdate t x y z,ty,pos,af,gd⟩ way rest) ⟨env,H,gl⟩:=
 ma2 hx hox hl hy hoy hz hoz hu (.str _ _) hg hw kl8 (λi hi _=>by
  rw[ra9];rw[ro9 (jt0.1 (Bz hi))]at h;exact h) λhn=>by
  rw[rb0 λhm=>hn (jt0.2 hm)]at h;simpa [Di,Dj]using h
theorem mt1 [ht:TMap E.P t k e][hkk:TKey E.P k .str]{v:V}{a:α}
 (h:TR E draw ops Q rest ⟨env,(n,.map (Mq (up1 s a l)) (Nh f (up1 s a l)))::H,gl⟩)
 (hx:Sd.ev ⟨env,H,gl⟩ x=some (.map n):=by exact rfl) (hox:Cn x=true:=by exact rfl) (hl:look n H=some (.map (Mq l) (Nh f l)):=by exact rfl) (hy:Sd.ev ⟨env,H,gl⟩ y=some (.d (.str s)):=by exact rfl) (hoy:Cn y=true:=by exact rfl)
 (hz:Sd.ev ⟨env,H,gl⟩ z=some v:=by exact rfl) (hoz:Cn z=true:=by exact rfl) (hu:ToD H v (f a):=by exact .d _) (hg:Sd.gd ⟨env,H,gl⟩ ops ⟨none,.mapUpdate t x y z,ty,pos,af,gd⟩=some true:=by exact rfl) (hw:Jy draw way=true:=by exact rfl):
 TR E draw ops Q (.step ⟨none,.mapUpdate t x y z,ty,pos,af,gd⟩ way rest) ⟨env,H,gl⟩:=
 ma2 hx hox hl hy hoy hz hoz hu (.str _ _) hg hw mf7 (λi hi hf=>by
  obtain⟨v,_,_,_,h7⟩:=mf8 (f:=f) hi hf;rw[<-(h7 a).1,<-(h7 a).2];exact h) λhn=>by
  obtain⟨_,h7⟩:=mt0 (f:=f) hn;rw[<-(h7 a).1,<-(h7 a).2];exact h
theorem kx3 {ks vs:List D}[ht:TMap E.P t k e](n:Nat)(h:TR E draw ops Q rest ⟨(d,.ptr n 0)::env,(n,.miter ks vs (List.range ks.length) none)::H,gl⟩)(hx:Sd.ev ⟨env,H,gl⟩ x=some (.d (.map ks vs)):=by exact rfl)(hox:Cn x=true:=by exact rfl)(hn:Sd.aD ⟨env,H,gl⟩ n=true:=by exact rfl)
 (hd:d<E.C.nt:=by exact ltd rfl) (hg:Sd.gd ⟨env,H,gl⟩ ops ⟨some d,.range t x,ty,pos,af,gd⟩=some true:=by exact rfl) (hw:way.loud=true:=by exact rfl):TR E draw ops Q (.step ⟨some d,.range t x,ty,pos,af,gd⟩ way rest) ⟨env,H,gl⟩:=jo6 (qv4 hx hox hn) rfl hd hg rfl hw h
theorem mt2 [ht:TMap E.P t k e](n:Nat)(h:TR E draw ops Q rest ⟨(d,.ptr n 0)::env,(n,.miter [] [] [] none)::H,gl⟩)(hx:Sd.ev ⟨env,H,gl⟩ x=some (.d (.raw (.map none))):=by exact rfl)(hox:Cn x=true:=by exact rfl)(hn:Sd.aD ⟨env,H,gl⟩ n=true:=by exact rfl)
 (hd:d<E.C.nt:=by exact ltd rfl) (hg:Sd.gd ⟨env,H,gl⟩ ops ⟨some d,.range t x,ty,pos,af,gd⟩=some true:=by exact rfl) (hw:way.loud=true:=by exact rfl):TR E draw ops Q (.step ⟨some d,.range t x,ty,pos,af,gd⟩ way rest) ⟨env,H,gl⟩:=jo6 (qv5 hx hox hn) rfl hd hg rfl hw h
theorem Yi {ks vs:List D}{left:List Nat}{cur:Option Nat}(hin:∀ i∈left,i<ks.length)(h1:∀ i k v,i∈left->ks[i]? =some k->vs[i]? =some v->TR E draw ops Q rest ⟨(d,.tup [.d (.bool true),.d k,.d v])::env,(n,.miter ks vs (left.erase i) (some i))::H,gl⟩)
 (h2:left=[]->TR E draw ops Q rest ⟨(d,.tup [.d (.bool false)])::env,H,gl⟩) (hx:Sd.ev ⟨env,H,gl⟩ x=some (.ptr n 0):=by exact rfl) (hox:Cn x=true:=by exact rfl) (hl:look n H=some (.miter ks vs left cur):=by exact rfl)
 (hd:d<E.C.nt:=by exact ltd rfl) (hg:Sd.gd ⟨env,H,gl⟩ ops ⟨some d,.next x false,ty,pos,af,gd⟩=some true:=by exact rfl) (hw:Jy draw way=true:=by exact rfl):TR E draw ops Q (.step ⟨some d,.next x false,ty,pos,af,gd⟩ way rest) ⟨env,H,gl⟩:=
 rk5 hx hox hl hin hd rfl hg hw h1 h2
end
end Al
end
section
section
variable {E:Set}{Q:Exit->Sd->Prop}{ops:Array Oper}{draw:Bool}{rest:Todo}{way:Jj}{ty:TypeId}{pos:String}{af:Array Edge}{gd:Option (Nat × Bool)}{d:Nat}
variable {env:List (Nat × V)}{H:List (Nat × Ob)}{gl:List (Nat × List D)}
theorem Ga {ι:Type}{Wp:ι->Prop}{r:ι->V}{H1:ι->List (Nat × Ob)}{f:Nat}{fx:Operand}{xs:List Operand}{ats:Array TypeId}{fs gs vs args:List V}{H0:List (Nat × Ob)}[hf:TFun E.P f](h:∀ i,Wp i->TR E draw ops Q rest ⟨(d,r i)::env,H1 i++H,gl⟩)(hfx:Sd.ev ⟨env,H,gl⟩ fx=some (.clo (.func f) fs gs):=by exact rfl)(hof:Cn fx=true:=by exact rfl)(hx:Evs ⟨env,H,gl⟩ xs vs:=by(repeat (first|exact Evs.nil|apply Evs.cons rfl rfl));fail_if_success intros)(ha:Jp H (fs++vs++gs) args:=by(repeat (first|exact Jp.nil|apply Jp.cons (Ml.own rfl)|apply Jp.cons (Ml.nils _)|apply Jp.cons (Ml.same _)));fail_if_success intros)(hc:FnE E.P gl f args H0 (λv H2=>∃ i,Wp i/\v=r i/\H2=H1 i))(hs:Ri H H0:=by(repeat (first|exact Ri.nil|apply Ri.cons rfl));fail_if_success intros)(hwm:Pf H0=true:=by exact rfl)(hd:d<E.C.nt:=by exact ltd rfl)(hg:Sd.gd ⟨env,H,gl⟩ ops ⟨some d,.call {callee:=.value fx,args:=xs.toArray,argTypes:=ats},ty,pos,af,gd⟩=some true:=by exact rfl)(hw:Jy draw way=true:=by exact rfl)(hfr:∀ i,Nu ⟨env,H,gl⟩ H0 (H1 i)=true:=by(intro _;exact rfl)):TR E draw ops Q (.step ⟨some d,.call {callee:=.value fx,args:=xs.toArray,argTypes:=ats},ty,pos,af,gd⟩ way rest) ⟨env,H,gl⟩:=
 qb4 (λ_ _ e=>by obtain⟨i,hi,rfl,rfl⟩:=e;exact⟨hfr i,h i hi⟩) (hfx:=hfx) (hof:=hof) (hx:=hx) (ha:=ha) (hc:=hc) (hs:=hs) (hwm:=hwm) (hd:=hd) (hg:=hg) (hw:=hw)
theorem jy6 (id:Nat){S:Sd}{x y:Code}{dr:Bool}(h:TC E (.seq (.seq (.region id ops dr) x) y) Q S):TC E (.seq (.seq (.region id ops dr) x) y) Q S:=h
theorem jp1 {x y:Code}{ι:Type}(ts ns:List Nat)(ch:ι->List (Nat × V))(oh:ι->List (Nat × Ob))(P:ι->Prop){env':List (Nat × V)}{H':List (Nat × Ob)}
 (h1:TC E x (Exit.Mk (λS1=>∃ i,P i/\Wk E.C S1 ⟨ch i++env',oh i++H',gl⟩) Q) ⟨env,H,gl⟩) (h2:∀ i,P i->TC E y Q ⟨ch i++env',oh i++H',gl⟩) (hd:Drop ts env env':=by(repeat (first|exact Drop.nil|apply Drop.drop rfl|apply Drop.take rfl));fail_if_success intros) (hn:Drop ns H H':=by(repeat (first|exact Drop.nil|apply Drop.drop rfl|apply Drop.take rfl));fail_if_success intros):TC E (.seq x y) Q ⟨env,H,gl⟩:=z7 _ P h1 h2
theorem jq9 {c:Code}{t e sz sz':Nat}(n:Nat)(hl:look t env=some (.nils sz'))(hn:Sd.aD ⟨env,H,gl⟩ n=true)(h:TC E c Q ⟨(t,.own n 0)::env,(n,.row e sz true [] 0)::H,gl⟩):TC E c Q ⟨env,H,gl⟩:=λa w ⟨β,hB⟩=>by
 have h1:=hB.Wj (e:=e) (sz:=sz) hn;refine h a w ⟨_,{h1 with env:=λs v hs=>?_}⟩;dsimp only at hs;rw[j7]at hs;split at hs
 ·rename_i e';subst e';cases hs;obtain⟨x,h2,h3⟩:=hB.env t _ hl;exact⟨x,h2,λe' sz'' sh xs hl'=>by rw[jx1];exact h3⟩
 ·exact h1.env s v hs
theorem mm8 {c:Code}(t m:Nat){ks us:List D}{ns:List Nat}{H':List (Nat × Ob)}(hl:look t env=some (.map m))(hm:look m H=some (.map ks us))(h2:Drop ns H H')(hn:(look m H').isNone=true)(hN:(E.C.N.all λn=>(look n H').isSome)=true)
 (h:TC E c Q ⟨(t,.d (.map ks us))::env,H',gl⟩):TC E c Q ⟨env,H,gl⟩:=λa w ⟨β,hB⟩=>by
 have hB':=hB.weak (S':=⟨env,H',gl⟩) (λ_ _ h=>h) (λn ob h=>h2.look h) (λ_ _ h=>h) (λn hn=>By.1 hN n hn);have hne:look m H'=none:=by simpa using hn
 have hk:aI w (Mut E.C.M0 β H) w (Mut E.C.M0 β H'):=aI.weak λb o hm=>by
  rcases hm with hm|⟨m,ob,q1,q2,q3⟩
  ·exact .inl hm
  ·exact .inr ⟨m,ob,h2.look q1,q2,q3⟩
 have hfree:∀ ob b o,look m H=some ob->hb (β m).v=some b->¬Mut E.C.M0 β H' b o:=λob b o hlm hbm hmut=>by
  rcases hmut with q|⟨m2,ob2,q1,q2,q3⟩
  ·exact hB.out m ob b o hlm (.inl hbm) q
  ·have:m≠m2:=by rintro rfl;rw[hne]at q1;cases q1
   exact hB.apart m m2 b ob ob2 this hlm (h2.look q1) (.inl hbm) q2
 refine h a w ⟨β,{hB' with env:=λs v hs=>?_}⟩;dsimp only at hs;rw[j7]at hs;split at hs
 ·rename_i e;subst e;cases hs;obtain⟨x,q1,rr,r1,rfl⟩:=hB.env t _ hl;obtain⟨r0,es,clock,r3,r4,r5,r6,r7⟩:=hB.obs m _ hm;rw[r1]at r3;cases r3;exact⟨_,q1,rr,es,clock,rfl,r4,λo=>hfree _ rr o hm (by rw[r1];rfl),Gy.keep hk _ _ r5,Gy.keep hk _ _ r6,r7⟩
 ·exact hB'.env s v hs
variable {n:Nat}{x:Operand}{K:List ByteArray}{left:List Nat}{cur:Option Nat}
theorem qm8 {i:Nat}{s:ByteArray}(h:K[i]? =some s):(Al.Di K)[i]? =some (.str s):=by
 unfold Al.Di;rw[Bs,h];rfl
theorem qm9 {i:Nat}{s:ByteArray}(h:K[i]? =some s):(Al.Dj K)[i]? =some (.bool true):=by
 unfold Al.Dj;rw[Bs,h];rfl
theorem mm9 (hin:∀ i∈left,i<K.length)(h1:∀ i s,i∈left->K[i]? =some s->TR E draw ops Q rest ⟨(d,.tup [.d (.bool true),.d (.str s),.d (.bool true)])::env,(n,.miter (Al.Di K) (Al.Dj K) (left.erase i) (some i))::H,gl⟩)
 (h2:left=[]->TR E draw ops Q rest ⟨(d,.tup [.d (.bool false)])::env,H,gl⟩) (hx:Sd.ev ⟨env,H,gl⟩ x=some (.ptr n 0):=by exact rfl) (hox:Cn x=true:=by exact rfl) (hl:look n H=some (.miter (Al.Di K) (Al.Dj K) left cur):=by exact rfl)
 (hd:d<E.C.nt:=by exact ltd rfl) (hg:Sd.gd ⟨env,H,gl⟩ ops ⟨some d,.next x false,ty,pos,af,gd⟩=some true:=by exact rfl) (hw:Jy draw way=true:=by exact rfl):TR E draw ops Q (.step ⟨some d,.next x false,ty,pos,af,gd⟩ way rest) ⟨env,H,gl⟩:=
 Al.Yi (λi hi=>by rw[show(Al.Di K).length=K.length from Aa ..];exact hin i hi) (λi k v hi hk hv=>by
  have hi2:=hin i hi;have h3:K[i]? =some K[i]:=Ax hi2;rw[qm8 h3]at hk;rw[qm9 h3]at hv;cases hk;cases hv;exact h1 i K[i] hi h3) h2 hx hox hl hd hg hw
theorem qn0 (h:TR E draw ops Q rest ⟨(d,.tup [.d (.bool false)])::env,H,gl⟩)(hx:Sd.ev ⟨env,H,gl⟩ x=some (.ptr n 0):=by exact rfl)(hox:Cn x=true:=by exact rfl)(hl:look n H=some (.miter [] [] [] none):=by exact rfl)
 (hd:d<E.C.nt:=by exact ltd rfl) (hg:Sd.gd ⟨env,H,gl⟩ ops ⟨some d,.next x false,ty,pos,af,gd⟩=some true:=by exact rfl) (hw:Jy draw way=true:=by exact rfl):TR E draw ops Q (.step ⟨some d,.next x false,ty,pos,af,gd⟩ way rest) ⟨env,H,gl⟩:=
 Al.Yi (λi hi=>by cases hi) (λi _ _ hi=>by cases hi) (λ_=>h) hx hox hl hd hg hw
theorem kx4 {i:Nat}{s:ByteArray}(hs:K[i]? =some s)(h:TR E draw ops Q rest ⟨(d,.tup [.d (.str s),.d (.bool true)])::env,H,gl⟩)(hx:Sd.ev ⟨env,H,gl⟩ x=some (.ptr n 0):=by exact rfl)(hox:Cn x=true:=by exact rfl)(hl:look n H=some (.miter (Al.Di K) (Al.Dj K) left (some i)):=by exact rfl)
 (hd:d<E.C.nt:=by exact ltd rfl) (hg:Sd.gd ⟨env,H,gl⟩ ops ⟨some d,.entry x,ty,pos,af,gd⟩=some true:=by exact rfl) (hw:way.known=false:=by exact rfl):TR E draw ops Q (.step ⟨some d,.entry x,ty,pos,af,gd⟩ way rest) ⟨env,H,gl⟩:=
 jl5 (rk6 hx hox hl (qm8 hs) (qm9 hs)) rfl hd hg rfl hw h
end
end
section
namespace Al
section
variable (G:ByteArray->Prop)
variable {G}
end
end Al
end
end Go.Proofs.YtklklgfpkpglgaaGreatDoor
