/- Parts. -/
import Derived.Test.YtklklgfpkpglgaaGreatDoorQ37
set_option linter.all false
set_option maxRecDepth 100000
set_option maxHeartbeats 0
namespace Go.Proofs.YtklklgfpkpglgaaGreatDoor
open Go.RowKit Go.Proofs.Tryz Sc Lx
section
namespace Al
noncomputable instance memDec (s:ByteArray)(l:List ByteArray):Decidable (s∈l):=Classical.propDecidable _
mutual
def Kg:Ex->List ByteArray
 |.mk kind _ _ _ s l=>(if Cz kind then [s] else [])++Ii l
def Ii:List Ex->List ByteArray
 |[]=>[]
 |e::l=>Kg e++Ii l
end
theorem je4:∀ l:List Ex,Ii l=l.flatMap Kg
 |[]=>rfl
 |e::l=>by rw[Ii,je4 l];rfl
theorem ry3 (e:Ex):Kg e=(if Cz e.kind then [e.s] else [])++e.l.flatMap Kg:=by
 cases e;simp only[Kg,je4,Ex.kind,Ex.s,Ex.l];rfl
mutual
theorem kz2:∀ e:Ex,(Kg e).length<=exN e
 |.mk kind _ _ _ s l=>by
  have:=jx8 l;simp only[Kg,exN,Ag];split<;>simp<;>omega
theorem jx8:∀ l:List Ex,(Ii l).length<=Gw l
 |[]=>by simp[Ii]
 |e::l=>by
  have:=kz2 e;have:=jx8 l;simp only[Ii,Gw,Ag];omega
end
noncomputable def addN (l:List ByteArray)(s:ByteArray):List ByteArray:=if s∈l then l else l++[s]
noncomputable def Ic (l ns:List ByteArray):List ByteArray:=ns.foldl addN l
theorem ji1 {l:List ByteArray}{s x:ByteArray}:x∈addN l s↔x∈l\/x=s:=by
 unfold addN;split
 ·rename_i h;constructor
  ·exact .inl
  ·rintro(h'|rfl)
   ·exact h'
   ·exact h
 ·simp
theorem jd3 {x:ByteArray}:∀ {ns l:List ByteArray},x∈Ic l ns↔x∈l\/x∈ns
 |[],l=>by simp[Ic]
 |s::ns,l=>by
  have:=@jd3 x ns (addN l s);rw[show Ic l (s::ns)=Ic (addN l s) ns from rfl,this,ji1,Bc,or_assoc]
theorem mi2 {l ns:List ByteArray}{j:Nat}(h:j<ns.length):Ic l (ns.take (j+1))=addN (Ic l (ns.take j)) ns[j]:=by
 unfold Ic;rw[An h,List.foldl_append];rfl
def at1 {α:Type}(s:ByteArray):List (ByteArray × α)->Option α
 |[]=>none
 |(x,v)::l=>if x=s then some v else at1 s l
def up1 {α:Type}(s:ByteArray)(v:α):List (ByteArray × α)->List (ByteArray × α)
 |[]=>[(s,v)]
 |(x,u)::l=>if x=s then (x,v)::l else (x,u)::up1 s v l
theorem qr7 {α:Type}{s:ByteArray}:∀ {l:List (ByteArray × α)},at1 s l=none↔s∉l.map (·.1)
 |[]=>by simp[at1]
 |(x,u)::l=>by
  simp only[at1,List.map_cons,Bc,not_or];split
  ·rename_i h;subst h;simp
  ·rename_i h;rw[qr7 (l:=l)];exact⟨λh1=>⟨λe=>h e.symm,h1⟩,λh1=>h1.2⟩
theorem qr8 {α:Type}{s:ByteArray}{v:α}:∀ {l:List (ByteArray × α)},at1 s l=some v->(s,v)∈l
 |[],h=>by simp[at1]at h
 |(x,u)::l,h=>by
  simp only[at1]at h;split at h
  ·rename_i e;subst e;cases h;exact Aw
  ·exact Ax _ (qr8 h)
theorem mv8 {α:Type}{s:ByteArray}:∀ {l:List (ByteArray × α)} {i:Nat} {x:ByteArray × α},l[i]? =some x->x.1=s->(∀ j,j<i->∀ y,l[j]? =some y->y.1≠s)->at1 s l=some x.2/\∀ v,up1 s v l=l.set i (s,v)
 |[],i,x,h,_,_=>by simp at h
 |(x,u)::l,0,y,h,he,_=>by
  simp only[List.getElem?_cons_zero,Bi]at h;subst h;simp only at he;subst he;simp[at1,up1]
 |(x,u)::l,i+1,y,h,he,hf=>by
  have h0:=hf 0 (Nat.succ_pos i) (x,u) rfl;have hi:=mv8 (l:=l) (i:=i) (x:=y) (by simpa using h) he λj hj z hz=>hf (j+1) (by omega) z (by simpa using hz);simp only at h0;simp only[at1,up1,Af h0,List.set_cons_succ];exact⟨hi.1,λv=>by rw[hi.2 v]⟩
structure Pc where
 ax:List Fo
 occ:List ByteArray
 wr:List ByteArray
def ri3:Option Pc->List ByteArray
 |some q=>q.occ
 |none=>[]
def wrO:Option Pc->List ByteArray
 |some q=>q.wr
 |none=>[]
def foO:Option Pc->List Fo
 |some q=>q.ax
 |none=>[]
structure Wd where
 known:List ByteArray
 is:List (ByteArray × ByteArray)
 ay:List (ByteArray × Pc)
inductive Base (is:List (ByteArray × ByteArray)):ByteArray->ByteArray->Prop
 |done {s:ByteArray} (h:at1 s is=none):Base is s s
 |step {s v b:ByteArray} (h:at1 s is=some v) (k:Base is v b):Base is s b
theorem Base.det {is:List (ByteArray × ByteArray)}{s b:ByteArray}(h:Base is s b):∀ {c:ByteArray},Base is s c->b=c:=by
 induction h with
 |done h=>
  intro c k;cases k with
  |done=>rfl
  |step h' _=>rw[h]at h';cases h'
 |step h _ ih=>
  intro c k;cases k with
  |done h'=>rw[h]at h';cases h'
  |step h' k'=>
   rw[h]at h';cases h';exact ih k'
open Classical in
noncomputable def Db (is:List (ByteArray × ByteArray))(s:ByteArray):ByteArray:=if h:∃ b,Base is s b then Classical.choose h else s
def Rank (is:List (ByteArray × ByteArray)):Prop:=∃ r:ByteArray->Nat,∀ x∈is,r x.2<r x.1
theorem Rank.base {is:List (ByteArray × ByteArray)}(h:Rank is)(s:ByteArray):Base is s (Db is s):=by
 have hex:∃ b,Base is s b:=by
  obtain⟨r,hr⟩:=h;obtain⟨n,hn⟩:∃ n,r s=n:=⟨_,rfl⟩
  induction n using Nat.strongRecOn generalizing s with
  |_ n ih=>
   cases ha:at1 s is with
   |none=>exact⟨s,.done ha⟩
   |some v=>
    have:=hr _ (qr8 ha);obtain⟨b,hb⟩:=ih (r v) (by simp only at this;omega) v rfl;exact⟨b,.step ha hb⟩
 unfold Db;rw[dif_pos hex];exact Classical.choose_spec hex
def ja2 (e:Ex):Bool:=e.kind == 4 || e.kind == 5
def vo9 (f:Fo):Bool:=!f.val && (f.type.kind == 1 || f.type.kind == 2 || f.type.kind == 3)
noncomputable def jt4 (known:List ByteArray)(kind:Int)(au:List Ex):List Ex:=
 if kind=5 then (match au with
  |e::l=>if e.kind=4/\e.s∉known then l else e::l
  |[]=>[]) else au
def ve3 (cond av time:Ex)(aj values:List Ex):List Ex:=[cond,av,time]++aj++values
def jb4:List Gu->List Ex
 |[]=>[]
 |.mk _ _ cond av aj values time _::l=>ve3 cond av time aj values++jb4 l
noncomputable def qf7 (known:List ByteArray)(kind:Int)(av base count e:Ex)(aj au:List Ex)(ak:List Gu):List Ex:=[av,base,count,e]++aj++jt4 known kind au++jb4 ak
mutual
noncomputable def jb5 (w:Wd):Pr->List ByteArray
 |.mk kind name av aj au rep ak l _ (.mk _ _ _ se _ _ sb)=>Ii (qf7 w.known kind av rep.base rep.count se aj au ak)++
  (if kind=17 then ri3 (at1 name w.ay) else [])++(jm1 w sb++(jp8 w ak++jm1 w l))
noncomputable def jm1 (w:Wd):List Pr->List ByteArray
 |[]=>[]
 |p::l=>jb5 w p++jm1 w l
noncomputable def jp8 (w:Wd):List Gu->List ByteArray
 |[]=>[]
 |.mk _ _ _ _ _ _ _ body::l=>jm1 w body++jp8 w l
end
def jc6:List Gu->List Ex
 |[]=>[]
 |.mk _ _ _ _ aj _ _ _::l=>aj++jc6 l
def Qr:List Fo->Bool
 |f::_=>vo9 f
 |[]=>false
def Jp (q:Option Pc):List Ex->List Fo->List Ex
 |[],_=>[]
 |e::l,fs=>(if ja2 e && (q.isNone || Qr fs) then [e] else [])++Jp q l (fs.drop 1)
mutual
noncomputable def jt1 (w:Wd):Pr->List ByteArray
 |.mk kind name _ aj au _ ak l _ (.mk _ _ _ _ _ _ sb)=>
  ((aj++jc6 ak++(if kind=17 then Jp (at1 name w.ay) au (foO (at1 name w.ay)) else [])).map λe=>Db w.is e.s)++
  (if kind=17 then wrO (at1 name w.ay) else [])++(kb6 w sb++(km4 w ak++kb6 w l))
noncomputable def kb6 (w:Wd):List Pr->List ByteArray
 |[]=>[]
 |p::l=>jt1 w p++kb6 w l
noncomputable def km4 (w:Wd):List Gu->List ByteArray
 |[]=>[]
 |.mk _ _ _ _ _ _ _ body::l=>kb6 w body++km4 w l
end
noncomputable def Im (w:Wd)(rep:ByteArray)(sk:Int)(sn:List ByteArray)(se:ByteArray)(sf:List Fo):Wd:=
 let w1:Wd:={w with known:=Ic (if rep=ByteArray.empty then Ic w.known sn else addN (Ic w.known sn) rep) (sf.map (·.name))}
 if sk=3 then (match sn with|s::_=>{w1 with is:=up1 s se w1.is}|[]=>w1) else w1
noncomputable def Js (w:Wd)(sk:Int)(sn:List ByteArray)(sf:List Fo)(occ wr:List ByteArray):Wd:=
 if sk=5 then (match sn with|s::_=>{w with ay:=up1 s ⟨sf,occ,wr⟩ w.ay}|[]=>w) else w
mutual
noncomputable def z1 (w:Wd):Pr->Wd
 |.mk _ _ _ _ _ rep ak l _ (.mk sk _ sn se _ sf sb)=>
  let w3:=Df (Im w rep.name sk sn se.s sf) sb
  let w4:=Js w3 sk sn sf (match sb with|b::_=>jb5 w3 b|[]=>[]) (match sb with|b::_=>jt1 w3 b|[]=>[])
  Df (Gp w4 ak) l
noncomputable def Df (w:Wd):List Pr->Wd
 |[]=>w
 |p::l=>Df (z1 w p) l
noncomputable def Gp (w:Wd):List Gu->Wd
 |[]=>w
 |.mk _ _ _ _ _ _ _ body::l=>Gp (Df w body) l
end
noncomputable def jb9 (set l:List ByteArray):Bool:=l.any λs=>decide (s∈set)
noncomputable def Ib (w:Wd)(l:List Ex):List ByteArray:=(Ii l).map (Db w.is)
noncomputable def Ik (w:Wd)(sk:Int)(se:Ex)(l0:Pr):Bool:=
 if sk=2 then !jb9 (jt1 w l0) (Ib w [se]) else if sk=3 then !decide (se.s∈jb5 w l0) && !jb9 (jt1 w l0) (Ib w se.l) else true
noncomputable def Iu (w:Wd):List Fo->List Ex->List ByteArray->List ByteArray->Option (List ByteArray × List ByteArray)
 |f::fs,e::l,vars,vals=>
  if f.val then Iu w fs l vars (vals++Ib w [e])
  else if ja2 e then (if Db w.is e.s∈vars then none else Iu w fs l (addN vars (Db w.is e.s)) vals)
  else Iu w fs l vars vals
 |_,_,vars,vals=>some (vars,vals)
noncomputable def Li (w:Wd)(name:ByteArray)(au:List Ex):Bool:=
 match at1 name w.ay with
 |none=>true
 |some q=>match Iu w q.ax au [] []with
  |none=>false
  |some (vars,vals)=>!jb9 vars (q.occ.map (Db w.is)) && (!jb9 vars vals && !jb9 q.wr vals)
noncomputable def Ih (w:Wd):List ByteArray->List Ex->Option Nat
 |_,[]=>none
 |met,e::l=>if Db w.is e.s∈met then some 0 else (Ih w (addN met (Db w.is e.s)) l).map (· +1)
noncomputable def Mc (w:Wd)(l:List Ex):Bool:=(Ih w [] l).isSome
mutual
noncomputable def brB (w:Wd):Pr->Bool
 |.mk kind name _ aj au _ ak l _ (.mk sk _ _ se _ _ sb)=>
  (kind == 18 && !Ik w sk se (match l with|a::_=>a|[]=>pr0)) || (kind == 17 && !Li w name au) || Mc w aj || Ru w sb || Te w ak || Ru w l
noncomputable def Ru (w:Wd):List Pr->Bool
 |[]=>false
 |p::l=>brB w p || Ru w l
noncomputable def Te (w:Wd):List Gu->Bool
 |[]=>false
 |.mk _ _ _ _ aj _ _ body::l=>Mc w aj || Ru w body || Te w l
end
end Al
end
section
namespace Al
def Dl (K:List ByteArray):List D:=K.map .str
def Dn (K:List ByteArray):List D:=K.map λ_=>.bool true
def Me {α:Type}(l:List (ByteArray × α)):List D:=l.map λx=>.str x.1
def Mt {α:Type}(f:α->D)(l:List (ByteArray × α)):List D:=l.map λx=>f x.2
theorem jr8 {K:List ByteArray}{s:ByteArray}:D.str s∈Dl K↔s∈K:=by
 unfold Dl;rw[Br];constructor
 ·rintro⟨x,h,e⟩;cases e;exact h
 ·exact λh=>⟨s,h,rfl⟩
theorem ri4 {K:List ByteArray}{i:Nat}:(Dn K).set i (.bool true)=Dn K:=by
 apply Fm;intro j;rw[List.getElem?_set];unfold Dn;split
 ·rename_i h;subst h;split
  ·rename_i h;simp at h;simp[h]
  ·rename_i h;simp at h;simp[h]
 ·rfl
theorem km5 {K:List ByteArray}{s:ByteArray}:∀ y∈Dl K,Comp .str (.str s) y:=λy hy=>by
 obtain⟨x,_,rfl⟩:=Br.1 hy;exact .str _ _
theorem mi3 {α:Type}{l:List (ByteArray × α)}{s:ByteArray}:∀ y∈Me l,Comp .str (.str s) y:=λy hy=>by
 obtain⟨x,_,rfl⟩:=Br.1 hy;exact .str _ _
theorem ry4 {K:List ByteArray}{s:ByteArray}(h:s∈K):addN K s=K:=Ad h
theorem ri5 {K:List ByteArray}{s:ByteArray}(h:s∉K):addN K s=K++[s]:=Af h
theorem rp5 {K:List ByteArray}{i:Nat}{z:D}(h:(Dn K)[i]? =some z):z=.bool true:=by
 unfold Dn at h;rw[Bp]at h;cases hk:K[i]? with
 |none=>rw[hk]at h;cases h
 |some x=>rw[hk]at h;cases h;rfl
theorem mi4 {α:Type}{f:α->D}{l:List (ByteArray × α)}{s:ByteArray}{i:Nat}(hi:(Me l)[i]? =some (.str s))(hf:∀ j:Nat,j<i->(Me l)[j]? ≠some (.str s)):
 ∃ v,l[i]? =some (s,v)/\at1 s l=some v/\(Mt f l)[i]? =some (f v)/\∀ u,Mt f (up1 s u l)=(Mt f l).set i (f u)/\Me (up1 s u l)=Me l:=by
 unfold Me at hi hf;rw[Bp]at hi;cases hl:l[i]? with
 |none=>rw[hl]at hi;cases hi
 |some x=>
  rw[hl]at hi;simp only[Er,Bi,D.str.injEq]at hi;obtain⟨h1,h2⟩:=mv8 hl hi λj hj y hy e=>hf j hj (by rw[Bp,hy,<-e];rfl);obtain⟨x1,x2⟩:=x;simp only at hi;subst hi;refine⟨x2,rfl,h1,by unfold Mt;rw[Bp,hl];rfl,λu=>⟨?_,?_⟩⟩
  ·rw[h2 u];unfold Mt;rw[List.map_set]
  ·rw[h2 u];unfold Me;rw[List.map_set];apply Fm;intro j;rw[List.getElem?_set];split
   ·rename_i e;subst e;simp only[Ab,Bp,hl,Er];rw[Ad (Ay.1 hl).1]
   ·rfl
theorem mv9 {α:Type}{f:α->D}{l:List (ByteArray × α)}{s:ByteArray}(h:D.str s∉Me l):at1 s l=none/\∀ u,Mt f (up1 s u l)=Mt f l++[f u]/\Me (up1 s u l)=Me l++[.str s]:=by
 have h0:at1 s l=none:=qr7.2 λhm=>h (by
  obtain⟨x,hx,rfl⟩:=Br.1 hm;exact Br.2 ⟨x,hx,rfl⟩)
 refine⟨h0,λu=>?_⟩;have:up1 s u l=l++[(s,u)]:=by
  clear h
  induction l with
  |nil=>rfl
  |cons x l ih=>
   obtain⟨x1,x2⟩:=x;simp only[at1]at h0;split at h0
   ·cases h0
   ·rename_i hx;simp only[up1,Af hx,ih h0,Ac]
 rw[this];unfold Mt Me;simp
section
variable {E:Set}{Q:Exit->Sd->Prop}{ops:Array Oper}{draw:Bool}{rest:Todo}{way:Ji}{ty:TypeId}{pos:String}{af:Array Edge}{gd:Option (Nat × Bool)}{dst:Option Tmp}
variable {env:List (Nat × V)}{H:List (Nat × Ob)}{gl:List (Nat × List D)}{d:Nat}{t k e n:Nat}{x y z:Operand}{s:ByteArray}{K:List ByteArray}{α:Type}{f:α->D}{l:List (ByteArray × α)}{ok:Bool}{zv:V}
theorem jx9 [ht:TMap E.P t k e][hkk:TKey E.P k .str][hz:Jo E.P e (.d (.bool false))]
 (h1:s∈K->TR E draw ops Q rest ⟨(d,jz9 ok (.d (.bool true)) true)::env,H,gl⟩) (h2:s∉K->TR E draw ops Q rest ⟨(d,jz9 ok (.d (.bool false)) false)::env,H,gl⟩)
 (hx:Sd.ev ⟨env,H,gl⟩ x=some (.map n):=by exact rfl) (hox:Cm x=true:=by exact rfl) (hl:look n H=some (.map (Dl K) (Dn K)):=by exact rfl) (hy:Sd.ev ⟨env,H,gl⟩ y=some (.d (.str s)):=by exact rfl) (hoy:Cm y=true:=by exact rfl)
 (hd:d<E.C.nt:=by exact ltd rfl) (hg:Sd.gd ⟨env,H,gl⟩ ops ⟨some d,.lookup t x y ok,ty,pos,af,gd⟩=some true:=by exact rfl) (hw:way.known=false:=by exact rfl):
 TR E draw ops Q (.step ⟨some d,.lookup t x y ok,ty,pos,af,gd⟩ way rest) ⟨env,H,gl⟩:=
 mc3 hx hox hl hy hoy (.str _ _) hd hg hw km5 (by simp[Dl,Dn]) (λi z h3 h4 _=>by
  rw[rp5 h4];exact h1 (jr8.1 (Ea h3))) λh=>h2 λhm=>h (jr8.2 hm)
theorem jm2 [ht:TMap E.P t k e][hkk:TKey E.P k .str][hz:Jo E.P e (.d (.bool false))]
 (h1:s∈K->TR E draw ops Q rest ⟨(d,jz9 ok (.d (.bool true)) true)::env,H,gl⟩) (h2:s∉K->TR E draw ops Q rest ⟨(d,jz9 ok (.d (.bool false)) false)::env,H,gl⟩)
 (hx:Sd.ev ⟨env,H,gl⟩ x=some (.d (.map (Dl K) (Dn K))):=by exact rfl) (hox:Cm x=true:=by exact rfl) (hy:Sd.ev ⟨env,H,gl⟩ y=some (.d (.str s)):=by exact rfl) (hoy:Cm y=true:=by exact rfl)
 (hd:d<E.C.nt:=by exact ltd rfl) (hg:Sd.gd ⟨env,H,gl⟩ ops ⟨some d,.lookup t x y ok,ty,pos,af,gd⟩=some true:=by exact rfl) (hw:way.known=false:=by exact rfl):
 TR E draw ops Q (.step ⟨some d,.lookup t x y ok,ty,pos,af,gd⟩ way rest) ⟨env,H,gl⟩:=
 qf3 hx hox hy hoy (.str _ _) hd hg hw km5 (by simp[Dl,Dn]) (λi z h3 h4 _=>by
  rw[rp5 h4];exact h1 (jr8.1 (Ea h3))) λh=>h2 λhm=>h (jr8.2 hm)
theorem Sv [ht:TMap E.P t k e][hkk:TKey E.P k .str][hz:Jo E.P e zv]
 (h1:∀ v,at1 s l=some v->TR E draw ops Q rest ⟨(d,jz9 ok (.d (f v)) true)::env,H,gl⟩) (h2:at1 s l=none->TR E draw ops Q rest ⟨(d,jz9 ok zv false)::env,H,gl⟩)
 (hx:Sd.ev ⟨env,H,gl⟩ x=some (.map n):=by exact rfl) (hox:Cm x=true:=by exact rfl) (hl:look n H=some (.map (Me l) (Mt f l)):=by exact rfl) (hy:Sd.ev ⟨env,H,gl⟩ y=some (.d (.str s)):=by exact rfl) (hoy:Cm y=true:=by exact rfl)
 (hd:d<E.C.nt:=by exact ltd rfl) (hg:Sd.gd ⟨env,H,gl⟩ ops ⟨some d,.lookup t x y ok,ty,pos,af,gd⟩=some true:=by exact rfl) (hw:way.known=false:=by exact rfl):
 TR E draw ops Q (.step ⟨some d,.lookup t x y ok,ty,pos,af,gd⟩ way rest) ⟨env,H,gl⟩:=
 mc3 hx hox hl hy hoy (.str _ _) hd hg hw mi3 (by simp[Me,Mt]) (λi z h3 h4 h5=>by
  obtain⟨v,_,h6,h7,_⟩:=mi4 (f:=f) h3 h5;rw[h4]at h7;cases h7;exact h1 v h6) λh=>h2 (mv9 (f:=f) h).1
theorem kz3 [ht:TMap E.P t k e][hkk:TKey E.P k .str]{v:V}
 (h:TR E draw ops Q rest ⟨env,(n,.map (Dl (addN K s)) (Dn (addN K s)))::H,gl⟩)
 (hx:Sd.ev ⟨env,H,gl⟩ x=some (.map n):=by exact rfl) (hox:Cm x=true:=by exact rfl) (hl:look n H=some (.map (Dl K) (Dn K)):=by exact rfl) (hy:Sd.ev ⟨env,H,gl⟩ y=some (.d (.str s)):=by exact rfl) (hoy:Cm y=true:=by exact rfl)
 (hz:Sd.ev ⟨env,H,gl⟩ z=some v:=by exact rfl) (hoz:Cm z=true:=by exact rfl) (hu:ToD H v (.bool true):=by exact .d _) (hg:Sd.gd ⟨env,H,gl⟩ ops ⟨none,.mapUpdate t x y z,ty,pos,af,gd⟩=some true:=by exact rfl) (hw:Jv draw way=true:=by exact rfl):
 TR E draw ops Q (.step ⟨none,.mapUpdate t x y z,ty,pos,af,gd⟩ way rest) ⟨env,H,gl⟩:=
 mc5 hx hox hl hy hoy hz hoz hu (.str _ _) hg hw km5 (λi hi _=>by
  rw[ri4];rw[ry4 (jr8.1 (Ea hi))]at h;exact h) λhn=>by
  rw[ri5 λhm=>hn (jr8.2 hm)]at h;simpa [Dl,Dn]using h
theorem mw0 [ht:TMap E.P t k e][hkk:TKey E.P k .str]{v:V}{a:α}
 (h:TR E draw ops Q rest ⟨env,(n,.map (Me (up1 s a l)) (Mt f (up1 s a l)))::H,gl⟩)
 (hx:Sd.ev ⟨env,H,gl⟩ x=some (.map n):=by exact rfl) (hox:Cm x=true:=by exact rfl) (hl:look n H=some (.map (Me l) (Mt f l)):=by exact rfl) (hy:Sd.ev ⟨env,H,gl⟩ y=some (.d (.str s)):=by exact rfl) (hoy:Cm y=true:=by exact rfl)
 (hz:Sd.ev ⟨env,H,gl⟩ z=some v:=by exact rfl) (hoz:Cm z=true:=by exact rfl) (hu:ToD H v (f a):=by exact .d _) (hg:Sd.gd ⟨env,H,gl⟩ ops ⟨none,.mapUpdate t x y z,ty,pos,af,gd⟩=some true:=by exact rfl) (hw:Jv draw way=true:=by exact rfl):
 TR E draw ops Q (.step ⟨none,.mapUpdate t x y z,ty,pos,af,gd⟩ way rest) ⟨env,H,gl⟩:=
 mc5 hx hox hl hy hoy hz hoz hu (.str _ _) hg hw mi3 (λi hi hf=>by
  obtain⟨v,_,_,_,h7⟩:=mi4 (f:=f) hi hf;rw[<-(h7 a).1,<-(h7 a).2];exact h) λhn=>by
  obtain⟨_,h7⟩:=mv9 (f:=f) hn;rw[<-(h7 a).1,<-(h7 a).2];exact h
theorem mw1 {ks vs:List D}[ht:TMap E.P t k e](n:Nat)(h:TR E draw ops Q rest ⟨(d,.ptr n 0)::env,(n,.miter ks vs (List.range ks.length) none)::H,gl⟩)(hx:Sd.ev ⟨env,H,gl⟩ x=some (.d (.map ks vs)):=by exact rfl)(hox:Cm x=true:=by exact rfl)(hn:Sd.aD ⟨env,H,gl⟩ n=true:=by exact rfl)
 (hd:d<E.C.nt:=by exact ltd rfl) (hg:Sd.gd ⟨env,H,gl⟩ ops ⟨some d,.range t x,ty,pos,af,gd⟩=some true:=by exact rfl) (hw:way.loud=true:=by exact rfl):TR E draw ops Q (.step ⟨some d,.range t x,ty,pos,af,gd⟩ way rest) ⟨env,H,gl⟩:=jn3 (rc8 hx hox hn) rfl hd hg rfl hw h
theorem ri6 [ht:TMap E.P t k e](n:Nat)(h:TR E draw ops Q rest ⟨(d,.ptr n 0)::env,(n,.miter [] [] [] none)::H,gl⟩)(hx:Sd.ev ⟨env,H,gl⟩ x=some (.d (.raw (.map none))):=by exact rfl)(hox:Cm x=true:=by exact rfl)(hn:Sd.aD ⟨env,H,gl⟩ n=true:=by exact rfl)
 (hd:d<E.C.nt:=by exact ltd rfl) (hg:Sd.gd ⟨env,H,gl⟩ ops ⟨some d,.range t x,ty,pos,af,gd⟩=some true:=by exact rfl) (hw:way.loud=true:=by exact rfl):TR E draw ops Q (.step ⟨some d,.range t x,ty,pos,af,gd⟩ way rest) ⟨env,H,gl⟩:=jn3 (rc9 hx hox hn) rfl hd hg rfl hw h
theorem Yo {ks vs:List D}{left:List Nat}{cur:Option Nat}(hin:∀ i∈left,i<ks.length)(h1:∀ i k v,i∈left->ks[i]? =some k->vs[i]? =some v->TR E draw ops Q rest ⟨(d,.tup [.d (.bool true),.d k,.d v])::env,(n,.miter ks vs (left.erase i) (some i))::H,gl⟩)
 (h2:left=[]->TR E draw ops Q rest ⟨(d,.tup [.d (.bool false)])::env,H,gl⟩) (hx:Sd.ev ⟨env,H,gl⟩ x=some (.ptr n 0):=by exact rfl) (hox:Cm x=true:=by exact rfl) (hl:look n H=some (.miter ks vs left cur):=by exact rfl)
 (hd:d<E.C.nt:=by exact ltd rfl) (hg:Sd.gd ⟨env,H,gl⟩ ops ⟨some d,.next x false,ty,pos,af,gd⟩=some true:=by exact rfl) (hw:Jv draw way=true:=by exact rfl):TR E draw ops Q (.step ⟨some d,.next x false,ty,pos,af,gd⟩ way rest) ⟨env,H,gl⟩:=
 ru2 hx hox hl hin hd rfl hg hw h1 h2
end
end Al
end
section
section
variable {E:Set}{Q:Exit->Sd->Prop}{ops:Array Oper}{draw:Bool}{rest:Todo}{way:Ji}{ty:TypeId}{pos:String}{af:Array Edge}{gd:Option (Nat × Bool)}{d:Nat}
variable {env:List (Nat × V)}{H:List (Nat × Ob)}{gl:List (Nat × List D)}
theorem Fy {ι:Type}{Wp:ι->Prop}{r:ι->V}{H1:ι->List (Nat × Ob)}{f:Nat}{fx:Operand}{xs:List Operand}{ats:Array TypeId}{fs gs vs args:List V}{H0:List (Nat × Ob)}[hf:TFun E.P f](h:∀ i,Wp i->TR E draw ops Q rest ⟨(d,r i)::env,H1 i++H,gl⟩)(hfx:Sd.ev ⟨env,H,gl⟩ fx=some (.clo (.func f) fs gs):=by exact rfl)(hof:Cm fx=true:=by exact rfl)(hx:Evs ⟨env,H,gl⟩ xs vs:=by(repeat (first|exact Evs.nil|apply Evs.cons rfl rfl));fail_if_success intros)(ha:Jm H (fs++vs++gs) args:=by(repeat (first|exact Jm.nil|apply Jm.cons (Md.own rfl)|apply Jm.cons (Md.nils _)|apply Jm.cons (Md.same _)));fail_if_success intros)(hc:FnE E.P gl f args H0 (λv H2=>∃ i,Wp i/\v=r i/\H2=H1 i))(hs:Qv H H0:=by(repeat (first|exact Qv.nil|apply Qv.cons rfl));fail_if_success intros)(hwm:Ot H0=true:=by exact rfl)(hd:d<E.C.nt:=by exact ltd rfl)(hg:Sd.gd ⟨env,H,gl⟩ ops ⟨some d,.call {callee:=.value fx,args:=xs.toArray,argTypes:=ats},ty,pos,af,gd⟩=some true:=by exact rfl)(hw:Jv draw way=true:=by exact rfl)(hfr:∀ i,Nk ⟨env,H,gl⟩ H0 (H1 i)=true:=by(intro _;exact rfl)):TR E draw ops Q (.step ⟨some d,.call {callee:=.value fx,args:=xs.toArray,argTypes:=ats},ty,pos,af,gd⟩ way rest) ⟨env,H,gl⟩:=
 qg1 (λ_ _ e=>by obtain⟨i,hi,rfl,rfl⟩:=e;exact⟨hfr i,h i hi⟩) (hfx:=hfx) (hof:=hof) (hx:=hx) (ha:=ha) (hc:=hc) (hs:=hs) (hwm:=hwm) (hd:=hd) (hg:=hg) (hw:=hw)
theorem ke1 (id:Nat){S:Sd}{x y:Code}{dr:Bool}(h:TC E (.seq (.seq (.region id ops dr) x) y) Q S):TC E (.seq (.seq (.region id ops dr) x) y) Q S:=h
theorem jp9 {x y:Code}{ι:Type}(ts ns:List Nat)(ch:ι->List (Nat × V))(oh:ι->List (Nat × Ob))(P:ι->Prop){env':List (Nat × V)}{H':List (Nat × Ob)}
 (h1:TC E x (Exit.Oc (λS1=>∃ i,P i/\Wk E.C S1 ⟨ch i++env',oh i++H',gl⟩) Q) ⟨env,H,gl⟩) (h2:∀ i,P i->TC E y Q ⟨ch i++env',oh i++H',gl⟩) (hd:Drop ts env env':=by(repeat (first|exact Drop.nil|apply Drop.drop rfl|apply Drop.take rfl));fail_if_success intros) (hn:Drop ns H H':=by(repeat (first|exact Drop.nil|apply Drop.drop rfl|apply Drop.take rfl));fail_if_success intros):TC E (.seq x y) Q ⟨env,H,gl⟩:=z7 _ P h1 h2
theorem ju6 {c:Code}{t e sz sz':Nat}(n:Nat)(hl:look t env=some (.nils sz'))(hn:Sd.aD ⟨env,H,gl⟩ n=true)(h:TC E c Q ⟨(t,.own n 0)::env,(n,.row e sz true [] 0)::H,gl⟩):TC E c Q ⟨env,H,gl⟩:=λa w ⟨β,hB⟩=>by
 have h1:=hB.Wl (e:=e) (sz:=sz) hn;refine h a w ⟨_,{h1 with env:=λs v hs=>?_}⟩;dsimp only at hs;rw[j6]at hs;split at hs
 ·rename_i e';subst e';cases hs;obtain⟨x,h2,h3⟩:=hB.env t _ hl;exact⟨x,h2,λe' sz'' sh xs hl'=>by rw[jw6];exact h3⟩
 ·exact h1.env s v hs
theorem mp4 {c:Code}(t m:Nat){ks us:List D}{ns:List Nat}{H':List (Nat × Ob)}(hl:look t env=some (.map m))(hm:look m H=some (.map ks us))(h2:Drop ns H H')(hn:(look m H').isNone=true)(hN:(E.C.N.all λn=>(look n H').isSome)=true)
 (h:TC E c Q ⟨(t,.d (.map ks us))::env,H',gl⟩):TC E c Q ⟨env,H,gl⟩:=λa w ⟨β,hB⟩=>by
 have hB':=hB.weak (S':=⟨env,H',gl⟩) (λ_ _ h=>h) (λn ob h=>h2.look h) (λ_ _ h=>h) (λn hn=>By.1 hN n hn);have hne:look m H'=none:=by simpa using hn
 have hk:aI w (Mut E.C.M0 β H) w (Mut E.C.M0 β H'):=aI.weak λb o hm=>by
  rcases hm with hm|⟨m,ob,q1,q2,q3⟩
  ·exact .inl hm
  ·exact .inr ⟨m,ob,h2.look q1,q2,q3⟩
 have hfree:∀ ob b o,look m H=some ob->hb (β m).v=some b->¬Mut E.C.M0 β H' b o:=λob b o hlm hbm hmut=>by
  rcases hmut with q|⟨m2,ob2,q1,q2,q3⟩
  ·exact hB.out m ob b o hlm (.inl hbm) q
  ·have:m≠m2:=by rintro rfl;rw[hne]at q1;cases q1
   exact hB.apart m m2 b ob ob2 this hlm (h2.look q1) (.inl hbm) q2
 refine h a w ⟨β,{hB' with env:=λs v hs=>?_}⟩;dsimp only at hs;rw[j6]at hs;split at hs
 ·rename_i e;subst e;cases hs;obtain⟨x,q1,rr,r1,rfl⟩:=hB.env t _ hl;obtain⟨r0,es,clock,r3,r4,r5,r6,r7⟩:=hB.obs m _ hm;rw[r1]at r3;cases r3;exact⟨_,q1,rr,es,clock,rfl,r4,λo=>hfree _ rr o hm (by rw[r1];rfl),Hg.keep hk _ _ r5,Hg.keep hk _ _ r6,r7⟩
 ·exact hB'.env s v hs
variable {n:Nat}{x:Operand}{K:List ByteArray}{left:List Nat}{cur:Option Nat}
theorem qr9 {i:Nat}{s:ByteArray}(h:K[i]? =some s):(Al.Dl K)[i]? =some (.str s):=by
 unfold Al.Dl;rw[Bp,h];rfl
theorem qs0 {i:Nat}{s:ByteArray}(h:K[i]? =some s):(Al.Dn K)[i]? =some (.bool true):=by
 unfold Al.Dn;rw[Bp,h];rfl
theorem qs1 (hin:∀ i∈left,i<K.length)(h1:∀ i s,i∈left->K[i]? =some s->TR E draw ops Q rest ⟨(d,.tup [.d (.bool true),.d (.str s),.d (.bool true)])::env,(n,.miter (Al.Dl K) (Al.Dn K) (left.erase i) (some i))::H,gl⟩)
 (h2:left=[]->TR E draw ops Q rest ⟨(d,.tup [.d (.bool false)])::env,H,gl⟩) (hx:Sd.ev ⟨env,H,gl⟩ x=some (.ptr n 0):=by exact rfl) (hox:Cm x=true:=by exact rfl) (hl:look n H=some (.miter (Al.Dl K) (Al.Dn K) left cur):=by exact rfl)
 (hd:d<E.C.nt:=by exact ltd rfl) (hg:Sd.gd ⟨env,H,gl⟩ ops ⟨some d,.next x false,ty,pos,af,gd⟩=some true:=by exact rfl) (hw:Jv draw way=true:=by exact rfl):TR E draw ops Q (.step ⟨some d,.next x false,ty,pos,af,gd⟩ way rest) ⟨env,H,gl⟩:=
 Al.Yo (λi hi=>by rw[show(Al.Dl K).length=K.length from Ab ..];exact hin i hi) (λi k v hi hk hv=>by
  have hi2:=hin i hi;have h3:K[i]? =some K[i]:=Ar hi2;rw[qr9 h3]at hk;rw[qs0 h3]at hv;cases hk;cases hv;exact h1 i K[i] hi h3) h2 hx hox hl hd hg hw
theorem ry5 (h:TR E draw ops Q rest ⟨(d,.tup [.d (.bool false)])::env,H,gl⟩)(hx:Sd.ev ⟨env,H,gl⟩ x=some (.ptr n 0):=by exact rfl)(hox:Cm x=true:=by exact rfl)(hl:look n H=some (.miter [] [] [] none):=by exact rfl)
 (hd:d<E.C.nt:=by exact ltd rfl) (hg:Sd.gd ⟨env,H,gl⟩ ops ⟨some d,.next x false,ty,pos,af,gd⟩=some true:=by exact rfl) (hw:Jv draw way=true:=by exact rfl):TR E draw ops Q (.step ⟨some d,.next x false,ty,pos,af,gd⟩ way rest) ⟨env,H,gl⟩:=
 Al.Yo (λi hi=>by cases hi) (λi _ _ hi=>by cases hi) (λ_=>h) hx hox hl hd hg hw
theorem mw2 {i:Nat}{s:ByteArray}(hs:K[i]? =some s)(h:TR E draw ops Q rest ⟨(d,.tup [.d (.str s),.d (.bool true)])::env,H,gl⟩)(hx:Sd.ev ⟨env,H,gl⟩ x=some (.ptr n 0):=by exact rfl)(hox:Cm x=true:=by exact rfl)(hl:look n H=some (.miter (Al.Dl K) (Al.Dn K) left (some i)):=by exact rfl)
 (hd:d<E.C.nt:=by exact ltd rfl) (hg:Sd.gd ⟨env,H,gl⟩ ops ⟨some d,.entry x,ty,pos,af,gd⟩=some true:=by exact rfl) (hw:way.known=false:=by exact rfl):TR E draw ops Q (.step ⟨some d,.entry x,ty,pos,af,gd⟩ way rest) ⟨env,H,gl⟩:=
 jk6 (ru3 hx hox hl (qr9 hs) (qs0 hs)) rfl hd hg rfl hw h
end
end
section
namespace Al
theorem qs2 {e:Ex}{s:ByteArray}:∀ {l:List Ex},e∈l->s∈Kg e->s∈Ii l
 |x::l,he,hs=>by
  simp only[Ii,Au];rcases Bc.1 he with rfl|he
  ·exact .inl hs
  ·exact .inr (qs2 he hs)
theorem mi5 (l m:List Ex):Ii (l++m)=Ii l++Ii m:=by
 rw[je4,je4,je4,List.flatMap_append]
def jh5 (l:List Ex):Prop:=∀ e∈l,Cz e.kind=true
mutual
def kt2:Pr->Prop
 |.mk _ _ _ aj _ _ ak l _ (.mk sk _ _ se _ _ sb)=>jh5 aj/\(sk=3->Cz se.kind=true)/\jj1 sb/\jo1 ak/\jj1 l
def jj1:List Pr->Prop
 |[]=>True
 |p::l=>kt2 p/\jj1 l
def jo1:List Gu->Prop
 |[]=>True
 |.mk _ _ _ _ aj _ _ body::l=>jh5 aj/\jj1 body/\jo1 l
end
section
variable (G:ByteArray->Prop)
variable {G}
theorem kt3 {q:Option Pc}{e:Ex}:∀ {l:List Ex} {fs:List Fo},e∈Jp q l fs->e∈l/\ja2 e=true
 |[],fs,h=>by simp[Jp]at h
 |x::l,fs,h=>by
  simp only[Jp,Au]at h;rcases h with h|h
  ·split at h
   ·rename_i hc;simp only[Bs]at h;subst h;simp only[Aa]at hc;exact⟨Aw,hc.1⟩
   ·cases h
  ·have:=kt3 h;exact⟨Ax _ this.1,this.2⟩
theorem jy0 {e:Ex}(h:ja2 e=true):Cz e.kind=true:=by
 simp only[ja2,Bn,Ed]at h;rcases h with h|h<;>rw[h]<;>rfl
theorem mi6 {e:Ex}:∀ {l:List Gu},e∈jc6 l->jo1 l->Cz e.kind=true/\∀ s∈Kg e,s∈Ii (jb4 l)
 |[],h,_=>by simp[jc6]at h
 |.mk _ _ cond av aj values time body::l,h,⟨h1,h2,h3⟩=>by
  simp only[jc6,Au]at h;rcases h with h|h
  ·refine⟨h1 e h,λs hs=>?_⟩;simp only[jb4,ve3,mi5,Au];exact .inl (.inl (.inr (qs2 h hs)))
  ·obtain⟨h4,h5⟩:=mi6 h h3;refine⟨h4,λs hs=>?_⟩;simp only[jb4,mi5,Au];exact .inr (h5 s hs)
end
end Al
end
section
namespace Al
open Classical in
noncomputable def num (s:ByteArray):Nat:=if h:∃ k,s=aC k then Classical.choose h+1 else 0
theorem qs3 (k:Nat):num (aC k)=k+1:=by
 have hex:∃ j,aC k=aC j:=⟨k,rfl⟩;unfold num;rw[dif_pos hex,<-Oa (Classical.choose_spec hex)]
open Classical in
noncomputable def rk (has:ByteArray->Prop)(s:ByteArray):Nat:=if has s then 0 else num s
theorem rp6 {has:ByteArray->Prop}{k:Nat}(h:¬has (aC k)):rk has (aC k)=k+1:=by
 unfold rk;rw[Af h,qs3]
theorem jr9 {e:Ex}(h:Ga e=true):Cz e.kind=true:=by
 unfold Ga at h;simp only[Aa,Bn,Ah]at h;rcases h.1 with h|h<;>rw[h]<;>rfl
theorem ri7 {s:Sp}(h:Hr s=true)(hk:s.kind=3):Cz s.e.kind=true:=by
 unfold Hr at h;rw[Af (by omega),Af (by omega),Ad hk]at h;simp only[Aa]at h;exact jr9 h.1.1.1.1.2
section
variable (r:ByteArray->Nat)
mutual
def isR:Pr->Prop
 |.mk _ _ _ _ _ _ ak l _ (.mk sk _ sn se _ _ sb)=>(sk=3->∀ x∈sn.head?,r se.s<r x)/\ri8 sb/\rp7 ak/\ri8 l
def ri8:List Pr->Prop
 |[]=>True
 |p::l=>isR p/\ri8 l
def rp7:List Gu->Prop
 |[]=>True
 |.mk _ _ _ _ _ _ _ body::l=>ri8 body/\rp7 l
end
def Kz (w:Wd):Prop:=∀ x∈w.is,r x.2<r x.1
variable {r}
theorem Kz.rank {w:Wd}(h:Kz r w):Rank w.is:=⟨r,h⟩
theorem mw3 {α:Type}{s:ByteArray}{v:α}{x:ByteArray × α}:∀ {l:List (ByteArray × α)},x∈up1 s v l->x∈l\/x=(s,v)
 |[],h=>by simp only[up1,Bs]at h;exact .inr h
 |(y,u)::l,h=>by
  simp only[up1]at h;split at h
  ·rename_i hy;rcases Bc.1 h with rfl|h
   ·rw[hy];exact .inr rfl
   ·exact .inl (Ax _ h)
  ·rcases Bc.1 h with rfl|h
   ·exact .inl Aw
   ·exact(mw3 h).imp (Ax _) id
theorem km6 {w:Wd}(hw:Kz r w)(rep:ByteArray)(sk:Int)(sn:List ByteArray)(se:ByteArray)(sf:List Fo)(h:sk=3->∀ x∈sn.head?,r se<r x):Kz r (Im w rep sk sn se sf):=by
 unfold Im;dsimp only;split
 ·rename_i hk;split
  ·rename_i s l;intro x hx;rcases mw3 hx with hx|rfl
   ·exact hw x hx
   ·exact h hk s rfl
  ·exact hw
 ·exact hw
theorem qs4 (w:Wd)(sk:Int)(sn:List ByteArray)(sf:List Fo)(occ wr:List ByteArray):(Js w sk sn sf occ wr).is=w.is:=by
 unfold Js;split
 ·split<;>rfl
 ·rfl
mutual
theorem kt4:∀ (p:Pr) {w:Wd},Kz r w->isR r p->Kz r (z1 w p)
 |.mk _ _ _ _ _ rep ak l _ (.mk sk _ sn se _ sf sb),w,hw,⟨h1,h2,h3,h4⟩=>by
  simp only[z1];refine jn6 l (km7 ak ?_ h3) h4;intro x hx;rw[qs4]at hx;exact jn6 sb (km6 hw rep.name sk sn se.s sf h1) h2 x hx
theorem jn6:∀ (l:List Pr) {w:Wd},Kz r w->ri8 r l->Kz r (Df w l)
 |[],w,hw,_=>by simpa [Df]using hw
 |p::l,w,hw,⟨h1,h2⟩=>by
  simp only[Df];exact jn6 l (kt4 p hw h1) h2
theorem km7:∀ (l:List Gu) {w:Wd},Kz r w->rp7 r l->Kz r (Gp w l)
 |[],w,hw,_=>by simpa [Gp]using hw
 |.mk _ _ _ _ _ _ _ body::l,w,hw,⟨h1,h2⟩=>by
  simp only[Gp];exact km7 l (jn6 body hw h1) h2
end
end
def Qu (σ:W):Prop:=∀ s,∀ x∈σ.env s,∃ k:Nat,x.aD=aC k/\(k:Int)<=σ.count/\¬σ.has (aC k)
theorem jh7 {σ τ:W}(h:τ.tk=σ.tk):τ.has=σ.has:=by
 funext s;unfold W.has;rw[h]
theorem Qu.grow {σ τ:W}{n:Nat}(h:Qu σ)(g:Sc.Grow σ τ n)(h0:0<=σ.count):Qu τ:=λs x hx=>by
 rw[g.env]at hx;obtain⟨k,h1,h2,h3⟩:=h s x hx;have:=g.lo h0;exact⟨k,h1,by omega,by rw[jh7 g.tk];exact h3⟩
theorem mw4:∀ (ns:List ByteArray) {xs:List Sc.Ent} {f:ByteArray->List Sc.Ent} {s:ByteArray} {x:Sc.Ent},x∈Cn f ns xs s->x∈f s\/x∈xs
 |[],xs,f,s,x,h=>by simp only[Cn]at h;exact .inl h
 |n::ns,[],f,s,x,h=>by simp only[Cn]at h;exact .inl h
 |n::ns,y::xs,f,s,x,h=>by
  simp only[Cn]at h;rcases mw4 ns h with h|h
  ·split at h
   ·rcases Au.1 h with h|h
    ·exact .inl h
    ·rw[Bs]at h;subst h;exact .inr Aw
   ·exact .inl h
  ·exact .inr (Ax _ h)
theorem Qu.push {σ:W}(h:Qu σ){ns:List ByteArray}{xs:List Sc.Ent}{c:Int}{τ:W}(ht:τ.tk=σ.tk)(hc:σ.count<=τ.count)(hi:Sc.Incr σ.has c xs τ.count){e:ByteArray->List Sc.Ent}(he:e=Cn σ.env ns xs):Qu {τ with env:=e}:=λs x hx=>by
 subst he;have hh:({τ with env:=Cn σ.env ns xs}:W).has=σ.has:=jh7 ht;rw[hh];rcases mw4 ns hx with hx|hx
 ·obtain⟨k,h1,h2,h3⟩:=h s x hx;exact⟨k,h1,by show(k:Int)<=τ.count;omega,h3⟩
 ·obtain⟨k,h1,_,h2,h3⟩:=Uo hi x hx;exact⟨k,h1,h2,h3⟩
structure HeadR (σ:W)(s:Sp)(a:Sc.Head × W):Prop where
 mid:∃ c,Sc.Incr σ.has σ.count a.1.own c/\Sc.Incr σ.has c a.1.inner a.2.count
 names:a.1.names=a.1.own.map (·.aD)
 e:∃ τ:W,τ.env=σ.env/\a.1.e=(j5 τ s.e).1/\a.2=(j5 τ s.e).2
open Sc in
theorem vi7 (σ:W)(h0:0<=σ.count)(s:Sp):HeadR σ s (Fw σ s):=by
 unfold Fw;dsimp only;obtain⟨o,ho⟩:∃ o,o=Da (Cr σ s.names) (s.names.map λ_=>Dx σ.env s):=⟨_,rfl⟩;have i1:=jo8 (s.names.map λ_=>Dx σ.env s) (Cr σ s.names) h0;have g1:=(Lf σ s.names).trans (Ke (s.names.map λ_=>Dx σ.env s) (Cr σ s.names));rw[<-ho]at i1 g1 ⊢;have c1:=g1.lo h0;obtain⟨i,hi⟩:∃ i,i=Da (Cr o.2 (s.ax.map (·.name))) (s.ax.map λf=>(false,Cx σ.env f.type)):=⟨_,rfl⟩;have i2:=jo8 (s.ax.map λf=>(false,Cx σ.env f.type)) (Cr o.2 (s.ax.map (·.name))) (by show 0<=o.2.count;omega);have g2:=(Lf o.2 (s.ax.map (·.name))).trans (Ke (s.ax.map λf=>(false,Cx σ.env f.type)) (Cr o.2 (s.ax.map (·.name))));rw[<-hi]at i2 g2 ⊢;have c2:=g2.lo (by omega);have g3:=(Np i.2 s.type).trans (Nn (f:=Fq) (λ_=>1) (λf σ=>Ko σ f) s.ax (Gr i.2 s.type).2);have c3:=g3.lo (by omega);have g4:=Dk s.e (z6 Fq (Gr i.2 s.type).2 s.ax).2;have c4:=g4.lo (by omega);have e1:W.has (Cr σ s.names)=σ.has:=rfl;have e2:W.has (Cr o.2 (s.ax.map (·.name)))=σ.has:=by
  show o.2.has=σ.has;exact jh7 g1.tk
 rw[e1]at i1;rw[e2]at i2;refine⟨⟨o.2.count,i1,i2.up (by dsimp only;omega)⟩,rfl,(z6 Fq (Gr i.2 s.type).2 s.ax).2,?_,rfl,rfl⟩;rw[g3.env,g2.env,g1.env]
theorem vi8 {has:ByteArray->Prop}{σ τ:W}(he:Qu σ)(hh:has=σ.has)(ht:τ.env=σ.env)(s:ByteArray)(hf:(s,false)∈(aA τ s).2.ev->has s){k:Nat}(hk:σ.count<k)(hn:¬has (aC k)):rk has (aA τ s).1<rk has (aC k):=by
 rw[rp6 hn];unfold aA at hf ⊢;rw[ht]at hf ⊢;cases hl:(σ.env s).getLast? with
 |some x=>
  obtain⟨j,h1,h2,h3⟩:=he s x (List.mem_of_getLast? hl);dsimp only;rw[h1,rp6 (by rw[hh];exact h3)];omega
 |none=>
  rw[hl]at hf;have:=hf (by simp[Sc.step]);dsimp only;unfold rk;rw[Ad this];omega
theorem vi9 (σ:W)(e:Ex)(h:Cz e.kind=true):(j5 σ e).1.s=(aA σ e.s).1/\(aA σ e.s).2.ev<+:(j5 σ e).2.ev:=by
 cases e with
 |mk kind op ty n s l=>
  simp only[Ex.kind]at h;simp only[j5,h,if_true,Ex.s];exact⟨trivial,(Mh l _).pre⟩
open Sc in
theorem ry6 (σ:W)(h0:0<=σ.count)(kind:Int)(name:ByteArray)(av:Ex)(aj au:List Ex)(rep:Rp):Sc.Incr σ.has σ.count (Gh σ kind name av aj au rep).1.own (Gh σ kind name av aj au rep).2.count:=by
 have ga:Sc.Grow σ (if kind=17 then aA σ name else (name,σ)).2 1:=by
  split
  ·exact Jq σ name
  ·exact Sc.Grow.refl _ _
 unfold Gh;dsimp only;generalize (if kind=17 then aA σ name else (name,σ))=a at ga ⊢;have g4:=((ga.trans (Dk av a.2)).trans (Gf aj _)).trans (Lb (Dh σ.env kind av au) _ au);generalize Gg (Dh σ.env kind av au) (z6 j5 (j5 a.2 av).2 aj).2 au=x at g4 ⊢;have q1:=g4.lo h0;unfold Iq;split
 ·exact q1
 ·dsimp only;obtain⟨k,k1,k2,k3,k4⟩:=jo7 x.2 (by omega);have g5:=Dk rep.base (Co x.2).2;have g6:=Dk rep.count (j5 (Co x.2).2 rep.base).2;have q5:=g5.lo (by omega);have q6:=g6.lo (by omega);rw[jh7 g4.tk]at k3;exact⟨k,k1,by omega,k3,by show(k:Int)<=_;omega⟩
open Sc in
mutual
theorem qs5 {has:ByteArray->Prop}:∀ (p:Pr) (σ:W),Hz p->Qu σ->0<=σ.count->has=σ.has->(∀ s,(s,false)∈(Fz σ p).2.ev->has s)->isR (rk has) (Fz σ p).1
 |.mk kind name av aj au rep ak l ay (.mk sk st sn se spp sf sb),σ,ha,he,h0,hh,hf=>by
  simp only[Hz]at ha;obtain⟨a1,a2,a3,a4⟩:=ha;have hz:=jn4 _ (by rw[Je,Aa]at a1;exact a1.1);have hsp:kind=18->Hr (.mk sk st sn se spp sf sb)=true:=λhk=>by
   rw[Je,Aa]at a1;exact Nr _ a1.1 hk
  simp only[Pr.kind,Pr.rep,Pr.spec]at hz;have gh:=Oy σ kind name av aj au rep;have ih:=ry6 σ h0 kind name av aj au rep;simp only[Fz]at hf ⊢;generalize Gh σ kind name av aj au rep=a at gh ih hf ⊢;have q1:=gh.lo h0;have e1:a.2.has=σ.has:=jh7 gh.tk;by_cases hk:kind=18
  ·rw[Ad hk]at hf ⊢;have gs:=Nc a.2 (.mk sk st sn se spp sf []);have hs:=vi7 a.2 (by omega) (.mk sk st sn se spp sf []);generalize Fw a.2 (.mk sk st sn se spp sf [])=s at gs hs hf ⊢;have q2:=gs.lo (by omega);obtain⟨⟨c,i1,i2⟩,hn,τ,t1,t2,t3⟩:=hs;rw[e1]at i1 i2;have l1:=i1.le;have l2:=i2.le;have gb:=Gz sb {s.2 with env:=Cn σ.env (sf.map (·.name)) s.1.inner};have tb:=jy1 (has:=has) sb {s.2 with env:=Cn σ.env (sf.map (·.name)) s.1.inner} a2 (Qu.push he (gs.tk.trans gh.tk) (by omega) i2 rfl) (by dsimp only;omega) (by rw[hh];exact(jh7 (gs.tk.trans gh.tk)).symm);generalize Fx {s.2 with env:=Cn σ.env (sf.map (·.name)) s.1.inner} sb=b at gb tb hf ⊢;have q3:=gb.lo (by dsimp only;omega);dsimp only at q3;have htb:b.2.tk=σ.tk:=gb.tk.trans (gs.tk.trans gh.tk);have gg:=Il ak {b.2 with env:=Cn σ.env sn s.1.own};have tg:=kz4 (has:=has) ak {b.2 with env:=Cn σ.env sn s.1.own} a3 (Qu.push he htb (by omega) (i1.up (by omega)) rfl) (by dsimp only;omega) (by rw[hh];exact(jh7 htb).symm);generalize Gl {b.2 with env:=Cn σ.env sn s.1.own} ak=g at gg tg hf ⊢;have q4:=gg.lo (by dsimp only;omega);dsimp only at q4;have htg:g.2.tk=σ.tk:=gg.tk.trans htb;have gm:=Gz l g.2;have tm:=jy1 (has:=has) l g.2 a4 (λs' x hx=>by
    rw[gg.env]at hx;obtain⟨k,r1,r2,r3⟩:=Qu.push he htb (τ:=b.2) (by omega) (i1.up (by omega)) rfl s' x hx;refine⟨k,r1,by dsimp only at r2;omega,?_⟩;rw[jh7 htg];rw[jh7 (σ:=σ) (by exact htb)]at r3;exact r3) (by omega) (by rw[hh];exact(jh7 htg).symm)
   generalize Fx g.2 l=m at gm tm hf ⊢;dsimp only at hf ⊢;have p1:∀ x∈g.2.ev,x∈m.2.ev:=λx hx=>gm.pre.subset hx;have p2:∀ x∈b.2.ev,x∈m.2.ev:=λx hx=>p1 x (gg.pre.subset hx);have p3:∀ x∈s.2.ev,x∈m.2.ev:=λx hx=>p2 x (gb.pre.subset hx);simp only[isR];refine⟨λh3 x hx=>?_,tb λs' h'=>hf s' (p2 _ h'),tg λs' h'=>hf s' (p1 _ h'),tm λs' h'=>hf s' h'⟩;rw[hn]at hx;cases ho:s.1.own with
   |nil=>rw[ho]at hx;cases hx
   |cons y ys=>
    rw[ho]at hx i1;simp only[List.map_cons,List.head?_cons,Option.mem_def,Bi]at hx;subst hx;obtain⟨k,k1,k2,k3,_⟩:=i1;have hek:Cz se.kind=true:=ri7 (hsp hk) h3;obtain⟨x1,x2⟩:=vi9 τ se hek;rw[k1,t2];simp only[Sp.e];rw[x1];refine vi8 he hh (by rw[t1,gh.env]) se.s (λhm=>hf _ (p3 _ ?_)) (by omega) (by rw[hh];exact k3);rw[t3];exact x2.subset hm
  ·rw[Af hk]at hf ⊢;have hsp:=hz.2.1 hk;simp only[sp0,Sp.mk.injEq]at hsp;obtain⟨rfl,rfl,rfl,rfl,rfl,rfl,rfl⟩:=hsp;have gg:=Il ak {a.2 with env:=Cn σ.env (if rep.name=ByteArray.empty then [] else [rep.name]) a.1.own};rw[show σ.has=σ.has from rfl]at ih;have tg:=kz4 (has:=has) ak {a.2 with env:=Cn σ.env (if rep.name=ByteArray.empty then [] else [rep.name]) a.1.own} a3 (Qu.push he gh.tk (by omega) ih rfl) (by dsimp only;omega) (by rw[hh];exact e1.symm);generalize Gl {a.2 with env:=Cn σ.env (if rep.name=ByteArray.empty then [] else [rep.name]) a.1.own} ak=g at gg tg hf ⊢;have q4:=gg.lo (by dsimp only;omega);dsimp only at q4;have htg:g.2.tk=σ.tk:=gg.tk.trans gh.tk;have gm:=Gz l g.2;have tm:=jy1 (has:=has) l g.2 a4 (λs' x hx=>by
    rw[gg.env]at hx;obtain⟨k,r1,r2,r3⟩:=Qu.push he gh.tk (τ:=a.2) (by omega) ih rfl s' x hx;refine⟨k,r1,by dsimp only at r2;omega,?_⟩;rw[jh7 htg];rw[jh7 (σ:=σ) (by exact gh.tk)]at r3;exact r3) (by omega) (by rw[hh];exact(jh7 htg).symm)
   generalize Fx g.2 l=m at gm tm hf ⊢;dsimp only at hf ⊢;simp only[isR,ri8];exact⟨λh=>by omega,trivial,tg λs' h'=>hf s' (gm.pre.subset h'),tm λs' h'=>hf s' h'⟩
theorem jy1 {has:ByteArray->Prop}:∀ (l:List Pr) (σ:W),ja1 l->Qu σ->0<=σ.count->has=σ.has->(∀ s,(s,false)∈(Fx σ l).2.ev->has s)->ri8 (rk has) (Fx σ l).1
 |[],σ,_,_,_,_,_=>by simp[Fx,ri8]
 |p::l,σ,ha,he,h0,hh,hf=>by
  simp only[Fx]at hf ⊢;have g:=Nb p σ;have g2:=Gz l (Fz σ p).2;have:=g.lo h0;exact⟨qs5 p σ ha.1 he h0 hh λs h=>hf s (g2.pre.subset h),jy1 l (Fz σ p).2 ha.2 (he.grow g h0) (by omega) (by rw[hh];exact(jh7 g.tk).symm) hf⟩
theorem kz4 {has:ByteArray->Prop}:∀ (l:List Gu) (σ:W),je2 l->Qu σ->0<=σ.count->has=σ.has->(∀ s,(s,false)∈(Gl σ l).2.ev->has s)->rp7 (rk has) (Gl σ l).1
 |[],σ,_,_,_,_,_=>by simp[Gl,rp7]
 |.mk kind name cond av aj values time body::l,σ,ha,he,h0,hh,hf=>by
  simp only[Gl,Ju]at hf ⊢;have gh:=Ox σ cond av aj values time;generalize Hy σ cond av aj values time=a at gh hf ⊢;have q1:=gh.lo h0;have g:=Gz body a.2;have q2:=g.lo (by omega);have g2:=Il l (Fx a.2 body).2;simp only[rp7];exact⟨jy1 body a.2 ha.1 (he.grow gh h0) (by omega) (by rw[hh];exact(jh7 gh.tk).symm) λs h=>hf s (g2.pre.subset h),kz4 l (Fx a.2 body).2 ha.2 ((he.grow gh h0).grow g (by omega)) (by omega) (by rw[hh];exact(jh7 (g.tk.trans gh.tk)).symm) hf⟩
end
end Al
end
section
namespace Al
open Lx Sc
structure Facts (p:Pr):Prop where
 head:Gw [p.av,p.rep.base,p.rep.count,p.spec.e]<=7000/\Gw p.aj<=6000/\Gw p.au<=6000
 aj:∀ e∈p.aj,Ga e=true
 au:p.kind=5->p.au≠[]
 lens:p.aj.length<=6000/\p.au.length<=6000/\p.ak.length<=16/\p.l.length<=2048
 spec:p.kind=18->p.l≠[]/\Hr p.spec=true
 none:p.kind≠18->p.spec=sp0
 gus:∀ g∈p.ak,Jr g=true
theorem jd7 {p:Pr}(h:Gy p=true):Facts p:=by
 have h1:=ka8 h;have ho:=jn4 p (by rw[Je,Aa]at h;exact h.1);have hl:p.l.length<=2048:=by
  rw[Je,Aa]at h;simpa using h.2
 obtain⟨s1,⟨_,_,s4,_⟩,s5,s6,_⟩:=h1;unfold Lu Tz at s1;refine⟨⟨by simp only[Gw];omega,by omega,by omega⟩,?_,λhk=>?_,⟨by have:=jd0 p.aj;omega,by have:=jd0 p.au;omega,s5,hl⟩,λhk=>?_,ho.2.1,s6⟩
 ·unfold Gy at h;simp only[Aa]at h;obtain⟨_,⟨⟨⟨⟨⟨⟨_,_⟩,_⟩,_⟩,ht⟩,_⟩,_⟩,_⟩:=h;unfold Cq at ht;rw[Aa,By]at ht;exact ht.2
 ·have:=(ho.2.2.1 hk).2;unfold Cq at this;rw[Aa]at this;rintro e;rw[e]at this;have:=this.1;simp[hasB]at this
 ·rw[Je,Aa]at h;refine⟨?_,Nr p h.1 hk⟩;have h2:=h.1;unfold ownB at h2;simp only[hk,Int.reduceEq,or_self,if_false,if_true,Aa,Ah]at h2;intro e;rw[e]at h2;simp at h2
theorem mp5 {α:Type}{l:List α}{b:Int}{f:α->Bool}(h:Cq l 1 b f=true):l≠[]:=by
 rintro rfl;simp[Cq,hasB]at h
structure SpFacts (s:Sp):Prop where
 names:s.names≠[]
 e:s.kind=3->Ga s.e=true
 body:s.kind=5->s.body.length=1
 other:s.kind≠5->s.body=[]
 ax:s.ax.length<=8
theorem jy2 {s:Sp}(h:Hr s=true):SpFacts s:=by
 have hs:=qm9 h;have hc:=jm7 s h;refine⟨?_,λhk=>?_,hc.2.1,hc.2.2,hs.2.1⟩
 ·unfold Hr at h
  repeat' split at h
  all_goals first
   |cases h
   |(simp only[Aa]at h
     first
      |exact mp5 h.1.1.1.1.2
      |exact mp5 h.1.1.1.2
      |exact mp5 h.1.1.2)
 ·unfold Hr at h;rw[Af (by omega),Af (by omega),Ad hk]at h;simp only[Aa]at h;exact h.1.1.1.1.2
structure GuFacts (g:Gu):Prop where
 head:Gw [g.cond,g.av,g.time]<=4864/\Gw g.aj<=4864/\Gw g.values<=4864
 aj:∀ e∈g.aj,Ga e=true
 body:g.body.length=1
theorem kf7 {g:Gu}(h:Jr g=true):GuFacts g:=by
 have h1:=qm8 h;unfold Qb at h1;unfold Jr Cq at h;simp only[Aa,Ah,By]at h;exact⟨⟨by simp only[Gw];omega,by omega,by omega⟩,h.1.2.2,h.1.1.1.1.1.1.2⟩
end Al
end
section
def Yg:List Nat:=[0,1,4,5,6,7,9,17]
section
variable {E:Set}{S:Sd}{dst:Option Tmp}{ty:TypeId}{pos:String}{af:Array Edge}{gd:Option (Nat × Bool)}
end
section
variable {E:Set}{Q:Exit->Sd->Prop}{ops:Array Oper}{draw:Bool}{rest:Todo}{way:Ji}{ty:TypeId}{pos:String}{af:Array Edge}{gd:Option (Nat × Bool)}
variable {env:List (Nat × V)}{H:List (Nat × Ob)}{gl:List (Nat × List D)}{d:Nat}
end
attribute [local irreducible] TR TC
theorem vj0 (gl:List (Nat × List D))(l:List ByteArray)(s:ByteArray):FnD prog gl 11 [.d (.list 1 (l.map .str)),.d (.str s)] (λv=>v=.d (.bool (l.any (Sc.isB s)))):=by
 (refine j4 func11 ntmps11 results11 λw M=>?_)
 refine k7 0 rfl λhn=>?_;simp only[Ab]at hn
 (repeat' first|refine yyp ?_;try refine Ce ?_ ?_<;>intro hb|refine yy ?_|apply ah;refine Cc Yg ?_|refine Cb λK hK=>?_|apply_assumption -exfalso -symm)
 refine k9 [4,5,6,7,8,9,10,11,12,13,14,15,16,17] [] (λk:Nat=>[(5,.d (.int .i64 k))]) (λ_=>[]) (λk=>k<=l.length/\l.any (Sc.isB s)=(l.drop k).any (Sc.isB s)) (λk=>l.length - k) 0 ⟨by omega,rfl⟩ λk ⟨hk,hi⟩=>?_;dsimp only[Ac,Ae];rcases Ai k l.length with hk2|hk2
 ·rw[Bk hk2,List.any_cons]at hi
  (repeat' first|refine yyp ?_;try refine Ce ?_ ?_<;>intro hb|refine yy ?_|refine yy2 ?_ ?_<;>intro hcmp|apply ah;refine Cc Yg ?_|refine Cb λK hK=>?_|apply_assumption -exfalso -symm)
  ·(refine j1 (j7 ?_))
   rw[hi,Ml.2 hcmp];rfl
  ·refine⟨k+1,⟨by omega,?_⟩,by omega,v6⟩;have:Sc.isB s l[k]=false:=by
    cases h:Sc.isB s l[k]with
    |false=>rfl
    |true=>exact absurd (Ml.1 h) hcmp
   rw[hi,this];rfl
 ·(repeat' first|refine yyp ?_;try refine Ce ?_ ?_<;>intro hb|refine yy ?_|apply ah;refine Cc Yg ?_|refine Cb λK hK=>?_|apply_assumption -exfalso -symm)
  (refine j1 (j7 ?_))
  rw[hi,Bq hk2];rfl
end
section
def Cv (s:ByteArray):Ex:=.mk 4 0 0 0 s []
def jy3 (x y:ByteArray):Pr:=.mk 3 ByteArray.empty ex0 [Cv x] [Cv y] rp0 [] [] [] sp0
end
section
theorem np:Lx.prim 1=true:=by decide
theorem ri9:Gq pr0=false:=by
 simp[Gq,pr0,Du,Gy,Hf,Gi,rp0,ex0,sp0,pt0,Pr.kind]
end
section
namespace Sc
open Lx
theorem vt8:aC 1=⟨#[110,49]⟩:=by unfold aC;rw[dec,dif_pos (by omega)];rfl
theorem vt9:aC 2=⟨#[110,50]⟩:=by unfold aC;rw[dec,dif_pos (by omega)];rfl
theorem mw5 (σ:W)(n:Nat)(hc:σ.count=n)(h:¬σ.has (aC (n+1))):Co σ=(aC (n+1),{σ with count:=(n+1:Nat)}):=by
 unfold Co;dsimp only;rw[hc,Int.toNat_natCast,skip,Af h]
theorem mi7 (σ:W)(u v:ByteArray):Fz σ (jy3 u v)=(jy3 (aA σ u).1 (aA (aA σ u).2 v).1,(aA (aA σ u).2 v).2):=by
 have h0:∀ σ:W,j5 σ ex0=(ex0,σ):=λσ=>by simp[ex0,j5,Cz,y4]
 have h1:∀ (σ:W) s,j5 σ (Cv s)=(Cv (aA σ s).1,(aA σ s).2):=λσ s=>by simp[Cv,j5,Cz,y4]
 have hr:∀ σ:W,Iq σ ⟨ByteArray.empty,ex0,ex0⟩=((⟨ByteArray.empty,ex0,ex0⟩,[]),σ):=λσ=>by simp[Iq]
 have he:(aA (aA σ u).2 v).2.env=σ.env:=by rw[(Jq _ _).env,(Jq _ _).env]
 simp only[jy3,sp0,Fz,Fx,Gl,Gh,z6,jn0,Dh,h0,h1,hr,Int.reduceEq,if_false,if_true,rp0];simp only[<-he]
end Sc
end
end Go.Proofs.YtklklgfpkpglgaaGreatDoor
