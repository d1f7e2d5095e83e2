/- Parts. -/
import Derived.Test.YtklklgfpkpglgaaGreatDoorQ9
set_option linter.all false
set_option maxRecDepth 100000
set_option maxHeartbeats 0
namespace Go.Proofs.YtklklgfpkpglgaaGreatDoor
open Go.RowKit
section
section
variable {E:Set}{Q:Exit->Sd->Prop}{ops:Array Oper}{draw:Bool}{rest:Todo}{way:Ji}{ty:TypeId}{pos:String}{af:Array Edge}{gd:Option (Nat × Bool)}{dst:Option Tmp}
variable {env:List (Nat × V)}{H:List (Nat × Ob)}{gl:List (Nat × List D)}{d:Nat}
theorem ra0 {c:Code}(n:Nat){e sz k:Nat}{sh:Bool}{xs:List D}(hn:look n H=some (.row e sz sh xs k))(h:TC E c Q ⟨env,(n,.row e sz true xs k)::H,gl⟩):TC E c Q ⟨env,H,gl⟩:=λa w ⟨β,hB⟩=>h a w ⟨β,hB.share hn⟩
inductive Frz (H:List (Nat × Ob)):List V->List D->List Nat->Prop
 |nil:Frz H [] [] []
 |cons {v:V} {x:D} {vs:List V} {xs:List D} {ms:List Nat} (h:ToD H v x) (t:Frz H vs xs ms):Frz H (v::vs) (x::xs) ms
 |map {m:Nat} {ks us:List D} {vs:List V} {xs:List D} {ms:List Nat} (h:look m H=some (.map ks us)) (t:Frz H vs xs ms):Frz H (.map m::vs) (.map ks us::xs) (m::ms)
theorem jo2 {c:Code}{t n off:Nat}{cs:List V}{ds:List D}{ms:List Nat}{env':List (Nat × V)}{H':List (Nat × Ob)}(hl:look t env=some (.ptr n off))(hb':look n H=some (.box cs))(hf:Frz H cs ds ms)(hsc:ds.all D.scalar=true)(h1:Sub env env')(h2:Sub H H')
 (hn:((n::ms).all λm=>(look m H').isNone)=true) (hN:(E.C.N.all λn=>(look n H').isSome)=true) (h:TC E c Q ⟨(t,.d (.ref ds off))::env',H',gl⟩):TC E c Q ⟨env,H,gl⟩:=λa w ⟨β,hB⟩=>by
 have hB':=hB.weak (S':=⟨env',H',gl⟩) (λt v h=>h1.look h) (λn ob h=>h2.look h) (λ_ _ h=>h) (λn hn=>By.1 hN n hn);have hne:∀ m,m∈n::ms->look m H'=none:=λm hm=>by simpa using By.1 hn m hm
 have hk:aI w (Mut E.C.M0 β H) w (Mut E.C.M0 β H'):=aI.weak λb o hm=>by
  rcases hm with hm|⟨m,ob,q1,q2,q3⟩
  ·exact .inl hm
  ·exact .inr ⟨m,ob,h2.look q1,q2,q3⟩
 have hfree:∀ m ob b o,m∈n::ms->look m H=some ob->hb (β m).v=some b->¬Mut E.C.M0 β H' b o:=λm ob b o hm hlm hbm hmut=>by
  rcases hmut with q|⟨m2,ob2,q1,q2,q3⟩
  ·exact hB.out m ob b o hlm (.inl hbm) q
  ·have:m≠m2:=by rintro rfl;rw[hne m hm]at q1;cases q1
   exact hB.apart m m2 b ob ob2 this hlm (h2.look q1) (.inl hbm) q2
 refine h a w ⟨β,{hB' with env:=λs v hs=>?_}⟩;dsimp only at hs;rw[j6]at hs;split at hs
 ·rename_i e;subst e;cases hs;obtain⟨x,q1,b,q2,rfl⟩:=hB.env t _ hl;obtain⟨b2,vs,ty,q3,q4,q5⟩:=hB.obs n _ hb';rw[q2]at q3;cases q3;refine⟨_,q1,b,0,vs,by rw[Es],?_,λj y hj=>⟨b,0,rfl,?_,?_⟩⟩
  ·have:∀ (cs:List V) (ds:List D) (ms':List Nat),Frz H cs ds ms'->ds.all D.scalar=true->(∀ m∈ms',m∈ms)->∀ vs,Cs w (Mut E.C.M0 β H) β H cs vs->Dz w (Mut E.C.M0 β H') ds vs:=λcs ds ms' hf=>by
    induction hf with
    |nil=>intro _ _ vs h;exact h
    |cons hd _ ih=>
     intro hs hm vs hv;obtain⟨u,r,rfl,r1,r2⟩:=hv;simp only[Ei,Aa]at hs;have r3:=hd.rep hB r1;exact⟨u,r,rfl,r3.aF hs.1,Gv.keep hk _ _ r3,ih hs.2 hm r r2⟩
    |@map m ks us vs' xs ms2 hlm _ ih=>
     intro hs hm vs hv;obtain⟨u,r,rfl,⟨rr,r1,r1'⟩,r2⟩:=hv;simp only[Ei,Aa]at hs;obtain⟨r0,es,clock,r3,r4,r5,r6,r7⟩:=hB.obs m _ hlm;rw[r1]at r3;cases r3;subst r1';exact⟨_,r,rfl,rfl,⟨rr,es,clock,rfl,r4,λo=>hfree m _ rr o (Ax _ (hm m Aw)) hlm (by rw[r1];rfl),Hg.keep hk _ _ r5,Hg.keep hk _ _ r6,r7⟩,ih hs.2 (λm' h'=>hm m' (Ax _ h')) r r2⟩
   exact this cs ds ms hf hsc (λm h=>h) vs q5
  ·exact hfree n _ b _ Aw hb' (by rw[q2];rfl)
  ·rw[Es];exact mb2 q4 hj
 ·exact hB'.env s v hs
inductive Px (P:Program)(S:Sd)(t:Nat):List V->List (Nat × Operand)->List V->Prop
 |nil (zs:List V):Px P S t zs [] zs
 |cons {zs zs' ds cs:List V} {f off ft m:Nat} {x:Operand} {v:V} {ps:List (Nat × Operand)} [hf:aJ P t f off ft] [hs:TSize P ft m] (hx:S.ev x=some v) (ho:Cm x=true) (hw:Pp S v=true) (hc:Ij v cs) (hm:cs.length=m) (hr:Repl zs off cs zs') (h:Px P S t zs' ps ds):
  Px P S t zs ((f,x)::ps) ds
theorem Cs.cut {w:World}{M:Nat->Nat->Prop}{β:Nat->Hd}{H:List (Nat × Ob)}:∀ (k:Nat) {l:List V} {m:List Value},Cs w M β H l m->Cs w M β H (l.take k) (m.take k)/\Cs w M β H (l.drop k) (m.drop k)
 |0,_,_,h=>⟨by simp[Cs],h⟩
 |k+1,[],_,h=>by simp only[Cs]at h;subst h;exact⟨by simp[Cs],by simp[Cs]⟩
 |k+1,y::l,_,h=>by
  obtain⟨v,r,rfl,h5,h6⟩:=h;obtain⟨q1,q2⟩:=Cs.cut k h6;exact⟨⟨v,_,rfl,h5,q1⟩,q2⟩
theorem Px.rep {P:Program}{C:Ctx}{β:Nat->Hd}{S:Sd}{a:Act}{w:World}(h:StB C β S a w){t:Nat}{fs:Array Field}(hu:P.underlying t=some (.struct fs)){places:Array (Nat × Nat)}(hp:∀ (f:Nat) (fd:Field) i,fs[f]? =some fd->P.info? fd.type=some i->places[f]? =some (fd.offset,i.size))
 {zs ds:List V} {ps:List (Nat × Operand)} (hb:Px P S t zs ps ds):∀ {us:List Value},Cs w (Mut C.M0 β S.H) β S.H zs us->(∀ u∈us,u.oneCell'=true)->
 ∃ vs:List Value,Instr.fill (places[·]?) us.toArray (ps.map λx=>(x.1,a.eval x.2))=some vs.toArray/\Cs w (Mut C.M0 β S.H) β S.H ds vs/\∀ u∈vs,u.oneCell'=true:=by
 induction hb with
 |nil zs=>intro us hr h1;exact⟨us,rfl,hr,h1⟩
 |@cons zs zs' ds cs f off ft m x v ps hf hs hx ho hw hc hm hr hb ih=>
  intro us hrep hone;obtain⟨fs',fd,i,hu',h1,h2,h3,h4,_⟩:=jn8 hf;rw[hu]at hu';cases hu';have hi:i.size=m:=by have:=hs.ok;rw[h4]at this;simpa using this
  have hpl:=hp f fd i h1 (by rw[h3];exact h4);obtain⟨hcs,hco⟩:=hc.rep h (h.ev hx ho) (kc5 hw);have hlen:=hcs.length;obtain⟨h5,h6⟩:=hr.eq;have hul:=hrep.length;have hsz:(a.eval x).cells.size=m:=by simp at hlen;omega
  have hnew:Cs w (Mut C.M0 β S.H) β S.H zs' (us.take off++(a.eval x).cells.toList++us.drop (off+(a.eval x).cells.toList.length)):=by
   rw[h5,<-hlen];exact Cs.app (Cs.app (Cs.cut off hrep).1 hcs) (Cs.cut _ hrep).2
  obtain⟨vs,h7,h8⟩:=ih hnew (λu hu=>by
   rcases Au.1 hu with hu|hu
   ·rcases Au.1 hu with hu|hu
    ·exact hone u (List.mem_of_mem_take hu)
    ·exact hco u hu
   ·exact hone u (List.mem_of_mem_drop hu))
  refine⟨vs,?_,h8⟩;simp only[List.map_cons,Instr.fill,hpl];rw[Af (by
   simp only[ne_eq,Bn,Ah,not_or,Eb,List.size_toArray];simp at hlen;omega)]
  have hfo:=ku8 fd.offset (a.eval x).cells.toList us.toArray (by simp at hlen ⊢;omega);rw[Array.toArray_toList]at hfo;simp only[List.toList_toArray]at hfo;rw[hfo,h2];exact h7
theorem kh0:∀ {us:List Value} {vs:List V},jj5 us vs=true->∀ u∈us,u.oneCell'=true
 |[],_,_,u,hu=>by cases hu
 |x::us,[],h,_,_=>by cases h
 |x::us,v::vs,h,u,hu=>by
  simp only[jj5,Aa]at h;rcases Bc.1 hu with rfl|hu
  ·have:=h.1;unfold js7 at this;split at this<;>first|rfl|cases this
  ·exact kh0 h.2 u hu
theorem ra1 {S:Sd}{t:Nat}{ps:List (Nat × Operand)}{vs ds:List V}[ht:aL E.P t][hz:TZero E.P t vs](hb:Px E.P S t vs ps ds):aH E S ⟨dst,.build t ps.toArray,ty,pos,af,gd⟩ (.agg ds):=aH.mk λβ a w h=>by
 obtain⟨fs,hu,hfs⟩:=ke3 ht;obtain⟨i,z,hi,hiz,h1,_⟩:=kc4 hz;obtain⟨pl,h2,h3⟩:=ku9 (P:=E.P) fs.toList hfs;obtain⟨us,h4,h5,h6⟩:=hb.rep h hu (places:=pl.toArray) (λf fd i hf hi=>by simpa using h3 f fd i (by simpa using hf) hi) (jv5 h1) (kh0 h1);refine⟨.agg us.toArray,λw' _=>?_,us,rfl,h6,h5⟩;have hpl:(fs.mapM λf=>do pure (f.offset,<-sizeOf f.type):Sem (Array (Nat × Nat))).run E.P w'=.ok pl.toArray w':=by
  rw[Array.mapM_eq_mapM_toList];simp only[Sem.run_map];refine(congrArg (λr:Result (List (Nat × Nat))=>r.andThen λa w'=>Result.ok a.toArray w') (h2 w')).trans ?_;rfl
 rw[Array.toArray_toList]at h4;simp only[execOp,Sem.run_bind,Instr.build,zeroValue,typeInfo,hi,hiz,run_underlying hu,Sem.run_pure,Result.andThen_ok,program,Sem.run];simp only[hpl,Result.andThen_ok];have e:(ps.toArray.map λx=>(x.1,a.eval x.2)).toList=ps.map λx=>(x.1,a.eval x.2):=by simp
 rw[e,h4];rfl
end
end
section
theorem n8 {n:Nat}:(OfNat.ofNat n:Int)=((OfNat.ofNat n:Nat):Int):=rfl
section
variable {E:Set}{Q:Exit->Sd->Prop}{S:Sd}{ops:Array Oper}{draw:Bool}{rest:Todo}{way:Ji}{ty:TypeId}{pos:String}{af:Array Edge}{gd:Option (Nat × Bool)}{dst:Option Tmp}{o:Oper}{v:V}
variable {env:List (Nat × V)}{H:List (Nat × Ob)}{gl:List (Nat × List D)}{d:Nat}{k:IntKind}{p q r:Int}{xt yt:TypeId}{x y:Operand}
theorem z_p (hq:aH E ⟨env,H,gl⟩ o v)(h:TR E draw ops Q rest ⟨(d,v)::env,H,gl⟩)(hdst:o.dst=some d:=by exact rfl)(hd:d<E.C.nt:=by exact ltd rfl)(hg:Sd.gd ⟨env,H,gl⟩ ops o=some true:=by exact rfl)(hdf:p9 o=false:=by exact rfl):TR E draw ops Q (.step o way rest) ⟨env,H,gl⟩:=s_p hq hdst hd hg hdf h
theorem z_q (hq:Quiet E ⟨env,H,gl⟩ o v)(h:TR E draw ops Q rest ⟨(d,v)::env,H,gl⟩)(hdst:o.dst=some d:=by exact rfl)(hd:d<E.C.nt:=by exact ltd rfl)(hg:Sd.gd ⟨env,H,gl⟩ ops o=some true:=by exact rfl)(hdf:p9 o=false:=by exact rfl)(hw:way.known=false:=by exact rfl):TR E draw ops Q (.step o way rest) ⟨env,H,gl⟩:=s_q hq hdst hd hg hdf hw h
theorem Cu {t:Nat}{ps:List (Nat × Operand)}{vs:List V}{zs ds:List D}[ht:aL E.P t][hz:TZero E.P t vs](hzd:Lp vs zs:=by(repeat (first|exact Lp.nil|apply Lp.d|apply Lp.none));fail_if_success intros)(hb:Build E.P S t zs ps ds:=by(repeat (first|exact Build.nil _|apply Build.cons rfl rfl (by first|exact ToD.d _|exact ToD.nils _|exact ToD.own rfl) (by first|exact Fv.agg _|constructor) (by rfl) (by(repeat (first|exact Repl.done _|apply Repl.here|apply Repl.there));fail_if_success intros)));fail_if_success intros):aH E S ⟨dst,.build t ps.toArray,ty,pos,af,gd⟩ (.d (.agg ds)):=qy8 hzd hb
theorem rr9 {t e sz l m:Nat}{x:Operand}{lo hi:Option Operand}{xs:List D}{li hi':Int}[ht:aK E.P t e sz](hx:S.ev x=some (.d (.list sz xs)):=by exact rfl)(hox:Cm x=true:=by exact rfl)(hl:bnd S lo 0=some li:=by exact rfl)(hh:bnd S hi (xs.length:Nat)=some hi':=by exact rfl)(el:li=(l:Nat):=by first|with_reducible exact n8|exact rfl|exact(Ep (by omega)).symm)(eh:hi'=(m:Nat):=by first|with_reducible exact n8|exact rfl|exact(Ep (by omega)).symm)(hlm:l<=m:=by first|omega|(simp only[Aj,Az,Ag,Ab,Aq,Bx];omega))(hm:m<=xs.length:=by first|omega|(simp only[Aj,Az,Ag,Ab,Aq,Bx];omega)):aH E S ⟨dst,.slice t x lo hi none,ty,pos,af,gd⟩ (.d (.list sz ((xs.drop l).take (m - l)))):=qv9 hx hox hl hh el eh hlm hm
theorem vp1 {x y:Operand}{k k':IntKind}{p q:Int}{ats:Array TypeId}(hx:S.ev x=some (.d (.int k p)):=by exact rfl)(hy:S.ev y=some (.d (.int k' q)):=by exact rfl)(hox:Cm x=true:=by exact rfl)(hoy:Cm y=true:=by exact rfl):aH E S ⟨dst,.call {callee:=.builtin .min,args:=#[x,y],argTypes:=ats},ty,pos,af,gd⟩ (.d (.int k (if q<p then q else p))):=vo4 hx hy hox hoy
theorem j2 {t:Nat}{vs:List V}[ht:TZero E.P t vs](n:Nat)(h:TR E draw ops Q rest ⟨(d,.ptr n 0)::env,(n,.box vs)::H,gl⟩)(hn:Sd.aD ⟨env,H,gl⟩ n=true:=by exact rfl)(hs:Jj n vs=false:=by rfl)(hd:d<E.C.nt:=by exact ltd rfl)(hg:Sd.gd ⟨env,H,gl⟩ ops ⟨some d,.alloc t,ty,pos,af,gd⟩=some true:=by exact rfl)(hw:way.loud=true:=by exact rfl):TR E draw ops Q (.step ⟨some d,.alloc t,ty,pos,af,gd⟩ way rest) ⟨env,H,gl⟩:=vd1 n hn hs hd hg hw h
theorem Ck {t:Nat}{x:Operand}{v:V}{vs:List V}(n:Nat)(h:TR E draw ops Q rest ⟨(d,.ptr n 0)::env,(n,.box vs)::H,gl⟩)(hx:Sd.ev ⟨env,H,gl⟩ x=some v:=by exact rfl)(hox:Cm x=true:=by exact rfl)(hown:Pp ⟨env,H,gl⟩ v=true:=by first|exact rfl|exact jq9 rfl)(hc:Ij v vs:=by first|(refine Ij.d (by first|exact Fv.agg _|constructor) (by(repeat (first|exact Ng.nil|apply Ng.nils|apply Ng.cons));fail_if_success intros))|constructor)(hn:Sd.aD ⟨env,H,gl⟩ n=true:=by exact rfl)(hs:Jj n vs=false:=by rfl)(hd:d<E.C.nt:=by exact ltd rfl)(hg:Sd.gd ⟨env,H,gl⟩ ops ⟨some d,.box t x,ty,pos,af,gd⟩=some true:=by exact rfl)(hw:way.loud=true:=by exact rfl):TR E draw ops Q (.step ⟨some d,.box t x,ty,pos,af,gd⟩ way rest) ⟨env,H,gl⟩:=vt2 n hx hox hown hc hn hs hd hg hw h
theorem Fu {t e sz len:Nat}{ps:List (Nat × Operand)}{xs:List D}[ht:aK E.P t e sz](n:Nat)(h:TR E draw ops Q rest ⟨(d,.own n 0)::env,(n,.row e sz true xs 0)::H,gl⟩)(hp:Elems ⟨env,H,gl⟩ sz 0 ps xs:=by(repeat (first|exact Elems.nil _|apply Elems.cons rfl rfl (by first|exact ToD.d _|exact ToD.nils _|exact ToD.own rfl) (by first|exact Fv.agg _|constructor) (by rfl)));fail_if_success intros)(hlen:xs.length=len:=by rfl)(hsmall:len * sz<=16777216:=by decide)(hn:Sd.aD ⟨env,H,gl⟩ n=true:=by exact rfl)(hd:d<E.C.nt:=by exact ltd rfl)(hg:Sd.gd ⟨env,H,gl⟩ ops ⟨some d,.buildSlice t len ps.toArray,ty,pos,af,gd⟩=some true:=by exact rfl)(hw:way.loud=true:=by exact rfl):TR E draw ops Q (.step ⟨some d,.buildSlice t len ps.toArray,ty,pos,af,gd⟩ way rest) ⟨env,H,gl⟩:=vt3 n hp hlen hsmall hn hd hg hw h
theorem rs0 {t n off m:Nat}{x y:Operand}{v:V}{vs cs cs':List V}[ht:TSize E.P t m](h:TR E draw ops Q rest ⟨env,(n,.box cs')::H,gl⟩)(hx:Sd.ev ⟨env,H,gl⟩ x=some (.ptr n off):=by exact rfl)(hox:Cm x=true:=by exact rfl)(hy:Sd.ev ⟨env,H,gl⟩ y=some v:=by exact rfl)(hoy:Cm y=true:=by exact rfl)(hown:Pp ⟨env,H,gl⟩ v=true:=by first|exact rfl|exact jq9 rfl)(hl:look n H=some (.box cs):=by exact rfl)(hc:Ij v vs:=by first|(refine Ij.d (by first|exact Fv.agg _|constructor) (by(repeat (first|exact Ng.nil|apply Ng.nils|apply Ng.cons));fail_if_success intros))|constructor)(hm:vs.length=m:=by rfl)(hr:Repl cs off vs cs':=by(repeat (first|exact Repl.done _|apply Repl.here|apply Repl.there));fail_if_success intros)(hg:Sd.gd ⟨env,H,gl⟩ ops ⟨none,.store t x y,ty,pos,af,gd⟩=some true:=by exact rfl)(hw:Jv draw way=true:=by exact rfl):TR E draw ops Q (.step ⟨none,.store t x y,ty,pos,af,gd⟩ way rest) ⟨env,H,gl⟩:=vd2 hx hox hy hoy hown hl hc hm hr hg hw h
theorem my5 {t n k i e sz:Nat}{x y:Operand}{v:V}{z:D}{xs zs:List D}[ht:TSize E.P t sz](h:TR E draw ops Q rest ⟨env,(n,.row e sz false (xs.set i z) k)::H,gl⟩)(hx:Sd.ev ⟨env,H,gl⟩ x=some (.el n k i 0):=by exact rfl)(hox:Cm x=true:=by exact rfl)(hl:look n H=some (.row e sz false xs k):=by exact rfl)(hy:Sd.ev ⟨env,H,gl⟩ y=some v:=by exact rfl)(hoy:Cm y=true:=by exact rfl)(hz:ToD H v z:=by first|exact ToD.d _|exact ToD.nils _|exact ToD.own rfl)(hc:Fv z zs:=by first|exact Fv.agg _|constructor)(hm:zs.length=sz:=by exact rfl)(hi:i<xs.length:=by first|omega|(simp only[Aj,Az,Ag,Ab,Aq,Bx];omega))(hg:Sd.gd ⟨env,H,gl⟩ ops ⟨none,.store t x y,ty,pos,af,gd⟩=some true:=by exact rfl)(hw:Jv draw way=true:=by exact rfl):TR E draw ops Q (.step ⟨none,.store t x y,ty,pos,af,gd⟩ way rest) ⟨env,H,gl⟩:=qf5 hx hox hl hy hoy hz hc hm hi hg hw h
theorem md3 {t e sz sz':Nat}{s x:Operand}{v:V}{ys:List D}[ht:aK E.P t e sz](n:Nat)(h:TR E draw ops Q rest ⟨(d,.own n 0)::env,(n,.row e sz true ys 0)::H,gl⟩)(hs:Sd.ev ⟨env,H,gl⟩ s=some (.nils sz'):=by exact rfl)(hos:Cm s=true:=by exact rfl)(hx:Sd.ev ⟨env,H,gl⟩ x=some v:=by exact rfl)(hox:Cm x=true:=by exact rfl)(hy:ToD H v (.list sz ys):=by first|exact ToD.d _|exact ToD.nils _|exact ToD.own rfl)(hlen:ys.length<=100000000000:=by first|omega|(simp only[Aj,Az,Ag,Ab,Aq,Bx];omega))(hn:Sd.aD ⟨env,H,gl⟩ n=true:=by exact rfl)(hd:d<E.C.nt:=by exact ltd rfl)(hg:Sd.gd ⟨env,H,gl⟩ ops ⟨some d,.call {callee:=.builtin .append,args:=#[s,x],argTypes:=#[t,t]},ty,pos,af,gd⟩=some true:=by exact rfl)(hw:way.loud=true:=by exact rfl):TR E draw ops Q (.step ⟨some d,.call {callee:=.builtin .append,args:=#[s,x],argTypes:=#[t,t]},ty,pos,af,gd⟩ way rest) ⟨env,H,gl⟩:=qy9 n hs hos hx hox hy hlen hn hd hg hw h
theorem Gj {t e sz n k:Nat}{sh:Bool}{s x:Operand}{v:V}{xs ys:List D}[ht:aK E.P t e sz](h:∀ k',TR E draw ops Q rest ⟨(d,.own n k')::env,(n,.row e sz sh (xs++ys) k')::H,gl⟩)(hs:Sd.ev ⟨env,H,gl⟩ s=some (.own n k):=by exact rfl)(hos:Cm s=true:=by exact rfl)(hl:look n H=some (.row e sz sh xs k):=by exact rfl)(hx:Sd.ev ⟨env,H,gl⟩ x=some v:=by exact rfl)(hox:Cm x=true:=by exact rfl)(hy:ToD H v (.list sz ys):=by first|exact ToD.d _|exact ToD.nils _|exact ToD.own rfl)(hlen:xs.length+ys.length<=100000000000:=by first|omega|(simp only[Aj,Az,Ag,Ab,Aq,Bx];omega))(hN:E.C.N.contains n=false:=by exact rfl)(hd:d<E.C.nt:=by exact ltd rfl)(hg:Sd.gd ⟨env,H,gl⟩ ops ⟨some d,.call {callee:=.builtin .append,args:=#[s,x],argTypes:=#[t,t]},ty,pos,af,gd⟩=some true:=by exact rfl)(hw:Jv draw way=true:=by exact rfl):TR E draw ops Q (.step ⟨some d,.call {callee:=.builtin .append,args:=#[s,x],argTypes:=#[t,t]},ty,pos,af,gd⟩ way rest) ⟨env,H,gl⟩:=rm2 hs hos hl hx hox hy hlen hN hd hg hw h
theorem ve4 {o:Oper}(h:TR E draw ops Q rest ⟨(d,.tup [])::env,H,gl⟩)(hdst:o.dst=some d:=by exact rfl)(hd:d<E.C.nt:=by exact ltd rfl)(hg:Sd.gd ⟨env,H,gl⟩ ops o=some false:=by exact rfl):TR E draw ops Q (.step o way rest) ⟨env,H,gl⟩:=vn8 hdst hd hg h
theorem Ir {t:Nat}(n:Nat)(h:TR E draw ops Q rest ⟨(d,.map n)::env,(n,.map [] [])::H,gl⟩)(hn:Sd.aD ⟨env,H,gl⟩ n=true:=by exact rfl)(hd:d<E.C.nt:=by exact ltd rfl)(hg:Sd.gd ⟨env,H,gl⟩ ops ⟨some d,.makeMap t none,ty,pos,af,gd⟩=some true:=by exact rfl)(hw:way.loud=true:=by exact rfl):TR E draw ops Q (.step ⟨some d,.makeMap t none,ty,pos,af,gd⟩ way rest) ⟨env,H,gl⟩:=qz7 n hn hd hg hw h
theorem ve5 {t e sz m:Nat}{k:IntKind}{p:Int}{x:Operand}{z:D}[ht:aK E.P t e sz][hz:Py E.P e z](n:Nat)(h:TR E draw ops Q rest ⟨(d,.own n 0)::env,(n,.row e sz false (List.replicate m z) 0)::H,gl⟩)(hx:Sd.ev ⟨env,H,gl⟩ x=some (.d (.int k p)):=by exact rfl)(hox:Cm x=true:=by exact rfl)(hp:p=(m:Nat):=by first|with_reducible exact n8|exact rfl|exact(Ep (by omega)).symm)(hm:m<=1000000000:=by first|omega|(simp only[Aj,Az,Ag,Ab,Aq,Bx];omega))(hn:Sd.aD ⟨env,H,gl⟩ n=true:=by exact rfl)(hd:d<E.C.nt:=by exact ltd rfl)(hg:Sd.gd ⟨env,H,gl⟩ ops ⟨some d,.makeSlice t x x,ty,pos,af,gd⟩=some true:=by exact rfl)(hw:way.loud=true:=by exact rfl):TR E draw ops Q (.step ⟨some d,.makeSlice t x x,ty,pos,af,gd⟩ way rest) ⟨env,H,gl⟩:=vo6 n hx hox hp hm hn hd hg hw h
theorem ra2 {xt yt:TypeId}{x y:Operand}{s t:ByteArray}(h1:s=t->TR E draw ops Q rest ⟨(d,.d (.bool true))::env,H,gl⟩)(h2:¬s=t->TR E draw ops Q rest ⟨(d,.d (.bool false))::env,H,gl⟩)(hx:Sd.ev ⟨env,H,gl⟩ x=some (.d (.str s)):=by exact rfl)(hy:Sd.ev ⟨env,H,gl⟩ y=some (.d (.str t)):=by exact rfl)(hox:Cm x=true:=by exact rfl)(hoy:Cm y=true:=by exact rfl)(hd:d<E.C.nt:=by exact ltd rfl)(hg:Sd.gd ⟨env,H,gl⟩ ops ⟨some d,.binOp .eql xt x y yt,ty,pos,af,gd⟩=some true:=by exact rfl):TR E draw ops Q (.step ⟨some d,.binOp .eql xt x y yt,ty,pos,af,gd⟩ way rest) ⟨env,H,gl⟩:=rm3 hx hy hox hoy hd hg h1 h2
theorem ra3 {xt yt:TypeId}{x y:Operand}{s t:ByteArray}(h1:s=t->TR E draw ops Q rest ⟨(d,.d (.bool false))::env,H,gl⟩)(h2:¬s=t->TR E draw ops Q rest ⟨(d,.d (.bool true))::env,H,gl⟩)(hx:Sd.ev ⟨env,H,gl⟩ x=some (.d (.str s)):=by exact rfl)(hy:Sd.ev ⟨env,H,gl⟩ y=some (.d (.str t)):=by exact rfl)(hox:Cm x=true:=by exact rfl)(hoy:Cm y=true:=by exact rfl)(hd:d<E.C.nt:=by exact ltd rfl)(hg:Sd.gd ⟨env,H,gl⟩ ops ⟨some d,.binOp .neq xt x y yt,ty,pos,af,gd⟩=some true:=by exact rfl):TR E draw ops Q (.step ⟨some d,.binOp .neq xt x y yt,ty,pos,af,gd⟩ way rest) ⟨env,H,gl⟩:=rm5 hx hy hox hoy hd hg h1 h2
theorem ra4 {t:Nat}{yt:TypeId}{x y:Operand}{ls:List Nat}{ds es:List D}{p:Prop}[ht:TEq E.P t ls][hs:TAgg E.P t ls.length](h1:p->TR E draw ops Q rest ⟨(d,.d (.bool true))::env,H,gl⟩)(h2:¬p->TR E draw ops Q rest ⟨(d,.d (.bool false))::env,H,gl⟩)(hx:Sd.ev ⟨env,H,gl⟩ x=some (.d (.agg ds)):=by exact rfl)(hy:Sd.ev ⟨env,H,gl⟩ y=some (.d (.agg es)):=by exact rfl)(hox:Cm x=true:=by exact rfl)(hoy:Cm y=true:=by exact rfl)(hE:EqC ls ds es p:=by(repeat (first|exact EqC.nil|apply EqC.int|apply EqC.bool|apply EqC.str));fail_if_success intros)(hd:d<E.C.nt:=by exact ltd rfl)(hg:Sd.gd ⟨env,H,gl⟩ ops ⟨some d,.binOp .eql t x y yt,ty,pos,af,gd⟩=some true:=by exact rfl):TR E draw ops Q (.step ⟨some d,.binOp .eql t x y yt,ty,pos,af,gd⟩ way rest) ⟨env,H,gl⟩:=rm6 hx hy hox hoy hE hd hg h1 h2
theorem ra5 {t:Nat}{yt:TypeId}{x y:Operand}{ls:List Nat}{ds es:List D}{p:Prop}[ht:TEq E.P t ls][hs:TAgg E.P t ls.length](h1:p->TR E draw ops Q rest ⟨(d,.d (.bool false))::env,H,gl⟩)(h2:¬p->TR E draw ops Q rest ⟨(d,.d (.bool true))::env,H,gl⟩)(hx:Sd.ev ⟨env,H,gl⟩ x=some (.d (.agg ds)):=by exact rfl)(hy:Sd.ev ⟨env,H,gl⟩ y=some (.d (.agg es)):=by exact rfl)(hox:Cm x=true:=by exact rfl)(hoy:Cm y=true:=by exact rfl)(hE:EqC ls ds es p:=by(repeat (first|exact EqC.nil|apply EqC.int|apply EqC.bool|apply EqC.str));fail_if_success intros)(hd:d<E.C.nt:=by exact ltd rfl)(hg:Sd.gd ⟨env,H,gl⟩ ops ⟨some d,.binOp .neq t x y yt,ty,pos,af,gd⟩=some true:=by exact rfl):TR E draw ops Q (.step ⟨some d,.binOp .neq t x y yt,ty,pos,af,gd⟩ way rest) ⟨env,H,gl⟩:=rm7 hx hy hox hoy hE hd hg h1 h2
theorem vp2 {op:BinOp}{xt yt:TypeId}{x y:Operand}{k:IntKind}{p q:Int}(h1:cmp op p q->TR E draw ops Q rest ⟨(d,.d (.bool true))::env,H,gl⟩)(h2:¬cmp op p q->TR E draw ops Q rest ⟨(d,.d (.bool false))::env,H,gl⟩)(hop:Qs op=true:=by exact rfl)(hx:Sd.ev ⟨env,H,gl⟩ x=some (.d (.int k p)):=by exact rfl)(hy:Sd.ev ⟨env,H,gl⟩ y=some (.d (.int k q)):=by exact rfl)(hox:Cm x=true:=by exact rfl)(hoy:Cm y=true:=by exact rfl)(hd:d<E.C.nt:=by exact ltd rfl)(hg:Sd.gd ⟨env,H,gl⟩ ops ⟨some d,.binOp op xt x y yt,ty,pos,af,gd⟩=some true:=by exact rfl):TR E draw ops Q (.step ⟨some d,.binOp op xt x y yt,ty,pos,af,gd⟩ way rest) ⟨env,H,gl⟩:=vt4 hop hx hy hox hoy hd hg h1 h2
theorem qg0 {f:Nat}{xs:List Operand}{ats:Array TypeId}{vs vs':List V}{R:V->Prop}[hf:TFun E.P f](h:∀ v,R v->TR E draw ops Q rest ⟨(d,v)::env,H,gl⟩)(hx:Evs ⟨env,H,gl⟩ xs vs:=by(repeat (first|exact Evs.nil|apply Evs.cons rfl rfl));fail_if_success intros)(ha:Args H vs vs':=by(repeat (first|exact Args.nil|apply Args.cons (Arg.d _)|apply Args.cons (Arg.own rfl)|apply Args.cons (Arg.nils _)|apply Args.cons (Arg.clo0 _)));fail_if_success intros)(hc:FnD E.P gl f vs' R)(hd:d<E.C.nt:=by exact ltd rfl)(hg:Sd.gd ⟨env,H,gl⟩ ops ⟨some d,.call {callee:=.value (.func f),args:=xs.toArray,argTypes:=ats},ty,pos,af,gd⟩=some true:=by exact rfl)(hw:way.loud=true:=by exact rfl):TR E draw ops Q (.step ⟨some d,.call {callee:=.value (.func f),args:=xs.toArray,argTypes:=ats},ty,pos,af,gd⟩ way rest) ⟨env,H,gl⟩:=vn9 hx ha hc hd hg hw h
theorem qg1 {f:Nat}{fx:Operand}{xs:List Operand}{ats:Array TypeId}{fs gs vs args:List V}{H0:List (Nat × Ob)}{R:V->List (Nat × Ob)->Prop}[hf:TFun E.P f](h:∀ v H1,R v H1->Nk ⟨env,H,gl⟩ H0 H1=true/\TR E draw ops Q rest ⟨(d,v)::env,H1++H,gl⟩)(hfx:Sd.ev ⟨env,H,gl⟩ fx=some (.clo (.func f) fs gs):=by exact rfl)(hof:Cm fx=true:=by exact rfl)(hx:Evs ⟨env,H,gl⟩ xs vs:=by(repeat (first|exact Evs.nil|apply Evs.cons rfl rfl));fail_if_success intros)(ha:Jm H (fs++vs++gs) args:=by(repeat (first|exact Jm.nil|apply Jm.cons (Md.own rfl)|apply Jm.cons (Md.nils _)|apply Jm.cons (Md.same _)));fail_if_success intros)(hc:FnE E.P gl f args H0 R)(hs:Qv H H0:=by(repeat (first|exact Qv.nil|apply Qv.cons rfl));fail_if_success intros)(hwm:Ot H0=true:=by exact rfl)(hd:d<E.C.nt:=by exact ltd rfl)(hg:Sd.gd ⟨env,H,gl⟩ ops ⟨some d,.call {callee:=.value fx,args:=xs.toArray,argTypes:=ats},ty,pos,af,gd⟩=some true:=by exact rfl)(hw:Jv draw way=true:=by exact rfl):TR E draw ops Q (.step ⟨some d,.call {callee:=.value fx,args:=xs.toArray,argTypes:=ats},ty,pos,af,gd⟩ way rest) ⟨env,H,gl⟩:=ve1 hfx hof hx ha hc hs hwm hd hg hw h
def Rl (t:Nat):List Nat->Bool
 |[]=>false
 |s::r=>bif Nat.beq s t then true else Rl t r
def Vl (t:Nat):List Nat->List Nat
 |[]=>[]
 |s::r=>bif Nat.beq s t then r else s::Vl t r
theorem Qc {t:Nat}:∀ {l:List Nat},Rl t l=true↔t∈l
 |[]=>by simp[Rl]
 |s::r=>by
  show(bif Nat.beq s t then true else Rl t r)=true↔_;cases h:Nat.beq s t with
  |true=>have:=Bo h;simp[this]
  |false=>have:=n9.1 h;simp only[cond_false,Bc,Qc];exact⟨.inr,λh=>h.resolve_left (λe=>this e.symm)⟩
theorem kv4 {t x:Nat}:∀ {l:List Nat},x∈Vl t l->x∈l
 |[],h=>h
 |s::r,h=>by
  have h':x∈(bif Nat.beq s t then r else s::Vl t r):=h;cases hb:Nat.beq s t with
  |true=>rw[hb]at h';exact Ax _ h'
  |false=>
   rw[hb]at h';rcases Bc.1 h' with rfl|h'
   ·exact Aw
   ·exact Ax _ (kv4 h')
theorem Xc {t:Nat}:∀ {l:List Nat},l.Nodup->(Vl t l).Nodup/\t∉Vl t l
 |[],h=>⟨h,λh=>by cases h⟩
 |s::r,h=>by
  obtain⟨h1,h2⟩:=List.nodup_cons.1 h;have e:Vl t (s::r)=(bif Nat.beq s t then r else s::Vl t r):=rfl;rw[e];cases hb:Nat.beq s t with
  |true=>have:=Bo hb;subst this;exact⟨h2,h1⟩
  |false=>
   obtain⟨q1,q2⟩:=Xc (t:=t) h2;refine⟨List.nodup_cons.2 ⟨λh=>h1 (kv4 h),q1⟩,λh=>?_⟩;rcases Bc.1 h with rfl|h
   ·exact n9.1 hb rfl
   ·exact q2 h
inductive Keep:List Nat->List (Nat × V)->List (Nat × V)->Prop
 |nil (ts:List Nat):Keep ts [] []
 |take {ts:List Nat} {t:Nat} {v:V} {l r:List (Nat × V)} (h:Rl t ts=true) (k:Keep (Vl t ts) l r):Keep ts ((t,v)::l) ((t,v)::r)
 |ghost {ts:List Nat} {t:Nat} {v:V} {l r:List (Nat × V)} (h:Nat.ble 100000 t=true) (k:Keep ts l r):Keep ts ((t,v)::l) ((t,v)::r)
 |drop {ts:List Nat} {t:Nat} {v:V} {l r:List (Nat × V)} (h:Nat.ble 100000 t=false) (h':Rl t ts=false) (k:Keep ts l r):Keep ts ((t,v)::l) r
theorem Keep.from {ts:List Nat}{l r:List (Nat × V)}(h:Keep ts l r){t:Nat}{v:V}(hl:look t r=some v):t∈ts\/100000<=t:=by
 induction h with
 |nil=>cases hl
 |@take ts s u l r h k ih=>
  rw[j6]at hl;split at hl
  ·rename_i e;subst e;exact .inl (Qc.1 h)
  ·exact(ih hl).imp kv4 id
 |@ghost ts s u l r h k ih=>
  rw[j6]at hl;split at hl
  ·rename_i e;subst e;exact .inr (Nat.le_of_ble_eq_true h)
  ·exact ih hl
 |drop _ _ _ ih=>exact ih hl
theorem Keep.look {ts:List Nat}{l r:List (Nat × V)}(h:Keep ts l r)(hnd:ts.Nodup):∀ {t:Nat} {v:V},Go.Proofs.YtklklgfpkpglgaaGreatDoor.look t r=some v->Go.Proofs.YtklklgfpkpglgaaGreatDoor.look t l=some v:=by
 induction h with
 |nil=>intro t v h;exact h
 |@take ts s u l r h k ih=>
  intro t v hl;rw[j6]at hl ⊢;split at hl
  ·rename_i e;rw[Ad e];exact hl
  ·rename_i e;rw[Af e];exact ih (Xc hnd).1 hl
 |@ghost ts s u l r h k ih=>
  intro t v hl;rw[j6]at hl ⊢;split at hl
  ·rename_i e;rw[Ad e];exact hl
  ·rename_i e;rw[Af e];exact ih hnd hl
 |@drop ts s u l r h h' k ih=>
  intro t v hl;rw[j6];split
  ·rename_i e;subst e;rcases k.from hl with q|q
   ·rw[Qc.2 q]at h';cases h'
   ·have:=Nat.ble_eq_true_of_le q;rw[this]at h;cases h
  ·exact ih hnd hl
inductive Lh:List Nat->List (Nat × Ob)->List (Nat × Ob)->Prop
 |nil (ts:List Nat):Lh ts [] []
 |take {ts:List Nat} {n:Nat} {ob:Ob} {l r:List (Nat × Ob)} (h:Rl n ts=false) (k:Lh (n::ts) l r):Lh ts ((n,ob)::l) ((n,ob)::r)
 |drop {ts:List Nat} {n:Nat} {ob:Ob} {l r:List (Nat × Ob)} (h:Rl n ts=true) (k:Lh ts l r):Lh ts ((n,ob)::l) r
theorem Lh.look {ts:List Nat}{l r:List (Nat × Ob)}(h:Lh ts l r):∀ {n:Nat},n∉ts->Go.Proofs.YtklklgfpkpglgaaGreatDoor.look n r=Go.Proofs.YtklklgfpkpglgaaGreatDoor.look n l:=by
 induction h with
 |nil=>intro n _;rfl
 |@take ts m ob l r h k ih=>
  intro n hn;rw[j6,j6];split
  ·rfl
  ·rename_i e;exact ih (by rw[Bc,not_or];exact⟨λe'=>e e'.symm,hn⟩)
 |@drop ts m ob l r h k ih=>
  intro n hn;rw[j6];split
  ·rename_i e;subst e;exact absurd (Qc.1 h) hn
  ·exact ih hn
def kh1:List Nat->Bool
 |[]=>true
 |t::r=>!Rl t r && kh1 r
theorem ka0:∀ {l:List Nat},kh1 l=true->l.Nodup
 |[],_=>List.nodup_nil
 |t::r,h=>by
  simp only[kh1,Aa,Bz]at h;exact List.nodup_cons.2 ⟨λhm=>(by rw[Qc.2 hm]at h;cases h.1),ka0 h.2⟩
theorem Cc (ts:List Nat){env':List (Nat × V)}{H':List (Nat × Ob)}(h:Q .normal ⟨env',H',gl⟩)(hts:kh1 ts=true:=by exact rfl)(hk:Keep ts env env':=by(repeat (first|exact Keep.nil _|apply Keep.drop rfl rfl|apply Keep.take rfl|apply Keep.ghost rfl));fail_if_success intros)(hh:Lh [] H H':=by(repeat (first|exact Lh.nil _|apply Lh.take rfl|apply Lh.drop rfl));fail_if_success intros):TR E draw ops Q .nil ⟨env,H,gl⟩:=λa w hS=>by
 have wk1:∀ a w,St E.C ⟨env,H,gl⟩ a w->St E.C ⟨env',H',gl⟩ a w:=λa w ⟨β,hB⟩=>⟨β,hB.weak (λt v hl=>hk.look (ka0 hts) hl) (λn ob hl=>by
  have:=hh.look (n:=n) (by simp);dsimp only at hl ⊢;rw[<-this];exact hl) (λ_ _ h=>h) (λn hn=>by
  have:=hh.look (n:=n) (by simp);dsimp only;rw[this];exact hB.has n hn)⟩
 cases draw with
 |true=>exact λn=>⟨_,wk1 _ _ (hS.later n.grows),h⟩
 |false=>exact wpListIn_nil ⟨_,wk1 _ _ hS,h⟩
end
end
section
def kv5 (b:Bool):Operand->Bool
 |.const (.bool c)=>match b,c with
  |true,true=>true
  |false,false=>true
  |_,_=>false
 |_=>false
def md4 (t:Nat):Operand->Bool
 |.tmp s=>Nat.beq s t
 |_=>false
theorem kh2 {b:Bool}{x:Operand}(h:kv5 b x=true):x=.const (.bool b):=by
 unfold kv5 at h;split at h
 ·split at h
  ·rfl
  ·rfl
  ·cases h
 ·cases h
theorem ka1 {t:Nat}{x:Operand}(h:md4 t x=true):x=.tmp t:=by
 unfold md4 at h;split at h
 ·rw[Bo h]
 ·cases h
def ra6 (d:Nat):List (Nat × V)->Bool
 |[]=>true
 |(s,_)::r=>bif Nat.beq s d then false else ra6 d r
theorem md5 {d:Nat}:∀ {l:List (Nat × V)},ra6 d l=true->∀ v,look d l≠some v
 |[],_,_,h=>by cases h
 |(s,u)::r,h,v,h'=>by
  rw[j6]at h';simp only[ra6]at h;cases hb:Nat.beq s d with
  |true=>rw[hb]at h;cases h
  |false=>
   rw[hb]at h;rw[Af (n9.1 hb)]at h';exact md5 h v h'
def Wi:Todo->Bool
 |.nil=>true
 |_=>false
def Xn (d:Nat):List Nat->Bool
 |[]=>false
 |s::r=>bif Nat.beq s d then true else Xn d r
theorem kv6 {d:Nat}:∀ {l:List Nat},Xn d l=true↔d∈l
 |[]=>by simp[Xn]
 |s::r=>by
  simp only[Xn,Bc];cases hb:Nat.beq s d with
  |true=>simp[Bo hb]
  |false=>
   have:¬d=s:=λe=>n9.1 hb e.symm;simp[this,kv6]
def jo3 (b:Bool)(ops:Array Oper)(n:Nat)(env:List (Nat × V))(t':Nat):Nat->List Nat->Todo->Bool
 |t,_,.nil=>Nat.beq t t'
 |t,dead,.step o _ rest=>match o.dst with
  |none=>false
  |some d=>(ra6 d env || (Nat.beq d t' && Wi rest)) && Nat.blt d n && Nat.blt d 100000 && !Xn d dead && (match o.guard with
   |none=>(match o.op with
    |.move x=>md4 t x
    |.assign x=>md4 t x
    |.pick c x y=>md4 t c && (match b with
     |true=>kv5 true x
     |false=>kv5 false y)
    |_=>false) && jo3 b ops n env t' d dead rest
   |some (j,want)=>(match (nth ops.toList j).bind (·.dst) with
    |some g=>Xn g dead || (Nat.beq g t && (match b,want with
     |true,false=>true
     |false,true=>true
     |_,_=>false))
    |none=>false) && (bif Nat.beq d t then false else true) && jo3 b ops n env t' t (d::dead) rest)
 |_,_,.two ..=>false
 |_,_,.mid ..=>false
 |_,_,.or ..=>false
 |_,_,.tail _=>false
section
variable {E:Set}{Q:Exit->Sd->Prop}{ops:Array Oper}{draw:Bool}{H:List (Nat × Ob)}{gl:List (Nat × List D)}
theorem kh3 (b:Bool)(env:List (Nat × V))(t':Nat)(h:TR E draw ops Q .nil ⟨(t',.d (.bool b))::env,H,gl⟩):∀ (l:Todo) (t:Nat) (dead:List Nat) (env':List (Nat × V)),jo3 b ops E.C.nt env t' t dead l=true->Nat.blt t 100000=true->look t env'=some (.d (.bool b))->
 (∀ s∈dead,Nat.blt s 100000=true/\look s env'=some (.tup []))->(∀ s v,look s env=some v->(s≠t'\/Wi l=false)->look s env'=some v)->TR E draw ops Q l ⟨env',H,gl⟩
 |.nil,t,dead,env',hc,_,hl,_,ha=>λa w hS=>by
  obtain rfl:t=t':=Bo hc;obtain⟨β,hB⟩:=hS;refine h a w ⟨β,hB.weak (λs v hs=>?_) (λ_ _ h=>h) (λ_ _ h=>h) (λn hn=>hB.has n hn)⟩;dsimp only at hs;rw[j6]at hs;split at hs
  ·rename_i e;subst e;cases hs;exact hl
  ·rename_i e;exact ha s v hs (.inl λe'=>e e'.symm)
 |.step ⟨dst,op,ty,pos,af,gd⟩ way rest,t,dead,env',hc,ht,hl,hdd,ha=>by
  have hev:Sd.ev ⟨env',H,gl⟩ (.tmp t)=some (.d (.bool b)):=by simp only[Sd.ev,ht,cond_true];exact hl
  cases dst with
  |none=>simp[jo3]at hc
  |some d=>
   simp only[jo3,Aa]at hc;obtain⟨⟨⟨⟨hk,hn⟩,hm⟩,hnd⟩,hc⟩:=hc;have hnd':d∉dead:=λhd=>by rw[kv6.2 hd]at hnd;cases hnd
   have hadd:∀ u,∀ s v,look s env=some v->(s≠t'\/Wi rest=false)->look s ((d,u)::env')=some v:=λu s v hs hor=>by
    have hsd:d≠s:=λe=>by
     subst e;simp only[Bn,Aa]at hk;rcases hk with hk|hk
     ·exact md5 hk v hs
     ·rcases hor with hor|hor
      ·exact hor (Bo hk.1)
      ·rw[hk.2]at hor;cases hor
    rw[j6,Af hsd];exact ha s v hs (.inr rfl)
   have hdead:∀ u,∀ s∈dead,Nat.blt s 100000=true/\look s ((d,u)::env')=some (.tup []):=λu s hs=>by
    have hsd:d≠s:=λe=>hnd' (by rw[e];exact hs);refine⟨(hdd s hs).1,?_⟩;rw[j6,Af hsd];exact(hdd s hs).2
   cases gd with
   |none=>
    simp only[Aa]at hc;obtain⟨hop,hc⟩:=hc;have fin:aH E ⟨env',H,gl⟩ ⟨some d,op,ty,pos,af,none⟩ (.d (.bool b))/\p9 ⟨some d,op,ty,pos,af,none⟩=false:=by
     split at hop
     ·rw[ka1 hop];exact⟨qu9 hev rfl,rfl⟩
     ·rw[ka1 hop];exact⟨jy9 hev rfl,rfl⟩
     ·simp only[Aa]at hop;rw[ka1 hop.1];cases b with
      |true=>rw[kh2 hop.2];exact⟨mb0 hev rfl rfl rfl,rfl⟩
      |false=>rw[kh2 hop.2];exact⟨mb1 hev rfl rfl rfl,rfl⟩
     ·cases hop
    refine jd2 fin.1 rfl (ltd hn) rfl fin.2 ?_;exact kh3 b env t' h rest d dead _ hc hm (by rw[j6,Ad rfl]) (hdead _) (hadd _)
   |some g=>
    obtain⟨j,want⟩:=g;simp only[Aa]at hc;obtain⟨⟨hg,hd⟩,hc⟩:=hc;have hdt:d≠t:=λe=>by subst e;simp at hd
    refine qp0 rfl (ltd hn) ?_ ?_
    ·simp only[Sd.gd];cases hj:(nth ops.toList j).bind (·.dst) with
     |none=>rw[hj]at hg;cases hg
     |some g=>
      rw[hj]at hg;simp only[Bn,Aa]at hg;dsimp only;rcases hg with hg|⟨hg,hw⟩
      ·obtain⟨q1,q2⟩:=hdd g (kv6.1 hg);have:Sd.ev ⟨env',H,gl⟩ (.tmp g)=some (.tup []):=by simp only[Sd.ev,q1,cond_true];exact q2
       simp only[this]
      ·rw[Bo hg];simp only[hev];cases b<;>cases want<;>simp at hw ⊢
    ·refine kh3 b env t' h rest t (d::dead) _ hc ht (by rw[j6,Af hdt];exact hl) (λs hs=>?_) (hadd _);rcases Bc.1 hs with rfl|hs
     ·exact⟨hm,by rw[j6,Ad rfl]⟩
     ·exact hdead _ s hs
 |.two ..,_,_,_,hc,_,_,_,_=>by simp[jo3]at hc
 |.mid ..,_,_,_,hc,_,_,_,_=>by simp[jo3]at hc
 |.or ..,_,_,_,hc,_,_,_,_=>by simp[jo3]at hc
 |.tail _,_,_,_,hc,_,_,_,_=>by simp[jo3]at hc
theorem rs1 (b:Bool)(t t':Nat){l:Todo}{env:List (Nat × V)}(h:TR E draw ops Q .nil ⟨(t',.d (.bool b))::env,H,gl⟩)(hl:look t env=some (.d (.bool b)):=by exact rfl)(hc:jo3 b ops E.C.nt env t' t [] l=true:=by kernel_rfl)(ht:Nat.blt t 100000=true:=by exact rfl):TR E draw ops Q l ⟨env,H,gl⟩:=
 kh3 b env t' h l t [] env hc ht hl (λs hs=>by cases hs) λ_ _ h _=>h
end
end
section
section
variable {E:Set}{Q:Exit->Sd->Prop}{S:Sd}{ops:Array Oper}{ty:TypeId}{pos:String}{af:Array Edge}{gd:Option (Nat × Bool)}{dst:Option Tmp}{o:Oper}{v:V}{F:List Nat}{rest:List (Oper × TW)}
variable {env:List (Nat × V)}{H:List (Nat × Ob)}{gl:List (Nat × List D)}{d:Nat}
end
end
section
theorem Wk.refl (C:Ctx)(S:Sd):Wk C S S:=λ_ _ h=>h
theorem Iz {E:Set}{Q:Exit->Sd->Prop}{S S':Sd}{x y:Code}(h1:TC E x (Exit.Oc (λS1=>Wk E.C S1 S') Q) S)(h2:TC E y Q S'):TC E (.seq x y) Q S:=
 Cb λK hK=>mo8 h1 λe S1 h=>match e,h with
  |.normal,h=>hK _ (rx4 h h2)
  |.ret,h=>h
  |.exit _,h=>h
  |.panic _,h=>h
  |.goto _,h=>h
  |.outgrown,h=>h
section
variable {E:Set}{S:Sd}{dst:Option Tmp}{ty:TypeId}{pos:String}{af:Array Edge}{gd:Option (Nat × Bool)}
end
end
section
section
variable {E:Set}{Q:Exit->Sd->Prop}{ops:Array Oper}{draw:Bool}{rest:Todo}{way:Ji}{ty:TypeId}{pos:String}{af:Array Edge}{gd:Option (Nat × Bool)}{dst:Option Tmp}
variable {env:List (Nat × V)}{H:List (Nat × Ob)}{gl:List (Nat × List D)}{d:Nat}
theorem kh4 {c:Code}(n m j:Nat){e sz sz':Nat}{cs:List V}(hl:look n H=some (.box cs))(hj:cs[j]? =some (.nils sz'))(hn:Sd.aD ⟨env,H,gl⟩ m=true)(h:TC E c Q ⟨env,(n,.box (cs.set j (.own m 0)))::(m,.row e sz true [] 0)::H,gl⟩):TC E c Q ⟨env,H,gl⟩:=λa w ⟨β,hB⟩=>by
 have hnm:m≠n:=by
  rintro rfl;have:=Sd.Mg hn;dsimp only at this;rw[hl]at this;cases this
 have h1:=hB.Wl (e:=e) (sz:=sz) hn;have hl2:look n ((m,Ob.row e sz true [] 0)::H)=some (.box cs):=by rw[j6,Af hnm];exact hl
 have hH:∀ q e' sz' sh' xs' k',look q ((n,Ob.box (cs.set j (.own m 0)))::(m,Ob.row e sz true [] 0)::H)=some (.row e' sz' sh' xs' k')->∃ sh' xs',look q ((m,Ob.row e sz true [] 0)::H)=some (.row e' sz' sh' xs' k'):=λq e' sz' sh' xs' k' hm=>by
  rw[n3]at hm;split at hm
  ·cases hm
  ·exact⟨sh',xs',hm⟩
 refine h a w ⟨_,h1.turn hl2 (λ_ _=>rfl) rfl rfl rfl (Ap _) (λ_ _ _=>rfl) (λb h=>.inl h) (λ_ _ _ _ _ h=>h) (λ_ _ _ _ _=>trivial)
  (λk t x v _=>Dc.keep k (λ_=>rfl) hH x v) (λ_=>rfl) (λk m cs vs _ _=>Cs.keep k (λ_=>rfl) hH _ vs) (λk=>?_)⟩
 obtain⟨b,vs,t,e1,e2,hL⟩:=h1.obs n _ hl2;have hr:=Cs.keep k (λ_=>rfl) hH _ _ hL;obtain⟨u,hu1,hu2⟩:=hr.get hj;have hu:u=.slice none 0 0:=hu2;subst hu;have hs:=hr.set j (x:=.own m 0) (v:=.slice none 0 0) (λe' sz'' sh xs hl'=>by rw[jw6]);rw[show vs.set j (.slice none 0 0)=vs from by
  obtain⟨h3,h4⟩:=Ay.1 hu1;rw[<-h4];exact List.set_getElem_self h3]at hs
 exact⟨b,vs,t,e1,e2,hs⟩
end
end
end Go.Proofs.YtklklgfpkpglgaaGreatDoor
