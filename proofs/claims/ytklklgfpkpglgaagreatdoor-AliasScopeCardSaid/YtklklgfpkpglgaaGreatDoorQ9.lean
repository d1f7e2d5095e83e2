/- Parts. -/
import Derived.Test.YtklklgfpkpglgaaGreatDoorQ8
set_option linter.all false
set_option maxRecDepth 100000
set_option maxHeartbeats 0
namespace Go.Proofs.YtklklgfpkpglgaaGreatDoor
open Go.RowKit
section
def V.Kw (β β':Nat->Hd)(H H':List (Nat × Ob))(n:Nat):Prop:=(β' n).v=(β n).v/\∀ e sz sh xs k,look n H'=some (.row e sz sh xs k)->∃ sh' xs',look n H=some (.row e sz sh' xs' k)
mutual
theorem Dc.gen {w w':World}{M M':Nat->Nat->Prop}{β β':Nat->Hd}{H H':List (Nat × Ob)}(k:aI w M w' M'):
 ∀ (x:V) (v:Value),(∀ n,x.says n=true->V.Kw β β' H H' n)->Dc w M β H x v->Dc w' M' β' H' x v
 |.d x,v,_,h=>Gv.keep k x v h
 |.own n q,v,hs,h=>λe sz sh xs hl=>by
  obtain⟨h1,h2⟩:=hs n (by simp[V.says]);obtain⟨sh',xs',h3⟩:=h2 e sz sh xs q hl;rw[h1];exact h e sz sh' xs' h3
 |.nils _,_,_,h=>h
 |.zc,_,_,h=>h
 |.ptr n off,_,hs,h=>by simp only[Dc]at h ⊢;rw[(hs n (by simp[V.says])).1];exact h
 |.sl n off _ _,_,hs,h=>by simp only[Dc]at h ⊢;rw[(hs n (by simp[V.says])).1];exact h
 |.el n q i off,v,hs,h=>λe sz sh xs hl=>by
  obtain⟨h1,h2⟩:=hs n (by simp[V.says]);obtain⟨sh',xs',h3⟩:=h2 e sz sh xs q hl;rw[h1];exact h e sz sh' xs' h3
 |.suf n q p,v,hs,h=>λe sz sh xs hl=>by
  obtain⟨h1,h2⟩:=hs n (by simp[V.says]);obtain⟨sh',xs',h3⟩:=h2 e sz sh xs q hl;rw[h1];exact h e sz sh' xs' h3
 |.win n q p m,v,hs,h=>λe sz sh xs hl=>by
  obtain⟨h1,h2⟩:=hs n (by simp[V.says]);obtain⟨sh',xs',h3⟩:=h2 e sz sh xs q hl;rw[h1];exact h e sz sh' xs' h3
 |.map n,_,hs,h=>by simp only[Dc]at h ⊢;rw[(hs n (by simp[V.says])).1];exact h
 |.clo _ f c,_,hs,⟨fs,gs,h1,h2,h3⟩=>⟨fs,gs,h1,Cs.gen k f fs (λn hn=>hs n (by simp[V.says,hn])) h2,Cs.gen k c gs (λn hn=>hs n (by simp[V.says,hn])) h3⟩
 |.tup vs,_,hs,⟨us,h1,h2⟩=>⟨us,h1,Cs.gen k vs us (λn hn=>hs n (by simpa [V.says]using hn)) h2⟩
 |.agg vs,_,hs,⟨us,h1,h0,h2⟩=>⟨us,h1,h0,Cs.gen k vs us (λn hn=>hs n (by simpa [V.says]using hn)) h2⟩
 |.ifc _ x,_,hs,⟨u,h1,h2⟩=>⟨u,h1,Dc.gen k x u (λn hn=>hs n (by simpa [V.says]using hn)) h2⟩
 |.bsl n off _,_,hs,h=>by simp only[Dc]at h ⊢;rw[(hs n (by simp[V.says])).1];exact h
theorem Cs.gen {w w':World}{M M':Nat->Nat->Prop}{β β':Nat->Hd}{H H':List (Nat × Ob)}(k:aI w M w' M'):
 ∀ (xs:List V) (vs:List Value),(∀ n,Jj n xs=true->V.Kw β β' H H' n)->Cs w M β H xs vs->Cs w' M' β' H' xs vs
 |[],_,_,h=>h
 |x::xs,_,hs,⟨v,r,h1,h2,h3⟩=>⟨v,r,h1,Dc.gen k x v (λn hn=>hs n (by simp[Jj,hn])) h2,Cs.gen k xs r (λn hn=>hs n (by simp[Jj,hn])) h3⟩
end
structure Obs (w:World)(M:Nat->Nat->Prop)(β:Nat->Hd)(H:List (Nat × Ob)):Prop where
 obs:∀ n ob,look n H=some ob->La w (Mut M β H) β H (β n) ob
 apart:∀ n m b ob ob',n≠m->look n H=some ob->look m H=some ob'->own (β n) ob b->¬own (β m) ob' b
 out:∀ n ob b o,look n H=some ob->own (β n) ob b->¬M b o
def kp2 (β:Nat->Hd)(H:List (Nat × Ob)):List Nat:=H.flatMap λp=>match look p.1 H with|some ob=>blk (β p.1) ob|none=>[]
def kc6 (H:List (Nat × Ob))(n:Nat):Bool:=(look n H).isSome
def Ot (H:List (Nat × Ob)):Bool:=H.all λp=>match p.2 with|.row _ _ sh _ _=>!sh|_=>true
mutual
def V.within (p:Nat->Bool):V->Bool
 |.d _=>true
 |.own n _=>p n
 |.nils _=>true
 |.zc=>true
 |.ptr n _=>p n
 |.sl n _ _ _=>p n
 |.el n _ _ _=>p n
 |.suf n _ _=>p n
 |.win n _ _ _=>p n
 |.map n=>p n
 |.clo _ f c=>jd8 p f && jd8 p c
 |.tup vs=>jd8 p vs
 |.agg vs=>jd8 p vs
 |.ifc _ x=>x.within p
 |.bsl n _ _=>p n
def jd8 (p:Nat->Bool):List V->Bool
 |[]=>true
 |v::r=>v.within p && jd8 p r
end
mutual
theorem V.Ql {p:Nat->Bool}:∀ {v:V},v.within p=true->∀ n,v.says n=true->p n=true
 |.d _,_,n,h=>by simp[V.says]at h
 |.own m _,h,n,h'=>by simp only[V.says]at h';rw[<-Bo h'];exact h
 |.nils _,_,n,h=>by simp[V.says]at h
 |.zc,_,n,h=>by simp[V.says]at h
 |.ptr m _,h,n,h'=>by simp only[V.says]at h';rw[<-Bo h'];exact h
 |.sl m _ _ _,h,n,h'=>by simp only[V.says]at h';rw[<-Bo h'];exact h
 |.el m _ _ _,h,n,h'=>by simp only[V.says]at h';rw[<-Bo h'];exact h
 |.suf m _ _,h,n,h'=>by simp only[V.says]at h';rw[<-Bo h'];exact h
 |.win m _ _ _,h,n,h'=>by simp only[V.says]at h';rw[<-Bo h'];exact h
 |.map m,h,n,h'=>by simp only[V.says]at h';rw[<-Bo h'];exact h
 |.clo _ f c,h,n,h'=>by
  simp only[V.says,Bn]at h';simp only[V.within,Aa]at h;rcases h' with h'|h'
  ·exact jh3 h.1 n h'
  ·exact jh3 h.2 n h'
 |.tup vs,h,n,h'=>jh3 (by simpa [V.within]using h) n (by simpa [V.says]using h')
 |.agg vs,h,n,h'=>jh3 (by simpa [V.within]using h) n (by simpa [V.says]using h')
 |.bsl m _ _,h,n,h'=>by simp only[V.says]at h';rw[<-Bo h'];exact h
 |.ifc _ x,h,n,h'=>V.Ql (v:=x) (by simpa [V.within]using h) n (by simpa [V.says]using h')
theorem jh3 {p:Nat->Bool}:∀ {vs:List V},jd8 p vs=true->∀ n,Jj n vs=true->p n=true
 |[],_,n,h=>by simp[Jj]at h
 |v::r,h,n,h'=>by
  simp only[Jj,Bn]at h';simp only[jd8,Aa]at h;rcases h' with h'|h'
  ·exact V.Ql h.1 n h'
  ·exact jh3 h.2 n h'
end
def kc7 (H:List (Nat × Ob)):Bool:=H.all λp=>jd8 (kc6 H) p.2.cells
def kv1 (H0 H1:List (Nat × Ob)):Bool:=H1.all λp=>match p.2 with
 |.row e sz _ _ k=>(match look p.1 H0 with|none=>true|some (.row e' sz' _ _ k')=>Nat.beq e e' && Nat.beq sz sz' && Nat.beq k k'|_=>false)
 |_=>true
def kv2 (H0 H1:List (Nat × Ob)):Bool:=H0.all λp=>kc6 H1 p.1
def Na (H0 H1:List (Nat × Ob))(v:V):Bool:=kv2 H0 H1 && kv1 H0 H1 && kc7 H1 && v.within (kc6 H1)
theorem jr1 {H:List (Nat × Ob)}{n:Nat}{ob:Ob}(h:look n H=some ob):(n,ob)∈H:=kw4 h
theorem ml2 {H:List (Nat × Ob)}{p:Nat × Ob}(h:p∈H):∃ ob,look p.1 H=some ob:=by
 induction H with
 |nil=>cases h
 |cons q H ih=>
  rw[show q=(q.1,q.2) from rfl,j6];split
  ·exact⟨_,rfl⟩
  ·rename_i hne;rcases Bc.1 h with rfl|h
   ·exact absurd rfl hne
   ·exact ih h
theorem ji2 {β:Nat->Hd}{H:List (Nat × Ob)}{b:Nat}:b∈kp2 β H↔∃ n ob,look n H=some ob/\own (β n) ob b:=by
 unfold kp2;rw[List.mem_flatMap];constructor
 ·rintro⟨p,h1,h2⟩;obtain⟨ob,h3⟩:=ml2 h1;rw[h3]at h2;exact⟨p.1,ob,h3,qj0.1 h2⟩
 ·rintro⟨n,ob,h1,h2⟩;refine⟨(n,ob),jr1 h1,?_⟩;dsimp only;rw[h1];exact qj0.2 h2
theorem ml3 {H:List (Nat × Ob)}(h:Ot H=true){n:Nat}{ob:Ob}(hl:look n H=some ob)(o:Nat):ob.mut o:=by
 have:=By.1 h _ (jr1 hl);cases ob with
 |row e sz sh xs k=>simp only[Bz]at this;exact .inl this
 |_=>trivial
def FnE (P:Program)(gl:List (Nat × List D))(f:FuncId)(args:List V)(H0:List (Nat × Ob))(R:V->List (Nat × Ob)->Prop):Prop:=
 ∀ (w:World) (M:Nat->Nat->Prop) (β:Nat->Hd) (us:List Value),(∀ b o,M b o->b<w.heap.size)->Cs w (Mut M β H0) β H0 args us->Obs w M β H0->vc8 gl w (Mut M β H0)->
   Calls P f us.toArray w λe w'=>∃ v x H1 β1,R v H1/\Na H0 H1 v=true/\e=.returned x/\Frm (kp2 β H0) w w'/\(∀ n,(look n H0).isSome=true->(β1 n).v=(β n).v)/\
    (∀ n ob b,look n H1=some ob->own (β1 n) ob b->b∈kp2 β H0\/w.heap.size<=b)/\Obs w' M β1 H1/\Dc w' (Mut M β1 H1) β1 H1 v x
theorem FnE.mono {P:Program}{gl:List (Nat × List D)}{f:FuncId}{args:List V}{H0:List (Nat × Ob)}{R R':V->List (Nat × Ob)->Prop}(h:FnE P gl f args H0 R)(hr:∀ v H1,R v H1->R' v H1):FnE P gl f args H0 R':=
 λw M β us h1 h2 h3 h4=>(h w M β us h1 h2 h3 h4).mono λ_ _ ⟨v,x,H1,β1,h5,h6⟩=>⟨v,x,H1,β1,hr v H1 h5,h6⟩
inductive Md (H:List (Nat × Ob)):V->V->Prop
 |own {n k e sz:Nat} {xs:List D} (h:look n H=some (.row e sz true xs k)):Md H (.own n k) (.d (.list sz xs))
 |nils (sz:Nat):Md H (.nils sz) (.d (.list sz []))
 |same (v:V):Md H v v
inductive Jm (H:List (Nat × Ob)):List V->List V->Prop
 |nil:Jm H [] []
 |cons {v v':V} {vs vs':List V} (h:Md H v v') (t:Jm H vs vs'):Jm H (v::vs) (v'::vs')
theorem Md.rep {C:Ctx}{β:Nat->Hd}{S:Sd}{a:Act}{w:World}(h:StB C β S a w){v v':V}(ha:Md S.H v v'){u:Value}(hu:Dc w (Mut C.M0 β S.H) β S.H v u):Dc w (Mut C.M0 β S.H) β S.H v' u:=by
 cases ha with
 |own hl=>exact(ToD.own hl).rep h hu
 |nils sz=>exact(ToD.nils sz).rep h hu
 |same=>exact hu
theorem Jm.rep {C:Ctx}{β:Nat->Hd}{S:Sd}{a:Act}{w:World}(h:StB C β S a w){vs vs':List V}(ha:Jm S.H vs vs'):∀ {us:List Value},Cs w (Mut C.M0 β S.H) β S.H vs us->Cs w (Mut C.M0 β S.H) β S.H vs' us:=by
 induction ha with
 |nil=>intro us h;exact h
 |cons h1 _ ih=>intro us hu;obtain⟨u,r,h2,h3,h4⟩:=hu;exact⟨u,r,h2,h1.rep h h3,ih h4⟩
inductive Ol (P:Program)(S:Sd):List ResultVar->List V->Prop
 |nil:Ol P S [] []
 |tmp {t:Tmp} {v v':V} {rs:List ResultVar} {vs:List V} (hl:S.ev (.tmp t)=some v) (ha:Md S.H v v') (h:Ol P S rs vs):Ol P S (.tmp t::rs) (v'::vs)
 |cell {t n ty off:Nat} {cs:List V} {v v':V} {rs:List ResultVar} {vs:List V} [ht:TCell P ty] (hl:S.ev (.tmp t)=some (.ptr n off)) (hb:look n S.H=some (.box cs)) (hc:cs[off]? =some v) (ha:Md S.H v v') (h:Ol P S rs vs):Ol P S (.cell t ty::rs) (v'::vs)
 |cells {t n ty off m:Nat} {cs cs':List V} {ds:List D} {rs:List ResultVar} {vs:List V} [ht:TAgg P ty m] (hl:S.ev (.tmp t)=some (.ptr n off)) (hb:look n S.H=some (.box cs)) (hc:Cut cs off m cs') (ha:Nh S.H cs' ds) (hn:ds.all D.scalar=true) (h:Ol P S rs vs):Ol P S (.cell t ty::rs) (.d (.agg ds)::vs)
theorem rm9 {P:Program}{C:Ctx}{β:Nat->Hd}{S:Sd}{a:Act}{w:World}(h:StB C β S a w){rs:List ResultVar}{vs:List V}(hr:Ol P S rs vs):
 ∃ us:List Value,(rs.mapM fun|.tmp t=>pure (a.tmps.getD t undef)|.cell c t=>do loadVar t (<-asAddr (a.tmps.getD c undef)):Sem (List Value)).run P w=.ok us w/\Cs w (Mut C.M0 β S.H) β S.H vs us:=by
 induction hr with
 |nil=>exact⟨[],rfl,rfl⟩
 |@tmp t v v' rs vs hl ha hr ih=>
  obtain⟨us,h1,h2⟩:=ih;have h5:Dc w (Mut C.M0 β S.H) β S.H v (a.tmps.getD t undef):=h.ev hl rfl;refine⟨a.tmps.getD t undef::us,?_,⟨_,us,rfl,ha.rep h h5,h2⟩⟩;simp only[List.mapM_cons,Sem.run_bind,Sem.run_pure,Result.andThen_ok,h1]
 |@cell t n ty off cs v v' rs vs ht hl hb hc ha hr ih=>
  obtain⟨us,h1,h2⟩:=ih;obtain⟨x,h4,h5⟩:=(js2 (t:=ty) (E:=⟨P,C,none⟩) (S:=S) (dst:=none) (ty:=0) (pos:= "") (af:=#[]) (gd:=none) (x:=.tmp t) hl hb hc).out β a w h;obtain⟨b,_,_,_,h6,_⟩:=h.Ue (x:=.tmp t) hl hb;have h7:=jl2 h6 (h4 w (aG.refl w));refine⟨x::us,?_,⟨x,us,rfl,ha.rep h h5,h2⟩⟩;simp only[List.mapM_cons,Sem.run_bind]at h7 ⊢;rw[h7];simp only[Result.andThen_ok,h1,Sem.run_pure]
 |@cells t n ty off m cs cs' ds rs vs ht hl hb hc ha hn hr ih=>
  obtain⟨us,h1,h2⟩:=ih;obtain⟨x,h4,h5⟩:=(ju8 (t:=ty) (E:=⟨P,C,none⟩) (S:=S) (dst:=none) (ty:=0) (pos:= "") (af:=#[]) (gd:=none) (x:=.tmp t) hl hb hc ha hn).out β a w h;obtain⟨b,_,_,_,h6,_⟩:=h.Ue (x:=.tmp t) hl hb;have h7:=jl2 h6 (h4 w (aG.refl w));refine⟨x::us,?_,⟨x,us,rfl,h5,h2⟩⟩;simp only[List.mapM_cons,Sem.run_bind]at h7 ⊢;rw[h7];simp only[Result.andThen_ok,h1,Sem.run_pure]
structure Pm (P:Program)(rs:List ResultVar)(H0:List (Nat × Ob))(R:V->List (Nat × Ob)->Prop)(e:Exit)(S:Sd):Prop where
 how:e=.ret\/e=.normal
 res:∃ vs H1,Ol P S rs vs/\Sub S.H H1/\Na H0 H1 (aF vs)=true/\R (aF vs) H1
theorem mc6 {P:Program}{rs:List ResultVar}{H0:List (Nat × Ob)}{R:V->List (Nat × Ob)->Prop}:ky7 (Pm P rs H0 R):=λc S h=>by rcases h.how with h|h<;>cases h
theorem qz8 {P:Program}{gl:List (Nat × List D)}{f:FuncId}{fn:Func}{c:Code}{args:List V}{H0:List (Nat × Ob)}{R:V->List (Nat × Ob)->Prop}{nt:Nat}{rs:Array ResultVar}(hf:P.funcs[f]? =some fn)(hb':fn.body=some c)(hn:fn.ntmps=nt)(hr:fn.results=rs)(hle:args.length<=nt)(hs:nt<=100000)
 (h:∀ w M E b0,TC ⟨P,⟨nt,E,w,M,H0.map (·.1),b0,λ_=>.nilFunc,[]⟩,none⟩ c (Pm P rs.toList H0 R) ⟨ko7 args,H0,gl⟩):FnE P gl f args H0 R:=λw M β us hlow hargs hobs hgl=>by
 have hlen:=hargs.length;refine ko6 hf hb' (h w M (kp2 β H0) λn=>(β n).v) ?_ λe S' β1 a' w' hB hq=>⟨hq.how,?_⟩
 ·refine⟨β,⟨?_,hs,⟨[],rfl,List.nodup_nil,(λD h=>by cases h)⟩,(λp hp=>by cases hp),?_,hobs.obs,hobs.apart,(λn ob b hl hb'=>.inl (ji2.2 ⟨n,ob,hl,hb'⟩)),hgl,Frm.refl _ _,hobs.out,hlow,(λn hn=>rfl),(λn hn=>?_)⟩⟩
  ·simp[hn];omega
  ·intro t v hl;dsimp only at hl ⊢;rw[hn];exact my2 hargs hle hs hl
  ·obtain⟨p,h1,rfl⟩:=Br.1 hn;obtain⟨ob,h2⟩:=ml2 h1;simp[h2]
 ·obtain⟨_,vs,H1,hres,hsub,hok,hR⟩:=hq;obtain⟨us',h3,h4⟩:=rm9 hB hres;have hok':=hok;unfold Na at hok';simp only[Aa]at hok';obtain⟨⟨⟨k1,k2⟩,k3⟩,k5⟩:=hok';have hB1:=hB.weak (S':={S' with H:=H1}) (λ_ _ h=>h) (λn ob h=>hsub.look h) (λ_ _ h=>h) (λn hn=>by
   obtain⟨p,h1,rfl⟩:=Br.1 hn;exact By.1 k1 p h1)
  have hN:∀ n,(look n H0).isSome=true->(β1 n).v=(β n).v:=λn hn=>hB.fix n (by
   cases hl:look n H0 with
   |none=>rw[hl]at hn;cases hn
   |some ob=>exact Br.2 ⟨_,jr1 hl,rfl⟩)
  have hrep:=mk7 h4;have hk:aI w' (Mut M β1 S'.H) w' (Mut M β1 H1):=aI.weak λb o hm=>by
   rcases hm with hm|⟨n,ob,h5,h6,h7⟩
   ·exact .inl hm
   ·exact .inr ⟨n,ob,hsub.look h5,h6,h7⟩
  refine⟨_,ko8 hr h3,aF vs,_,H1,β1,hR,hok,rfl,hB.frame,hN,λn ob b h5 h6=>hB1.place n ob b h5 h6,⟨hB1.obs,hB1.apart,hB1.out⟩,Dc.keep hk (λ_=>rfl) (λn e sz sh xs k hl=>⟨sh,xs,hsub.look hl⟩) _ _ hrep⟩
section
variable {E:Set}{Q:Exit->Sd->Prop}{S:Sd}{ops:Array Oper}{draw:Bool}{rest:Todo}{way:Ji}{ty:TypeId}{pos:String}{af:Array Edge}{gd:Option (Nat × Bool)}
theorem rn0 {d:Nat}{o:Oper}(hdst:o.dst=some d)(hd:d<E.C.nt)(hg:S.gd ops o=some true)(hdf:p9 o=false)(hw:Jv draw way=true)
 (hrun:∀ β a w,StB E.C β S a w->∃ f us,(execOp a.eval o).run E.P w=.ok (.enter f us) w/\Calls E.P f us w λe w'=>∃ x S' β' v,e=.returned x/\StB E.C β' S' a w'/\Dc w' (Mut E.C.M0 β' S'.H) β' S'.H v x/\TR E draw ops Q rest (S'.put d v)):
 TR E draw ops Q (.step o way rest) S:=λa w hS=>by
 have hS0:=hS;have key:∀ w1,aG w w1->∀ K:Act->World->Prop,(∀ S2 a2 w2,St E.C S2 a2 w2->TR E draw ops Q rest S2->K a2 w2)->o.wp E.P a w1 K (Qof E.C Q):=λw1 g K hK=>by
  obtain⟨β,hB⟩:=hS.later g;obtain⟨f,us,h1,h2⟩:=hrun β a w1 hB;unfold Oper.wp;rw[h1,Oper.upon_enter];refine h2.mono ?_;rintro e w2 ⟨x,S',β',v,rfl,h3,h4,h5⟩;refine hK (S'.put d v) _ _ ?_ h5;rw[hdst];exact⟨β',h3.put hd h4⟩
 cases draw with
 |true=>
  dsimp only;cases way with
  |pure=>cases hw
  |quiet=>cases hw
  |grow=>cases hw
  |bar=>
   simp only[x5];intro n;rw[Sd.Dv hS0 hg,Ad rfl];exact key n.w n.grows _ λS2 a2 w2 hs2 h=>h _ _ hs2
 |false=>exact l5 hS0 hg hdf λK hK=>key w (aG.refl w) K λS2 a2 w2 hs2 h=>hK _ _ (h _ _ hs2)
theorem ml4 {P:Program}{f:Nat}(hf:TFun P f)(a:Act){fx:Operand}{fs gs:List Value}(he:a.eval fx=.func (.func f) fs.toArray gs.toArray)(xs:List Operand)(ats:Array TypeId)(dst:Option Tmp)(w:World):
 (execOp a.eval ⟨dst,.call {callee:=.value fx,args:=xs.toArray,argTypes:=ats},ty,pos,af,gd⟩).run P w=.ok (.enter f (fs++xs.map a.eval++gs).toArray) w:=by
 have:=hf.ok;unfold qy5 at this;cases hfn:P.funcs[f]? with
 |none=>rw[hfn]at this;cases this
 |some fn=>
  rw[hfn]at this;simp only[Aa,Bz]at this;have h2:¬fn.name= "runtime.NumGoroutine":=by simpa using this.2
  cases hb:fn.body with
  |none=>rw[hb]at this;cases this.1
  |some c=>simp[execOp,resolve,he,Deferred.ofValue,invoke,callFunc,hfn,hb,h2]
theorem Cs.app {w:World}{M:Nat->Nat->Prop}{β:Nat->Hd}{H:List (Nat × Ob)}:∀ {xs:List V} {us:List Value},Cs w M β H xs us->∀ {ys:List V} {vs:List Value},Cs w M β H ys vs->Cs w M β H (xs++ys) (us++vs)
 |[],_,h,_,_,h'=>by simp only[Cs]at h;subst h;exact h'
 |x::xs,_,h,_,_,h'=>by
  obtain⟨v,r,rfl,h2,h3⟩:=h;exact⟨v,_,rfl,h2,Cs.app h3 h'⟩
theorem jf3 (n:Nat)(H1:List (Nat × Ob))(H:List (Nat × Ob)):look n (H1++H)=match look n H1 with|some ob=>some ob|none=>look n H:=by
 induction H1 with
 |nil=>rfl
 |cons p H1 ih=>
  rw[Ac,show p=(p.1,p.2) from rfl,j6,j6,ih];split<;>rfl
def Nk (S:Sd)(H0 H1:List (Nat × Ob)):Bool:=H1.all λp=>kc6 H0 p.1 || S.aD p.1
def vu5 (H0 H:List (Nat × Ob)):Prop:=∀ n ob,look n H0=some ob->look n H=some ob
theorem StB.called {C:Ctx}{β β1:Nat->Hd}{a:Act}{w w':World}(h:StB C β S a w){H0 H1:List (Nat × Ob)}(hsub:vu5 H0 S.H)(hwm:Ot H0=true){M:Nat->Nat->Prop}(hM:M=λb o=>C.M0 b o\/∃ m ob,look m S.H=some ob/\look m H0=none/\own (β m) ob b/\ob.mut o){v:V}
 (hok:Na H0 H1 v=true) (hfr:Frm (kp2 β H0) w w') (hβ:∀ n,(look n H0).isSome=true->(β1 n).v=(β n).v) (hnew:∀ n ob b,look n H1=some ob->own (β1 n) ob b->b∈kp2 β H0\/w.heap.size<=b) (ho:Obs w' M β1 H1) (hf:Nk S H0 H1=true) {x:Value} (hv:Dc w' (Mut M β1 H1) β1 H1 v x):
 ∃ β',StB C β' {S with H:=H1++S.H} a w'/\Dc w' (Mut C.M0 β' (H1++S.H)) β' (H1++S.H) v x:=by
 subst hM;unfold Na at hok;simp only[Aa]at hok;obtain⟨⟨⟨k1,k2⟩,k3⟩,k5⟩:=hok
 let β':Nat->Hd:=λn=>if (look n H1).isSome then β1 n else β n
 have b1:∀ n ob,look n H1=some ob->β' n=β1 n:=λn ob hl=>by simp[β',hl]
 have b0:∀ n,look n H1=none->β' n=β n:=λn hl=>by simp[β',hl]
 have hin:∀ n,(look n S.H).isSome=true->(look n H1).isSome=true->(look n H0).isSome=true:=λn h1 h2=>by
  cases hl:look n H1 with
  |none=>rw[hl]at h2;cases h2
  |some ob=>
   have:=By.1 hf _ (jr1 hl);simp only[Bn]at this;rcases this with this|this
   ·exact this
   ·rw[Sd.Mg this]at h1;cases h1
 have h01:∀ n,(look n H0).isSome=true->(look n H1).isSome=true:=λn h1=>by
  cases hl:look n H0 with
  |none=>rw[hl]at h1;cases h1
  |some ob=>exact By.1 k1 _ (jr1 hl)
 have bsame:∀ n,(look n S.H).isSome=true->(β' n).v=(β n).v:=λn hn=>by
  cases hl:look n H1 with
  |none=>rw[b0 n hl]
  |some ob=>rw[b1 n ob hl];exact hβ n (hin n hn (by rw[hl];rfl))
 have mut':∀ b o,Mut C.M0 β' (H1++S.H) b o↔Mut (λb o=>C.M0 b o\/∃ m ob,look m S.H=some ob/\look m H0=none/\own (β m) ob b/\ob.mut o) β1 H1 b o:=λb o=>by
  constructor
  ·rintro(hm|⟨n,ob,h1,h2,h3⟩)
   ·exact .inl (.inl hm)
   ·rw[jf3]at h1;cases hl:look n H1 with
    |some ob1=>
     rw[hl]at h1;cases h1;exact .inr ⟨n,ob,hl,by rw[<-b1 n ob hl];exact h2,h3⟩
    |none=>
     rw[hl]at h1;rw[b0 n hl]at h2;refine .inl (.inr ⟨n,ob,h1,?_,h2,h3⟩);cases h0:look n H0 with
     |none=>rfl
     |some _=>have:=h01 n (by rw[h0];rfl);rw[hl]at this;cases this
  ·rintro((hm|⟨m,ob,h1,h2,h3,h4⟩)|⟨n,ob,h1,h2,h3⟩)
   ·exact .inl hm
   ·cases hl:look m H1 with
    |some ob1=>have:=hin m (by rw[h1];rfl) (by rw[hl];rfl);rw[h2]at this;cases this
    |none=>exact .inr ⟨m,ob,by rw[jf3,hl];exact h1,by rw[b0 m hl];exact h3,h4⟩
   ·exact .inr ⟨n,ob,by rw[jf3,h1],by rw[b1 n ob h1];exact h2,h3⟩
 have hmut:Mut C.M0 β' (H1++S.H)=Mut (λb o=>C.M0 b o\/∃ m ob,look m S.H=some ob/\look m H0=none/\own (β m) ob b/\ob.mut o) β1 H1:=by
  funext b o;exact propext (mut' b o)
 have hblk:∀ b,b<w.heap.size->b∉kp2 β H0->w'.heap[b]? =w.heap[b]? :=λb hb' hn=>hfr.block b hb' hn;have hnb:∀ b o,¬Mut C.M0 β S.H b o->b∉kp2 β H0:=λb o hm hb'=>by
  obtain⟨n,ob,h1,h2⟩:=ji2.1 hb';exact hm (.inr ⟨n,ob,hsub n ob h1,h2,ml3 hwm h1 o⟩)
 have hmm:∀ b o,b<w.heap.size->¬Mut C.M0 β S.H b o->¬Mut C.M0 β' (H1++S.H) b o:=λb o hlt hm hm'=>by
  rcases(mut' b o).1 hm' with (h1|⟨m,ob,h1,h2,h3,h4⟩)|⟨n,ob,h1,h2,h3⟩
  ·exact hm (.inl h1)
  ·exact hm (.inr ⟨m,ob,h1,h3,h4⟩)
  ·rcases hnew n ob b h1 h2 with h4|h4
   ·exact hnb b o hm h4
   ·omega
 have kp:aI w (Mut C.M0 β S.H) w' (Mut C.M0 β' (H1++S.H)):=by
  refine⟨λb o y h1 h2=>?_,λb ob _ h1 h2=>?_⟩
  ·have hlt:b<w.heap.size:=World.block_lt_of_cell? w ⟨b,o,none⟩ h2;refine⟨hmm b o hlt h1,?_⟩;rw[<-h2];exact World.cell?_of_block (hblk b hlt (hnb b o h1))
  ·have hlt:=(Bw.1 h2).1;exact⟨λo=>hmm b o hlt (h1 o),(hblk b hlt (hnb b 0 (h1 0))).trans h2⟩
 have hrows:∀ n,(look n S.H).isSome=true->V.Kw β β' S.H (H1++S.H) n:=λn hn=>by
  refine⟨bsame n hn,λe sz sh xs k hl=>?_⟩;rw[jf3]at hl;cases h1:look n H1 with
  |none=>rw[h1]at hl;exact⟨sh,xs,hl⟩
  |some ob=>
   rw[h1]at hl;cases hl;have:=By.1 k2 _ (jr1 h1);dsimp only at this;cases h0:look n H0 with
   |none=>have:=hin n hn (by rw[h1];rfl);rw[h0]at this;cases this
   |some ob0=>
    rw[h0]at this;cases ob0 with
    |row e' sz' sh' xs' k'=>
     simp only[Aa]at this;obtain⟨⟨q1,q2⟩,q3⟩:=this;obtain rfl:=Bo q1;obtain rfl:=Bo q2;obtain rfl:=Bo q3;exact⟨sh',xs',hsub n _ h0⟩
    |_=>cases this
 have hfresh:∀ n,look n S.H=none->(look n H1).isSome=true->S.aD n=true:=λn h1 h2=>by
  cases hl:look n H1 with
  |none=>rw[hl]at h2;cases h2
  |some ob=>
   have:=By.1 hf _ (jr1 hl);simp only[Bn]at this;rcases this with this|this
   ·simp only[kc6,Option.isSome_iff_exists]at this;obtain⟨ob0,h0⟩:=this;rw[hsub n ob0 h0]at h1;cases h1
   ·exact this
 have hsame:∀ n,(S.aD n=true->False)->V.Kw β β' S.H (H1++S.H) n:=λn hn=>by
  cases hl:look n S.H with
  |some ob=>exact hrows n (by rw[hl];rfl)
  |none=>
   cases h1:look n H1 with
   |some ob=>exact absurd (hfresh n hl (by rw[h1];rfl)) hn
   |none=>
    refine⟨congrArg Hd.v (b0 n h1),λe sz sh xs k h2=>?_⟩;rw[jf3,h1,hl]at h2;cases h2
 have hsys:∀ D o,w.heap[D]? =some o->rr7 o=true->w'.heap[D]? =some o:=λD o ho' hs'=>by
  refine(hblk D (Bw.1 ho').1 (λhb'=>?_)).trans ho';obtain⟨n,ob,h1,h2⟩:=ji2.1 hb';exact(h.obs n ob (hsub n ob h1)).Xz ho' hs' h2
 obtain⟨Ds,hd1,hd2,hd3⟩:=h.defers;have hclosed:∀ (y:V) (u:Value),y.within (kc6 H1)=true->Dc w' (Mut (λb o=>C.M0 b o\/∃ m ob,look m S.H=some ob/\look m H0=none/\own (β m) ob b/\ob.mut o) β1 H1) β1 H1 y u->Dc w' (Mut C.M0 β' (H1++S.H)) β' (H1++S.H) y u:=λy u hy hu=>by
  rw[hmut];refine Dc.gen (aI.refl _ _) y u (λn hn=>?_) hu;have:=V.Ql hy n hn;simp only[kc6,Option.isSome_iff_exists]at this;obtain⟨ob,hl⟩:=this;refine⟨congrArg Hd.v (b1 n ob hl),λe sz sh xs k h2=>?_⟩;rw[jf3,hl]at h2;cases h2;exact⟨sh,xs,hl⟩
 have hclosedL:∀ (ys:List V) (us:List Value),jd8 (kc6 H1) ys=true->Cs w' (Mut (λb o=>C.M0 b o\/∃ m ob,look m S.H=some ob/\look m H0=none/\own (β m) ob b/\ob.mut o) β1 H1) β1 H1 ys us->Cs w' (Mut C.M0 β' (H1++S.H)) β' (H1++S.H) ys us:=λys=>by
  induction ys with
  |nil=>intro us _ h;exact h
  |cons y ys ih=>
   intro us hy hu;simp only[jd8,Aa]at hy;obtain⟨u,r,rfl,h1,h2⟩:=hu;exact⟨u,r,rfl,hclosed y u hy.1 h1,ih r hy.2 h2⟩
 refine⟨β',⟨h.size,h.small,⟨Ds,hd1,hd2,λD hD=>⟨hsys D _ (hd3 D hD).1 rfl,(hd3 D hD).2⟩⟩,λp hp=>⟨hsys _ _ (h.sys p hp).1 (h.sys p hp).2.1,(h.sys p hp).2⟩,λt y hl=>?_,λn ob hl=>?_,λn m b ob ob' hne h1 h2 h3=>?_,λn ob b hl hb'=>?_,λq cs hl=>(h.glob q cs hl).keep kp,?_,λn ob b o hl hb' hm=>?_,h.low,λn hn=>?_,λn hn=>?_⟩,hclosed v x k5 hv⟩
 ·obtain⟨u,h1,h2⟩:=h.env t y hl;refine⟨u,h1,Dc.gen kp y u (λn hn=>hsame n λhfr'=>?_) h2⟩;simp only[Sd.aD,Aa]at hfr';rw[jh9 hfr'.1 hl]at hn;cases hn
 ·dsimp only at hl;rw[jf3]at hl;cases h1:look n H1 with
  |some ob1=>
   rw[h1]at hl;cases hl;have h2:=ho.obs n ob h1;have h3:=By.1 k3 _ (jr1 h1);show La w' (Mut C.M0 β' (H1++S.H)) β' (H1++S.H) (β' n) ob;rw[b1 n ob h1,hmut];refine La.keep (aI.refl _ _) (λ_ _=>rfl) (λvs hL=>?_) h2;rw[<-hmut];exact hclosedL _ vs h3 hL
  |none=>
   rw[h1]at hl;show La w' (Mut C.M0 β' (H1++S.H)) β' (H1++S.H) (β' n) ob;rw[b0 n h1];refine La.keep kp (λb hb'=>?_) (λvs hL=>?_) (h.obs n ob hl)
   ·refine hblk b (h.old hl hb') (λhm=>?_);obtain⟨m,ob',h2,h3⟩:=ji2.1 hm;have hne:n≠m:=by
     rintro rfl;have:=h01 n (by rw[h2];rfl);rw[h1]at this;cases this
    exact h.apart n m b ob ob' hne hl (hsub m ob' h2) hb' h3
   ·have hs:∀ m,Jj m ob.cells=true->V.Kw β β' S.H (H1++S.H) m:=λm hm=>hsame m λhfr'=>by
     simp only[Sd.aD,Aa]at hfr';have:=(ja8 hfr'.2 hl).2;simp only[Ob.says]at this;rw[hm]at this;cases this
    exact Cs.gen kp _ vs hs hL
 ·dsimp only at h1 h2;rw[jf3]at h1 h2;cases q1:look n H1 with
  |some o1=>
   rw[q1]at h1;cases h1;rw[b1 n _ q1]at h3;cases q2:look m H1 with
   |some o2=>
    rw[q2]at h2;cases h2;rw[b1 m _ q2];exact ho.apart n m b _ _ hne q1 q2 h3
   |none=>
    rw[q2]at h2;rw[b0 m q2];intro h4;rcases hnew n _ b q1 h3 with h5|h5
    ·obtain⟨q,oq,h6,h7⟩:=ji2.1 h5;have hqm:q≠m:=by
      rintro rfl;have:=h01 q (by rw[h6];rfl);rw[q2]at this;cases this
     exact h.apart q m b oq ob' hqm (hsub q oq h6) h2 h7 h4
    ·have:=h.old h2 h4;omega
  |none=>
   rw[q1]at h1;rw[b0 n q1]at h3;cases q2:look m H1 with
   |some o2=>
    rw[q2]at h2;cases h2;rw[b1 m _ q2];intro h4;rcases hnew m _ b q2 h4 with h5|h5
    ·obtain⟨q,oq,h6,h7⟩:=ji2.1 h5;have hqn:q≠n:=by
      rintro rfl;have:=h01 q (by rw[h6];rfl);rw[q1]at this;cases this
     exact h.apart q n b oq ob hqn (hsub q oq h6) h1 h7 h3
    ·have:=h.old h1 h3;omega
   |none=>
    rw[q2]at h2;rw[b0 m q2];exact h.apart n m b ob ob' hne h1 h2 h3
 ·dsimp only at hl;rw[jf3]at hl;cases q1:look n H1 with
  |some o1=>
   rw[q1]at hl;cases hl;rw[b1 n _ q1]at hb';rcases hnew n _ b q1 hb' with h5|h5
   ·obtain⟨q,oq,h6,h7⟩:=ji2.1 h5;exact h.place q oq b (hsub q oq h6) h7
   ·exact .inr (Fe h.frame.size h5)
  |none=>
   rw[q1]at hl;rw[b0 n q1]at hb';exact h.place n ob b hl hb'
 ·refine⟨hfr.os.trans h.frame.os,hfr.tape.trans h.frame.tape,hfr.output.trans h.frame.output,Fe h.frame.size hfr.size,λi hi he=>?_⟩;refine(hblk i (Nat.lt_of_lt_of_le hi h.frame.size) (λhm=>?_)).trans (h.frame.block i hi he);obtain⟨n,ob,h1,h2⟩:=ji2.1 hm;rcases h.place n ob i (hsub n ob h1) h2 with h3|h3
  ·exact he h3
  ·omega
 ·dsimp only at hl;rw[jf3]at hl;cases q1:look n H1 with
  |some o1=>
   rw[q1]at hl;cases hl;rw[b1 n _ q1]at hb';exact ho.out n _ b o q1 hb' (.inl hm)
  |none=>
   rw[q1]at hl;rw[b0 n q1]at hb';exact h.out n ob b o hl hb' hm
 ·rw[bsame n (h.has n hn)];exact h.fix n hn
 ·dsimp only;rw[jf3];cases q1:look n H1 with
  |some o1=>rfl
  |none=>exact h.has n hn
inductive Qv (H:List (Nat × Ob)):List (Nat × Ob)->Prop
 |nil:Qv H []
 |cons {n:Nat} {ob:Ob} {r:List (Nat × Ob)} (h:look n H=some ob) (k:Qv H r):Qv H ((n,ob)::r)
theorem Qv.sub {H H0:List (Nat × Ob)}(h:Qv H H0):vu5 H0 H:=by
 induction h with
 |nil=>intro n ob h;cases h
 |cons h1 _ ih=>
  intro n ob hl;rw[j6]at hl;split at hl
  ·rename_i e;subst e;cases hl;exact h1
  ·exact ih n ob hl
variable {env:List (Nat × V)}{H:List (Nat × Ob)}{gl:List (Nat × List D)}{d:Nat}
theorem ve1 {f:Nat}{fx:Operand}{xs:List Operand}{ats:Array TypeId}{fs gs vs args:List V}{H0:List (Nat × Ob)}{R:V->List (Nat × Ob)->Prop}[hf:TFun E.P f](hfx:Sd.ev ⟨env,H,gl⟩ fx=some (.clo (.func f) fs gs))(hof:Cm fx=true)(hx:Evs ⟨env,H,gl⟩ xs vs)(ha:Jm H (fs++vs++gs) args)
 (hc:FnE E.P gl f args H0 R) (hs:Qv H H0) (hwm:Ot H0=true) (hd:d<E.C.nt) (hg:Sd.gd ⟨env,H,gl⟩ ops ⟨some d,.call {callee:=.value fx,args:=xs.toArray,argTypes:=ats},ty,pos,af,gd⟩=some true) (hw:Jv draw way=true)
 (h:∀ v H1,R v H1->Nk ⟨env,H,gl⟩ H0 H1=true/\TR E draw ops Q rest ⟨(d,v)::env,H1++H,gl⟩):TR E draw ops Q (.step ⟨some d,.call {callee:=.value fx,args:=xs.toArray,argTypes:=ats},ty,pos,af,gd⟩ way rest) ⟨env,H,gl⟩:=by
 refine rn0 rfl hd hg rfl hw λβ a w hB=>?_;obtain⟨fs',gs',h1,h2,h3⟩:=hB.ev hfx hof;refine⟨f,_,ml4 hf a h1 xs ats (some d) w,?_⟩;have hsub:=hs.sub
 let M:Nat->Nat->Prop:=λb o=>E.C.M0 b o\/∃ m ob,look m H=some ob/\look m H0=none/\own (β m) ob b/\ob.mut o
 have hMut:Mut M β H0=Mut E.C.M0 β H:=by
  funext b o;apply propext;constructor
  ·rintro((hm|⟨m,ob,q1,_,q2,q3⟩)|⟨n,ob,q1,q2,q3⟩)
   ·exact .inl hm
   ·exact .inr ⟨m,ob,q1,q2,q3⟩
   ·exact .inr ⟨n,ob,hsub n ob q1,q2,q3⟩
  ·rintro(hm|⟨n,ob,q1,q2,q3⟩)
   ·exact .inl (.inl hm)
   ·cases h0:look n H0 with
    |none=>exact .inl (.inr ⟨n,ob,q1,h0,q2,q3⟩)
    |some ob0=>
     have:=hsub n ob0 h0;rw[q1]at this;cases this;exact .inr ⟨n,ob,h0,q2,q3⟩
 have hrow:∀ n e sz sh xs k,look n H0=some (.row e sz sh xs k)->∃ sh' xs',look n H=some (.row e sz sh' xs' k):=λn e sz sh xs k hl=>⟨sh,xs,hsub n _ hl⟩;have hargs:=ha.rep hB ((Cs.app (Cs.app h2 (hx.rep hB)) h3));refine(hc w M β _ ?_ ?_ ⟨λn ob hl=>?_,λn m b ob ob' hne q1 q2=>hB.apart n m b ob ob' hne (hsub n ob q1) (hsub m ob' q2),λn ob b o hl hb' hm=>?_⟩ ?_).mono ?_
 ·rintro b o (hm|⟨m,ob,q1,_,q2,_⟩)
  ·have:=hB.low b o hm;have:=hB.frame.size;omega
  ·exact hB.old q1 q2
 ·rw[hMut];exact Cs.keep (aI.refl _ _) (λ_=>rfl) hrow _ _ hargs
 ·rw[hMut];exact La.keep (aI.refl _ _) (λ_ _=>rfl) (λvs hL=>Cs.keep (aI.refl _ _) (λ_=>rfl) hrow _ _ hL) (hB.obs n ob (hsub n ob hl))
 ·rcases hm with hm|⟨m,ob',q1,q2,q3,_⟩
  ·exact hB.out n ob b o (hsub n ob hl) hb' hm
  ·have hne:n≠m:=by rintro rfl;rw[hl]at q2;cases q2
   exact hB.apart n m b ob ob' hne (hsub n ob hl) q1 hb' q3
 ·rw[hMut];exact hB.glob
 ·rintro e w' ⟨v,x,H1,β1,hR,hok,rfl,hfr,hβ,hnew,ho,hv⟩;obtain⟨hf',hT⟩:=h v H1 hR;obtain⟨β',hB',hv'⟩:=hB.called hsub hwm rfl hok hfr hβ hnew ho hf' hv;exact⟨x,_,β',v,rfl,hB',hv',hT⟩
end
end
section
def shift (l:List (Nat × V)):List (Nat × V):=l.map λp=>(p.1+100000,p.2)
section
variable {C:Ctx}{β:Nat->Hd}{S:Sd}{a:Act}{w:World}
end
section
variable {E:Set}{Q:Exit->Sd->Prop}{ops:Array Oper}{draw:Bool}{rest:Todo}{way:Ji}{ty:TypeId}{pos:String}{af:Array Edge}{gd:Option (Nat × Bool)}
variable {env:List (Nat × V)}{H:List (Nat × Ob)}{gl:List (Nat × List D)}{d:Nat}
end
end
section
def qz9 (P:Program)(t:Nat)(x:D):Bool:=match P.info? t with
 |some i=>(match i.zero with
  |some (.agg cs)=>(match x with|.agg ds=>mc0 cs.toList ds|_=>false)
  |some z=>mc0 [z] [x]
  |none=>false)
 |none=>false
class Py (P:Program)(t:Nat)(x:outParam D):Prop where
 ok:qz9 P t x=true
theorem ml5 {P:Program}{t:Nat}{x:D}(h:Py P t x):∃ i z,P.info? t=some i/\i.zero=some z/\∀ {w:World} {M:Nat->Nat->Prop},Gv w M x z:=by
 have:=h.ok;unfold qz9 at this;cases hi:P.info? t with
 |none=>rw[hi]at this;cases this
 |some i=>
  rw[hi]at this;dsimp only at this;cases hz:i.zero with
  |none=>rw[hz]at this;cases this
  |some z=>
   rw[hz]at this;refine⟨i,z,rfl,hz,?_⟩;intro w M;have one:mc0 [z] [x]=true->Gv w M x z:=λh=>by
    obtain⟨v,r,e,_,h1,_⟩:=js9 (w:=w) (M:=M) h;cases e;exact h1
   cases z
   case agg cs=>
    dsimp only at this;split at this
    ·exact⟨cs.toList,by simp,js9 this⟩
    ·cases this
   all_goals exact one this
section
variable {E:Set}{Q:Exit->Sd->Prop}{ops:Array Oper}{draw:Bool}{rest:Todo}{way:Ji}{ty:TypeId}{pos:String}{af:Array Edge}{gd:Option (Nat × Bool)}{dst:Option Tmp}
variable {env:List (Nat × V)}{H:List (Nat × Ob)}{gl:List (Nat × List D)}{d:Nat}
theorem vo4 {S:Sd}{x y:Operand}{k k':IntKind}{p q:Int}{ats:Array TypeId}(hx:S.ev x=some (.d (.int k p)))(hy:S.ev y=some (.d (.int k' q)))(hox:Cm x=true)(hoy:Cm y=true):
 aH E S ⟨dst,.call {callee:=.builtin .min,args:=#[x,y],argTypes:=ats},ty,pos,af,gd⟩ (.d (.int k (if q<p then q else p))):=aH.mk λβ a w h=>by
 have h1:a.eval x=.int k p:=h.ev hx hox;have h2:a.eval y=.int k' q:=h.ev hy hoy;refine⟨.int k (if q<p then q else p),λw' _=>?_,rfl⟩;simp[execOp,resolve,invoke,builtin,h1,h2,Builtin.min_,Builtin.min2]
theorem mc7 {w:World}{M:Nat->Nat->Prop}{x:D}{z:Value}(hr:Gv w M x z){sz:Nat}(hs:z.cells.size=sz)(hpos:0<sz):∀ n,Gb w M sz (List.replicate n x) (madeCells z.cells (n * sz)).toList:=by
 intro n
 induction n with
 |zero=>simp[madeCells,Gb]
 |succ n ih=>
  have e:(madeCells z.cells ((n+1) * sz)).toList=z.cells.toList++(madeCells z.cells (n * sz)).toList:=by
   apply Fm;intro j;simp only[madeCells,Array.toList_map,Array.toList_range,Bp];by_cases hj:j<sz
   ·rw[En (by simp[hs,hj])];have:j<(n+1) * sz:=by rw[Fa];omega
    rw[List.getElem?_range this];simp only[Er,hs,Nat.mod_eq_of_lt hj];rw[Array.getElem?_toList,Array.getElem?_eq_getElem (by omega)];rw[getElem!_pos z.cells j (by omega)]
   ·rw[Fg (by simp[hs];omega)];simp only[Array.length_toList,hs,Bp];by_cases hj2:j<(n+1) * sz
    ·have:j - sz<n * sz:=by rw[Fa]at hj2;omega
     rw[List.getElem?_range hj2,List.getElem?_range this];simp only[Er];rw[Nat.mod_eq_sub_mod (by omega)]
    ·have:¬j - sz<n * sz:=by rw[Fa]at hj2;omega
     rw[List.getElem?_eq_none (by simp;omega),List.getElem?_eq_none (by simp;omega)]
  rw[List.replicate_succ,e];exact⟨z,_,rfl,hs,hr,ih⟩
theorem vo5 {S:Sd}{n t e sz m:Nat}{k:IntKind}{p:Int}{x:Operand}{z:D}[ht:aK E.P t e sz][hz:Py E.P e z](hx:S.ev x=some (.d (.int k p)))(hox:Cm x=true)(hp:p=(m:Nat))(hm:m<=1000000000)(hn:S.aD n=true):
 Grow E S ⟨some d,.makeSlice t x x,ty,pos,af,gd⟩ {S with H:=(n,.row e sz false (List.replicate m z) 0)::S.H} (.own n 0):=Grow.mk λβ a w h=>by
 subst hp;obtain⟨bytes,⟨i,z',hu,hi,hz',hs,hby,hzs,hpos⟩,hbl⟩:=jg0 ht;obtain⟨i2,z2,hi2,hz2,hzr⟩:=ml5 hz;rw[hi]at hi2;cases hi2;rw[hz']at hz2;cases hz2;have h1:a.eval x=.int k (m:Nat):=h.ev hx hox;obtain⟨w',h2,h3,h4⟩:=run_make_full (P:=E.P) w 0 t e i z' sz hu hi hz' hs k k m (by rw[hby];have:=Nat.mul_le_mul hbl hm;omega) (by unfold maxLen;omega) (Ak _);have g:aG w w':=(Below.refl _ _).grown h4 (Ap _) (λk hk=>by cases hk);refine⟨_,w',_,?_,g,h.newRow (sh:=false) (xs:=List.replicate m z) hn g (λb hb'=>?_) (by rw[Ff];exact h3) (mc7 hzr hzs hpos m),js8⟩
 ·simp only[execOp,h1,Sem.run_bind,h2,Result.andThen_ok,Sem.run_pure]
 ·simp only[Value.ownBlock,Bi]at hb';omega
theorem vo6 (n:Nat){t e sz m:Nat}{k:IntKind}{p:Int}{x:Operand}{z:D}[ht:aK E.P t e sz][hz:Py E.P e z](hx:Sd.ev ⟨env,H,gl⟩ x=some (.d (.int k p)))(hox:Cm x=true)(hp:p=(m:Nat))(hm:m<=1000000000)(hn:Sd.aD ⟨env,H,gl⟩ n=true)(hd:d<E.C.nt)
 (hg:Sd.gd ⟨env,H,gl⟩ ops ⟨some d,.makeSlice t x x,ty,pos,af,gd⟩=some true) (hw:way.loud=true) (h:TR E draw ops Q rest ⟨(d,.own n 0)::env,(n,.row e sz false (List.replicate m z) 0)::H,gl⟩):
 TR E draw ops Q (.step ⟨some d,.makeSlice t x x,ty,pos,af,gd⟩ way rest) ⟨env,H,gl⟩:=jn3 (vo5 hx hox hp hm hn) rfl hd hg rfl hw h
theorem my4 {w:World}{M:Nat->Nat->Prop}{sz:Nat}{z:D}{u:Value}(hu:u.cells.size=sz)(hz:Gv w M z u):∀ {xs:List D} {vs:List Value},Gb w M sz xs vs->∀ {i:Nat},i<xs.length->Gb w M sz (xs.set i z) (vs.take (i * sz)++u.cells.toList++vs.drop (i * sz+sz))
 |[],_,_,i,hi=>by simp at hi
 |x::xs,_,⟨v,r,e,h2,h3,h4⟩,0,_=>by
  subst e;refine⟨u,r,?_,hu,hz,h4⟩;have:v.cells.toList.length=sz:=by simpa using h2
  simp[<-this]
 |x::xs,_,⟨v,r,e,h2,h3,h4⟩,i+1,hi=>by
  subst e;have hl:v.cells.toList.length=sz:=by simpa using h2
  refine⟨v,_,?_,h2,h3,my4 hu hz h4 (i:=i) (by simpa using hi)⟩;have e1:(i+1) * sz=v.cells.toList.length+i * sz:=by rw[hl,Fa];omega
  rw[e1,List.take_append,Ba (by omega),Nat.add_sub_cancel_left,Fd,List.drop_append,Bq (by omega),Nat.add_sub_cancel_left];simp
theorem qf4 {S:Sd}{t n k i e sz:Nat}{x y:Operand}{v:V}{z:D}{xs zs:List D}[ht:TSize E.P t sz](hx:S.ev x=some (.el n k i 0))(hox:Cm x=true)(hl:look n S.H=some (.row e sz false xs k))(hy:S.ev y=some v)(hoy:Cm y=true)(hz:ToD S.H v z)(hc:Fv z zs)(hm:zs.length=sz)(hi:i<xs.length):
 Turn E S ⟨none,.store t x y,ty,pos,af,gd⟩ {S with H:=(n,.row e sz false (xs.set i z) k)::S.H}:=Turn.mk λβ a w h=>by
 obtain⟨b,l,c,h1,h2⟩:=h.ev hx hox e sz false xs hl;obtain⟨ys,h3,h4⟩:=h.obs n _ hl;have hzr:=hz.rep h (h.ev hy hoy);obtain⟨g,cap,cur,h5,h6,h7,h8,h9,h10,h11⟩:∃ g cap cur,(β n).v=.slice (some ⟨g,0,none⟩) xs.length cap/\0<=g/\w.heap[g]? =some (.cells cur e (0,0))/\xs.length<=cap/\cap<=maxLen/\cur.size=cap * sz/\cur.toList.take (xs.length * sz)=ys:=by
  rcases h3.2 with ⟨q,_⟩|q
  ·rw[h1]at q;cases q
  ·exact q
 rw[h1]at h5;simp only[Value.slice.injEq,Bi,Addr.mk.injEq,and_true]at h5;obtain⟨rfl,_,rfl⟩:=h5;cases hinf:E.P.info? t with
 |none=>have:=ht.ok;rw[hinf]at this;cases this
 |some inf=>
  have hsz:inf.size=sz:=by have:=ht.ok;rw[hinf]at this;simpa using this
  have hzl:(a.eval y).cells.size=sz:=by have:=(hc.rep hzr).length;simp at this;omega
  have hend:i * sz+sz<=xs.length * sz:=by
   rw[show i * sz+sz=(i+1) * sz by rw[Fa];omega];exact Nat.mul_le_mul_right _ (by omega)
  have hend2:xs.length * sz<=cur.size:=by rw[h10];exact Nat.mul_le_mul_right _ h8
  have hst:=run_storeCells_at E.P b (i * sz) e (a.eval y).cells.toList 0 cur w h7 (by simp;omega) (hzr.one);simp only[Nat.add_zero]at hst;have hlen:(a.eval y).cells.toList.length=sz:=by simpa using hzl
  have hbn:hb (β n).v=some b:=by rw[h1];rfl
  have hH:∀ m e' sz' sh' xs' k',look m ((n,Ob.row e sz false (xs.set i z) k)::S.H)=some (.row e' sz' sh' xs' k')->∃ sh' xs',look m S.H=some (.row e' sz' sh' xs' k'):=λm e' sz' sh' xs' k' hm=>by
   rw[n3]at hm;split at hm
   ·rename_i eq;subst eq;cases hm;exact⟨false,xs,hl⟩
   ·exact⟨sh',xs',hm⟩
  refine⟨_,?_,β,h.turn (w':=w.setRow b (cur.toList.take (i * sz)++(a.eval y).cells.toList++cur.toList.drop (i * sz+(a.eval y).cells.toList.length)).toArray) hl (λ_ _=>rfl) rfl rfl rfl (by simp) (λk _ hk=>setRow_other w b k _ (λe=>hk (by rw[hbn,e]))) (λb h=>.inl h) (λb' o' y h4 h5 _=>absurd (.inl rfl) h5) (λ_ _ _ _ _=>.inl rfl)
   (λk t x v _=>Dc.keep k (λ_=>rfl) hH x v) (λ_=>rfl) (λk m cs vs _ _=>Cs.keep k (λ_=>rfl) hH _ vs) (λkp=>?_)⟩
  ·simp only[Nat.add_zero]at h2;simp[execOp,h2,Instr.storeAt,Instr.sureAddr,storeVar,jc1 hinf,hsz,hzl,hst]
  ·refine⟨ys.take (i * sz)++(a.eval y).cells.toList++ys.drop (i * sz+sz),⟨?_,.inr ⟨b,c,_,?_,h6,setRow_heap w b _ _ e _ h7,by rw[List.length_set];exact h8,h9,?_,?_⟩⟩,my4 hzl (Gv.keep kp _ _ hzr) (Gb.keep kp _ _ _ h4) hi⟩
   ·have:=h4.length;simp only[Ag,Aq,Bx,List.length_set,hlen,this];omega
   ·rw[List.length_set];rw[h1];congr 1
   ·simp only[List.size_toArray,Ag,Aq,Bx,Array.length_toList,hlen];omega
   ·rw[<-h11,List.length_set,hlen];have hl1:(cur.toList.take (i * sz)).length=i * sz:=by simp;omega
    rw[Eg,List.take_append,hl1,Ba (by omega),List.take_append,hlen,Ba (l:=(a.eval y).cells.toList) (by omega),Eg,List.take_take,Nat.min_eq_left (by omega)];congr 2;rw[List.drop_take];congr 1;omega
theorem qf5 {t n k i e sz:Nat}{x y:Operand}{v:V}{z:D}{xs zs:List D}[ht:TSize E.P t sz](hx:Sd.ev ⟨env,H,gl⟩ x=some (.el n k i 0))(hox:Cm x=true)(hl:look n H=some (.row e sz false xs k))(hy:Sd.ev ⟨env,H,gl⟩ y=some v)(hoy:Cm y=true)(hz:ToD H v z)(hc:Fv z zs)(hm:zs.length=sz)(hi:i<xs.length)
 (hg:Sd.gd ⟨env,H,gl⟩ ops ⟨none,.store t x y,ty,pos,af,gd⟩=some true) (hw:Jv draw way=true)
 (h:TR E draw ops Q rest ⟨env,(n,.row e sz false (xs.set i z) k)::H,gl⟩):TR E draw ops Q (.step ⟨none,.store t x y,ty,pos,af,gd⟩ way rest) ⟨env,H,gl⟩:=kl9 (qf4 hx hox hl hy hoy hz hc hm hi) rfl hg rfl hw h
end
end
section
section
variable {E:Set}{Q:Exit->Sd->Prop}{ops:Array Oper}{draw:Bool}{rest:Todo}{way:Ji}{ty:TypeId}{pos:String}{af:Array Edge}{gd:Option (Nat × Bool)}{dst:Option Tmp}
variable {env:List (Nat × V)}{H:List (Nat × Ob)}{gl:List (Nat × List D)}{d:Nat}
theorem StB.Uh {C:Ctx}{S:Sd}{β:Nat->Hd}{a:Act}{w:World}(h:StB C β S a w){n e sz k:Nat}{sh:Bool}{xs:List D}(hl:look n S.H=some (.row e sz sh xs k)):∃ ad c,(β n).v=.slice ad xs.length c/\xs.length<=c/\(ad=none->c=0)/\(∀ p,ad=some p->∃ b,p=⟨b,0,none⟩):=by
 obtain⟨ys,h1,_⟩:=h.obs n _ hl;rcases h1.2 with ⟨q1,q2⟩|⟨g,cap,cur,q,_,_,q3,_⟩
 ·exact⟨none,0,by rw[q1,q2],by omega,λ_=>rfl,λp hp=>by cases hp⟩
 ·exact⟨_,cap,q,q3,(λe=>by cases e),λp hp=>by cases hp;exact⟨_,rfl⟩⟩
theorem ml6 {P:Program}{t e sz:Nat}(ht:aK P t e sz)(a:Option Addr)(n c l:Nat)(k:IntKind)(hl:l<=n)(w:World):(Instr.slice t (.slice a n c) (some (.int k (l:Nat))) none none).run P w=.ok (sliced a l n c sz) w:=by
 obtain⟨ie,hu,hie,hs,hpos⟩:=g8 ht;have hb:(Instr.sliceBounds true n c (some (.int k (l:Nat))) none none).run P w=.ok (l,n,c) w:=by
  have:(l:Int)<=(n:Int):=by omega
  simp[Instr.sliceBounds,Instr.sliceBound,asIntOf,this,show ¬n<l by omega]
 simp[run_underlying hu,Instr.slice,hb,jc1 hie,hs,sliced]
end
end
section
section
variable {E:Set}{Q:Exit->Sd->Prop}{ops:Array Oper}{draw:Bool}{rest:Todo}{way:Ji}{ty:TypeId}{pos:String}{af:Array Edge}{gd:Option (Nat × Bool)}{dst:Option Tmp}
variable {env:List (Nat × V)}{H:List (Nat × Ob)}{gl:List (Nat × List D)}{d:Nat}
end
end
end Go.Proofs.YtklklgfpkpglgaaGreatDoor
