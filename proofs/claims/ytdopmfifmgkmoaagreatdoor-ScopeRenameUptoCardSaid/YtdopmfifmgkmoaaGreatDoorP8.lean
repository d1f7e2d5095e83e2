/- Parts: D18, D19, D20, D21, D22, D23. -/
import Derived.Test.YtdopmfifmgkmoaaGreatDoorP7
set_option linter.all false
set_option maxRecDepth 100000
set_option maxHeartbeats 16000000
namespace Go.Proofs.YtdopmfifmgkmoaaGreatDoor
open Go.RowKit
section
def V.Ku (β β':Nat->Hd)(H H':List (Nat × Ob))(n:Nat):Prop:=(β' n).v=(β n).v/\∀ e sz sh xs k,look n H'=some (.row e sz sh xs k)->∃ sh' xs',look n H=some (.row e sz sh' xs' k)
mutual
theorem Dw.gen {w w':World}{M M':Nat->Nat->Prop}{β β':Nat->Hd}{H H':List (Nat × Ob)}(k:Keeps w M w' M'):
 ∀ (x:V) (v:Value),(∀ n,x.says n=true->V.Ku β β' H H' n)->Dw w M β H x v->Dw w' M' β' H' x v
 |.d x,v,_,h=>Gd.keep k x v h
 |.own n q,v,hs,h=>fun e sz sh xs hl=>by
  obtain⟨h1,h2⟩:=hs n (by simp[V.says]);obtain⟨sh',xs',h3⟩:=h2 e sz sh xs q hl;rw[h1];exact h e sz sh' xs' h3
 |.nils _,_,_,h=>h
 |.ptr n off,_,hs,h=>by simp only[Dw]at h ⊢;rw[(hs n (by simp[V.says])).1];exact h
 |.sl n off _ _,_,hs,h=>by simp only[Dw]at h ⊢;rw[(hs n (by simp[V.says])).1];exact h
 |.el n q i off,v,hs,h=>fun e sz sh xs hl=>by
  obtain⟨h1,h2⟩:=hs n (by simp[V.says]);obtain⟨sh',xs',h3⟩:=h2 e sz sh xs q hl;rw[h1];exact h e sz sh' xs' h3
 |.suf n q p,v,hs,h=>fun e sz sh xs hl=>by
  obtain⟨h1,h2⟩:=hs n (by simp[V.says]);obtain⟨sh',xs',h3⟩:=h2 e sz sh xs q hl;rw[h1];exact h e sz sh' xs' h3
 |.map n,_,hs,h=>by simp only[Dw]at h ⊢;rw[(hs n (by simp[V.says])).1];exact h
 |.clo _ f c,_,hs,⟨fs,gs,h1,h2,h3⟩=>⟨fs,gs,h1,Dc.gen k f fs (fun n hn=>hs n (by simp[V.says,hn])) h2,Dc.gen k c gs (fun n hn=>hs n (by simp[V.says,hn])) h3⟩
 |.tup vs,_,hs,⟨us,h1,h2⟩=>⟨us,h1,Dc.gen k vs us (fun n hn=>hs n (by simpa [V.says]using hn)) h2⟩
 |.agg vs,_,hs,⟨us,h1,h0,h2⟩=>⟨us,h1,h0,Dc.gen k vs us (fun n hn=>hs n (by simpa [V.says]using hn)) h2⟩
theorem Dc.gen {w w':World}{M M':Nat->Nat->Prop}{β β':Nat->Hd}{H H':List (Nat × Ob)}(k:Keeps w M w' M'):
 ∀ (xs:List V) (vs:List Value),(∀ n,Jr n xs=true->V.Ku β β' H H' n)->Dc w M β H xs vs->Dc w' M' β' H' xs vs
 |[],_,_,h=>h
 |x::xs,_,hs,⟨v,r,h1,h2,h3⟩=>⟨v,r,h1,Dw.gen k x v (fun n hn=>hs n (by simp[Jr,hn])) h2,Dc.gen k xs r (fun n hn=>hs n (by simp[Jr,hn])) h3⟩
end
structure Obs (w:World)(M:Nat->Nat->Prop)(β:Nat->Hd)(H:List (Nat × Ob)):Prop where
 obs:∀ n ob,look n H=some ob->Ma w (Mut M β H) β H (β n) ob
 apart:∀ n m b ob ob',n≠m->look n H=some ob->look m H=some ob'->own (β n) ob b->¬own (β m) ob' b
 out:∀ n ob b o,look n H=some ob->own (β n) ob b->¬M b o
def mc3 (β:Nat->Hd)(H:List (Nat × Ob)):List Nat:=H.flatMap fun p=>match look p.1 H with|some ob=>blk (β p.1) ob|none=>[]
def kk3 (H:List (Nat × Ob))(n:Nat):Bool:=(look n H).isSome
def Qj (H:List (Nat × Ob)):Bool:=H.all fun p=>match p.2 with|.row _ _ sh _ _=>!sh|_=>true
mutual
def V.within (p:Nat->Bool):V->Bool
 |.d _=>true
 |.own n _=>p n
 |.nils _=>true
 |.ptr n _=>p n
 |.sl n _ _ _=>p n
 |.el n _ _ _=>p n
 |.suf n _ _=>p n
 |.map n=>p n
 |.clo _ f c=>jf8 p f && jf8 p c
 |.tup vs=>jf8 p vs
 |.agg vs=>jf8 p vs
def jf8 (p:Nat->Bool):List V->Bool
 |[]=>true
 |v::r=>v.within p && jf8 p r
end
mutual
theorem V.Sv {p:Nat->Bool}:∀ {v:V},v.within p=true->∀ n,v.says n=true->p n=true
 |.d _,_,n,h=>by simp[V.says]at h
 |.own m _,h,n,h'=>by simp only[V.says]at h';rw[<-Bj h'];exact h
 |.nils _,_,n,h=>by simp[V.says]at h
 |.ptr m _,h,n,h'=>by simp only[V.says]at h';rw[<-Bj h'];exact h
 |.sl m _ _ _,h,n,h'=>by simp only[V.says]at h';rw[<-Bj h'];exact h
 |.el m _ _ _,h,n,h'=>by simp only[V.says]at h';rw[<-Bj h'];exact h
 |.suf m _ _,h,n,h'=>by simp only[V.says]at h';rw[<-Bj h'];exact h
 |.map m,h,n,h'=>by simp only[V.says]at h';rw[<-Bj h'];exact h
 |.clo _ f c,h,n,h'=>by
  simp only[V.says,Bo]at h';simp only[V.within,Ab]at h;rcases h' with h'|h'
  ·exact jg8 h.1 n h'
  ·exact jg8 h.2 n h'
 |.tup vs,h,n,h'=>jg8 (by simpa [V.within]using h) n (by simpa [V.says]using h')
 |.agg vs,h,n,h'=>jg8 (by simpa [V.within]using h) n (by simpa [V.says]using h')
theorem jg8 {p:Nat->Bool}:∀ {vs:List V},jf8 p vs=true->∀ n,Jr n vs=true->p n=true
 |[],_,n,h=>by simp[Jr]at h
 |v::r,h,n,h'=>by
  simp only[Jr,Bo]at h';simp only[jf8,Ab]at h;rcases h' with h'|h'
  ·exact V.Sv h.1 n h'
  ·exact jg8 h.2 n h'
end
def ku8 (H:List (Nat × Ob)):Bool:=H.all fun p=>jf8 (kk3 H) p.2.cells
def mo4 (H0 H1:List (Nat × Ob)):Bool:=H1.all fun p=>match p.2 with
 |.row e sz _ _ k=>(match look p.1 H0 with|none=>true|some (.row e' sz' _ _ k')=>Nat.beq e e' && Nat.beq sz sz' && Nat.beq k k'|_=>false)
 |_=>true
def mo5 (H0 H1:List (Nat × Ob)):Bool:=H0.all fun p=>kk3 H1 p.1
def Ot (H0 H1:List (Nat × Ob))(v:V):Bool:=mo5 H0 H1 && mo4 H0 H1 && ku8 H1 && v.within (kk3 H1)
theorem jp1 {H:List (Nat × Ob)}{n:Nat}{ob:Ob}(h:look n H=some ob):(n,ob)∈H:=kr1 h
theorem mc4 {H:List (Nat × Ob)}{p:Nat × Ob}(h:p∈H):∃ ob,look p.1 H=some ob:=by
 induction H with
 |nil=>cases h
 |cons q H ih=>
  rw[show q=(q.1,q.2) from rfl,j9];split
  ·exact⟨_,rfl⟩
  ·rename_i hne;rcases Bf.1 h with rfl|h
   ·exact absurd rfl hne
   ·exact ih h
theorem jh3 {β:Nat->Hd}{H:List (Nat × Ob)}{b:Nat}:b∈mc3 β H↔∃ n ob,look n H=some ob/\own (β n) ob b:=by
 unfold mc3;rw[List.mem_flatMap];constructor
 ·rintro⟨p,h1,h2⟩;obtain⟨ob,h3⟩:=mc4 h1;rw[h3]at h2;exact⟨p.1,ob,h3,qa1.1 h2⟩
 ·rintro⟨n,ob,h1,h2⟩;refine⟨(n,ob),jp1 h1,?_⟩;dsimp only;rw[h1];exact qa1.2 h2
theorem mc5 {H:List (Nat × Ob)}(h:Qj H=true){n:Nat}{ob:Ob}(hl:look n H=some ob)(o:Nat):ob.mut o:=by
 have:=Ec.1 h _ (jp1 hl);cases ob with
 |row e sz sh xs k=>simp only[By]at this;exact .inl this
 |_=>trivial
def FnE (P:Program)(gl:List (Nat × List D))(f:FuncId)(args:List V)(H0:List (Nat × Ob))(R:V->List (Nat × Ob)->Prop):Prop:=
 ∀ (w:World) (M:Nat->Nat->Prop) (β:Nat->Hd) (us:List Value),(∀ b o,M b o->b<w.heap.size)->Dc w (Mut M β H0) β H0 args us->Obs w M β H0->rf8 gl w (Mut M β H0)->
   Calls P f us.toArray w fun e w'=>∃ v x H1 β1,R v H1/\Ot H0 H1 v=true/\e=.returned x/\Frm (mc3 β H0) w w'/\(∀ n,(look n H0).isSome=true->(β1 n).v=(β n).v)/\
    (∀ n ob b,look n H1=some ob->own (β1 n) ob b->b∈mc3 β H0\/w.heap.size<=b)/\Obs w' M β1 H1/\Dw w' (Mut M β1 H1) β1 H1 v x
inductive Nj (H:List (Nat × Ob)):V->V->Prop
 |own {n k e sz:Nat} {xs:List D} (h:look n H=some (.row e sz true xs k)):Nj H (.own n k) (.d (.list sz xs))
 |nils (sz:Nat):Nj H (.nils sz) (.d (.list sz []))
 |same (v:V):Nj H v v
inductive La (H:List (Nat × Ob)):List V->List V->Prop
 |nil:La H [] []
 |cons {v v':V} {vs vs':List V} (h:Nj H v v') (t:La H vs vs'):La H (v::vs) (v'::vs')
theorem Nj.rep {C:Ctx}{β:Nat->Hd}{S:Sd}{a:Act}{w:World}(h:StB C β S a w){v v':V}(ha:Nj S.H v v'){u:Value}(hu:Dw w (Mut C.M0 β S.H) β S.H v u):Dw w (Mut C.M0 β S.H) β S.H v' u:=by
 cases ha with
 |own hl=>exact(ToD.own hl).rep h hu
 |nils sz=>exact(ToD.nils sz).rep h hu
 |same=>exact hu
theorem La.rep {C:Ctx}{β:Nat->Hd}{S:Sd}{a:Act}{w:World}(h:StB C β S a w){vs vs':List V}(ha:La S.H vs vs'):∀ {us:List Value},Dc w (Mut C.M0 β S.H) β S.H vs us->Dc w (Mut C.M0 β S.H) β S.H vs' us:=by
 induction ha with
 |nil=>intro us h;exact h
 |cons h1 _ ih=>intro us hu;obtain⟨u,r,h2,h3,h4⟩:=hu;exact⟨u,r,h2,h1.rep h h3,ih h4⟩
inductive Pb (P:Program)(S:Sd):List ResultVar->List V->Prop
 |nil:Pb P S [] []
 |tmp {t:Tmp} {v v':V} {rs:List ResultVar} {vs:List V} (hl:S.ev (.tmp t)=some v) (ha:Nj S.H v v') (h:Pb P S rs vs):Pb P S (.tmp t::rs) (v'::vs)
 |cell {t n ty off:Nat} {cs:List V} {v v':V} {rs:List ResultVar} {vs:List V} [ht:TCell P ty] (hl:S.ev (.tmp t)=some (.ptr n off)) (hb:look n S.H=some (.box cs)) (hc:cs[off]? =some v) (ha:Nj S.H v v') (h:Pb P S rs vs):Pb P S (.cell t ty::rs) (v'::vs)
 |cells {t n ty off m:Nat} {cs cs':List V} {ds:List D} {rs:List ResultVar} {vs:List V} [ht:TAgg P ty m] (hl:S.ev (.tmp t)=some (.ptr n off)) (hb:look n S.H=some (.box cs)) (hc:Cut cs off m cs') (ha:Nw S.H cs' ds) (hn:ds.all D.scalar=true) (h:Pb P S rs vs):Pb P S (.cell t ty::rs) (.d (.agg ds)::vs)
theorem qu4 {P:Program}{C:Ctx}{β:Nat->Hd}{S:Sd}{a:Act}{w:World}(h:StB C β S a w){rs:List ResultVar}{vs:List V}(hr:Pb P S rs vs):
 ∃ us:List Value,(rs.mapM fun|.tmp t=>pure (a.tmps.getD t undef)|.cell c t=>do loadVar t (<-asAddr (a.tmps.getD c undef)):Sem (List Value)).run P w=.ok us w/\Dc w (Mut C.M0 β S.H) β S.H vs us:=by
 induction hr with
 |nil=>exact⟨[],rfl,rfl⟩
 |@tmp t v v' rs vs hl ha hr ih=>
  obtain⟨us,h1,h2⟩:=ih;have h5:Dw w (Mut C.M0 β S.H) β S.H v (a.tmps.getD t undef):=h.ev hl rfl;refine⟨a.tmps.getD t undef::us,?_,⟨_,us,rfl,ha.rep h h5,h2⟩⟩;simp only[List.mapM_cons,Sem.run_bind,Sem.run_pure,Result.andThen_ok,h1]
 |@cell t n ty off cs v v' rs vs ht hl hb hc ha hr ih=>
  obtain⟨us,h1,h2⟩:=ih;obtain⟨x,h4,h5⟩:=(jq7 (t:=ty) (E:=⟨P,C,none⟩) (S:=S) (dst:=none) (ty:=0) (pos:= "") (af:=#[]) (gd:=none) (x:=.tmp t) hl hb hc).out β a w h;obtain⟨b,_,_,_,h6,_⟩:=h.Uc (x:=.tmp t) hl hb;have h7:=jk1 h6 (h4 w (Grows.refl w));refine⟨x::us,?_,⟨x,us,rfl,ha.rep h h5,h2⟩⟩;simp only[List.mapM_cons,Sem.run_bind]at h7 ⊢;rw[h7];simp only[Result.andThen_ok,h1,Sem.run_pure]
 |@cells t n ty off m cs cs' ds rs vs ht hl hb hc ha hn hr ih=>
  obtain⟨us,h1,h2⟩:=ih;obtain⟨x,h4,h5⟩:=(jt4 (t:=ty) (E:=⟨P,C,none⟩) (S:=S) (dst:=none) (ty:=0) (pos:= "") (af:=#[]) (gd:=none) (x:=.tmp t) hl hb hc ha hn).out β a w h;obtain⟨b,_,_,_,h6,_⟩:=h.Uc (x:=.tmp t) hl hb;have h7:=jk1 h6 (h4 w (Grows.refl w));refine⟨x::us,?_,⟨x,us,rfl,h5,h2⟩⟩;simp only[List.mapM_cons,Sem.run_bind]at h7 ⊢;rw[h7];simp only[Result.andThen_ok,h1,Sem.run_pure]
structure Qb (P:Program)(rs:List ResultVar)(H0:List (Nat × Ob))(R:V->List (Nat × Ob)->Prop)(e:Exit)(S:Sd):Prop where
 how:e=.ret\/e=.normal
 res:∃ vs H1,Pb P S rs vs/\Sub S.H H1/\Ot H0 H1 (oneOf vs)=true/\R (oneOf vs) H1
theorem ku9 {P:Program}{rs:List ResultVar}{H0:List (Nat × Ob)}{R:V->List (Nat × Ob)->Prop}:kt4 (Qb P rs H0 R):=fun c S h=>by rcases h.how with h|h<;>cases h
theorem qk8 {P:Program}{gl:List (Nat × List D)}{f:FuncId}{fn:Func}{c:Code}{args:List V}{H0:List (Nat × Ob)}{R:V->List (Nat × Ob)->Prop}{nt:Nat}{rs:Array ResultVar}(hf:P.funcs[f]? =some fn)(hb':fn.body=some c)(hn:fn.ntmps=nt)(hr:fn.results=rs)(hle:args.length<=nt)(hs:nt<=100000)
 (h:∀ w M E b0,TC ⟨P,⟨nt,E,w,M,H0.map (·.1),b0,fun _=>.nilFunc,[]⟩,none⟩ c (Qb P rs.toList H0 R) ⟨kj9 args,H0,gl⟩):FnE P gl f args H0 R:=fun w M β us hlow hargs hobs hgl=>by
 have hlen:=hargs.length;refine kj8 hf hb' (h w M (mc3 β H0) fun n=>(β n).v) ?_ fun e S' β1 a' w' hB hq=>⟨hq.how,?_⟩
 ·refine⟨β,⟨?_,hs,⟨[],rfl,List.nodup_nil,(fun D h=>by cases h)⟩,(fun p hp=>by cases hp),?_,hobs.obs,hobs.apart,(fun n ob b hl hb'=>.inl (jh3.2 ⟨n,ob,hl,hb'⟩)),hgl,Frm.refl _ _,hobs.out,hlow,(fun n hn=>rfl),(fun n hn=>?_)⟩⟩
  ·simp[hn];omega
  ·intro t v hl;dsimp only at hl ⊢;rw[hn];exact mo1 hargs hle hs hl
  ·obtain⟨p,h1,rfl⟩:=Bs.1 hn;obtain⟨ob,h2⟩:=mc4 h1;simp[h2]
 ·obtain⟨_,vs,H1,hres,hsub,hok,hR⟩:=hq;obtain⟨us',h3,h4⟩:=qu4 hB hres;have hok':=hok;unfold Ot at hok';simp only[Ab]at hok';obtain⟨⟨⟨k1,k2⟩,k3⟩,k5⟩:=hok';have hB1:=hB.weak (S':={S' with H:=H1}) (fun _ _ h=>h) (fun n ob h=>hsub.look h) (fun _ _ h=>h) (fun n hn=>by
   obtain⟨p,h1,rfl⟩:=Bs.1 hn;exact Ec.1 k1 p h1)
  have hN:∀ n,(look n H0).isSome=true->(β1 n).v=(β n).v:=fun n hn=>hB.fix n (by
   cases hl:look n H0 with
   |none=>rw[hl]at hn;cases hn
   |some ob=>exact Bs.2 ⟨_,jp1 hl,rfl⟩)
  have hrep:=mb7 h4;have hk:Keeps w' (Mut M β1 S'.H) w' (Mut M β1 H1):=Keeps.weak fun b o hm=>by
   rcases hm with hm|⟨n,ob,h5,h6,h7⟩
   ·exact .inl hm
   ·exact .inr ⟨n,ob,hsub.look h5,h6,h7⟩
  refine⟨_,kk0 hr h3,oneOf vs,_,H1,β1,hR,hok,rfl,hB.frame,hN,fun n ob b h5 h6=>hB1.place n ob b h5 h6,⟨hB1.obs,hB1.apart,hB1.out⟩,Dw.keep hk (fun _=>rfl) (fun n e sz sh xs k hl=>⟨sh,xs,hsub.look hl⟩) _ _ hrep⟩
section
variable {E:Set}{Q:Exit->Sd->Prop}{S:Sd}{ops:Array Oper}{draw:Bool}{rest:Todo}{way:Kt}{ty:TypeId}{pos:String}{af:Array Edge}{gd:Option (Nat × Bool)}
theorem qu5 {d:Nat}{o:Oper}(hdst:o.dst=some d)(hd:d<E.C.nt)(hg:S.gd ops o=some true)(hdf:jc0 o=false)(hw:Mr draw way=true)
 (hrun:∀ β a w,StB E.C β S a w->∃ f us,(execOp a.eval o).run E.P w=.ok (.enter f us) w/\Calls E.P f us w fun e w'=>∃ x S' β' v,e=.returned x/\StB E.C β' S' a w'/\Dw w' (Mut E.C.M0 β' S'.H) β' S'.H v x/\TR E draw ops Q rest (S'.put d v)):
 TR E draw ops Q (.step o way rest) S:=fun a w hS=>by
 have hS0:=hS;have key:∀ w1,Grows w w1->∀ K:Act->World->Prop,(∀ S2 a2 w2,St E.C S2 a2 w2->TR E draw ops Q rest S2->K a2 w2)->o.wp E.P a w1 K (Qof E.C Q):=fun w1 g K hK=>by
  obtain⟨β,hB⟩:=hS.later g;obtain⟨f,us,h1,h2⟩:=hrun β a w1 hB;unfold Oper.wp;rw[h1,Oper.upon_enter];refine h2.mono ?_;rintro e w2 ⟨x,S',β',v,rfl,h3,h4,h5⟩;refine hK (S'.put d v) _ _ ?_ h5;rw[hdst];exact⟨β',h3.put hd h4⟩
 cases draw with
 |true=>
  dsimp only;cases way with
  |pure=>cases hw
  |quiet=>cases hw
  |grow=>cases hw
  |bar=>
   simp only[x9];intro n;rw[Sd.Gw hS0 hg,Ae rfl];exact key n.w n.grows _ fun S2 a2 w2 hs2 h=>h _ _ hs2
 |false=>exact ja2 hS0 hg hdf fun K hK=>key w (Grows.refl w) K fun S2 a2 w2 hs2 h=>hK _ _ (h _ _ hs2)
theorem mc6 {P:Program}{f:Nat}(hf:TFun P f)(a:Act){fx:Operand}{fs gs:List Value}(he:a.eval fx=.func (.func f) fs.toArray gs.toArray)(xs:List Operand)(ats:Array TypeId)(dst:Option Tmp)(w:World):
 (execOp a.eval ⟨dst,.call {callee:=.value fx,args:=xs.toArray,argTypes:=ats},ty,pos,af,gd⟩).run P w=.ok (.enter f (fs++xs.map a.eval++gs).toArray) w:=by
 have:=hf.ok;unfold qj4 at this;cases hfn:P.funcs[f]? with
 |none=>rw[hfn]at this;cases this
 |some fn=>
  rw[hfn]at this;simp only[Ab,By]at this;have h2:¬fn.name= "runtime.NumGoroutine":=by simpa using this.2
  cases hb:fn.body with
  |none=>rw[hb]at this;cases this.1
  |some c=>simp[execOp,resolve,he,Deferred.ofValue,invoke,callFunc,hfn,hb,h2]
theorem Dc.app {w:World}{M:Nat->Nat->Prop}{β:Nat->Hd}{H:List (Nat × Ob)}:∀ {xs:List V} {us:List Value},Dc w M β H xs us->∀ {ys:List V} {vs:List Value},Dc w M β H ys vs->Dc w M β H (xs++ys) (us++vs)
 |[],_,h,_,_,h'=>by simp only[Dc]at h;subst h;exact h'
 |x::xs,_,h,_,_,h'=>by
  obtain⟨v,r,rfl,h2,h3⟩:=h;exact⟨v,_,rfl,h2,Dc.app h3 h'⟩
theorem je8 (n:Nat)(H1:List (Nat × Ob))(H:List (Nat × Ob)):look n (H1++H)=match look n H1 with|some ob=>some ob|none=>look n H:=by
 induction H1 with
 |nil=>rfl
 |cons p H1 ih=>
  rw[Ac,show p=(p.1,p.2) from rfl,j9,j9,ih];split<;>rfl
def Ow (S:Sd)(H0 H1:List (Nat × Ob)):Bool:=H1.all fun p=>kk3 H0 p.1 || S.fresh p.1
def rr4 (H0 H:List (Nat × Ob)):Prop:=∀ n ob,look n H0=some ob->look n H=some ob
theorem StB.called {C:Ctx}{β β1:Nat->Hd}{a:Act}{w w':World}(h:StB C β S a w){H0 H1:List (Nat × Ob)}(hsub:rr4 H0 S.H)(hwm:Qj H0=true){M:Nat->Nat->Prop}(hM:M=fun b o=>C.M0 b o\/∃ m ob,look m S.H=some ob/\look m H0=none/\own (β m) ob b/\ob.mut o){v:V}
 (hok:Ot H0 H1 v=true) (hfr:Frm (mc3 β H0) w w') (hβ:∀ n,(look n H0).isSome=true->(β1 n).v=(β n).v) (hnew:∀ n ob b,look n H1=some ob->own (β1 n) ob b->b∈mc3 β H0\/w.heap.size<=b) (ho:Obs w' M β1 H1) (hf:Ow S H0 H1=true) {x:Value} (hv:Dw w' (Mut M β1 H1) β1 H1 v x):
 ∃ β',StB C β' {S with H:=H1++S.H} a w'/\Dw w' (Mut C.M0 β' (H1++S.H)) β' (H1++S.H) v x:=by
 subst hM;unfold Ot at hok;simp only[Ab]at hok;obtain⟨⟨⟨k1,k2⟩,k3⟩,k5⟩:=hok
 let β':Nat->Hd:=fun n=>if (look n H1).isSome then β1 n else β n
 have b1:∀ n ob,look n H1=some ob->β' n=β1 n:=fun n ob hl=>by simp[β',hl]
 have b0:∀ n,look n H1=none->β' n=β n:=fun n hl=>by simp[β',hl]
 have hin:∀ n,(look n S.H).isSome=true->(look n H1).isSome=true->(look n H0).isSome=true:=fun n h1 h2=>by
  cases hl:look n H1 with
  |none=>rw[hl]at h2;cases h2
  |some ob=>
   have:=Ec.1 hf _ (jp1 hl);simp only[Bo]at this;rcases this with this|this
   ·exact this
   ·rw[Sd.Mw this]at h1;cases h1
 have h01:∀ n,(look n H0).isSome=true->(look n H1).isSome=true:=fun n h1=>by
  cases hl:look n H0 with
  |none=>rw[hl]at h1;cases h1
  |some ob=>exact Ec.1 k1 _ (jp1 hl)
 have bsame:∀ n,(look n S.H).isSome=true->(β' n).v=(β n).v:=fun n hn=>by
  cases hl:look n H1 with
  |none=>rw[b0 n hl]
  |some ob=>rw[b1 n ob hl];exact hβ n (hin n hn (by rw[hl];rfl))
 have mut':∀ b o,Mut C.M0 β' (H1++S.H) b o↔Mut (fun b o=>C.M0 b o\/∃ m ob,look m S.H=some ob/\look m H0=none/\own (β m) ob b/\ob.mut o) β1 H1 b o:=fun b o=>by
  constructor
  ·rintro(hm|⟨n,ob,h1,h2,h3⟩)
   ·exact .inl (.inl hm)
   ·rw[je8]at h1;cases hl:look n H1 with
    |some ob1=>
     rw[hl]at h1;cases h1;exact .inr ⟨n,ob,hl,by rw[<-b1 n ob hl];exact h2,h3⟩
    |none=>
     rw[hl]at h1;rw[b0 n hl]at h2;refine .inl (.inr ⟨n,ob,h1,?_,h2,h3⟩);cases h0:look n H0 with
     |none=>rfl
     |some _=>have:=h01 n (by rw[h0];rfl);rw[hl]at this;cases this
  ·rintro((hm|⟨m,ob,h1,h2,h3,h4⟩)|⟨n,ob,h1,h2,h3⟩)
   ·exact .inl hm
   ·cases hl:look m H1 with
    |some ob1=>have:=hin m (by rw[h1];rfl) (by rw[hl];rfl);rw[h2]at this;cases this
    |none=>exact .inr ⟨m,ob,by rw[je8,hl];exact h1,by rw[b0 m hl];exact h3,h4⟩
   ·exact .inr ⟨n,ob,by rw[je8,h1],by rw[b1 n ob h1];exact h2,h3⟩
 have hmut:Mut C.M0 β' (H1++S.H)=Mut (fun b o=>C.M0 b o\/∃ m ob,look m S.H=some ob/\look m H0=none/\own (β m) ob b/\ob.mut o) β1 H1:=by
  funext b o;exact propext (mut' b o)
 have hblk:∀ b,b<w.heap.size->b∉mc3 β H0->w'.heap[b]? =w.heap[b]? :=fun b hb' hn=>hfr.block b hb' hn;have hnb:∀ b o,¬Mut C.M0 β S.H b o->b∉mc3 β H0:=fun b o hm hb'=>by
  obtain⟨n,ob,h1,h2⟩:=jh3.1 hb';exact hm (.inr ⟨n,ob,hsub n ob h1,h2,mc5 hwm h1 o⟩)
 have hmm:∀ b o,b<w.heap.size->¬Mut C.M0 β S.H b o->¬Mut C.M0 β' (H1++S.H) b o:=fun b o hlt hm hm'=>by
  rcases(mut' b o).1 hm' with (h1|⟨m,ob,h1,h2,h3,h4⟩)|⟨n,ob,h1,h2,h3⟩
  ·exact hm (.inl h1)
  ·exact hm (.inr ⟨m,ob,h1,h3,h4⟩)
  ·rcases hnew n ob b h1 h2 with h4|h4
   ·exact hnb b o hm h4
   ·omega
 have kp:Keeps w (Mut C.M0 β S.H) w' (Mut C.M0 β' (H1++S.H)):=by
  refine⟨fun b o y h1 h2=>?_,fun b ob _ h1 h2=>?_⟩
  ·have hlt:b<w.heap.size:=World.block_lt_of_cell? w ⟨b,o,none⟩ h2;refine⟨hmm b o hlt h1,?_⟩;rw[<-h2];exact World.cell?_of_block (hblk b hlt (hnb b o h1))
  ·have hlt:=(Bw.1 h2).1;exact⟨fun o=>hmm b o hlt (h1 o),(hblk b hlt (hnb b 0 (h1 0))).trans h2⟩
 have hrows:∀ n,(look n S.H).isSome=true->V.Ku β β' S.H (H1++S.H) n:=fun n hn=>by
  refine⟨bsame n hn,fun e sz sh xs k hl=>?_⟩;rw[je8]at hl;cases h1:look n H1 with
  |none=>rw[h1]at hl;exact⟨sh,xs,hl⟩
  |some ob=>
   rw[h1]at hl;cases hl;have:=Ec.1 k2 _ (jp1 h1);dsimp only at this;cases h0:look n H0 with
   |none=>have:=hin n hn (by rw[h1];rfl);rw[h0]at this;cases this
   |some ob0=>
    rw[h0]at this;cases ob0 with
    |row e' sz' sh' xs' k'=>
     simp only[Ab]at this;obtain⟨⟨q1,q2⟩,q3⟩:=this;obtain rfl:=Bj q1;obtain rfl:=Bj q2;obtain rfl:=Bj q3;exact⟨sh',xs',hsub n _ h0⟩
    |_=>cases this
 have hfresh:∀ n,look n S.H=none->(look n H1).isSome=true->S.fresh n=true:=fun n h1 h2=>by
  cases hl:look n H1 with
  |none=>rw[hl]at h2;cases h2
  |some ob=>
   have:=Ec.1 hf _ (jp1 hl);simp only[Bo]at this;rcases this with this|this
   ·simp only[kk3,Option.isSome_iff_exists]at this;obtain⟨ob0,h0⟩:=this;rw[hsub n ob0 h0]at h1;cases h1
   ·exact this
 have hsame:∀ n,(S.fresh n=true->False)->V.Ku β β' S.H (H1++S.H) n:=fun n hn=>by
  cases hl:look n S.H with
  |some ob=>exact hrows n (by rw[hl];rfl)
  |none=>
   cases h1:look n H1 with
   |some ob=>exact absurd (hfresh n hl (by rw[h1];rfl)) hn
   |none=>
    refine⟨congrArg Hd.v (b0 n h1),fun e sz sh xs k h2=>?_⟩;rw[je8,h1,hl]at h2;cases h2
 have hsys:∀ D o,w.heap[D]? =some o->qy9 o=true->w'.heap[D]? =some o:=fun D o ho' hs'=>by
  refine(hblk D (Bw.1 ho').1 (fun hb'=>?_)).trans ho';obtain⟨n,ob,h1,h2⟩:=jh3.1 hb';exact(h.obs n ob (hsub n ob h1)).Xu ho' hs' h2
 obtain⟨Ds,hd1,hd2,hd3⟩:=h.defers;have hclosed:∀ (y:V) (u:Value),y.within (kk3 H1)=true->Dw w' (Mut (fun b o=>C.M0 b o\/∃ m ob,look m S.H=some ob/\look m H0=none/\own (β m) ob b/\ob.mut o) β1 H1) β1 H1 y u->Dw w' (Mut C.M0 β' (H1++S.H)) β' (H1++S.H) y u:=fun y u hy hu=>by
  rw[hmut];refine Dw.gen (Keeps.refl _ _) y u (fun n hn=>?_) hu;have:=V.Sv hy n hn;simp only[kk3,Option.isSome_iff_exists]at this;obtain⟨ob,hl⟩:=this;refine⟨congrArg Hd.v (b1 n ob hl),fun e sz sh xs k h2=>?_⟩;rw[je8,hl]at h2;cases h2;exact⟨sh,xs,hl⟩
 have hclosedL:∀ (ys:List V) (us:List Value),jf8 (kk3 H1) ys=true->Dc w' (Mut (fun b o=>C.M0 b o\/∃ m ob,look m S.H=some ob/\look m H0=none/\own (β m) ob b/\ob.mut o) β1 H1) β1 H1 ys us->Dc w' (Mut C.M0 β' (H1++S.H)) β' (H1++S.H) ys us:=fun ys=>by
  induction ys with
  |nil=>intro us _ h;exact h
  |cons y ys ih=>
   intro us hy hu;simp only[jf8,Ab]at hy;obtain⟨u,r,rfl,h1,h2⟩:=hu;exact⟨u,r,rfl,hclosed y u hy.1 h1,ih r hy.2 h2⟩
 refine⟨β',⟨h.size,h.small,⟨Ds,hd1,hd2,fun D hD=>⟨hsys D _ (hd3 D hD).1 rfl,(hd3 D hD).2⟩⟩,fun p hp=>⟨hsys _ _ (h.sys p hp).1 (h.sys p hp).2.1,(h.sys p hp).2⟩,fun t y hl=>?_,fun n ob hl=>?_,fun n m b ob ob' hne h1 h2 h3=>?_,fun n ob b hl hb'=>?_,fun q cs hl=>(h.glob q cs hl).keep kp,?_,fun n ob b o hl hb' hm=>?_,h.low,fun n hn=>?_,fun n hn=>?_⟩,hclosed v x k5 hv⟩
 ·obtain⟨u,h1,h2⟩:=h.env t y hl;refine⟨u,h1,Dw.gen kp y u (fun n hn=>hsame n fun hfr'=>?_) h2⟩;simp only[Sd.fresh,Ab]at hfr';rw[jh0 hfr'.1 hl]at hn;cases hn
 ·dsimp only at hl;rw[je8]at hl;cases h1:look n H1 with
  |some ob1=>
   rw[h1]at hl;cases hl;have h2:=ho.obs n ob h1;have h3:=Ec.1 k3 _ (jp1 h1);show Ma w' (Mut C.M0 β' (H1++S.H)) β' (H1++S.H) (β' n) ob;rw[b1 n ob h1,hmut];refine Ma.keep (Keeps.refl _ _) (fun _ _=>rfl) (fun vs hL=>?_) h2;rw[<-hmut];exact hclosedL _ vs h3 hL
  |none=>
   rw[h1]at hl;show Ma w' (Mut C.M0 β' (H1++S.H)) β' (H1++S.H) (β' n) ob;rw[b0 n h1];refine Ma.keep kp (fun b hb'=>?_) (fun vs hL=>?_) (h.obs n ob hl)
   ·refine hblk b (h.old hl hb') (fun hm=>?_);obtain⟨m,ob',h2,h3⟩:=jh3.1 hm;have hne:n≠m:=by
     rintro rfl;have:=h01 n (by rw[h2];rfl);rw[h1]at this;cases this
    exact h.apart n m b ob ob' hne hl (hsub m ob' h2) hb' h3
   ·have hs:∀ m,Jr m ob.cells=true->V.Ku β β' S.H (H1++S.H) m:=fun m hm=>hsame m fun hfr'=>by
     simp only[Sd.fresh,Ab]at hfr';have:=(jb3 hfr'.2 hl).2;simp only[Ob.says]at this;rw[hm]at this;cases this
    exact Dc.gen kp _ vs hs hL
 ·dsimp only at h1 h2;rw[je8]at h1 h2;cases q1:look n H1 with
  |some o1=>
   rw[q1]at h1;cases h1;rw[b1 n _ q1]at h3;cases q2:look m H1 with
   |some o2=>
    rw[q2]at h2;cases h2;rw[b1 m _ q2];exact ho.apart n m b _ _ hne q1 q2 h3
   |none=>
    rw[q2]at h2;rw[b0 m q2];intro h4;rcases hnew n _ b q1 h3 with h5|h5
    ·obtain⟨q,oq,h6,h7⟩:=jh3.1 h5;have hqm:q≠m:=by
      rintro rfl;have:=h01 q (by rw[h6];rfl);rw[q2]at this;cases this
     exact h.apart q m b oq ob' hqm (hsub q oq h6) h2 h7 h4
    ·have:=h.old h2 h4;omega
  |none=>
   rw[q1]at h1;rw[b0 n q1]at h3;cases q2:look m H1 with
   |some o2=>
    rw[q2]at h2;cases h2;rw[b1 m _ q2];intro h4;rcases hnew m _ b q2 h4 with h5|h5
    ·obtain⟨q,oq,h6,h7⟩:=jh3.1 h5;have hqn:q≠n:=by
      rintro rfl;have:=h01 q (by rw[h6];rfl);rw[q1]at this;cases this
     exact h.apart q n b oq ob hqn (hsub q oq h6) h1 h7 h3
    ·have:=h.old h1 h3;omega
   |none=>
    rw[q2]at h2;rw[b0 m q2];exact h.apart n m b ob ob' hne h1 h2 h3
 ·dsimp only at hl;rw[je8]at hl;cases q1:look n H1 with
  |some o1=>
   rw[q1]at hl;cases hl;rw[b1 n _ q1]at hb';rcases hnew n _ b q1 hb' with h5|h5
   ·obtain⟨q,oq,h6,h7⟩:=jh3.1 h5;exact h.place q oq b (hsub q oq h6) h7
   ·exact .inr (Fc h.frame.size h5)
  |none=>
   rw[q1]at hl;rw[b0 n q1]at hb';exact h.place n ob b hl hb'
 ·refine⟨hfr.os.trans h.frame.os,hfr.tape.trans h.frame.tape,hfr.output.trans h.frame.output,Fc h.frame.size hfr.size,fun i hi he=>?_⟩;refine(hblk i (Nat.lt_of_lt_of_le hi h.frame.size) (fun hm=>?_)).trans (h.frame.block i hi he);obtain⟨n,ob,h1,h2⟩:=jh3.1 hm;rcases h.place n ob i (hsub n ob h1) h2 with h3|h3
  ·exact he h3
  ·omega
 ·dsimp only at hl;rw[je8]at hl;cases q1:look n H1 with
  |some o1=>
   rw[q1]at hl;cases hl;rw[b1 n _ q1]at hb';exact ho.out n _ b o q1 hb' (.inl hm)
  |none=>
   rw[q1]at hl;rw[b0 n q1]at hb';exact h.out n ob b o hl hb' hm
 ·rw[bsame n (h.has n hn)];exact h.fix n hn
 ·dsimp only;rw[je8];cases q1:look n H1 with
  |some o1=>rfl
  |none=>exact h.has n hn
inductive Sz (H:List (Nat × Ob)):List (Nat × Ob)->Prop
 |nil:Sz H []
 |cons {n:Nat} {ob:Ob} {r:List (Nat × Ob)} (h:look n H=some ob) (k:Sz H r):Sz H ((n,ob)::r)
theorem Sz.sub {H H0:List (Nat × Ob)}(h:Sz H H0):rr4 H0 H:=by
 induction h with
 |nil=>intro n ob h;cases h
 |cons h1 _ ih=>
  intro n ob hl;rw[j9]at hl;split at hl
  ·rename_i e;subst e;cases hl;exact h1
  ·exact ih n ob hl
variable {env:List (Nat × V)}{H:List (Nat × Ob)}{gl:List (Nat × List D)}{d:Nat}
theorem rh0 {f:Nat}{fx:Operand}{xs:List Operand}{ats:Array TypeId}{fs gs vs args:List V}{H0:List (Nat × Ob)}{R:V->List (Nat × Ob)->Prop}[hf:TFun E.P f](hfx:Sd.ev ⟨env,H,gl⟩ fx=some (.clo (.func f) fs gs))(hof:Cw fx=true)(hx:Evs ⟨env,H,gl⟩ xs vs)(ha:La H (fs++vs++gs) args)
 (hc:FnE E.P gl f args H0 R) (hs:Sz H H0) (hwm:Qj H0=true) (hd:d<E.C.nt) (hg:Sd.gd ⟨env,H,gl⟩ ops ⟨some d,.call {callee:=.value fx,args:=xs.toArray,argTypes:=ats},ty,pos,af,gd⟩=some true) (hw:Mr draw way=true)
 (h:∀ v H1,R v H1->Ow ⟨env,H,gl⟩ H0 H1=true/\TR E draw ops Q rest ⟨(d,v)::env,H1++H,gl⟩):TR E draw ops Q (.step ⟨some d,.call {callee:=.value fx,args:=xs.toArray,argTypes:=ats},ty,pos,af,gd⟩ way rest) ⟨env,H,gl⟩:=by
 refine qu5 rfl hd hg rfl hw fun β a w hB=>?_;obtain⟨fs',gs',h1,h2,h3⟩:=hB.ev hfx hof;refine⟨f,_,mc6 hf a h1 xs ats (some d) w,?_⟩;have hsub:=hs.sub
 let M:Nat->Nat->Prop:=fun b o=>E.C.M0 b o\/∃ m ob,look m H=some ob/\look m H0=none/\own (β m) ob b/\ob.mut o
 have hMut:Mut M β H0=Mut E.C.M0 β H:=by
  funext b o;apply propext;constructor
  ·rintro((hm|⟨m,ob,q1,_,q2,q3⟩)|⟨n,ob,q1,q2,q3⟩)
   ·exact .inl hm
   ·exact .inr ⟨m,ob,q1,q2,q3⟩
   ·exact .inr ⟨n,ob,hsub n ob q1,q2,q3⟩
  ·rintro(hm|⟨n,ob,q1,q2,q3⟩)
   ·exact .inl (.inl hm)
   ·cases h0:look n H0 with
    |none=>exact .inl (.inr ⟨n,ob,q1,h0,q2,q3⟩)
    |some ob0=>
     have:=hsub n ob0 h0;rw[q1]at this;cases this;exact .inr ⟨n,ob,h0,q2,q3⟩
 have hrow:∀ n e sz sh xs k,look n H0=some (.row e sz sh xs k)->∃ sh' xs',look n H=some (.row e sz sh' xs' k):=fun n e sz sh xs k hl=>⟨sh,xs,hsub n _ hl⟩;have hargs:=ha.rep hB ((Dc.app (Dc.app h2 (hx.rep hB)) h3));refine(hc w M β _ ?_ ?_ ⟨fun n ob hl=>?_,fun n m b ob ob' hne q1 q2=>hB.apart n m b ob ob' hne (hsub n ob q1) (hsub m ob' q2),fun n ob b o hl hb' hm=>?_⟩ ?_).mono ?_
 ·rintro b o (hm|⟨m,ob,q1,_,q2,_⟩)
  ·have:=hB.low b o hm;have:=hB.frame.size;omega
  ·exact hB.old q1 q2
 ·rw[hMut];exact Dc.keep (Keeps.refl _ _) (fun _=>rfl) hrow _ _ hargs
 ·rw[hMut];exact Ma.keep (Keeps.refl _ _) (fun _ _=>rfl) (fun vs hL=>Dc.keep (Keeps.refl _ _) (fun _=>rfl) hrow _ _ hL) (hB.obs n ob (hsub n ob hl))
 ·rcases hm with hm|⟨m,ob',q1,q2,q3,_⟩
  ·exact hB.out n ob b o (hsub n ob hl) hb' hm
  ·have hne:n≠m:=by rintro rfl;rw[hl]at q2;cases q2
   exact hB.apart n m b ob ob' hne (hsub n ob hl) q1 hb' q3
 ·rw[hMut];exact hB.glob
 ·rintro e w' ⟨v,x,H1,β1,hR,hok,rfl,hfr,hβ,hnew,ho,hv⟩;obtain⟨hf',hT⟩:=h v H1 hR;obtain⟨β',hB',hv'⟩:=hB.called hsub hwm rfl hok hfr hβ hnew ho hf' hv;exact⟨x,_,β',v,rfl,hB',hv',hT⟩
end
end
section
def shift (l:List (Nat × V)):List (Nat × V):=l.map fun p=>(p.1+100000,p.2)
section
variable {C:Ctx}{β:Nat->Hd}{S:Sd}{a:Act}{w:World}
end
section
variable {E:Set}{Q:Exit->Sd->Prop}{ops:Array Oper}{draw:Bool}{rest:Todo}{way:Kt}{ty:TypeId}{pos:String}{af:Array Edge}{gd:Option (Nat × Bool)}
variable {env:List (Nat × V)}{H:List (Nat × Ob)}{gl:List (Nat × List D)}{d:Nat}
end
end
section
def qk9 (P:Program)(t:Nat)(x:D):Bool:=match P.info? t with
 |some i=>(match i.zero with
  |some (.agg cs)=>(match x with|.agg ds=>ku5 cs.toList ds|_=>false)
  |some z=>ku5 [z] [x]
  |none=>false)
 |none=>false
class Tt (P:Program)(t:Nat)(x:outParam D):Prop where
 ok:qk9 P t x=true
theorem ql0 {P:Program}{t:Nat}{x:D}(h:Tt P t x):∃ i z,P.info? t=some i/\i.zero=some z/\∀ {w:World} {M:Nat->Nat->Prop},Gd w M x z:=by
 have:=h.ok;unfold qk9 at this;cases hi:P.info? t with
 |none=>rw[hi]at this;cases this
 |some i=>
  rw[hi]at this;dsimp only at this;cases hz:i.zero with
  |none=>rw[hz]at this;cases this
  |some z=>
   rw[hz]at this;refine⟨i,z,rfl,hz,?_⟩;intro w M;have one:ku5 [z] [x]=true->Gd w M x z:=fun h=>by
    obtain⟨v,r,e,_,h1,_⟩:=jr4 (w:=w) (M:=M) h;cases e;exact h1
   cases z
   case agg cs=>
    dsimp only at this;split at this
    ·exact⟨cs.toList,by simp,jr4 this⟩
    ·cases this
   all_goals exact one this
section
variable {E:Set}{Q:Exit->Sd->Prop}{ops:Array Oper}{draw:Bool}{rest:Todo}{way:Kt}{ty:TypeId}{pos:String}{af:Array Edge}{gd:Option (Nat × Bool)}{dst:Option Tmp}
variable {env:List (Nat × V)}{H:List (Nat × Ob)}{gl:List (Nat × List D)}{d:Nat}
theorem kv0 {w:World}{M:Nat->Nat->Prop}{x:D}{z:Value}(hr:Gd w M x z){sz:Nat}(hs:z.cells.size=sz)(hpos:0<sz):∀ n,Gl w M sz (List.replicate n x) (madeCells z.cells (n * sz)).toList:=by
 intro n
 induction n with
 |zero=>simp[madeCells,Gl]
 |succ n ih=>
  have e:(madeCells z.cells ((n+1) * sz)).toList=z.cells.toList++(madeCells z.cells (n * sz)).toList:=by
   apply List.ext_getElem?;intro j;simp only[madeCells,Array.toList_map,Array.toList_range,Bx];by_cases hj:j<sz
   ·rw[Fk (by simp[hs,hj])];have:j<(n+1) * sz:=by rw[Es];omega
    rw[List.getElem?_range this];simp only[Fl,hs,Nat.mod_eq_of_lt hj];rw[Array.getElem?_toList,Array.getElem?_eq_getElem (by omega)];rw[getElem!_pos z.cells j (by omega)]
   ·rw[Fi (by simp[hs];omega)];simp only[Array.length_toList,hs,Bx];by_cases hj2:j<(n+1) * sz
    ·have:j - sz<n * sz:=by rw[Es]at hj2;omega
     rw[List.getElem?_range hj2,List.getElem?_range this];simp only[Fl];rw[Nat.mod_eq_sub_mod (by omega)]
    ·have:¬j - sz<n * sz:=by rw[Es]at hj2;omega
     rw[List.getElem?_eq_none (by simp;omega),List.getElem?_eq_none (by simp;omega)]
  rw[List.replicate_succ,e];exact⟨z,_,rfl,hs,hr,ih⟩
theorem rn1 {S:Sd}{n t e sz m:Nat}{k:IntKind}{p:Int}{x:Operand}{z:D}[ht:TSlice E.P t e sz][hz:Tt E.P e z](hx:S.ev x=some (.d (.int k p)))(hox:Cw x=true)(hp:p=(m:Nat))(hm:m<=1000000000)(hn:S.fresh n=true):
 Grow E S ⟨some d,.makeSlice t x x,ty,pos,af,gd⟩ {S with H:=(n,.row e sz false (List.replicate m z) 0)::S.H} (.own n 0):=Grow.mk fun β a w h=>by
 subst hp;obtain⟨bytes,⟨i,z',hu,hi,hz',hs,hby,hzs,hpos⟩,hbl⟩:=jh5 ht;obtain⟨i2,z2,hi2,hz2,hzr⟩:=ql0 hz;rw[hi]at hi2;cases hi2;rw[hz']at hz2;cases hz2;have h1:a.eval x=.int k (m:Nat):=h.ev hx hox;obtain⟨w',h2,h3,h4⟩:=run_make_full (P:=E.P) w 0 t e i z' sz hu hi hz' hs k k m (by rw[hby];have:=Nat.mul_le_mul hbl hm;omega) (by unfold maxLen;omega) (Ak _);have g:Grows w w':=(Below.refl _ _).grown h4 (As _) (fun k hk=>by cases hk);refine⟨_,w',_,?_,g,h.newRow (sh:=false) (xs:=List.replicate m z) hn g (fun b hb'=>?_) (by rw[Ew];exact h3) (kv0 hzr hzs hpos m),jr3⟩
 ·simp only[execOp,h1,Sem.run_bind,h2,Result.andThen_ok,Sem.run_pure]
 ·simp only[Value.ownBlock,Bm]at hb';omega
theorem rn2 (n:Nat){t e sz m:Nat}{k:IntKind}{p:Int}{x:Operand}{z:D}[ht:TSlice E.P t e sz][hz:Tt E.P e z](hx:Sd.ev ⟨env,H,gl⟩ x=some (.d (.int k p)))(hox:Cw x=true)(hp:p=(m:Nat))(hm:m<=1000000000)(hn:Sd.fresh ⟨env,H,gl⟩ n=true)(hd:d<E.C.nt)
 (hg:Sd.gd ⟨env,H,gl⟩ ops ⟨some d,.makeSlice t x x,ty,pos,af,gd⟩=some true) (hw:way.loud=true) (h:TR E draw ops Q rest ⟨(d,.own n 0)::env,(n,.row e sz false (List.replicate m z) 0)::H,gl⟩):
 TR E draw ops Q (.step ⟨some d,.makeSlice t x x,ty,pos,af,gd⟩ way rest) ⟨env,H,gl⟩:=jt1 (rn1 hx hox hp hm hn) rfl hd hg rfl hw h
theorem mo6 {w:World}{M:Nat->Nat->Prop}{sz:Nat}{z:D}{u:Value}(hu:u.cells.size=sz)(hz:Gd w M z u):∀ {xs:List D} {vs:List Value},Gl w M sz xs vs->∀ {i:Nat},i<xs.length->Gl w M sz (xs.set i z) (vs.take (i * sz)++u.cells.toList++vs.drop (i * sz+sz))
 |[],_,_,i,hi=>by simp at hi
 |x::xs,_,⟨v,r,e,h2,h3,h4⟩,0,_=>by
  subst e;refine⟨u,r,?_,hu,hz,h4⟩;have:v.cells.toList.length=sz:=by simpa using h2
  simp[<-this]
 |x::xs,_,⟨v,r,e,h2,h3,h4⟩,i+1,hi=>by
  subst e;have hl:v.cells.toList.length=sz:=by simpa using h2
  refine⟨v,_,?_,h2,h3,mo6 hu hz h4 (i:=i) (by simpa using hi)⟩;have e1:(i+1) * sz=v.cells.toList.length+i * sz:=by rw[hl,Es];omega
  rw[e1,List.take_append,Ao (by omega),Nat.add_sub_cancel_left,Ey,List.drop_append,Br (by omega),Nat.add_sub_cancel_left];simp
theorem mu7 {S:Sd}{t n k i e sz:Nat}{x y:Operand}{v:V}{z:D}{xs zs:List D}[ht:TSize E.P t sz](hx:S.ev x=some (.el n k i 0))(hox:Cw x=true)(hl:look n S.H=some (.row e sz false xs k))(hy:S.ev y=some v)(hoy:Cw y=true)(hz:ToD S.H v z)(hc:Gy z zs)(hm:zs.length=sz)(hi:i<xs.length):
 Turn E S ⟨none,.store t x y,ty,pos,af,gd⟩ {S with H:=(n,.row e sz false (xs.set i z) k)::S.H}:=Turn.mk fun β a w h=>by
 obtain⟨b,l,c,h1,h2⟩:=h.ev hx hox e sz false xs hl;obtain⟨ys,h3,h4⟩:=h.obs n _ hl;have hzr:=hz.rep h (h.ev hy hoy);obtain⟨g,cap,cur,h5,h6,h7,h8,h9,h10,h11⟩:∃ g cap cur,(β n).v=.slice (some ⟨g,0,none⟩) xs.length cap/\0<=g/\w.heap[g]? =some (.cells cur e (0,0))/\xs.length<=cap/\cap<=maxLen/\cur.size=cap * sz/\cur.toList.take (xs.length * sz)=ys:=by
  rcases h3.2 with ⟨q,_⟩|q
  ·rw[h1]at q;cases q
  ·exact q
 rw[h1]at h5;simp only[Value.slice.injEq,Bm,Addr.mk.injEq,and_true]at h5;obtain⟨rfl,_,rfl⟩:=h5;cases hinf:E.P.info? t with
 |none=>have:=ht.ok;rw[hinf]at this;cases this
 |some inf=>
  have hsz:inf.size=sz:=by have:=ht.ok;rw[hinf]at this;simpa using this
  have hzl:(a.eval y).cells.size=sz:=by have:=(hc.rep hzr).length;simp at this;omega
  have hend:i * sz+sz<=xs.length * sz:=by
   rw[show i * sz+sz=(i+1) * sz by rw[Es];omega];exact Nat.mul_le_mul_right _ (by omega)
  have hend2:xs.length * sz<=cur.size:=by rw[h10];exact Nat.mul_le_mul_right _ h8
  have hst:=run_storeCells_at E.P b (i * sz) e (a.eval y).cells.toList 0 cur w h7 (by simp;omega) (hzr.one);simp only[Nat.add_zero]at hst;have hlen:(a.eval y).cells.toList.length=sz:=by simpa using hzl
  have hbn:hb (β n).v=some b:=by rw[h1];rfl
  have hH:∀ m e' sz' sh' xs' k',look m ((n,Ob.row e sz false (xs.set i z) k)::S.H)=some (.row e' sz' sh' xs' k')->∃ sh' xs',look m S.H=some (.row e' sz' sh' xs' k'):=fun m e' sz' sh' xs' k' hm=>by
   rw[ja1]at hm;split at hm
   ·rename_i eq;subst eq;cases hm;exact⟨false,xs,hl⟩
   ·exact⟨sh',xs',hm⟩
  refine⟨_,?_,β,h.turn (w':=w.setRow b (cur.toList.take (i * sz)++(a.eval y).cells.toList++cur.toList.drop (i * sz+(a.eval y).cells.toList.length)).toArray) hl (fun _ _=>rfl) rfl rfl rfl (by simp) (fun k _ hk=>setRow_other w b k _ (fun e=>hk (by rw[hbn,e]))) (fun b h=>.inl h) (fun b' o' y h4 h5 _=>absurd (.inl rfl) h5) (fun _ _ _ _ _=>.inl rfl)
   (fun k t x v _=>Dw.keep k (fun _=>rfl) hH x v) (fun _=>rfl) (fun k m cs vs _ _=>Dc.keep k (fun _=>rfl) hH _ vs) (fun kp=>?_)⟩
  ·simp only[Nat.add_zero]at h2;simp[execOp,h2,Instr.storeAt,Instr.sureAddr,storeVar,jc1 hinf,hsz,hzl,hst]
  ·refine⟨ys.take (i * sz)++(a.eval y).cells.toList++ys.drop (i * sz+sz),⟨?_,.inr ⟨b,c,_,?_,h6,setRow_heap w b _ _ e _ h7,by rw[List.length_set];exact h8,h9,?_,?_⟩⟩,mo6 hzl (Gd.keep kp _ _ hzr) (Gl.keep kp _ _ _ h4) hi⟩
   ·have:=h4.length;simp only[Ag,Aj,Bl,List.length_set,hlen,this];omega
   ·rw[List.length_set];rw[h1];congr 1
   ·simp only[Fj,Ag,Aj,Bl,Array.length_toList,hlen];omega
   ·rw[<-h11,List.length_set,hlen];have hl1:(cur.toList.take (i * sz)).length=i * sz:=by simp;omega
    rw[Bb,List.take_append,hl1,Ao (by omega),List.take_append,hlen,Ao (l:=(a.eval y).cells.toList) (by omega),Bb,List.take_take,Nat.min_eq_left (by omega)];congr 2;rw[List.drop_take];congr 1;omega
theorem mu8 {t n k i e sz:Nat}{x y:Operand}{v:V}{z:D}{xs zs:List D}[ht:TSize E.P t sz](hx:Sd.ev ⟨env,H,gl⟩ x=some (.el n k i 0))(hox:Cw x=true)(hl:look n H=some (.row e sz false xs k))(hy:Sd.ev ⟨env,H,gl⟩ y=some v)(hoy:Cw y=true)(hz:ToD H v z)(hc:Gy z zs)(hm:zs.length=sz)(hi:i<xs.length)
 (hg:Sd.gd ⟨env,H,gl⟩ ops ⟨none,.store t x y,ty,pos,af,gd⟩=some true) (hw:Mr draw way=true)
 (h:TR E draw ops Q rest ⟨env,(n,.row e sz false (xs.set i z) k)::H,gl⟩):TR E draw ops Q (.step ⟨none,.store t x y,ty,pos,af,gd⟩ way rest) ⟨env,H,gl⟩:=jy9 (mu7 hx hox hl hy hoy hz hc hm hi) rfl hg rfl hw h
end
end
section
section
variable {E:Set}{Q:Exit->Sd->Prop}{ops:Array Oper}{draw:Bool}{rest:Todo}{way:Kt}{ty:TypeId}{pos:String}{af:Array Edge}{gd:Option (Nat × Bool)}{dst:Option Tmp}
variable {env:List (Nat × V)}{H:List (Nat × Ob)}{gl:List (Nat × List D)}{d:Nat}
theorem StB.Xd {C:Ctx}{S:Sd}{β:Nat->Hd}{a:Act}{w:World}(h:StB C β S a w){n e sz k:Nat}{sh:Bool}{xs:List D}(hl:look n S.H=some (.row e sz sh xs k)):∃ ad c,(β n).v=.slice ad xs.length c/\xs.length<=c/\(ad=none->c=0)/\(∀ p,ad=some p->∃ b,p=⟨b,0,none⟩):=by
 obtain⟨ys,h1,_⟩:=h.obs n _ hl;rcases h1.2 with ⟨q1,q2⟩|⟨g,cap,cur,q,_,_,q3,_⟩
 ·exact⟨none,0,by rw[q1,q2],by omega,fun _=>rfl,fun p hp=>by cases hp⟩
 ·exact⟨_,cap,q,q3,(fun e=>by cases e),fun p hp=>by cases hp;exact⟨_,rfl⟩⟩
end
end
section
section
variable {E:Set}{Q:Exit->Sd->Prop}{ops:Array Oper}{draw:Bool}{rest:Todo}{way:Kt}{ty:TypeId}{pos:String}{af:Array Edge}{gd:Option (Nat × Bool)}{dst:Option Tmp}
variable {env:List (Nat × V)}{H:List (Nat × Ob)}{gl:List (Nat × List D)}{d:Nat}
end
end
section
section
variable {E:Set}{Q:Exit->Sd->Prop}{ops:Array Oper}{draw:Bool}{rest:Todo}{way:Kt}{ty:TypeId}{pos:String}{af:Array Edge}{gd:Option (Nat × Bool)}{dst:Option Tmp}
variable {env:List (Nat × V)}{H:List (Nat × Ob)}{gl:List (Nat × List D)}{d:Nat}
theorem jk2 {c:Code}(n:Nat){e sz k:Nat}{sh:Bool}{xs:List D}(hn:look n H=some (.row e sz sh xs k))(h:TC E c Q ⟨env,(n,.row e sz true xs k)::H,gl⟩):TC E c Q ⟨env,H,gl⟩:=fun a w ⟨β,hB⟩=>h a w ⟨β,hB.share hn⟩
inductive Frz (H:List (Nat × Ob)):List V->List D->List Nat->Prop
 |nil:Frz H [] [] []
 |cons {v:V} {x:D} {vs:List V} {xs:List D} {ms:List Nat} (h:ToD H v x) (t:Frz H vs xs ms):Frz H (v::vs) (x::xs) ms
 |map {m:Nat} {ks us:List D} {vs:List V} {xs:List D} {ms:List Nat} (h:look m H=some (.map ks us)) (t:Frz H vs xs ms):Frz H (.map m::vs) (.map ks us::xs) (m::ms)
theorem jp2 {c:Code}{t n off:Nat}{cs:List V}{ds:List D}{ms:List Nat}{env':List (Nat × V)}{H':List (Nat × Ob)}(hl:look t env=some (.ptr n off))(hb':look n H=some (.box cs))(hf:Frz H cs ds ms)(hsc:ds.all D.scalar=true)(h1:Sub env env')(h2:Sub H H')
 (hn:((n::ms).all fun m=>(look m H').isNone)=true) (hN:(E.C.N.all fun n=>(look n H').isSome)=true) (h:TC E c Q ⟨(t,.d (.ref ds off))::env',H',gl⟩):TC E c Q ⟨env,H,gl⟩:=fun a w ⟨β,hB⟩=>by
 have hB':=hB.weak (S':=⟨env',H',gl⟩) (fun t v h=>h1.look h) (fun n ob h=>h2.look h) (fun _ _ h=>h) (fun n hn=>Ec.1 hN n hn);have hne:∀ m,m∈n::ms->look m H'=none:=fun m hm=>by simpa using Ec.1 hn m hm
 have hk:Keeps w (Mut E.C.M0 β H) w (Mut E.C.M0 β H'):=Keeps.weak fun b o hm=>by
  rcases hm with hm|⟨m,ob,q1,q2,q3⟩
  ·exact .inl hm
  ·exact .inr ⟨m,ob,h2.look q1,q2,q3⟩
 have hfree:∀ m ob b o,m∈n::ms->look m H=some ob->hb (β m).v=some b->¬Mut E.C.M0 β H' b o:=fun m ob b o hm hlm hbm hmut=>by
  rcases hmut with q|⟨m2,ob2,q1,q2,q3⟩
  ·exact hB.out m ob b o hlm (.inl hbm) q
  ·have:m≠m2:=by rintro rfl;rw[hne m hm]at q1;cases q1
   exact hB.apart m m2 b ob ob2 this hlm (h2.look q1) (.inl hbm) q2
 refine h a w ⟨β,{hB' with env:=fun s v hs=>?_}⟩;dsimp only at hs;rw[j9]at hs;split at hs
 ·rename_i e;subst e;cases hs;obtain⟨x,q1,b,q2,rfl⟩:=hB.env t _ hl;obtain⟨b2,vs,ty,q3,q4,q5⟩:=hB.obs n _ hb';rw[q2]at q3;cases q3;refine⟨_,q1,b,0,vs,by rw[Ft],?_,fun j y hj=>⟨b,0,rfl,?_,?_⟩⟩
  ·have:∀ (cs:List V) (ds:List D) (ms':List Nat),Frz H cs ds ms'->ds.all D.scalar=true->(∀ m∈ms',m∈ms)->∀ vs,Dc w (Mut E.C.M0 β H) β H cs vs->Dv w (Mut E.C.M0 β H') ds vs:=fun cs ds ms' hf=>by
    induction hf with
    |nil=>intro _ _ vs h;exact h
    |cons hd _ ih=>
     intro hs hm vs hv;obtain⟨u,r,rfl,r1,r2⟩:=hv;simp only[Ei,Ab]at hs;have r3:=hd.rep hB r1;exact⟨u,r,rfl,r3.oneOf hs.1,Gd.keep hk _ _ r3,ih hs.2 hm r r2⟩
    |@map m ks us vs' xs ms2 hlm _ ih=>
     intro hs hm vs hv;obtain⟨u,r,rfl,⟨rr,r1,r1'⟩,r2⟩:=hv;simp only[Ei,Ab]at hs;obtain⟨r0,es,clock,r3,r4,r5,r6,_⟩:=hB.obs m _ hlm;rw[r1]at r3;cases r3;subst r1';exact⟨_,r,rfl,rfl,⟨rr,es,clock,rfl,r4,fun o=>hfree m _ rr o (Bk _ (hm m Bi)) hlm (by rw[r1];rfl),Iq.keep hk _ _ r5,Iq.keep hk _ _ r6⟩,ih hs.2 (fun m' h'=>hm m' (Bk _ h')) r r2⟩
   exact this cs ds ms hf hsc (fun m h=>h) vs q5
  ·exact hfree n _ b _ Bi hb' (by rw[q2];rfl)
  ·rw[Ft];exact kt7 q4 hj
 ·exact hB'.env s v hs
inductive Qt (P:Program)(S:Sd)(t:Nat):List V->List (Nat × Operand)->List V->Prop
 |nil (zs:List V):Qt P S t zs [] zs
 |cons {zs zs' ds cs:List V} {f off ft m:Nat} {x:Operand} {v:V} {ps:List (Nat × Operand)} [hf:TField P t f off ft] [hs:TSize P ft m] (hx:S.ev x=some v) (ho:Cw x=true) (hw:Py S v=true) (hc:Jh v cs) (hm:cs.length=m) (hr:Repl zs off cs zs') (h:Qt P S t zs' ps ds):
  Qt P S t zs ((f,x)::ps) ds
theorem Dc.cut {w:World}{M:Nat->Nat->Prop}{β:Nat->Hd}{H:List (Nat × Ob)}:∀ (k:Nat) {l:List V} {m:List Value},Dc w M β H l m->Dc w M β H (l.take k) (m.take k)/\Dc w M β H (l.drop k) (m.drop k)
 |0,_,_,h=>⟨by simp[Dc],h⟩
 |k+1,[],_,h=>by simp only[Dc]at h;subst h;exact⟨by simp[Dc],by simp[Dc]⟩
 |k+1,y::l,_,h=>by
  obtain⟨v,r,rfl,h5,h6⟩:=h;obtain⟨q1,q2⟩:=Dc.cut k h6;exact⟨⟨v,_,rfl,h5,q1⟩,q2⟩
theorem Qt.rep {P:Program}{C:Ctx}{β:Nat->Hd}{S:Sd}{a:Act}{w:World}(h:StB C β S a w){t:Nat}{fs:Array Field}(hu:P.underlying t=some (.struct fs)){places:Array (Nat × Nat)}(hp:∀ (f:Nat) (fd:Field) i,fs[f]? =some fd->P.info? fd.type=some i->places[f]? =some (fd.offset,i.size))
 {zs ds:List V} {ps:List (Nat × Operand)} (hb:Qt P S t zs ps ds):∀ {us:List Value},Dc w (Mut C.M0 β S.H) β S.H zs us->(∀ u∈us,u.oneCell'=true)->
 ∃ vs:List Value,Instr.fill (places[·]?) us.toArray (ps.map fun x=>(x.1,a.eval x.2))=some vs.toArray/\Dc w (Mut C.M0 β S.H) β S.H ds vs/\∀ u∈vs,u.oneCell'=true:=by
 induction hb with
 |nil zs=>intro us hr h1;exact⟨us,rfl,hr,h1⟩
 |@cons zs zs' ds cs f off ft m x v ps hf hs hx ho hw hc hm hr hb ih=>
  intro us hrep hone;obtain⟨fs',fd,i,hu',h1,h2,h3,h4,_⟩:=jt2 hf;rw[hu]at hu';cases hu';have hi:i.size=m:=by have:=hs.ok;rw[h4]at this;simpa using this
  have hpl:=hp f fd i h1 (by rw[h3];exact h4);obtain⟨hcs,hco⟩:=hc.rep h (h.ev hx ho) (ka1 hw);have hlen:=hcs.length;obtain⟨h5,h6⟩:=hr.eq;have hul:=hrep.length;have hsz:(a.eval x).cells.size=m:=by simp at hlen;omega
  have hnew:Dc w (Mut C.M0 β S.H) β S.H zs' (us.take off++(a.eval x).cells.toList++us.drop (off+(a.eval x).cells.toList.length)):=by
   rw[h5,<-hlen];exact Dc.app (Dc.app (Dc.cut off hrep).1 hcs) (Dc.cut _ hrep).2
  obtain⟨vs,h7,h8⟩:=ih hnew (fun u hu=>by
   rcases Bu.1 hu with hu|hu
   ·rcases Bu.1 hu with hu|hu
    ·exact hone u (List.mem_of_mem_take hu)
    ·exact hco u hu
   ·exact hone u (List.mem_of_mem_drop hu))
  refine⟨vs,?_,h8⟩;simp only[Am,Instr.fill,hpl];rw[Af (by
   simp only[ne_eq,Bo,Al,not_or,Bv,Fj];simp at hlen;omega)]
  have hfo:=kp5 fd.offset (a.eval x).cells.toList us.toArray (by simp at hlen ⊢;omega);rw[Array.toArray_toList]at hfo;simp only[List.toList_toArray]at hfo;rw[hfo,h2];exact h7
theorem kk4:∀ {us:List Value} {vs:List V},ji4 us vs=true->∀ u∈us,u.oneCell'=true
 |[],_,_,u,hu=>by cases hu
 |x::us,[],h,_,_=>by cases h
 |x::us,v::vs,h,u,hu=>by
  simp only[ji4,Ab]at h;rcases Bf.1 hu with rfl|hu
  ·have:=h.1;unfold jr2 at this;split at this<;>first|rfl|cases this
  ·exact kk4 h.2 u hu
theorem qu6 {S:Sd}{t:Nat}{ps:List (Nat × Operand)}{vs ds:List V}[ht:TStruct E.P t][hz:TZero E.P t vs](hb:Qt E.P S t vs ps ds):Swift E S ⟨dst,.build t ps.toArray,ty,pos,af,gd⟩ (.agg ds):=Swift.mk fun β a w h=>by
 obtain⟨fs,hu,hfs⟩:=kb7 ht;obtain⟨i,z,hi,hiz,h1,_⟩:=ka0 hz;obtain⟨pl,h2,h3⟩:=kp6 (P:=E.P) fs.toList hfs;obtain⟨us,h4,h5,h6⟩:=hb.rep h hu (places:=pl.toArray) (fun f fd i hf hi=>by simpa using h3 f fd i (by simpa using hf) hi) (jt9 h1) (kk4 h1);refine⟨.agg us.toArray,fun w' _=>?_,us,rfl,h6,h5⟩;have hpl:(fs.mapM fun f=>do pure (f.offset,<-sizeOf f.type):Sem (Array (Nat × Nat))).run E.P w'=.ok pl.toArray w':=by
  rw[Array.mapM_eq_mapM_toList];simp only[Sem.run_map];refine(congrArg (fun r:Result (List (Nat × Nat))=>r.andThen fun a w'=>Result.ok a.toArray w') (h2 w')).trans ?_;rfl
 rw[Array.toArray_toList]at h4;simp only[execOp,Sem.run_bind,Instr.build,zeroValue,typeInfo,hi,hiz,run_underlying hu,Sem.run_pure,Result.andThen_ok,program,Sem.run];simp only[hpl,Result.andThen_ok];have e:(ps.toArray.map fun x=>(x.1,a.eval x.2)).toList=ps.map fun x=>(x.1,a.eval x.2):=by simp
 rw[e,h4];rfl
end
end
end Go.Proofs.YtdopmfifmgkmoaaGreatDoor
