/- Parts: D18, D19, D20, D21. -/
import Derived.Test.YtklklgfpkpglgaaGreatDoorP8
set_option linter.all false
set_option maxRecDepth 100000
set_option maxHeartbeats 16000000
namespace Go.Proofs.YtklklgfpkpglgaaGreatDoor
open Go.RowKit
section
def V.Ko (β β':Nat->Hd)(H H':List (Nat × Ob))(n:Nat):Prop:=(β' n).v=(β n).v/\∀ e sz sh xs k,look n H'=some (.row e sz sh xs k)->∃ sh' xs',look n H=some (.row e sz sh' xs' k)
mutual
theorem Dp.gen {w w':World}{M M':Nat->Nat->Prop}{β β':Nat->Hd}{H H':List (Nat × Ob)}(k:Keeps w M w' M'):
 ∀ (x:V) (v:Value),(∀ n,x.says n=true->V.Ko β β' H H' n)->Dp w M β H x v->Dp w' M' β' H' x v
 |.d x,v,_,h=>Gw.keep k x v h
 |.own n q,v,hs,h=>fun e sz sh xs hl=>by
  obtain⟨h1,h2⟩:=hs n (by simp[V.says]);obtain⟨sh',xs',h3⟩:=h2 e sz sh xs q hl;rw[h1];exact h e sz sh' xs' h3
 |.nils _,_,_,h=>h
 |.zc,_,_,h=>h
 |.ptr n off,_,hs,h=>by simp only[Dp]at h ⊢;rw[(hs n (by simp[V.says])).1];exact h
 |.sl n off _ _,_,hs,h=>by simp only[Dp]at h ⊢;rw[(hs n (by simp[V.says])).1];exact h
 |.el n q i off,v,hs,h=>fun e sz sh xs hl=>by
  obtain⟨h1,h2⟩:=hs n (by simp[V.says]);obtain⟨sh',xs',h3⟩:=h2 e sz sh xs q hl;rw[h1];exact h e sz sh' xs' h3
 |.suf n q p,v,hs,h=>fun e sz sh xs hl=>by
  obtain⟨h1,h2⟩:=hs n (by simp[V.says]);obtain⟨sh',xs',h3⟩:=h2 e sz sh xs q hl;rw[h1];exact h e sz sh' xs' h3
 |.win n q p m,v,hs,h=>fun e sz sh xs hl=>by
  obtain⟨h1,h2⟩:=hs n (by simp[V.says]);obtain⟨sh',xs',h3⟩:=h2 e sz sh xs q hl;rw[h1];exact h e sz sh' xs' h3
 |.map n,_,hs,h=>by simp only[Dp]at h ⊢;rw[(hs n (by simp[V.says])).1];exact h
 |.clo _ f c,_,hs,⟨fs,gs,h1,h2,h3⟩=>⟨fs,gs,h1,Cv.gen k f fs (fun n hn=>hs n (by simp[V.says,hn])) h2,Cv.gen k c gs (fun n hn=>hs n (by simp[V.says,hn])) h3⟩
 |.tup vs,_,hs,⟨us,h1,h2⟩=>⟨us,h1,Cv.gen k vs us (fun n hn=>hs n (by simpa [V.says]using hn)) h2⟩
 |.agg vs,_,hs,⟨us,h1,h0,h2⟩=>⟨us,h1,h0,Cv.gen k vs us (fun n hn=>hs n (by simpa [V.says]using hn)) h2⟩
 |.ifc _ x,_,hs,⟨u,h1,h2⟩=>⟨u,h1,Dp.gen k x u (fun n hn=>hs n (by simpa [V.says]using hn)) h2⟩
 |.bsl n off _,_,hs,h=>by simp only[Dp]at h ⊢;rw[(hs n (by simp[V.says])).1];exact h
theorem Cv.gen {w w':World}{M M':Nat->Nat->Prop}{β β':Nat->Hd}{H H':List (Nat × Ob)}(k:Keeps w M w' M'):
 ∀ (xs:List V) (vs:List Value),(∀ n,Jk n xs=true->V.Ko β β' H H' n)->Cv w M β H xs vs->Cv w' M' β' H' xs vs
 |[],_,_,h=>h
 |x::xs,_,hs,⟨v,r,h1,h2,h3⟩=>⟨v,r,h1,Dp.gen k x v (fun n hn=>hs n (by simp[Jk,hn])) h2,Cv.gen k xs r (fun n hn=>hs n (by simp[Jk,hn])) h3⟩
end
structure Obs (w:World)(M:Nat->Nat->Prop)(β:Nat->Hd)(H:List (Nat × Ob)):Prop where
 obs:∀ n ob,look n H=some ob->Ku w (Mut M β H) β H (β n) ob
 apart:∀ n m b ob ob',n≠m->look n H=some ob->look m H=some ob'->own (β n) ob b->¬own (β m) ob' b
 out:∀ n ob b o,look n H=some ob->own (β n) ob b->¬M b o
def mb5 (β:Nat->Hd)(H:List (Nat × Ob)):List Nat:=H.flatMap fun p=>match look p.1 H with|some ob=>blk (β p.1) ob|none=>[]
def kf9 (H:List (Nat × Ob))(n:Nat):Bool:=(look n H).isSome
def Om (H:List (Nat × Ob)):Bool:=H.all fun p=>match p.2 with|.row _ _ sh _ _=>!sh|_=>true
mutual
def V.within (p:Nat->Bool):V->Bool
 |.d _=>true
 |.own n _=>p n
 |.nils _=>true
 |.zc=>true
 |.ptr n _=>p n
 |.sl n _ _ _=>p n
 |.el n _ _ _=>p n
 |.suf n _ _=>p n
 |.win n _ _ _=>p n
 |.map n=>p n
 |.clo _ f c=>jf3 p f && jf3 p c
 |.tup vs=>jf3 p vs
 |.agg vs=>jf3 p vs
 |.ifc _ x=>x.within p
 |.bsl n _ _=>p n
def jf3 (p:Nat->Bool):List V->Bool
 |[]=>true
 |v::r=>v.within p && jf3 p r
end
mutual
theorem V.Qg {p:Nat->Bool}:∀ {v:V},v.within p=true->∀ n,v.says n=true->p n=true
 |.d _,_,n,h=>by simp[V.says]at h
 |.own m _,h,n,h'=>by simp only[V.says]at h';rw[<-Bh h'];exact h
 |.nils _,_,n,h=>by simp[V.says]at h
 |.zc,_,n,h=>by simp[V.says]at h
 |.ptr m _,h,n,h'=>by simp only[V.says]at h';rw[<-Bh h'];exact h
 |.sl m _ _ _,h,n,h'=>by simp only[V.says]at h';rw[<-Bh h'];exact h
 |.el m _ _ _,h,n,h'=>by simp only[V.says]at h';rw[<-Bh h'];exact h
 |.suf m _ _,h,n,h'=>by simp only[V.says]at h';rw[<-Bh h'];exact h
 |.win m _ _ _,h,n,h'=>by simp only[V.says]at h';rw[<-Bh h'];exact h
 |.map m,h,n,h'=>by simp only[V.says]at h';rw[<-Bh h'];exact h
 |.clo _ f c,h,n,h'=>by
  simp only[V.says,Bm]at h';simp only[V.within,Aa]at h;rcases h' with h'|h'
  ·exact ji3 h.1 n h'
  ·exact ji3 h.2 n h'
 |.tup vs,h,n,h'=>ji3 (by simpa [V.within]using h) n (by simpa [V.says]using h')
 |.agg vs,h,n,h'=>ji3 (by simpa [V.within]using h) n (by simpa [V.says]using h')
 |.bsl m _ _,h,n,h'=>by simp only[V.says]at h';rw[<-Bh h'];exact h
 |.ifc _ x,h,n,h'=>V.Qg (v:=x) (by simpa [V.within]using h) n (by simpa [V.says]using h')
theorem ji3 {p:Nat->Bool}:∀ {vs:List V},jf3 p vs=true->∀ n,Jk n vs=true->p n=true
 |[],_,n,h=>by simp[Jk]at h
 |v::r,h,n,h'=>by
  simp only[Jk,Bm]at h';simp only[jf3,Aa]at h;rcases h' with h'|h'
  ·exact V.Qg h.1 n h'
  ·exact ji3 h.2 n h'
end
def kp4 (H:List (Nat × Ob)):Bool:=H.all fun p=>jf3 (kf9 H) p.2.cells
def mj5 (H0 H1:List (Nat × Ob)):Bool:=H1.all fun p=>match p.2 with
 |.row e sz _ _ k=>(match look p.1 H0 with|none=>true|some (.row e' sz' _ _ k')=>Nat.beq e e' && Nat.beq sz sz' && Nat.beq k k'|_=>false)
 |_=>true
def mj6 (H0 H1:List (Nat × Ob)):Bool:=H0.all fun p=>kf9 H1 p.1
def Np (H0 H1:List (Nat × Ob))(v:V):Bool:=mj6 H0 H1 && mj5 H0 H1 && kp4 H1 && v.within (kf9 H1)
theorem jr5 {H:List (Nat × Ob)}{n:Nat}{ob:Ob}(h:look n H=some ob):(n,ob)∈H:=kv1 h
theorem mj7 {H:List (Nat × Ob)}{p:Nat × Ob}(h:p∈H):∃ ob,look p.1 H=some ob:=by
 induction H with
 |nil=>cases h
 |cons q H ih=>
  rw[show q=(q.1,q.2) from rfl,j5];split
  ·exact⟨_,rfl⟩
  ·rename_i hne;rcases Bc.1 h with rfl|h
   ·exact absurd rfl hne
   ·exact ih h
theorem jj1 {β:Nat->Hd}{H:List (Nat × Ob)}{b:Nat}:b∈mb5 β H↔∃ n ob,look n H=some ob/\own (β n) ob b:=by
 unfold mb5;rw[List.mem_flatMap];constructor
 ·rintro⟨p,h1,h2⟩;obtain⟨ob,h3⟩:=mj7 h1;rw[h3]at h2;exact⟨p.1,ob,h3,qf3.1 h2⟩
 ·rintro⟨n,ob,h1,h2⟩;refine⟨(n,ob),jr5 h1,?_⟩;dsimp only;rw[h1];exact qf3.2 h2
theorem mj8 {H:List (Nat × Ob)}(h:Om H=true){n:Nat}{ob:Ob}(hl:look n H=some ob)(o:Nat):ob.mut o:=by
 have:=Bt.1 h _ (jr5 hl);cases ob with
 |row e sz sh xs k=>simp only[Bq]at this;exact .inl this
 |_=>trivial
def FnE (P:Program)(gl:List (Nat × List D))(f:FuncId)(args:List V)(H0:List (Nat × Ob))(R:V->List (Nat × Ob)->Prop):Prop:=
 ∀ (w:World) (M:Nat->Nat->Prop) (β:Nat->Hd) (us:List Value),(∀ b o,M b o->b<w.heap.size)->Cv w (Mut M β H0) β H0 args us->Obs w M β H0->rr9 gl w (Mut M β H0)->
   Calls P f us.toArray w fun e w'=>∃ v x H1 β1,R v H1/\Np H0 H1 v=true/\e=.returned x/\Frm (mb5 β H0) w w'/\(∀ n,(look n H0).isSome=true->(β1 n).v=(β n).v)/\
    (∀ n ob b,look n H1=some ob->own (β1 n) ob b->b∈mb5 β H0\/w.heap.size<=b)/\Obs w' M β1 H1/\Dp w' (Mut M β1 H1) β1 H1 v x
inductive Mc (H:List (Nat × Ob)):V->V->Prop
 |own {n k e sz:Nat} {xs:List D} (h:look n H=some (.row e sz true xs k)):Mc H (.own n k) (.d (.list sz xs))
 |nils (sz:Nat):Mc H (.nils sz) (.d (.list sz []))
 |same (v:V):Mc H v v
inductive Jo (H:List (Nat × Ob)):List V->List V->Prop
 |nil:Jo H [] []
 |cons {v v':V} {vs vs':List V} (h:Mc H v v') (t:Jo H vs vs'):Jo H (v::vs) (v'::vs')
theorem Mc.rep {C:Ctx}{β:Nat->Hd}{S:Sd}{a:Act}{w:World}(h:StB C β S a w){v v':V}(ha:Mc S.H v v'){u:Value}(hu:Dp w (Mut C.M0 β S.H) β S.H v u):Dp w (Mut C.M0 β S.H) β S.H v' u:=by
 cases ha with
 |own hl=>exact(ToD.own hl).rep h hu
 |nils sz=>exact(ToD.nils sz).rep h hu
 |same=>exact hu
theorem Jo.rep {C:Ctx}{β:Nat->Hd}{S:Sd}{a:Act}{w:World}(h:StB C β S a w){vs vs':List V}(ha:Jo S.H vs vs'):∀ {us:List Value},Cv w (Mut C.M0 β S.H) β S.H vs us->Cv w (Mut C.M0 β S.H) β S.H vs' us:=by
 induction ha with
 |nil=>intro us h;exact h
 |cons h1 _ ih=>intro us hu;obtain⟨u,r,h2,h3,h4⟩:=hu;exact⟨u,r,h2,h1.rep h h3,ih h4⟩
inductive Oe (P:Program)(S:Sd):List ResultVar->List V->Prop
 |nil:Oe P S [] []
 |tmp {t:Tmp} {v v':V} {rs:List ResultVar} {vs:List V} (hl:S.ev (.tmp t)=some v) (ha:Mc S.H v v') (h:Oe P S rs vs):Oe P S (.tmp t::rs) (v'::vs)
 |cell {t n ty off:Nat} {cs:List V} {v v':V} {rs:List ResultVar} {vs:List V} [ht:TCell P ty] (hl:S.ev (.tmp t)=some (.ptr n off)) (hb:look n S.H=some (.box cs)) (hc:cs[off]? =some v) (ha:Mc S.H v v') (h:Oe P S rs vs):Oe P S (.cell t ty::rs) (v'::vs)
 |cells {t n ty off m:Nat} {cs cs':List V} {ds:List D} {rs:List ResultVar} {vs:List V} [ht:TAgg P ty m] (hl:S.ev (.tmp t)=some (.ptr n off)) (hb:look n S.H=some (.box cs)) (hc:Cut cs off m cs') (ha:Nl S.H cs' ds) (hn:ds.all D.scalar=true) (h:Oe P S rs vs):Oe P S (.cell t ty::rs) (.d (.agg ds)::vs)
theorem re5 {P:Program}{C:Ctx}{β:Nat->Hd}{S:Sd}{a:Act}{w:World}(h:StB C β S a w){rs:List ResultVar}{vs:List V}(hr:Oe P S rs vs):
 ∃ us:List Value,(rs.mapM fun|.tmp t=>pure (a.tmps.getD t undef)|.cell c t=>do loadVar t (<-asAddr (a.tmps.getD c undef)):Sem (List Value)).run P w=.ok us w/\Cv w (Mut C.M0 β S.H) β S.H vs us:=by
 induction hr with
 |nil=>exact⟨[],rfl,rfl⟩
 |@tmp t v v' rs vs hl ha hr ih=>
  obtain⟨us,h1,h2⟩:=ih;have h5:Dp w (Mut C.M0 β S.H) β S.H v (a.tmps.getD t undef):=h.ev hl rfl;refine⟨a.tmps.getD t undef::us,?_,⟨_,us,rfl,ha.rep h h5,h2⟩⟩;simp only[List.mapM_cons,Sem.run_bind,Sem.run_pure,Result.andThen_ok,h1]
 |@cell t n ty off cs v v' rs vs ht hl hb hc ha hr ih=>
  obtain⟨us,h1,h2⟩:=ih;obtain⟨x,h4,h5⟩:=(jt3 (t:=ty) (E:=⟨P,C,none⟩) (S:=S) (dst:=none) (ty:=0) (pos:= "") (af:=#[]) (gd:=none) (x:=.tmp t) hl hb hc).out β a w h;obtain⟨b,_,_,_,h6,_⟩:=h.Tc (x:=.tmp t) hl hb;have h7:=jm3 h6 (h4 w (Grows.refl w));refine⟨x::us,?_,⟨x,us,rfl,ha.rep h h5,h2⟩⟩;simp only[List.mapM_cons,Sem.run_bind]at h7 ⊢;rw[h7];simp only[Result.andThen_ok,h1,Sem.run_pure]
 |@cells t n ty off m cs cs' ds rs vs ht hl hb hc ha hn hr ih=>
  obtain⟨us,h1,h2⟩:=ih;obtain⟨x,h4,h5⟩:=(jv9 (t:=ty) (E:=⟨P,C,none⟩) (S:=S) (dst:=none) (ty:=0) (pos:= "") (af:=#[]) (gd:=none) (x:=.tmp t) hl hb hc ha hn).out β a w h;obtain⟨b,_,_,_,h6,_⟩:=h.Tc (x:=.tmp t) hl hb;have h7:=jm3 h6 (h4 w (Grows.refl w));refine⟨x::us,?_,⟨x,us,rfl,h5,h2⟩⟩;simp only[List.mapM_cons,Sem.run_bind]at h7 ⊢;rw[h7];simp only[Result.andThen_ok,h1,Sem.run_pure]
structure Pg (P:Program)(rs:List ResultVar)(H0:List (Nat × Ob))(R:V->List (Nat × Ob)->Prop)(e:Exit)(S:Sd):Prop where
 how:e=.ret\/e=.normal
 res:∃ vs H1,Oe P S rs vs/\Sub S.H H1/\Np H0 H1 (oneOf vs)=true/\R (oneOf vs) H1
theorem mb6 {P:Program}{rs:List ResultVar}{H0:List (Nat × Ob)}{R:V->List (Nat × Ob)->Prop}:kx7 (Pg P rs H0 R):=fun c S h=>by rcases h.how with h|h<;>cases h
theorem qs9 {P:Program}{gl:List (Nat × List D)}{f:FuncId}{fn:Func}{c:Code}{args:List V}{H0:List (Nat × Ob)}{R:V->List (Nat × Ob)->Prop}{nt:Nat}{rs:Array ResultVar}(hf:P.funcs[f]? =some fn)(hb':fn.body=some c)(hn:fn.ntmps=nt)(hr:fn.results=rs)(hle:args.length<=nt)(hs:nt<=100000)
 (h:∀ w M E b0,TC ⟨P,⟨nt,E,w,M,H0.map (·.1),b0,fun _=>.nilFunc,[]⟩,none⟩ c (Pg P rs.toList H0 R) ⟨kp0 args,H0,gl⟩):FnE P gl f args H0 R:=fun w M β us hlow hargs hobs hgl=>by
 have hlen:=hargs.length;refine ko9 hf hb' (h w M (mb5 β H0) fun n=>(β n).v) ?_ fun e S' β1 a' w' hB hq=>⟨hq.how,?_⟩
 ·refine⟨β,⟨?_,hs,⟨[],rfl,List.nodup_nil,(fun D h=>by cases h)⟩,(fun p hp=>by cases hp),?_,hobs.obs,hobs.apart,(fun n ob b hl hb'=>.inl (jj1.2 ⟨n,ob,hl,hb'⟩)),hgl,Frm.refl _ _,hobs.out,hlow,(fun n hn=>rfl),(fun n hn=>?_)⟩⟩
  ·simp[hn];omega
  ·intro t v hl;dsimp only at hl ⊢;rw[hn];exact mw4 hargs hle hs hl
  ·obtain⟨p,h1,rfl⟩:=Bl.1 hn;obtain⟨ob,h2⟩:=mj7 h1;simp[h2]
 ·obtain⟨_,vs,H1,hres,hsub,hok,hR⟩:=hq;obtain⟨us',h3,h4⟩:=re5 hB hres;have hok':=hok;unfold Np at hok';simp only[Aa]at hok';obtain⟨⟨⟨k1,k2⟩,k3⟩,k5⟩:=hok';have hB1:=hB.weak (S':={S' with H:=H1}) (fun _ _ h=>h) (fun n ob h=>hsub.look h) (fun _ _ h=>h) (fun n hn=>by
   obtain⟨p,h1,rfl⟩:=Bl.1 hn;exact Bt.1 k1 p h1)
  have hN:∀ n,(look n H0).isSome=true->(β1 n).v=(β n).v:=fun n hn=>hB.fix n (by
   cases hl:look n H0 with
   |none=>rw[hl]at hn;cases hn
   |some ob=>exact Bl.2 ⟨_,jr5 hl,rfl⟩)
  have hrep:=mj0 h4;have hk:Keeps w' (Mut M β1 S'.H) w' (Mut M β1 H1):=Keeps.weak fun b o hm=>by
   rcases hm with hm|⟨n,ob,h5,h6,h7⟩
   ·exact .inl hm
   ·exact .inr ⟨n,ob,hsub.look h5,h6,h7⟩
  refine⟨_,kp1 hr h3,oneOf vs,_,H1,β1,hR,hok,rfl,hB.frame,hN,fun n ob b h5 h6=>hB1.place n ob b h5 h6,⟨hB1.obs,hB1.apart,hB1.out⟩,Dp.keep hk (fun _=>rfl) (fun n e sz sh xs k hl=>⟨sh,xs,hsub.look hl⟩) _ _ hrep⟩
section
variable {E:Set}{Q:Exit->Sd->Prop}{S:Sd}{ops:Array Oper}{draw:Bool}{rest:Todo}{way:Jh}{ty:TypeId}{pos:String}{af:Array Edge}{gd:Option (Nat × Bool)}
theorem re6 {d:Nat}{o:Oper}(hdst:o.dst=some d)(hd:d<E.C.nt)(hg:S.gd ops o=some true)(hdf:p9 o=false)(hw:Js draw way=true)
 (hrun:∀ β a w,StB E.C β S a w->∃ f us,(execOp a.eval o).run E.P w=.ok (.enter f us) w/\Calls E.P f us w fun e w'=>∃ x S' β' v,e=.returned x/\StB E.C β' S' a w'/\Dp w' (Mut E.C.M0 β' S'.H) β' S'.H v x/\TR E draw ops Q rest (S'.put d v)):
 TR E draw ops Q (.step o way rest) S:=fun a w hS=>by
 have hS0:=hS;have key:∀ w1,Grows w w1->∀ K:Act->World->Prop,(∀ S2 a2 w2,St E.C S2 a2 w2->TR E draw ops Q rest S2->K a2 w2)->o.wp E.P a w1 K (Qof E.C Q):=fun w1 g K hK=>by
  obtain⟨β,hB⟩:=hS.later g;obtain⟨f,us,h1,h2⟩:=hrun β a w1 hB;unfold Oper.wp;rw[h1,Oper.upon_enter];refine h2.mono ?_;rintro e w2 ⟨x,S',β',v,rfl,h3,h4,h5⟩;refine hK (S'.put d v) _ _ ?_ h5;rw[hdst];exact⟨β',h3.put hd h4⟩
 cases draw with
 |true=>
  dsimp only;cases way with
  |pure=>cases hw
  |quiet=>cases hw
  |grow=>cases hw
  |bar=>
   simp only[r9];intro n;rw[Sd.Fy hS0 hg,Ad rfl];exact key n.w n.grows _ fun S2 a2 w2 hs2 h=>h _ _ hs2
 |false=>exact y4 hS0 hg hdf fun K hK=>key w (Grows.refl w) K fun S2 a2 w2 hs2 h=>hK _ _ (h _ _ hs2)
theorem mj9 {P:Program}{f:Nat}(hf:TFun P f)(a:Act){fx:Operand}{fs gs:List Value}(he:a.eval fx=.func (.func f) fs.toArray gs.toArray)(xs:List Operand)(ats:Array TypeId)(dst:Option Tmp)(w:World):
 (execOp a.eval ⟨dst,.call {callee:=.value fx,args:=xs.toArray,argTypes:=ats},ty,pos,af,gd⟩).run P w=.ok (.enter f (fs++xs.map a.eval++gs).toArray) w:=by
 have:=hf.ok;unfold qr6 at this;cases hfn:P.funcs[f]? with
 |none=>rw[hfn]at this;cases this
 |some fn=>
  rw[hfn]at this;simp only[Aa,Bq]at this;have h2:¬fn.name= "runtime.NumGoroutine":=by simpa using this.2
  cases hb:fn.body with
  |none=>rw[hb]at this;cases this.1
  |some c=>simp[execOp,resolve,he,Deferred.ofValue,invoke,callFunc,hfn,hb,h2]
theorem Cv.app {w:World}{M:Nat->Nat->Prop}{β:Nat->Hd}{H:List (Nat × Ob)}:∀ {xs:List V} {us:List Value},Cv w M β H xs us->∀ {ys:List V} {vs:List Value},Cv w M β H ys vs->Cv w M β H (xs++ys) (us++vs)
 |[],_,h,_,_,h'=>by simp only[Cv]at h;subst h;exact h'
 |x::xs,_,h,_,_,h'=>by
  obtain⟨v,r,rfl,h2,h3⟩:=h;exact⟨v,_,rfl,h2,Cv.app h3 h'⟩
theorem jf4 (n:Nat)(H1:List (Nat × Ob))(H:List (Nat × Ob)):look n (H1++H)=match look n H1 with|some ob=>some ob|none=>look n H:=by
 induction H1 with
 |nil=>rfl
 |cons p H1 ih=>
  rw[Ac,show p=(p.1,p.2) from rfl,j5,j5,ih];split<;>rfl
def Nq (S:Sd)(H0 H1:List (Nat × Ob)):Bool:=H1.all fun p=>kf9 H0 p.1 || S.fresh p.1
def vi2 (H0 H:List (Nat × Ob)):Prop:=∀ n ob,look n H0=some ob->look n H=some ob
theorem StB.called {C:Ctx}{β β1:Nat->Hd}{a:Act}{w w':World}(h:StB C β S a w){H0 H1:List (Nat × Ob)}(hsub:vi2 H0 S.H)(hwm:Om H0=true){M:Nat->Nat->Prop}(hM:M=fun b o=>C.M0 b o\/∃ m ob,look m S.H=some ob/\look m H0=none/\own (β m) ob b/\ob.mut o){v:V}
 (hok:Np H0 H1 v=true) (hfr:Frm (mb5 β H0) w w') (hβ:∀ n,(look n H0).isSome=true->(β1 n).v=(β n).v) (hnew:∀ n ob b,look n H1=some ob->own (β1 n) ob b->b∈mb5 β H0\/w.heap.size<=b) (ho:Obs w' M β1 H1) (hf:Nq S H0 H1=true) {x:Value} (hv:Dp w' (Mut M β1 H1) β1 H1 v x):
 ∃ β',StB C β' {S with H:=H1++S.H} a w'/\Dp w' (Mut C.M0 β' (H1++S.H)) β' (H1++S.H) v x:=by
 subst hM;unfold Np at hok;simp only[Aa]at hok;obtain⟨⟨⟨k1,k2⟩,k3⟩,k5⟩:=hok
 let β':Nat->Hd:=fun n=>if (look n H1).isSome then β1 n else β n
 have b1:∀ n ob,look n H1=some ob->β' n=β1 n:=fun n ob hl=>by simp[β',hl]
 have b0:∀ n,look n H1=none->β' n=β n:=fun n hl=>by simp[β',hl]
 have hin:∀ n,(look n S.H).isSome=true->(look n H1).isSome=true->(look n H0).isSome=true:=fun n h1 h2=>by
  cases hl:look n H1 with
  |none=>rw[hl]at h2;cases h2
  |some ob=>
   have:=Bt.1 hf _ (jr5 hl);simp only[Bm]at this;rcases this with this|this
   ·exact this
   ·rw[Sd.Me this]at h1;cases h1
 have h01:∀ n,(look n H0).isSome=true->(look n H1).isSome=true:=fun n h1=>by
  cases hl:look n H0 with
  |none=>rw[hl]at h1;cases h1
  |some ob=>exact Bt.1 k1 _ (jr5 hl)
 have bsame:∀ n,(look n S.H).isSome=true->(β' n).v=(β n).v:=fun n hn=>by
  cases hl:look n H1 with
  |none=>rw[b0 n hl]
  |some ob=>rw[b1 n ob hl];exact hβ n (hin n hn (by rw[hl];rfl))
 have mut':∀ b o,Mut C.M0 β' (H1++S.H) b o↔Mut (fun b o=>C.M0 b o\/∃ m ob,look m S.H=some ob/\look m H0=none/\own (β m) ob b/\ob.mut o) β1 H1 b o:=fun b o=>by
  constructor
  ·rintro(hm|⟨n,ob,h1,h2,h3⟩)
   ·exact .inl (.inl hm)
   ·rw[jf4]at h1;cases hl:look n H1 with
    |some ob1=>
     rw[hl]at h1;cases h1;exact .inr ⟨n,ob,hl,by rw[<-b1 n ob hl];exact h2,h3⟩
    |none=>
     rw[hl]at h1;rw[b0 n hl]at h2;refine .inl (.inr ⟨n,ob,h1,?_,h2,h3⟩);cases h0:look n H0 with
     |none=>rfl
     |some _=>have:=h01 n (by rw[h0];rfl);rw[hl]at this;cases this
  ·rintro((hm|⟨m,ob,h1,h2,h3,h4⟩)|⟨n,ob,h1,h2,h3⟩)
   ·exact .inl hm
   ·cases hl:look m H1 with
    |some ob1=>have:=hin m (by rw[h1];rfl) (by rw[hl];rfl);rw[h2]at this;cases this
    |none=>exact .inr ⟨m,ob,by rw[jf4,hl];exact h1,by rw[b0 m hl];exact h3,h4⟩
   ·exact .inr ⟨n,ob,by rw[jf4,h1],by rw[b1 n ob h1];exact h2,h3⟩
 have hmut:Mut C.M0 β' (H1++S.H)=Mut (fun b o=>C.M0 b o\/∃ m ob,look m S.H=some ob/\look m H0=none/\own (β m) ob b/\ob.mut o) β1 H1:=by
  funext b o;exact propext (mut' b o)
 have hblk:∀ b,b<w.heap.size->b∉mb5 β H0->w'.heap[b]? =w.heap[b]? :=fun b hb' hn=>hfr.block b hb' hn;have hnb:∀ b o,¬Mut C.M0 β S.H b o->b∉mb5 β H0:=fun b o hm hb'=>by
  obtain⟨n,ob,h1,h2⟩:=jj1.1 hb';exact hm (.inr ⟨n,ob,hsub n ob h1,h2,mj8 hwm h1 o⟩)
 have hmm:∀ b o,b<w.heap.size->¬Mut C.M0 β S.H b o->¬Mut C.M0 β' (H1++S.H) b o:=fun b o hlt hm hm'=>by
  rcases(mut' b o).1 hm' with (h1|⟨m,ob,h1,h2,h3,h4⟩)|⟨n,ob,h1,h2,h3⟩
  ·exact hm (.inl h1)
  ·exact hm (.inr ⟨m,ob,h1,h3,h4⟩)
  ·rcases hnew n ob b h1 h2 with h4|h4
   ·exact hnb b o hm h4
   ·omega
 have kp:Keeps w (Mut C.M0 β S.H) w' (Mut C.M0 β' (H1++S.H)):=by
  refine⟨fun b o y h1 h2=>?_,fun b ob _ h1 h2=>?_⟩
  ·have hlt:b<w.heap.size:=World.block_lt_of_cell? w ⟨b,o,none⟩ h2;refine⟨hmm b o hlt h1,?_⟩;rw[<-h2];exact World.cell?_of_block (hblk b hlt (hnb b o h1))
  ·have hlt:=(Br.1 h2).1;exact⟨fun o=>hmm b o hlt (h1 o),(hblk b hlt (hnb b 0 (h1 0))).trans h2⟩
 have hrows:∀ n,(look n S.H).isSome=true->V.Ko β β' S.H (H1++S.H) n:=fun n hn=>by
  refine⟨bsame n hn,fun e sz sh xs k hl=>?_⟩;rw[jf4]at hl;cases h1:look n H1 with
  |none=>rw[h1]at hl;exact⟨sh,xs,hl⟩
  |some ob=>
   rw[h1]at hl;cases hl;have:=Bt.1 k2 _ (jr5 h1);dsimp only at this;cases h0:look n H0 with
   |none=>have:=hin n hn (by rw[h1];rfl);rw[h0]at this;cases this
   |some ob0=>
    rw[h0]at this;cases ob0 with
    |row e' sz' sh' xs' k'=>
     simp only[Aa]at this;obtain⟨⟨q1,q2⟩,q3⟩:=this;obtain rfl:=Bh q1;obtain rfl:=Bh q2;obtain rfl:=Bh q3;exact⟨sh',xs',hsub n _ h0⟩
    |_=>cases this
 have hfresh:∀ n,look n S.H=none->(look n H1).isSome=true->S.fresh n=true:=fun n h1 h2=>by
  cases hl:look n H1 with
  |none=>rw[hl]at h2;cases h2
  |some ob=>
   have:=Bt.1 hf _ (jr5 hl);simp only[Bm]at this;rcases this with this|this
   ·simp only[kf9,Option.isSome_iff_exists]at this;obtain⟨ob0,h0⟩:=this;rw[hsub n ob0 h0]at h1;cases h1
   ·exact this
 have hsame:∀ n,(S.fresh n=true->False)->V.Ko β β' S.H (H1++S.H) n:=fun n hn=>by
  cases hl:look n S.H with
  |some ob=>exact hrows n (by rw[hl];rfl)
  |none=>
   cases h1:look n H1 with
   |some ob=>exact absurd (hfresh n hl (by rw[h1];rfl)) hn
   |none=>
    refine⟨congrArg Hd.v (b0 n h1),fun e sz sh xs k h2=>?_⟩;rw[jf4,h1,hl]at h2;cases h2
 have hsys:∀ D o,w.heap[D]? =some o->ri4 o=true->w'.heap[D]? =some o:=fun D o ho' hs'=>by
  refine(hblk D (Br.1 ho').1 (fun hb'=>?_)).trans ho';obtain⟨n,ob,h1,h2⟩:=jj1.1 hb';exact(h.obs n ob (hsub n ob h1)).Wl ho' hs' h2
 obtain⟨Ds,hd1,hd2,hd3⟩:=h.defers;have hclosed:∀ (y:V) (u:Value),y.within (kf9 H1)=true->Dp w' (Mut (fun b o=>C.M0 b o\/∃ m ob,look m S.H=some ob/\look m H0=none/\own (β m) ob b/\ob.mut o) β1 H1) β1 H1 y u->Dp w' (Mut C.M0 β' (H1++S.H)) β' (H1++S.H) y u:=fun y u hy hu=>by
  rw[hmut];refine Dp.gen (Keeps.refl _ _) y u (fun n hn=>?_) hu;have:=V.Qg hy n hn;simp only[kf9,Option.isSome_iff_exists]at this;obtain⟨ob,hl⟩:=this;refine⟨congrArg Hd.v (b1 n ob hl),fun e sz sh xs k h2=>?_⟩;rw[jf4,hl]at h2;cases h2;exact⟨sh,xs,hl⟩
 have hclosedL:∀ (ys:List V) (us:List Value),jf3 (kf9 H1) ys=true->Cv w' (Mut (fun b o=>C.M0 b o\/∃ m ob,look m S.H=some ob/\look m H0=none/\own (β m) ob b/\ob.mut o) β1 H1) β1 H1 ys us->Cv w' (Mut C.M0 β' (H1++S.H)) β' (H1++S.H) ys us:=fun ys=>by
  induction ys with
  |nil=>intro us _ h;exact h
  |cons y ys ih=>
   intro us hy hu;simp only[jf3,Aa]at hy;obtain⟨u,r,rfl,h1,h2⟩:=hu;exact⟨u,r,rfl,hclosed y u hy.1 h1,ih r hy.2 h2⟩
 refine⟨β',⟨h.size,h.small,⟨Ds,hd1,hd2,fun D hD=>⟨hsys D _ (hd3 D hD).1 rfl,(hd3 D hD).2⟩⟩,fun p hp=>⟨hsys _ _ (h.sys p hp).1 (h.sys p hp).2.1,(h.sys p hp).2⟩,fun t y hl=>?_,fun n ob hl=>?_,fun n m b ob ob' hne h1 h2 h3=>?_,fun n ob b hl hb'=>?_,fun q cs hl=>(h.glob q cs hl).keep kp,?_,fun n ob b o hl hb' hm=>?_,h.low,fun n hn=>?_,fun n hn=>?_⟩,hclosed v x k5 hv⟩
 ·obtain⟨u,h1,h2⟩:=h.env t y hl;refine⟨u,h1,Dp.gen kp y u (fun n hn=>hsame n fun hfr'=>?_) h2⟩;simp only[Sd.fresh,Aa]at hfr';rw[ji9 hfr'.1 hl]at hn;cases hn
 ·dsimp only at hl;rw[jf4]at hl;cases h1:look n H1 with
  |some ob1=>
   rw[h1]at hl;cases hl;have h2:=ho.obs n ob h1;have h3:=Bt.1 k3 _ (jr5 h1);show Ku w' (Mut C.M0 β' (H1++S.H)) β' (H1++S.H) (β' n) ob;rw[b1 n ob h1,hmut];refine Ku.keep (Keeps.refl _ _) (fun _ _=>rfl) (fun vs hL=>?_) h2;rw[<-hmut];exact hclosedL _ vs h3 hL
  |none=>
   rw[h1]at hl;show Ku w' (Mut C.M0 β' (H1++S.H)) β' (H1++S.H) (β' n) ob;rw[b0 n h1];refine Ku.keep kp (fun b hb'=>?_) (fun vs hL=>?_) (h.obs n ob hl)
   ·refine hblk b (h.old hl hb') (fun hm=>?_);obtain⟨m,ob',h2,h3⟩:=jj1.1 hm;have hne:n≠m:=by
     rintro rfl;have:=h01 n (by rw[h2];rfl);rw[h1]at this;cases this
    exact h.apart n m b ob ob' hne hl (hsub m ob' h2) hb' h3
   ·have hs:∀ m,Jk m ob.cells=true->V.Ko β β' S.H (H1++S.H) m:=fun m hm=>hsame m fun hfr'=>by
     simp only[Sd.fresh,Aa]at hfr';have:=(ja7 hfr'.2 hl).2;simp only[Ob.says]at this;rw[hm]at this;cases this
    exact Cv.gen kp _ vs hs hL
 ·dsimp only at h1 h2;rw[jf4]at h1 h2;cases q1:look n H1 with
  |some o1=>
   rw[q1]at h1;cases h1;rw[b1 n _ q1]at h3;cases q2:look m H1 with
   |some o2=>
    rw[q2]at h2;cases h2;rw[b1 m _ q2];exact ho.apart n m b _ _ hne q1 q2 h3
   |none=>
    rw[q2]at h2;rw[b0 m q2];intro h4;rcases hnew n _ b q1 h3 with h5|h5
    ·obtain⟨q,oq,h6,h7⟩:=jj1.1 h5;have hqm:q≠m:=by
      rintro rfl;have:=h01 q (by rw[h6];rfl);rw[q2]at this;cases this
     exact h.apart q m b oq ob' hqm (hsub q oq h6) h2 h7 h4
    ·have:=h.old h2 h4;omega
  |none=>
   rw[q1]at h1;rw[b0 n q1]at h3;cases q2:look m H1 with
   |some o2=>
    rw[q2]at h2;cases h2;rw[b1 m _ q2];intro h4;rcases hnew m _ b q2 h4 with h5|h5
    ·obtain⟨q,oq,h6,h7⟩:=jj1.1 h5;have hqn:q≠n:=by
      rintro rfl;have:=h01 q (by rw[h6];rfl);rw[q1]at this;cases this
     exact h.apart q n b oq ob hqn (hsub q oq h6) h1 h7 h3
    ·have:=h.old h1 h3;omega
   |none=>
    rw[q2]at h2;rw[b0 m q2];exact h.apart n m b ob ob' hne h1 h2 h3
 ·dsimp only at hl;rw[jf4]at hl;cases q1:look n H1 with
  |some o1=>
   rw[q1]at hl;cases hl;rw[b1 n _ q1]at hb';rcases hnew n _ b q1 hb' with h5|h5
   ·obtain⟨q,oq,h6,h7⟩:=jj1.1 h5;exact h.place q oq b (hsub q oq h6) h7
   ·exact .inr (Fj h.frame.size h5)
  |none=>
   rw[q1]at hl;rw[b0 n q1]at hb';exact h.place n ob b hl hb'
 ·refine⟨hfr.os.trans h.frame.os,hfr.tape.trans h.frame.tape,hfr.output.trans h.frame.output,Fj h.frame.size hfr.size,fun i hi he=>?_⟩;refine(hblk i (Nat.lt_of_lt_of_le hi h.frame.size) (fun hm=>?_)).trans (h.frame.block i hi he);obtain⟨n,ob,h1,h2⟩:=jj1.1 hm;rcases h.place n ob i (hsub n ob h1) h2 with h3|h3
  ·exact he h3
  ·omega
 ·dsimp only at hl;rw[jf4]at hl;cases q1:look n H1 with
  |some o1=>
   rw[q1]at hl;cases hl;rw[b1 n _ q1]at hb';exact ho.out n _ b o q1 hb' (.inl hm)
  |none=>
   rw[q1]at hl;rw[b0 n q1]at hb';exact h.out n ob b o hl hb' hm
 ·rw[bsame n (h.has n hn)];exact h.fix n hn
 ·dsimp only;rw[jf4];cases q1:look n H1 with
  |some o1=>rfl
  |none=>exact h.has n hn
inductive Qo (H:List (Nat × Ob)):List (Nat × Ob)->Prop
 |nil:Qo H []
 |cons {n:Nat} {ob:Ob} {r:List (Nat × Ob)} (h:look n H=some ob) (k:Qo H r):Qo H ((n,ob)::r)
theorem Qo.sub {H H0:List (Nat × Ob)}(h:Qo H H0):vi2 H0 H:=by
 induction h with
 |nil=>intro n ob h;cases h
 |cons h1 _ ih=>
  intro n ob hl;rw[j5]at hl;split at hl
  ·rename_i e;subst e;cases hl;exact h1
  ·exact ih n ob hl
variable {env:List (Nat × V)}{H:List (Nat × Ob)}{gl:List (Nat × List D)}{d:Nat}
theorem rt2 {f:Nat}{fx:Operand}{xs:List Operand}{ats:Array TypeId}{fs gs vs args:List V}{H0:List (Nat × Ob)}{R:V->List (Nat × Ob)->Prop}[hf:TFun E.P f](hfx:Sd.ev ⟨env,H,gl⟩ fx=some (.clo (.func f) fs gs))(hof:Cn fx=true)(hx:Evs ⟨env,H,gl⟩ xs vs)(ha:Jo H (fs++vs++gs) args)
 (hc:FnE E.P gl f args H0 R) (hs:Qo H H0) (hwm:Om H0=true) (hd:d<E.C.nt) (hg:Sd.gd ⟨env,H,gl⟩ ops ⟨some d,.call {callee:=.value fx,args:=xs.toArray,argTypes:=ats},ty,pos,af,gd⟩=some true) (hw:Js draw way=true)
 (h:∀ v H1,R v H1->Nq ⟨env,H,gl⟩ H0 H1=true/\TR E draw ops Q rest ⟨(d,v)::env,H1++H,gl⟩):TR E draw ops Q (.step ⟨some d,.call {callee:=.value fx,args:=xs.toArray,argTypes:=ats},ty,pos,af,gd⟩ way rest) ⟨env,H,gl⟩:=by
 refine re6 rfl hd hg rfl hw fun β a w hB=>?_;obtain⟨fs',gs',h1,h2,h3⟩:=hB.ev hfx hof;refine⟨f,_,mj9 hf a h1 xs ats (some d) w,?_⟩;have hsub:=hs.sub
 let M:Nat->Nat->Prop:=fun b o=>E.C.M0 b o\/∃ m ob,look m H=some ob/\look m H0=none/\own (β m) ob b/\ob.mut o
 have hMut:Mut M β H0=Mut E.C.M0 β H:=by
  funext b o;apply propext;constructor
  ·rintro((hm|⟨m,ob,q1,_,q2,q3⟩)|⟨n,ob,q1,q2,q3⟩)
   ·exact .inl hm
   ·exact .inr ⟨m,ob,q1,q2,q3⟩
   ·exact .inr ⟨n,ob,hsub n ob q1,q2,q3⟩
  ·rintro(hm|⟨n,ob,q1,q2,q3⟩)
   ·exact .inl (.inl hm)
   ·cases h0:look n H0 with
    |none=>exact .inl (.inr ⟨n,ob,q1,h0,q2,q3⟩)
    |some ob0=>
     have:=hsub n ob0 h0;rw[q1]at this;cases this;exact .inr ⟨n,ob,h0,q2,q3⟩
 have hrow:∀ n e sz sh xs k,look n H0=some (.row e sz sh xs k)->∃ sh' xs',look n H=some (.row e sz sh' xs' k):=fun n e sz sh xs k hl=>⟨sh,xs,hsub n _ hl⟩;have hargs:=ha.rep hB ((Cv.app (Cv.app h2 (hx.rep hB)) h3));refine(hc w M β _ ?_ ?_ ⟨fun n ob hl=>?_,fun n m b ob ob' hne q1 q2=>hB.apart n m b ob ob' hne (hsub n ob q1) (hsub m ob' q2),fun n ob b o hl hb' hm=>?_⟩ ?_).mono ?_
 ·rintro b o (hm|⟨m,ob,q1,_,q2,_⟩)
  ·have:=hB.low b o hm;have:=hB.frame.size;omega
  ·exact hB.old q1 q2
 ·rw[hMut];exact Cv.keep (Keeps.refl _ _) (fun _=>rfl) hrow _ _ hargs
 ·rw[hMut];exact Ku.keep (Keeps.refl _ _) (fun _ _=>rfl) (fun vs hL=>Cv.keep (Keeps.refl _ _) (fun _=>rfl) hrow _ _ hL) (hB.obs n ob (hsub n ob hl))
 ·rcases hm with hm|⟨m,ob',q1,q2,q3,_⟩
  ·exact hB.out n ob b o (hsub n ob hl) hb' hm
  ·have hne:n≠m:=by rintro rfl;rw[hl]at q2;cases q2
   exact hB.apart n m b ob ob' hne (hsub n ob hl) q1 hb' q3
 ·rw[hMut];exact hB.glob
 ·rintro e w' ⟨v,x,H1,β1,hR,hok,rfl,hfr,hβ,hnew,ho,hv⟩;obtain⟨hf',hT⟩:=h v H1 hR;obtain⟨β',hB',hv'⟩:=hB.called hsub hwm rfl hok hfr hβ hnew ho hf' hv;exact⟨x,_,β',v,rfl,hB',hv',hT⟩
end
end
section
def shift (l:List (Nat × V)):List (Nat × V):=l.map fun p=>(p.1+100000,p.2)
section
variable {C:Ctx}{β:Nat->Hd}{S:Sd}{a:Act}{w:World}
end
section
variable {E:Set}{Q:Exit->Sd->Prop}{ops:Array Oper}{draw:Bool}{rest:Todo}{way:Jh}{ty:TypeId}{pos:String}{af:Array Edge}{gd:Option (Nat × Bool)}
variable {env:List (Nat × V)}{H:List (Nat × Ob)}{gl:List (Nat × List D)}{d:Nat}
end
end
section
def qt0 (P:Program)(t:Nat)(x:D):Bool:=match P.info? t with
 |some i=>(match i.zero with
  |some (.agg cs)=>(match x with|.agg ds=>ma9 cs.toList ds|_=>false)
  |some z=>ma9 [z] [x]
  |none=>false)
 |none=>false
class Pv (P:Program)(t:Nat)(x:outParam D):Prop where
 ok:qt0 P t x=true
theorem mk0 {P:Program}{t:Nat}{x:D}(h:Pv P t x):∃ i z,P.info? t=some i/\i.zero=some z/\∀ {w:World} {M:Nat->Nat->Prop},Gw w M x z:=by
 have:=h.ok;unfold qt0 at this;cases hi:P.info? t with
 |none=>rw[hi]at this;cases this
 |some i=>
  rw[hi]at this;dsimp only at this;cases hz:i.zero with
  |none=>rw[hz]at this;cases this
  |some z=>
   rw[hz]at this;refine⟨i,z,rfl,hz,?_⟩;intro w M;have one:ma9 [z] [x]=true->Gw w M x z:=fun h=>by
    obtain⟨v,r,e,_,h1,_⟩:=jt6 (w:=w) (M:=M) h;cases e;exact h1
   cases z
   case agg cs=>
    dsimp only at this;split at this
    ·exact⟨cs.toList,by simp,jt6 this⟩
    ·cases this
   all_goals exact one this
section
variable {E:Set}{Q:Exit->Sd->Prop}{ops:Array Oper}{draw:Bool}{rest:Todo}{way:Jh}{ty:TypeId}{pos:String}{af:Array Edge}{gd:Option (Nat × Bool)}{dst:Option Tmp}
variable {env:List (Nat × V)}{H:List (Nat × Ob)}{gl:List (Nat × List D)}{d:Nat}
theorem vb2 {S:Sd}{x y:Operand}{k k':IntKind}{p q:Int}{ats:Array TypeId}(hx:S.ev x=some (.d (.int k p)))(hy:S.ev y=some (.d (.int k' q)))(hox:Cn x=true)(hoy:Cn y=true):
 Swift E S ⟨dst,.call {callee:=.builtin .min,args:=#[x,y],argTypes:=ats},ty,pos,af,gd⟩ (.d (.int k (if q<p then q else p))):=Swift.mk fun β a w h=>by
 have h1:a.eval x=.int k p:=h.ev hx hox;have h2:a.eval y=.int k' q:=h.ev hy hoy;refine⟨.int k (if q<p then q else p),fun w' _=>?_,rfl⟩;simp[execOp,resolve,invoke,builtin,h1,h2,Builtin.min_,Builtin.min2]
theorem mb7 {w:World}{M:Nat->Nat->Prop}{x:D}{z:Value}(hr:Gw w M x z){sz:Nat}(hs:z.cells.size=sz)(hpos:0<sz):∀ n,Gn w M sz (List.replicate n x) (madeCells z.cells (n * sz)).toList:=by
 intro n
 induction n with
 |zero=>simp[madeCells,Gn]
 |succ n ih=>
  have e:(madeCells z.cells ((n+1) * sz)).toList=z.cells.toList++(madeCells z.cells (n * sz)).toList:=by
   apply Fu;intro j;simp only[madeCells,Array.toList_map,Array.toList_range,Bp];by_cases hj:j<sz
   ·rw[Ej (by simp[hs,hj])];have:j<(n+1) * sz:=by rw[Fd];omega
    rw[List.getElem?_range this];simp only[Ey,hs,Nat.mod_eq_of_lt hj];rw[Array.getElem?_toList,Array.getElem?_eq_getElem (by omega)];rw[getElem!_pos z.cells j (by omega)]
   ·rw[Fl (by simp[hs];omega)];simp only[Array.length_toList,hs,Bp];by_cases hj2:j<(n+1) * sz
    ·have:j - sz<n * sz:=by rw[Fd]at hj2;omega
     rw[List.getElem?_range hj2,List.getElem?_range this];simp only[Ey];rw[Nat.mod_eq_sub_mod (by omega)]
    ·have:¬j - sz<n * sz:=by rw[Fd]at hj2;omega
     rw[List.getElem?_eq_none (by simp;omega),List.getElem?_eq_none (by simp;omega)]
  rw[List.replicate_succ,e];exact⟨z,_,rfl,hs,hr,ih⟩
theorem vb3 {S:Sd}{n t e sz m:Nat}{k:IntKind}{p:Int}{x:Operand}{z:D}[ht:TSlice E.P t e sz][hz:Pv E.P e z](hx:S.ev x=some (.d (.int k p)))(hox:Cn x=true)(hp:p=(m:Nat))(hm:m<=1000000000)(hn:S.fresh n=true):
 Grow E S ⟨some d,.makeSlice t x x,ty,pos,af,gd⟩ {S with H:=(n,.row e sz false (List.replicate m z) 0)::S.H} (.own n 0):=Grow.mk fun β a w h=>by
 subst hp;obtain⟨bytes,⟨i,z',hu,hi,hz',hs,hby,hzs,hpos⟩,hbl⟩:=jg4 ht;obtain⟨i2,z2,hi2,hz2,hzr⟩:=mk0 hz;rw[hi]at hi2;cases hi2;rw[hz']at hz2;cases hz2;have h1:a.eval x=.int k (m:Nat):=h.ev hx hox;obtain⟨w',h2,h3,h4⟩:=run_make_full (P:=E.P) w 0 t e i z' sz hu hi hz' hs k k m (by rw[hby];have:=Nat.mul_le_mul hbl hm;omega) (by unfold maxLen;omega) (Ai _);have g:Grows w w':=(Below.refl _ _).grown h4 (Au _) (fun k hk=>by cases hk);refine⟨_,w',_,?_,g,h.newRow (sh:=false) (xs:=List.replicate m z) hn g (fun b hb'=>?_) (by rw[Eh];exact h3) (mb7 hzr hzs hpos m),jt5⟩
 ·simp only[execOp,h1,Sem.run_bind,h2,Result.andThen_ok,Sem.run_pure]
 ·simp only[Value.ownBlock,Bf]at hb';omega
theorem vb4 (n:Nat){t e sz m:Nat}{k:IntKind}{p:Int}{x:Operand}{z:D}[ht:TSlice E.P t e sz][hz:Pv E.P e z](hx:Sd.ev ⟨env,H,gl⟩ x=some (.d (.int k p)))(hox:Cn x=true)(hp:p=(m:Nat))(hm:m<=1000000000)(hn:Sd.fresh ⟨env,H,gl⟩ n=true)(hd:d<E.C.nt)
 (hg:Sd.gd ⟨env,H,gl⟩ ops ⟨some d,.makeSlice t x x,ty,pos,af,gd⟩=some true) (hw:way.loud=true) (h:TR E draw ops Q rest ⟨(d,.own n 0)::env,(n,.row e sz false (List.replicate m z) 0)::H,gl⟩):
 TR E draw ops Q (.step ⟨some d,.makeSlice t x x,ty,pos,af,gd⟩ way rest) ⟨env,H,gl⟩:=jo7 (vb3 hx hox hp hm hn) rfl hd hg rfl hw h
theorem mw7 {w:World}{M:Nat->Nat->Prop}{sz:Nat}{z:D}{u:Value}(hu:u.cells.size=sz)(hz:Gw w M z u):∀ {xs:List D} {vs:List Value},Gn w M sz xs vs->∀ {i:Nat},i<xs.length->Gn w M sz (xs.set i z) (vs.take (i * sz)++u.cells.toList++vs.drop (i * sz+sz))
 |[],_,_,i,hi=>by simp at hi
 |x::xs,_,⟨v,r,e,h2,h3,h4⟩,0,_=>by
  subst e;refine⟨u,r,?_,hu,hz,h4⟩;have:v.cells.toList.length=sz:=by simpa using h2
  simp[<-this]
 |x::xs,_,⟨v,r,e,h2,h3,h4⟩,i+1,hi=>by
  subst e;have hl:v.cells.toList.length=sz:=by simpa using h2
  refine⟨v,_,?_,h2,h3,mw7 hu hz h4 (i:=i) (by simpa using hi)⟩;have e1:(i+1) * sz=v.cells.toList.length+i * sz:=by rw[hl,Fd];omega
  rw[e1,List.take_append,Am (by omega),Nat.add_sub_cancel_left,Fi,List.drop_append,Bz (by omega),Nat.add_sub_cancel_left];simp
theorem qb9 {S:Sd}{t n k i e sz:Nat}{x y:Operand}{v:V}{z:D}{xs zs:List D}[ht:TSize E.P t sz](hx:S.ev x=some (.el n k i 0))(hox:Cn x=true)(hl:look n S.H=some (.row e sz false xs k))(hy:S.ev y=some v)(hoy:Cn y=true)(hz:ToD S.H v z)(hc:Gg z zs)(hm:zs.length=sz)(hi:i<xs.length):
 Turn E S ⟨none,.store t x y,ty,pos,af,gd⟩ {S with H:=(n,.row e sz false (xs.set i z) k)::S.H}:=Turn.mk fun β a w h=>by
 obtain⟨b,l,c,h1,h2⟩:=h.ev hx hox e sz false xs hl;obtain⟨ys,h3,h4⟩:=h.obs n _ hl;have hzr:=hz.rep h (h.ev hy hoy);obtain⟨g,cap,cur,h5,h6,h7,h8,h9,h10,h11⟩:∃ g cap cur,(β n).v=.slice (some ⟨g,0,none⟩) xs.length cap/\0<=g/\w.heap[g]? =some (.cells cur e (0,0))/\xs.length<=cap/\cap<=maxLen/\cur.size=cap * sz/\cur.toList.take (xs.length * sz)=ys:=by
  rcases h3.2 with ⟨q,_⟩|q
  ·rw[h1]at q;cases q
  ·exact q
 rw[h1]at h5;simp only[Value.slice.injEq,Bf,Addr.mk.injEq,and_true]at h5;obtain⟨rfl,_,rfl⟩:=h5;cases hinf:E.P.info? t with
 |none=>have:=ht.ok;rw[hinf]at this;cases this
 |some inf=>
  have hsz:inf.size=sz:=by have:=ht.ok;rw[hinf]at this;simpa using this
  have hzl:(a.eval y).cells.size=sz:=by have:=(hc.rep hzr).length;simp at this;omega
  have hend:i * sz+sz<=xs.length * sz:=by
   rw[show i * sz+sz=(i+1) * sz by rw[Fd];omega];exact Nat.mul_le_mul_right _ (by omega)
  have hend2:xs.length * sz<=cur.size:=by rw[h10];exact Nat.mul_le_mul_right _ h8
  have hst:=run_storeCells_at E.P b (i * sz) e (a.eval y).cells.toList 0 cur w h7 (by simp;omega) (hzr.one);simp only[Nat.add_zero]at hst;have hlen:(a.eval y).cells.toList.length=sz:=by simpa using hzl
  have hbn:hb (β n).v=some b:=by rw[h1];rfl
  have hH:∀ m e' sz' sh' xs' k',look m ((n,Ob.row e sz false (xs.set i z) k)::S.H)=some (.row e' sz' sh' xs' k')->∃ sh' xs',look m S.H=some (.row e' sz' sh' xs' k'):=fun m e' sz' sh' xs' k' hm=>by
   rw[z7]at hm;split at hm
   ·rename_i eq;subst eq;cases hm;exact⟨false,xs,hl⟩
   ·exact⟨sh',xs',hm⟩
  refine⟨_,?_,β,h.turn (w':=w.setRow b (cur.toList.take (i * sz)++(a.eval y).cells.toList++cur.toList.drop (i * sz+(a.eval y).cells.toList.length)).toArray) hl (fun _ _=>rfl) rfl rfl rfl (by simp) (fun k _ hk=>setRow_other w b k _ (fun e=>hk (by rw[hbn,e]))) (fun b h=>.inl h) (fun b' o' y h4 h5 _=>absurd (.inl rfl) h5) (fun _ _ _ _ _=>.inl rfl)
   (fun k t x v _=>Dp.keep k (fun _=>rfl) hH x v) (fun _=>rfl) (fun k m cs vs _ _=>Cv.keep k (fun _=>rfl) hH _ vs) (fun kp=>?_)⟩
  ·simp only[Nat.add_zero]at h2;simp[execOp,h2,Instr.storeAt,Instr.sureAddr,storeVar,jb8 hinf,hsz,hzl,hst]
  ·refine⟨ys.take (i * sz)++(a.eval y).cells.toList++ys.drop (i * sz+sz),⟨?_,.inr ⟨b,c,_,?_,h6,setRow_heap w b _ _ e _ h7,by rw[List.length_set];exact h8,h9,?_,?_⟩⟩,mw7 hzl (Gw.keep kp _ _ hzr) (Gn.keep kp _ _ _ h4) hi⟩
   ·have:=h4.length;simp only[Ag,Aj,Bs,List.length_set,hlen,this];omega
   ·rw[List.length_set];rw[h1];congr 1
   ·simp only[List.size_toArray,Ag,Aj,Bs,Array.length_toList,hlen];omega
   ·rw[<-h11,List.length_set,hlen];have hl1:(cur.toList.take (i * sz)).length=i * sz:=by simp;omega
    rw[Bv,List.take_append,hl1,Am (by omega),List.take_append,hlen,Am (l:=(a.eval y).cells.toList) (by omega),Bv,List.take_take,Nat.min_eq_left (by omega)];congr 2;rw[List.drop_take];congr 1;omega
theorem qc0 {t n k i e sz:Nat}{x y:Operand}{v:V}{z:D}{xs zs:List D}[ht:TSize E.P t sz](hx:Sd.ev ⟨env,H,gl⟩ x=some (.el n k i 0))(hox:Cn x=true)(hl:look n H=some (.row e sz false xs k))(hy:Sd.ev ⟨env,H,gl⟩ y=some v)(hoy:Cn y=true)(hz:ToD H v z)(hc:Gg z zs)(hm:zs.length=sz)(hi:i<xs.length)
 (hg:Sd.gd ⟨env,H,gl⟩ ops ⟨none,.store t x y,ty,pos,af,gd⟩=some true) (hw:Js draw way=true)
 (h:TR E draw ops Q rest ⟨env,(n,.row e sz false (xs.set i z) k)::H,gl⟩):TR E draw ops Q (.step ⟨none,.store t x y,ty,pos,af,gd⟩ way rest) ⟨env,H,gl⟩:=km8 (qb9 hx hox hl hy hoy hz hc hm hi) rfl hg rfl hw h
end
end
section
section
variable {E:Set}{Q:Exit->Sd->Prop}{ops:Array Oper}{draw:Bool}{rest:Todo}{way:Jh}{ty:TypeId}{pos:String}{af:Array Edge}{gd:Option (Nat × Bool)}{dst:Option Tmp}
variable {env:List (Nat × V)}{H:List (Nat × Ob)}{gl:List (Nat × List D)}{d:Nat}
theorem StB.Te {C:Ctx}{S:Sd}{β:Nat->Hd}{a:Act}{w:World}(h:StB C β S a w){n e sz k:Nat}{sh:Bool}{xs:List D}(hl:look n S.H=some (.row e sz sh xs k)):∃ ad c,(β n).v=.slice ad xs.length c/\xs.length<=c/\(ad=none->c=0)/\(∀ p,ad=some p->∃ b,p=⟨b,0,none⟩):=by
 obtain⟨ys,h1,_⟩:=h.obs n _ hl;rcases h1.2 with ⟨q1,q2⟩|⟨g,cap,cur,q,_,_,q3,_⟩
 ·exact⟨none,0,by rw[q1,q2],by omega,fun _=>rfl,fun p hp=>by cases hp⟩
 ·exact⟨_,cap,q,q3,(fun e=>by cases e),fun p hp=>by cases hp;exact⟨_,rfl⟩⟩
theorem mk1 {P:Program}{t e sz:Nat}(ht:TSlice P t e sz)(a:Option Addr)(n c l:Nat)(k:IntKind)(hl:l<=n)(w:World):(Instr.slice t (.slice a n c) (some (.int k (l:Nat))) none none).run P w=.ok (sliced a l n c sz) w:=by
 obtain⟨ie,hu,hie,hs,hpos⟩:=y3 ht;have hb:(Instr.sliceBounds true n c (some (.int k (l:Nat))) none none).run P w=.ok (l,n,c) w:=by
  have:(l:Int)<=(n:Int):=by omega
  simp[Instr.sliceBounds,Instr.sliceBound,asIntOf,this,show ¬n<l by omega]
 simp[run_underlying hu,Instr.slice,hb,jb8 hie,hs,sliced]
end
end
end Go.Proofs.YtklklgfpkpglgaaGreatDoor
