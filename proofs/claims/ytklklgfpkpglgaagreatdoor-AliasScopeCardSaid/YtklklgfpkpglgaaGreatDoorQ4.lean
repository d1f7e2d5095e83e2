/- Parts. -/
import Derived.Test.YtklklgfpkpglgaaGreatDoorQ3
import Derived.TacticsIn
set_option linter.all false
set_option maxRecDepth 100000
set_option maxHeartbeats 0
namespace Go.Proofs.YtklklgfpkpglgaaGreatDoor
open Go.RowKit
section
section
variable {P:Program}{ops:Array Oper}{Q:Exit->Act->World->Prop}{md:Region.Mode}
def Lm (P:Program)(ops:Array Oper)(o:Oper)(v:Value)(a:Act):Prop:=
 (Region.wanted o (yielded ops a.tmps)=true/\∀ w',(execOp a.eval o).run P w'=.ok (.value v) w')\/
 (Region.wanted o (yielded ops a.tmps)=false/\v=undef)
theorem Lm.Xm {o:Oper}{v:Value}{a:Act}{w:World}(h:Lm P ops o v a):Jy P ops o v a w:=
 h.imp (λ⟨h1,h2⟩=>⟨h1,λw' _=>by rw[h2 w'];exact⟨rfl,rfl⟩⟩) id
theorem Lm.of_same {o:Oper}{v:Value}{a a':Act}(hy:Lm P ops o v a)(he:execOp a'.eval o=execOp a.eval o)
 (hw:Region.wanted o (yielded ops a'.tmps)=Region.wanted o (yielded ops a.tmps)):Lm P ops o v a':=by
 unfold Lm at *;rw[he,hw];exact hy
theorem rx0 {j:Nat}{oi oj:Oper}{v:Value}(hj:ops[j]? =some oj)(hap:oi.apart ops oj=true)
 (hsi:∀ cs b,oi.op≠.select cs b) (hsj:∀ cs b,oj.op≠.select cs b)
 (hQ:∀ c a w,Q (.panic c) (a.put oi.dst v) w->Q (.panic c) a w) {K:Act->World->Prop} {a:Act} {w:World}
 (hy:Lm P ops oi v a) (h:opG P ops Q j K (a.put oi.dst v) w):
 opG P ops Q j (λa' w'=>Lm P ops oi v a'/\K (a'.put oi.dst v) w') a w:=by
 obtain⟨h1,h2,h3⟩:=Oper.apart_spec hap;have keep:∀ (b:Act),Lm P ops oi v b->∀ u,Lm P ops oi v (b.put oj.dst u):=λb hb u=>
  hb.of_same (execOp_put oi hsi b oj.dst u h3) (wanted_put oi b oj.dst u h3)
 unfold opG at *;simp only[hj]at *;rw[wanted_put oj a oi.dst v h1]at h;split
 ·rename_i hw;rw[Ad hw]at h;unfold Oper.wp at *;rw[execOp_put oj hsj a oi.dst v h1]at h;generalize (execOp a.eval oj).run P w=r at *;cases r with
  |ok x w'=>
   cases x<;>simp only[Oper.upon]at h ⊢
   case value u=>exact⟨keep a hy u,by rw[<-Act.put_comm a v u h2];exact h⟩
   case skip=>exact⟨keep a hy _,by rw[<-Act.put_comm a v undef h2];exact h⟩
   case defer d=>
    refine⟨keep {a with defers:=d::a.defers} (hy.of_same rfl rfl) _,?_⟩;rw[<-Act.put_comm _ v undef h2,<-Act.put_defers];exact h
   case enter f args=>
    refine Calls.mono h λe w'' he=>?_;cases e with
    |returned u=>exact⟨keep a hy u,by rw[<-Act.put_comm a v u h2];exact he⟩
    |panicked c=>exact hQ _ _ _ he
    |outgrown=>exact he
   case row row args=>exact Rows.mono h λu w'' he=>⟨keep a hy u,by rw[<-Act.put_comm a v u h2];exact he⟩
  |halt x w'=>
   cases x<;>simp only[Oper.upon]at h ⊢
   case panic u=>exact hQ _ _ _ h
 ·rename_i hw;rw[Af hw]at h;exact⟨keep a hy _,by rw[<-Act.put_comm a v undef h2];exact h⟩
theorem AnyG.Xv {bar:Nat->Bool}{i:Nat}{oi:Oper}{v:Value}(hi:ops[i]? =some oi)(hsel:∀ (j:Nat) (o:Oper) cs b,ops[j]? =some o->o.op≠.select cs b)
 (hQ:∀ c a w,Q (.panic c) (a.put oi.dst v) w->Q (.panic c) a w):
 ∀ (f:Nat) (listed:Array Bool) (a:Act) (w:World),
   (∀ j oj,ops[j]? =some oj->j≠i->listed.getD j true=false->(∀ e∈oj.after,Region.binds md e=true->e.on≠i)->oi.apart ops oj=true)->
   i∈Region.ready md ops listed->Lm P ops oi v a->
   AnyG P md ops Q bar f (listed.setIfInBounds i true) (a.put oi.dst v) w->AnyG P md ops Q bar (f+1) listed a w:=by
 intro f
 induction f with
 |zero=>
  intro listed a w _ hr hy H w' hg;refine⟨λh=>(by rw[h]at hr;cases hr),λj hj=>?_⟩;by_cases hji:j=i
  ·subst hji;exact(hy.Xm (w:=w)).opG hi hg λw'' g=>⟨λ_=>g,H.up (hg.trans g)⟩
  ·have:=ready_mono hj hji;rw[(H w' hg).1]at this;cases this
 |succ f ih=>
  intro listed a w hfree hr hy H w' hg;refine⟨λh=>(by rw[h]at hr;cases hr),λj hj=>?_⟩;by_cases hji:j=i
  ·subst hji;exact(hy.Xm (w:=w)).opG hi hg λw'' g=>⟨λ_=>g,H.up (hg.trans g)⟩
  ·obtain⟨hjun,oj,hoj,hall⟩:=mem_ready.1 hj;have hnot:∀ e∈oj.after,Region.binds md e=true->e.on≠i:=λe he hb heq=>by
    have h1:=hall e he hb;have h0:=(mem_ready.1 hr).1;rw[heq]at h1;rcases Ai i listed.size with h'|h'
    ·simp[h']at h0 h1;rw[h0]at h1;cases h1
    ·simp[Array.getElem?_eq_none h']at h1
   have h1:=(H w' hg).2 j (ready_mono hj hji);have h2:=rx0 hoj (hfree j oj hoj hji hjun hnot) (λcs b=>hsel i oi cs b hi) (λcs b=>hsel j oj cs b hoj) hQ hy h1;have hfree':∀ k ok,ops[k]? =some ok->k≠i->(listed.setIfInBounds j true).getD k true=false->
    (∀ e∈ok.after,Region.binds md e=true->e.on≠i)->oi.apart ops ok=true:=λk ok hk hki hun hno=>by
    refine hfree k ok hk hki ?_ hno;by_cases hjk:j=k
    ·subst hjk;exact hjun
    ·rw[getD_set_ne true hjk]at hun;exact hun
   refine jr2 (λa' w'' h3=>⟨h3.2.1,ih (listed.setIfInBounds j true) a' w'' hfree' (ready_mono hr (Ne.symm hji)) h3.1 ?_⟩) h2;rw[Array.setIfInBounds_comm _ _ hji];exact h3.2.2
inductive Ji where
 |pure
 |quiet
 |grow
 |bar
inductive Todo where
 |nil
 |step (o:Oper) (way:Ji) (rest:Todo)
 |two (o:Oper) (rest:Todo) (o':Oper) (rest':Todo)
 |mid (o:Oper) (rest:Todo) (o':Oper) (rest':Todo)
 |or (a b:Todo)
 |tail (l:List (Oper × TW))
inductive Plan where
 |nil
 |step (i:Nat) (way:Ji) (rest:Plan)
 |two (i:Nat) (rest:Plan) (j:Nat) (rest':Plan)
 |mid (i:Nat) (rest:Plan) (j:Nat) (rest':Plan)
 |or (a b:Plan)
 |tail (l:List (Nat × TW))
def x5 (P:Program)(ops:Array Oper)(Q:Exit->Act->World->Prop):Todo->Act->World->Prop
 |.nil,a,w=>∀ n:Late w,Q .normal a n.w
 |.step o .pure rest,a,w=>
  if Region.wanted o (yielded ops a.tmps)=true then ∃ v,(∀ w',(execOp a.eval o).run P w'=.ok (.value v) w')/\x5 P ops Q rest (a.put o.dst v) w
  else x5 P ops Q rest (a.put o.dst undef) w
 |.step o .quiet rest,a,w=>
  if Region.wanted o (yielded ops a.tmps)=true then ∃ v,(∀ n:Late w,Oper.quietUpon P (aG n.w) n.w v ((execOp a.eval o).run P n.w))/\x5 P ops Q rest (a.put o.dst v) w
  else x5 P ops Q rest (a.put o.dst undef) w
 |.step o .grow rest,a,w=>∀ n:Late w,
  if Region.wanted o (yielded ops a.tmps)=true then o.wp P a n.w (λa' w'=>aG n.w w'/\x5 P ops Q rest a' w') Q else x5 P ops Q rest (a.put o.dst undef) n.w
 |.step o .bar rest,a,w=>∀ n:Late w,
  if Region.wanted o (yielded ops a.tmps)=true then o.wp P a n.w (λa' w'=>x5 P ops Q rest a' w') Q else x5 P ops Q rest (a.put o.dst undef) n.w
 |.tail l,a,w=>jo9 P ops Q (λ_=>True) l a w
 |.two o rest o' rest',a,w=>(∀ n:Late w,
  if Region.wanted o (yielded ops a.tmps)=true then o.wp P a n.w (λa' w'=>aG n.w w'/\x5 P ops Q rest a' w') Q else x5 P ops Q rest (a.put o.dst undef) n.w)/\(∀ n:Late w,
  if Region.wanted o' (yielded ops a.tmps)=true then o'.wp P a n.w (λa' w'=>aG n.w w'/\x5 P ops Q rest' a' w') Q else x5 P ops Q rest' (a.put o'.dst undef) n.w)
 |.mid o rest o' rest',a,w=>(∀ n:Late w,
  if Region.wanted o (yielded ops a.tmps)=true then o.wp P a n.w (λa' w'=>aG n.w w'/\x5 P ops Q rest a' w') Q else x5 P ops Q rest (a.put o.dst undef) n.w)/\(∀ n:Late w,
  if Region.wanted o' (yielded ops a.tmps)=true then o'.wp P a n.w (λa' w'=>x5 P ops Q rest' a' w') Q else x5 P ops Q rest' (a.put o'.dst undef) n.w)
 |.or x y,a,w=>x5 P ops Q x a w/\x5 P ops Q y a w
def qo7 (md:Region.Mode)(ops:Array Oper)(i:Nat):Nat->List Nat->List Nat
 |0,D=>D
 |n+1,D=>qo7 md ops i n (match ops[ops.size - (n+1)]? with
  |some ok=>bif ok.after.any (λe=>Region.binds md e && (e.on == i || D.contains e.on)) then (ops.size - (n+1))::D else D
  |none=>D)
def jx4:Plan->List Nat
 |.step i _ _=>[i]
 |.or x y=>jx4 x++jx4 y
 |_=>[]
mutual
def ja7 (md:Region.Mode)(ops:Array Oper):List Nat->Array Bool->Plan->Bool
 |_,listed,.nil=>(Region.ready md ops listed).isEmpty
 |bars,listed,.tail l=>jw7 md ops bars listed l
 |bars,listed,.step i .pure rest=>(Region.ready md ops listed).contains i && Region.free md ops listed i && !bars.contains i && ja7 md ops bars (listed.setIfInBounds i true) rest
 |bars,listed,.step i .quiet rest=>(Region.ready md ops listed).contains i && Region.free md ops listed i && !bars.contains i &&
   (bars.isEmpty || Xb md ops bars listed i (qo7 md ops i ops.size [])) && ja7 md ops bars (listed.setIfInBounds i true) rest
 |bars,listed,.step i .grow rest=>(Region.ready md ops listed == [i]) && !bars.contains i && ja7 md ops bars (listed.setIfInBounds i true) rest
 |bars,listed,.step i .bar rest=>(Region.ready md ops listed == [i]) && bars.contains i && ja7 md ops (bars.erase i) (listed.setIfInBounds i true) rest
 |bars,listed,.two i rest j rest'=>((Region.ready md ops listed == [i,j]) || (Region.ready md ops listed == [j,i])) && !bars.contains i && !bars.contains j && ja7 md ops bars (listed.setIfInBounds i true) rest && ja7 md ops bars (listed.setIfInBounds j true) rest'
 |bars,listed,.mid i rest j rest'=>((Region.ready md ops listed == [i,j]) || (Region.ready md ops listed == [j,i])) && !bars.contains i && bars.contains j && ja7 md ops bars (listed.setIfInBounds i true) rest && ja7 md ops (bars.erase j) (listed.setIfInBounds j true) rest'
 |bars,listed,.or x y=>(Region.ready md ops listed).all (λi=>(jx4 x++jx4 y).contains i) && !(Region.ready md ops listed).isEmpty && jc5 md ops bars listed x && jc5 md ops bars listed y
def jc5 (md:Region.Mode)(ops:Array Oper):List Nat->Array Bool->Plan->Bool
 |bars,listed,.step i .grow rest=>(Region.ready md ops listed).contains i && !bars.contains i && ja7 md ops bars (listed.setIfInBounds i true) rest
 |bars,listed,.step i .bar rest=>(Region.ready md ops listed).contains i && bars.contains i && ja7 md ops (bars.erase i) (listed.setIfInBounds i true) rest
 |bars,listed,.or x y=>jc5 md ops bars listed x && jc5 md ops bars listed y
 |_,_,_=>false
end
def Plan.len:Plan->Nat
 |.nil=>0
 |.step _ _ rest=>rest.len+1
 |.two _ rest _ _=>rest.len+1
 |.mid _ rest _ _=>rest.len+1
 |.or x _=>x.len
 |.tail l=>l.length
def Plan.even:Plan->Bool
 |.nil=>true
 |.step _ _ rest=>rest.even
 |.two _ rest _ rest'=>rest.even && rest'.even && rest.len == rest'.len
 |.mid _ rest _ rest'=>rest.even && rest'.even && rest.len == rest'.len
 |.or x y=>x.even && y.even && x.len == y.len
 |.tail _=>true
def y3 (ops:Array Oper):Plan->Todo
 |.nil=>.nil
 |.step i x rest=>match ops[i]? with
  |some o=>.step o x (y3 ops rest)
  |none=>.nil
 |.two i rest j rest'=>match ops[i]?,ops[j]? with
  |some o,some o'=>.two o (y3 ops rest) o' (y3 ops rest')
  |_,_=>.nil
 |.mid i rest j rest'=>match ops[i]?,ops[j]? with
  |some o,some o'=>.mid o (y3 ops rest) o' (y3 ops rest')
  |_,_=>.nil
 |.or x y=>.or (y3 ops x) (y3 ops y)
 |.tail l=>.tail (jp0 ops l)
theorem AnyG.bars {bar bar':Nat->Bool}:∀ (f:Nat) (listed:Array Bool) (a:Act) (w:World),(∀ i,listed.getD i true=false->bar i=bar' i)->AnyG P md ops Q bar f listed a w->AnyG P md ops Q bar' f listed a w:=by
 intro f
 induction f with
 |zero=>intro listed a w _ h;exact h
 |succ f ih=>
  intro listed a w hb h w' hg;obtain⟨h1,h2⟩:=h w' hg;refine⟨h1,λi hi=>jr2 (λa' w'' h3=>⟨λh4=>h3.1 (by rw[hb i (mem_ready.1 hi).1];exact h4),ih _ _ _ (λj hj=>?_) h3.2⟩) (h2 i hi)⟩;refine hb j ?_;by_cases hij:i=j
  ·subst hij;exact(mem_ready.1 hi).1
  ·rwa [getD_set_ne true hij]at hj
theorem jp6 {i:Nat}{o:Oper}{bars:List Nat}{f:Nat}{listed:Array Bool}{a:Act}{w:World}{X:Act->World->Prop}(ho:ops[i]? =some o)(hb:bars.contains i=false)(hX:∀ a' w',X a' w'->AnyG P md ops Q (λj=>bars.contains j) f (listed.setIfInBounds i true) a' w')
 (h1:if Region.wanted o (yielded ops a.tmps)=true then o.wp P a w (λa' w'=>aG w w'/\X a' w') Q else X (a.put o.dst undef) w):
 opG P ops Q i (λa' w''=>((λj=>bars.contains j) i=false->aG w w'')/\AnyG P md ops Q (λj=>bars.contains j) f (listed.setIfInBounds i true) a' w'') a w:=by
 unfold opG;simp only[ho];split
 ·rename_i hw;rw[Ad hw]at h1;exact Oper.wp_mono (λa2 w2 h2=>⟨λ_=>h2.1,hX _ _ h2.2⟩) h1
 ·rename_i hw;rw[Af hw]at h1;exact⟨λ_=>aG.refl _,hX _ _ h1⟩
theorem ky6 (hs:Region.noSelect ops=true)(hQ:∀ c (a:Act) d v w,Q (.panic c) (a.put d v) w->Q (.panic c) a w):
 ∀ (plan:Plan),(∀ (bars:List Nat) (listed:Array Bool) (a:Act) (w:World),bars.Nodup->plan.even=true->ja7 md ops bars listed plan=true->x5 P ops Q (y3 ops plan) a w->
   AnyG P md ops Q (λj=>bars.contains j) plan.len listed a w)/\
   (∀ (bars:List Nat) (listed:Array Bool) (a:Act) (w:World),bars.Nodup->plan.even=true->jc5 md ops bars listed plan=true->x5 P ops Q (y3 ops plan) a w->
     ∃ f,plan.len=f+1/\∀ i∈jx4 plan,∀ w',aG w w'->opG P ops Q i (λa' w''=>((λj=>bars.contains j) i=false->aG w' w'')/\AnyG P md ops Q (λj=>bars.contains j) f (listed.setIfInBounds i true) a' w'') a w'):=by
 intro plan
 induction plan with
 |nil=>
  refine⟨?_,λbars listed a w _ _ h=>by simp[jc5]at h⟩;intro bars listed a w _ _ h0 h w' hg;exact⟨by simpa [ja7]using h0,h ⟨w',hg⟩⟩
 |tail l=>
  refine⟨?_,λbars listed a w _ _ h=>by simp[jc5]at h⟩;intro bars listed a w _ _ h0 h;exact Ms.any _ _ _ _ (jb8 hs hQ l (λ_=>True) listed a w (λ_ _ _ _=>trivial) trivial (by simpa only[ja7]using h0) (by simpa only[y3,x5]using h))
 |two i rest j rest' ih ih'=>
  replace ih:=ih.1
  replace ih':=ih'.1
  refine⟨?_,λbars listed a w _ _ h=>by simp[jc5]at h⟩;intro bars listed a w hnd hev h0 h;simp only[ja7,Aa,Bn,Ed,Bz]at h0;obtain⟨⟨⟨⟨hr,hbi⟩,hbj⟩,h1⟩,h2⟩:=h0;simp only[Plan.even,Aa,Ed]at hev;obtain⟨⟨he1,he2⟩,hlen⟩:=hev;have hri:i∈Region.ready md ops listed:=by rcases hr with hr|hr<;>rw[hr]<;>simp
  have hrj:j∈Region.ready md ops listed:=by rcases hr with hr|hr<;>rw[hr]<;>simp
  obtain⟨_,oi,hoi,_⟩:=mem_ready.1 hri;obtain⟨_,oj,hoj,_⟩:=mem_ready.1 hrj;simp only[y3,hoi,hoj,x5]at h;intro w' hg;refine⟨λh3=>(by rw[h3]at hri;cases hri),λk hk=>?_⟩;have hk':k=i\/k=j:=by
   rcases hr with hr|hr<;>rw[hr]at hk<;>simp at hk<;>omega
  rcases hk' with rfl|rfl
  ·exact jp6 hoi hbi (λa' w'' h4=>ih _ _ _ _ hnd he1 h1 h4) (h.1 ⟨w',hg⟩)
  ·refine jp6 hoj hbj (λa' w'' h4=>?_) (h.2 ⟨w',hg⟩);rw[hlen];exact ih' _ _ _ _ hnd he2 h2 h4
 |mid i rest j rest' ih ih'=>
  replace ih:=ih.1
  replace ih':=ih'.1
  refine⟨?_,λbars listed a w _ _ h=>by simp[jc5]at h⟩;intro bars listed a w hnd hev h0 h;simp only[ja7,Aa,Bn,Ed,Bz]at h0;obtain⟨⟨⟨⟨hr,hbi⟩,hbj⟩,h1⟩,h2⟩:=h0;simp only[Plan.even,Aa,Ed]at hev;obtain⟨⟨he1,he2⟩,hlen⟩:=hev;have hri:i∈Region.ready md ops listed:=by rcases hr with hr|hr<;>rw[hr]<;>simp
  have hrj:j∈Region.ready md ops listed:=by rcases hr with hr|hr<;>rw[hr]<;>simp
  obtain⟨_,oi,hoi,_⟩:=mem_ready.1 hri;obtain⟨_,oj,hoj,_⟩:=mem_ready.1 hrj;simp only[y3,hoi,hoj,x5]at h;have hup:∀ a2 w2,AnyG P md ops Q (λk=>(bars.erase j).contains k) rest'.len (listed.setIfInBounds j true) a2 w2->AnyG P md ops Q (λk=>bars.contains k) rest'.len (listed.setIfInBounds j true) a2 w2:=λa2 w2 h=>by
   refine AnyG.bars _ _ _ _ (λk hk=>?_) h;have hne:k≠j:=by
    rintro rfl;by_cases hlt:k<listed.size
    ·simp[hlt]at hk
    ·simp[hlt]at hk
   rw[Ej];simp[hnd.mem_erase_iff,hne]
  intro w' hg;refine⟨λh3=>(by rw[h3]at hri;cases hri),λk hk=>?_⟩;have hk':k=i\/k=j:=by
   rcases hr with hr|hr<;>rw[hr]at hk<;>simp at hk<;>omega
  rcases hk' with rfl|rfl
  ·exact jp6 hoi hbi (λa' w'' h4=>ih _ _ _ _ hnd he1 h1 h4) (h.1 ⟨w',hg⟩)
  ·have h3:=h.2 ⟨w',hg⟩;show opG P ops Q k (λa' w''=>((λj=>bars.contains j) k=false->aG w' w'')/\AnyG P md ops Q (λj=>bars.contains j) rest.len (listed.setIfInBounds k true) a' w'') a w';rw[hlen];unfold opG;simp only[hoj];split
   ·rename_i hw;rw[Ad hw]at h3;exact Oper.wp_mono (λa2 w2 h4=>⟨λhb=>(by rw[hbj]at hb;cases hb),hup _ _ (ih' _ _ _ _ (hnd.erase _) he2 h2 h4)⟩) h3
   ·rename_i hw;rw[Af hw]at h3;exact⟨λhb=>(by rw[hbj]at hb;cases hb),hup _ _ (ih' _ _ _ _ (hnd.erase _) he2 h2 h3)⟩
 |or x y ihx ihy=>
  have key:∀ (bars:List Nat) (listed:Array Bool) (a:Act) (w:World),bars.Nodup->(Plan.or x y).even=true->jc5 md ops bars listed (.or x y)=true->x5 P ops Q (y3 ops (.or x y)) a w->
   ∃ f,(Plan.or x y).len=f+1/\∀ i∈jx4 (.or x y),∀ w',aG w w'->opG P ops Q i (λa' w''=>((λj=>bars.contains j) i=false->aG w' w'')/\AnyG P md ops Q (λj=>bars.contains j) f (listed.setIfInBounds i true) a' w'') a w':=by
   intro bars listed a w hnd hev h0 h;simp only[Plan.even,Aa,Ed]at hev;obtain⟨⟨he1,he2⟩,hlen⟩:=hev;simp only[jc5,Aa]at h0;simp only[y3,x5]at h;obtain⟨f1,e1,g1⟩:=ihx.2 bars listed a w hnd he1 h0.1 h.1;obtain⟨f2,e2,g2⟩:=ihy.2 bars listed a w hnd he2 h0.2 h.2;have e:f2=f1:=by omega
   subst e;refine⟨f2,e1,λi hi w' hg=>?_⟩;simp only[jx4]at hi;rcases Au.1 hi with hi|hi
   ·exact g1 i hi w' hg
   ·exact g2 i hi w' hg
  refine⟨?_,key⟩;intro bars listed a w hnd hev h0 h;simp only[ja7,Aa]at h0;obtain⟨⟨⟨hc,hne⟩,h1⟩,h2⟩:=h0;obtain⟨f,e,g⟩:=key bars listed a w hnd hev (by simp only[jc5,Aa];exact⟨h1,h2⟩) h;rw[e];intro w' hg;refine⟨λh3=>(by rw[h3]at hne;cases hne),λi hi=>g i ?_ w' hg⟩;have:=By.1 hc i hi;simpa [jx4]using this
 |step i x rest ih=>
  refine⟨?_,λbars listed a w hnd hev h0 h=>?_⟩;rotate_left
  ·have hev:rest.even=true:=hev;refine⟨rest.len,rfl,λk hk w' hg=>?_⟩;simp only[jx4,Bs]at hk;subst hk;cases x with
   |pure=>simp[jc5]at h0
   |quiet=>simp[jc5]at h0
   |grow=>
    simp only[jc5,Aa,Bz]at h0;obtain⟨⟨hr,hnb⟩,h0⟩:=h0;have hr':k∈Region.ready md ops listed:=by simpa using hr
    obtain⟨_,o,ho,_⟩:=mem_ready.1 hr';simp only[y3,ho,x5]at h;exact jp6 ho hnb (λa' w'' h4=>ih.1 _ _ _ _ hnd hev h0 h4) (h ⟨w',hg⟩)
   |bar=>
    simp only[jc5,Aa]at h0;obtain⟨⟨hr,hnb⟩,h0⟩:=h0;have hup:∀ a2 w2,AnyG P md ops Q (λj=>(bars.erase k).contains j) rest.len (listed.setIfInBounds k true) a2 w2->AnyG P md ops Q (λj=>bars.contains j) rest.len (listed.setIfInBounds k true) a2 w2:=λa2 w2 h=>by
     refine AnyG.bars _ _ _ _ (λj hj=>?_) h;have hne:j≠k:=by
      rintro rfl;by_cases hlt:j<listed.size
      ·simp[hlt]at hj
      ·simp[hlt]at hj
     rw[Ej];simp[hnd.mem_erase_iff,hne]
    have hr':k∈Region.ready md ops listed:=by simpa using hr
    obtain⟨_,o,ho,_⟩:=mem_ready.1 hr';simp only[y3,ho,x5]at h;have h1:=h ⟨w',hg⟩;unfold opG;simp only[ho];split
    ·rename_i hw;rw[Ad hw]at h1;exact Oper.wp_mono (λa2 w2 h2=>⟨λhb=>(by rw[hnb]at hb;cases hb),hup _ _ (ih.1 _ _ _ _ (hnd.erase _) hev h0 h2)⟩) h1
    ·rename_i hw;rw[Af hw]at h1;exact⟨λhb=>(by rw[hnb]at hb;cases hb),hup _ _ (ih.1 _ _ _ _ (hnd.erase _) hev h0 h1)⟩
  replace ih:=ih.1
  intro bars listed a w hnd hev h0 h;have hev:rest.even=true:=hev;cases x with
  |pure=>
   simp only[ja7,Aa]at h0;obtain⟨⟨⟨hr,hf⟩,_⟩,h0⟩:=h0;have hr:i∈Region.ready md ops listed:=by simpa using hr
   obtain⟨_,o,ho,_⟩:=mem_ready.1 hr;simp only[y3,ho,x5]at h;by_cases hw:Region.wanted o (yielded ops a.tmps)=true
   ·rw[Ad hw]at h;obtain⟨v,hv,h⟩:=h;exact AnyG.Xv ho (Region.noSelect_spec hs) (λc a w=>hQ c a o.dst v w) _ listed a w (Region.free_spec ho hf) hr (.inl ⟨hw,hv⟩) (ih _ _ _ _ hnd hev h0 h)
   ·rw[Af hw]at h;exact AnyG.Xv ho (Region.noSelect_spec hs) (λc a w=>hQ c a o.dst undef w) _ listed a w (Region.free_spec ho hf) hr (.inr ⟨by simpa using hw,rfl⟩) (ih _ _ _ _ hnd hev h0 h)
  |quiet=>
   simp only[ja7,Aa,Bn]at h0;obtain⟨⟨⟨⟨hr,hf⟩,_⟩,hb⟩,h0⟩:=h0;have hr:i∈Region.ready md ops listed:=by simpa using hr
   obtain⟨_,o,ho,_⟩:=mem_ready.1 hr;simp only[y3,ho,x5]at h;have hD:∃ D:Nat->Bool,(∀ k ok,ops[k]? =some ok->D k=true->∃ e∈ok.after,Region.binds md e=true/\(e.on=i\/D e.on=true))/\(∀ k,D k=true->listed.getD k true=false)/\(∀ j,bars.contains j=true->D j=true):=by
    rcases hb with hb|hb
    ·have hb':bars=[]:=by simpa using hb
     subst hb';exact⟨λ_=>false,λ_ _ _ h=>(by cases h),λ_ h=>(by cases h),λ_ h=>(by simp at h)⟩
    ·obtain⟨h1,h2,h3⟩:=ml9 hb;exact⟨λk=>(qo7 md ops i ops.size []).contains k,h1,h2,h3⟩
   obtain⟨D,hD,hU,hb⟩:=hD;by_cases hw:Region.wanted o (yielded ops a.tmps)=true
   ·rw[Ad hw]at h;obtain⟨v,hv,h⟩:=h;exact AnyG.Xu ho (Region.noSelect_spec hs) (λc a w=>hQ c a o.dst v w) D hD hb _ listed a w (Region.free_spec ho hf) hU hr (.inl ⟨hw,λw' g=>hv ⟨w',g⟩⟩) (ih _ _ _ _ hnd hev h0 h)
   ·rw[Af hw]at h;exact AnyG.Xu ho (Region.noSelect_spec hs) (λc a w=>hQ c a o.dst undef w) D hD hb _ listed a w (Region.free_spec ho hf) hU hr (.inr ⟨by simpa using hw,rfl⟩) (ih _ _ _ _ hnd hev h0 h)
  |grow=>
   simp only[ja7,Aa,Ed,Bz]at h0;obtain⟨⟨hr,hnb⟩,h0⟩:=h0;intro w' hg;refine⟨λh1=>(by rw[h1]at hr;cases hr),λj hj=>?_⟩;rw[hr]at hj;obtain rfl:j=i:=by simpa using hj
   have hr':j∈Region.ready md ops listed:=by rw[hr];simp
   obtain⟨_,o,ho,_⟩:=mem_ready.1 hr';simp only[y3,ho,x5]at h;exact jp6 ho hnb (λa' w'' h4=>ih _ _ _ _ hnd hev h0 h4) (h ⟨w',hg⟩)
  |bar=>
   simp only[ja7,Aa,Ed]at h0;obtain⟨⟨hr,hnb⟩,h0⟩:=h0;have hup:∀ a2 w2,AnyG P md ops Q (λj=>(bars.erase i).contains j) rest.len (listed.setIfInBounds i true) a2 w2->AnyG P md ops Q (λj=>bars.contains j) rest.len (listed.setIfInBounds i true) a2 w2:=λa2 w2 h=>by
    refine AnyG.bars _ _ _ _ (λj hj=>?_) h;have hne:j≠i:=by
     rintro rfl;by_cases hlt:j<listed.size
     ·simp[hlt]at hj
     ·simp[hlt]at hj
    rw[Ej];simp[hnd.mem_erase_iff,hne]
   intro w' hg;refine⟨λh1=>(by rw[h1]at hr;cases hr),λj hj=>?_⟩;rw[hr]at hj;obtain rfl:j=i:=by simpa using hj
   have hr':j∈Region.ready md ops listed:=by rw[hr];simp
   obtain⟨_,o,ho,_⟩:=mem_ready.1 hr';simp only[y3,ho,x5]at h;have h1:=h ⟨w',hg⟩;unfold opG;simp only[ho];split
   ·rename_i hw;rw[Ad hw]at h1;exact Oper.wp_mono (λa2 w2 h2=>⟨λhb=>(by rw[hnb]at hb;cases hb),hup _ _ (ih _ _ _ _ (hnd.erase _) hev h0 h2)⟩) h1
   ·rename_i hw;rw[Af hw]at h1;exact⟨λhb=>(by rw[hnb]at hb;cases hb),hup _ _ (ih _ _ _ _ (hnd.erase _) hev h0 h1)⟩
theorem kd8 (hs:Region.noSelect ops=true)(hQ:∀ c (a:Act) d v w,Q (.panic c) (a.put d v) w->Q (.panic c) a w):
 ∀ (plan:Plan) (bars:List Nat) (listed:Array Bool) (a:Act) (w:World),bars.Nodup->plan.even=true->ja7 md ops bars listed plan=true->x5 P ops Q (y3 ops plan) a w->
   AnyG P md ops Q (λj=>bars.contains j) plan.len listed a w:=
 λplan=>(ky6 hs hQ plan).1
theorem kp9 {id:Nat}{a:Act}{w:World}(bars:List Nat)(plan:Plan)(hm:P.follows .mixedOrders=true)(hs:Region.noSelect ops=true)(hl:plan.len=ops.size)(hnd:bars.Nodup)(hev:plan.even=true)
 (hB:ja7 .any ops bars (Array.replicate ops.size false) plan=true) (hQ:∀ c (a:Act) d v w,Q (.panic c) (a.put d v) w->Q (.panic c) a w)
 (h:x5 P ops Q (y3 ops plan) a w):(Code.region id ops true).wp P Q a w:=by
 refine wp_region_any hm ?_;have h1:=kd8 (md:=.any) hs hQ plan bars _ a w hnd hev hB h;rw[hl]at h1;exact(h1.up (aG.drew w)).any
theorem ke8 {id:Nat}{a:Act}{w:World}{l n:Nat}(bars:List Nat)(plan:Plan)(hm:P.follows .mixedOrders=true)(hs:Region.noSelect ops=true)(hd:kg9 ops=true)(hl:plan.len=ops.size)(hnd:bars.Nodup)(hev:plan.even=true)
 (hB:ja7 .any ops bars (Array.replicate ops.size false) plan=true) (hQ:∀ c (a:Act) d v w,Q (.panic c) (a.put d v) w->Q (.panic c) a w)
 (h:x5 P ops Q (y3 ops plan) a w):(Code.region id ops true).wpIn (Fence.wide.inRound l) n P Q a w:=by
 refine wpIn_region_any hm ?_;have h1:=kd8 (md:=.any) hs hQ plan bars _ a w hnd hev hB h;rw[hl]at h1;exact(h1.up (aG.drew w)).anyIn hd _ _ _ _
end
end
section
def WF:Option Nat->Fence
 |none=>Fence.wide
 |some l=>Fence.wide.inRound l
theorem vh9 (ρ:Option Nat)(f:FuncId):(WF ρ).fn f:=by cases ρ<;>trivial
theorem mu9 (ρ:Option Nat)(n:Nat):(WF ρ).depth.isSome=true->1<=n:=by cases ρ<;>intro h<;>simp[WF,Fence.wide,Fence.inRound]at h
theorem qb5 {ρ:Option Nat}{n:Nat}{P:Program}{f:FuncId}{args:Array Value}{w:World}{R:Ending->World->Prop}:CallsIn (WF ρ) n P f args w R↔Calls P f args w R:=by
 cases ρ with
 |none=>exact callsIn_wide
 |some l=>exact callsIn_wide (n:=n)
theorem qb6 {ρ:Option Nat}{P:Program}{Q:Exit->Act->World->Prop}{o:Oper}{a:Act}{w:World}{K:Act->World->Prop}{n:Nat}(hd:∀ c,o.op≠.defer c)(h:o.wp P a w K Q):o.wpIn (WF ρ) n P a w K Q:=by
 unfold Oper.wp at h;refine⟨λ_ _=>vh9 ρ _,?_⟩;rw[Oper.semAt_eq _ _ _ hd];generalize (execOp a.eval o).run P w=r at *;cases r with
 |ok x w'=>
  cases x<;>simp only[Oper.upon]at h<;>simp only[Oper.uponIn]
  case value v=>exact h
  case skip=>exact h
  case defer d=>exact h
  case enter f args=>exact⟨mu9 ρ n,qb5.2 h⟩
  case row row args=>
   refine⟨mu9 ρ n,λc cs _=>?_⟩;obtain⟨v,w'',h1,h2⟩:=h c cs;refine⟨v,w'',h1,?_⟩;cases ρ<;>exact stepsIn_wide.2 h2
 |halt x w'=>cases x<;>simp only[Oper.upon]at h<;>simp only[Oper.uponIn]<;>exact h
structure Set where
 P:Program
 C:Ctx
 rd:Option Nat
def Qof (C:Ctx)(Q:Exit->Sd->Prop):Exit->Act->World->Prop:=λe a w=>∃ S',St C S' a w/\Q e S'
def Todo.list:Todo->List Oper
 |.nil=>[]
 |.step o _ rest=>o::rest.list
 |.two _ _ _ _=>[]
 |.mid _ _ _ _=>[]
 |.or _ _=>[]
 |.tail _=>[]
def vi0:List Oper->Todo
 |[]=>.nil
 |o::l=>.step o .bar (vi0 l)
theorem mh8:∀ l:List Oper,(vi0 l).list=l
 |[]=>rfl
 |o::l=>by simp[vi0,Todo.list,mh8 l]
def TC (E:Set)(c:Code)(Q:Exit->Sd->Prop)(S:Sd):Prop:=∀ a w,St E.C S a w->c.wpIn (WF E.rd) 0 E.P (Qof E.C Q) a w
def TR (E:Set)(draw:Bool)(ops:Array Oper)(Q:Exit->Sd->Prop)(l:Todo)(S:Sd):Prop:=
 ∀ a w,St E.C S a w->match draw with
   |true=>x5 E.P ops (Qof E.C Q) l a w
   |false=>wpListIn (WF E.rd) 0 E.P ops (Qof E.C Q) l.list a w
def ky7 (Q:Exit->Sd->Prop):Prop:=∀ c S,¬Q (.panic c) S
section
variable {E:Set}{Q:Exit->Sd->Prop}{S:Sd}
theorem rg8 {C:Ctx}{Q Q':Exit->Sd->Prop}(h:∀ e S,Q e S->Q' e S)(e:Exit)(a:Act)(w:World):Qof C Q e a w->Qof C Q' e a w:=λ⟨S',h1,h2⟩=>⟨S',h1,h _ _ h2⟩
def Exit.Oc (K:Sd->Prop)(Q:Exit->Sd->Prop):Exit->Sd->Prop
 |.normal,S=>K S
 |e,S=>Q e S
def Exit.Ri (id:Nat)(Q:Exit->Sd->Prop):Exit->Sd->Prop
 |.exit id',S=>if id'=id then Q .normal S else Q (.exit id') S
 |e,S=>Q e S
theorem Cb {x y:Code}(h:∀ K:Sd->Prop,(∀ S,TC E y Q S->K S)->TC E x (Exit.Oc K Q) S):TC E (.seq x y) Q S:=λa w hS=>by
 refine wpIn_seq (wpIn_mono (h (TC E y Q) (λ_ h=>h) a w hS) λe a w ⟨S',h1,h2⟩=>?_);cases e
 case normal=>exact h2 a w h1
 all_goals exact⟨S',h1,h2⟩
theorem rx1 (h:Q .normal S):TC E .skip Q S:=λ_ _ hS=>wpIn_skip ⟨S,hS,h⟩
theorem rg9 {l:Nat}(h:Q .normal S):TC E (.label l) Q S:=λ_ _ hS=>wpIn_label ⟨S,hS,h⟩
theorem rx2 {id:Nat}(h:Q (.exit id) S):TC E (.exit id) Q S:=λ_ _ hS=>wpIn_exit ⟨S,hS,h⟩
theorem j1 (h:Q .ret S):TC E .ret Q S:=λ_ _ hS=>wpIn_ret ⟨S,hS,h⟩
theorem rh0 {id:Nat}{c:Code}(h:TC E c (Exit.Ri id Q) S):TC E (.block id c) Q S:=λa w hS=>
 wpIn_block (wpIn_mono (h a w hS) λe a w ⟨S',h1,h2⟩=>by
  cases e
  case exit id'=>
   simp only[Exit.Ri]at h2;simp only[Exit.inBlock];split
   ·rename_i he;rw[Ad he]at h2;exact⟨S',h1,h2⟩
   ·rename_i he;rw[Af he]at h2;exact⟨S',h1,h2⟩
  all_goals exact⟨S',h1,h2⟩)
theorem qo8 {c:Operand}{x y:Code}{b:Bool}(hc:S.ev c=some (.d (.bool b)))(ho:Cm c=true)(ht:b=true->TC E x Q S)(hf:b=false->TC E y Q S):TC E (.cond c x y) Q S:=λa w hS=>by
 obtain⟨β,hB⟩:=hS;have he:a.eval c=.bool b:=hB.ev hc ho;exact wpIn_cond_split he (λh=>ht h a w ⟨β,hB⟩) (λh=>hf h a w ⟨β,hB⟩)
theorem least {p:Nat->Prop}(h:∃ m,p m):∃ m,p m/\∀ k,p k->m<=k:=by
 obtain⟨m,hm⟩:=h
 induction m using Nat.strongRecOn with
 |_ m ih=>
  by_cases hk:∃ k,k<m/\p k
  ·obtain⟨k,h1,h2⟩:=hk;exact ih k h1 h2
  ·exact⟨m,hm,λk h2=>Nat.le_of_not_lt λh1=>hk ⟨k,h1,h2⟩⟩
open Classical in
noncomputable def kl7 (p:Nat->Prop):Nat:=if h:∃ m,p m then Classical.choose (least h) else 0
theorem jk4 {p:Nat->Prop}(h:∃ m,p m):p (kl7 p)/\∀ k,p k->kl7 p<=k:=by
 unfold kl7;rw[dif_pos h];exact Classical.choose_spec (least h)
theorem rx3 {c:Code}(I:Sd->Prop)(μ:Sd->Nat)(h0:I S)
 (round:∀ S,I S->TC E c (Exit.Oc (λS'=>∃ S'',(∀ a w,St E.C S' a w->St E.C S'' a w)/\I S''/\μ S''<μ S) Q) S):TC E (.loop c) Q S:=λa w hS=>by
 refine wpIn_loop (λa w=>∃ m S,I S/\St E.C S a w/\μ S=m) (λa w=>kl7 λm=>∃ S,I S/\St E.C S a w/\μ S=m) ⟨_,S,h0,hS,rfl⟩ λa w hI=>?_;obtain⟨⟨S,h1,h2,h3⟩,_⟩:=jk4 hI;refine wpIn_mono (round S h1 a w h2) λe a' w' ⟨S',h4,h5⟩=>?_;cases e
 case normal=>
  obtain⟨S'',h6,h7,h8⟩:=h5;refine⟨⟨_,S'',h7,h6 _ _ h4,rfl⟩,?_⟩;have:=(jk4 (p:=λm=>∃ S,I S/\St E.C S a' w'/\μ S=m) ⟨_,S'',h7,h6 _ _ h4,rfl⟩).2 _ ⟨S'',h7,h6 _ _ h4,rfl⟩;omega
 all_goals exact⟨S',h4,h5⟩
theorem rx4 {c:Code}{S':Sd}(h:∀ a w,St E.C S a w->St E.C S' a w)(h':TC E c Q S'):TC E c Q S:=λa w hS=>h' a w (h a w hS)
theorem mo8 {c:Code}{Q':Exit->Sd->Prop}(h:TC E c Q S)(hq:∀ e S,Q e S->Q' e S):TC E c Q' S:=λa w hS=>wpIn_mono (h a w hS) λe a w=>rg8 hq e a w
theorem y6 {id:Nat}{l:List Oper}(h:TR E false l.toArray Q (vi0 l) S):TC E (.region id l.toArray false) Q S:=λa w hS=>by
 have:=h a w hS;simp only[mh8]at this;exact wpIn_region_lit this
def nth {α:Type}:List α->Nat->Option α
 |[],_=>none
 |x::_,0=>some x
 |_::l,n+1=>nth l n
theorem rp2 {α:Type}:∀ (l:List α) (n:Nat),nth l n=l[n]?
 |[],n=>by simp[nth]
 |x::l,0=>rfl
 |x::l,n+1=>by simp[nth,rp2 l n]
theorem kl8 {α:Type}(a:Array α)(n:Nat):nth a.toList n=a[n]? :=by rw[rp2];simp
def rh1 (l:List Oper):List (Nat × TW)->List (Oper × TW)
 |[]=>[]
 |(i,x)::rest=>match nth l i with
  |some o=>(o,x)::rh1 l rest
  |none=>[]
theorem mv0 (ops:Array Oper):∀ l,rh1 ops.toList l=jp0 ops l
 |[]=>rfl
 |(i,x)::rest=>by simp only[rh1,jp0,kl8,mv0 ops rest];try (cases ops[i]? <;>rfl)
def ju4 (l:List Oper):Plan->Todo
 |.nil=>.nil
 |.step i x rest=>match nth l i with
  |some o=>.step o x (ju4 l rest)
  |none=>.nil
 |.two i rest j rest'=>match nth l i,nth l j with
  |some o,some o'=>.two o (ju4 l rest) o' (ju4 l rest')
  |_,_=>.nil
 |.mid i rest j rest'=>match nth l i,nth l j with
  |some o,some o'=>.mid o (ju4 l rest) o' (ju4 l rest')
  |_,_=>.nil
 |.or x y=>.or (ju4 l x) (ju4 l y)
 |.tail q=>.tail (rh1 l q)
theorem jk5 (ops:Array Oper):∀ p,ju4 ops.toList p=y3 ops p
 |.nil=>rfl
 |.step i x rest=>by simp only[ju4,y3,kl8,jk5 ops rest];try (cases ops[i]? <;>rfl)
 |.two i rest j rest'=>by simp only[ju4,y3,kl8,jk5 ops rest,jk5 ops rest'];try (cases ops[i]? <;>cases ops[j]? <;>rfl)
 |.mid i rest j rest'=>by simp only[ju4,y3,kl8,jk5 ops rest,jk5 ops rest'];try (cases ops[i]? <;>cases ops[j]? <;>rfl)
 |.or x y=>by simp only[ju4,y3,jk5 ops x,jk5 ops y]
 |.tail q=>by simp only[ju4,y3,mv0]
theorem rx5 {id:Nat}{ops:Array Oper}(bars:List Nat)(plan:Plan)(hm:E.P.follows .mixedOrders=true)(hs:Region.noSelect ops=true)(hd:kg9 ops=true)(hl:plan.len=ops.size)(hnd:bars.Nodup)(hev:plan.even=true)
 (hB:ja7 .any ops bars (Array.replicate ops.size false) plan=true) (hQ:ky7 Q) (h:TR E true ops Q (ju4 ops.toList plan) S):TC E (.region id ops true) Q S:=λa w hS=>by
 rw[jk5]at h;have hQ':∀ c (a:Act) d v w,Qof E.C Q (.panic c) (a.put d v) w->Qof E.C Q (.panic c) a w:=λc a d v w ⟨S',_,h2⟩=>absurd h2 (hQ c S');have h1:=h a w hS;cases hr:E.rd with
 |none=>exact wpIn_wide.2 (kp9 bars plan hm hs hl hnd hev hB hQ' h1)
 |some r=>exact ke8 bars plan hm hs hd hl hnd hev hB hQ' h1
variable {ops:Array Oper}{draw:Bool}{rest:Todo}{o:Oper}{way:Ji}
theorem qo9 {o o':Oper}{rest rest':Todo}(h:TR E true ops Q (.step o .grow rest) S)(h':TR E true ops Q (.step o' .grow rest') S):TR E true ops Q (.two o rest o' rest') S:=λa w hS=>⟨h a w hS,h' a w hS⟩
theorem kq0 {x y:Todo}(h:TR E true ops Q x S)(h':TR E true ops Q y S):TR E true ops Q (.or x y) S:=λa w hS=>⟨h a w hS,h' a w hS⟩
theorem Jd {o o':Oper}{rest rest':Todo}(h:TR E true ops Q (.step o .grow rest) S)(h':TR E true ops Q (.step o' .bar rest') S):TR E true ops Q (.mid o rest o' rest') S:=λa w hS=>⟨h a w hS,h' a w hS⟩
def Sd.gd (S:Sd)(ops:Array Oper)(o:Oper):Option Bool:=
 match o.guard with
 |none=>some true
 |some (j,want)=>match (nth ops.toList j).bind (·.dst) with
  |some t=>match S.ev (.tmp t) with
   |some (.d (.bool b))=>some (b == want)
   |some (.tup [])=>some false
   |_=>none
  |none=>none
theorem Sd.Dv {C:Ctx}{a:Act}{w:World}(hS:St C S a w){b:Bool}(h:S.gd ops o=some b):Region.wanted o (yielded ops a.tmps)=b:=by
 obtain⟨β,hB⟩:=hS;unfold Sd.gd at h;unfold Region.wanted;cases hg:o.guard with
 |none=>rw[hg]at h;simp at h;simp[h]
 |some p=>
  obtain⟨j,want⟩:=p;rw[hg]at h;dsimp only at h ⊢;rw[kl8]at h;split at h
  ·rename_i t ht;split at h
   ·rename_i b' hb';cases h;simp only[Sd.ev]at hb';cases hlt:Nat.blt t 100000 with
    |false=>rw[hlt]at hb';cases hb'
    |true=>
     rw[hlt]at hb';obtain⟨x,h1,h2⟩:=hB.env t _ hb';simp only[kw5,hlt,cond_true]at h1;simp only[Dc,Gv]at h2;subst h2;unfold yielded;simp only[ht,Option.bind_some,h1];cases b'<;>cases want<;>rfl
   ·rename_i hb';cases h;simp only[Sd.ev]at hb';cases hlt:Nat.blt t 100000 with
    |false=>rw[hlt]at hb';cases hb'
    |true=>
     rw[hlt]at hb';obtain⟨x,h1,h2⟩:=hB.env t _ hb';simp only[kw5,hlt,cond_true]at h1;simp only[Dc]at h2;obtain⟨us,h2,h3⟩:=h2;subst h2;unfold yielded;simp only[ht,Option.bind_some,h1];cases want<;>rfl
   ·cases h
  ·cases h
theorem ltd {a b:Nat}(h:Nat.blt a b=true):a<b:=by simpa using h
structure Quiet (E:Set)(S:Sd)(o:Oper)(v:V):Prop where
 out:∀ β a w,StB E.C β S a w->∃ x,(∀ w',aG w w'->(execOp a.eval o).run E.P w'=.ok (.value x) w')/\Dc w (Mut E.C.M0 β S.H) β S.H v x
structure aH (E:Set)(S:Sd)(o:Oper)(v:V):Prop where
 out:∀ β a w,StB E.C β S a w->∃ x,(∀ w',True->(execOp a.eval o).run E.P w'=.ok (.value x) w')/\Dc w (Mut E.C.M0 β S.H) β S.H v x
structure Grow (E:Set)(S:Sd)(o:Oper)(S':Sd)(v:V):Prop where
 out:∀ β a w,StB E.C β S a w->∃ x w' β',(execOp a.eval o).run E.P w=.ok (.value x) w'/\aG w w'/\StB E.C β' S' a w'/\Dc w' (Mut E.C.M0 β' S'.H) β' S'.H v x
structure Turn (E:Set)(S:Sd)(o:Oper)(S':Sd):Prop where
 out:∀ β a w,StB E.C β S a w->∃ w',(execOp a.eval o).run E.P w=.ok .skip w'/\St E.C S' a w'
structure Xt (E:Set)(S:Sd)(o:Oper)(S':Sd)(v:V):Prop where
 out:∀ β a w,StB E.C β S a w->∃ x w' β',(execOp a.eval o).run E.P w=.ok (.value x) w'/\StB E.C β' S' a w'/\Dc w' (Mut E.C.M0 β' S'.H) β' S'.H v x
theorem p8 {P:Program}{a:Act}{w w':World}{x:Value}{K:Act->World->Prop}{R:Exit->Act->World->Prop}(h:(execOp a.eval o).run P w=.ok (.value x) w')(hk:K (a.put o.dst x) w'):o.wp P a w K R:=by
 unfold Oper.wp;rw[h];exact hk
theorem rh2 {P:Program}{a:Act}{w w':World}{K:Act->World->Prop}{R:Exit->Act->World->Prop}(h:(execOp a.eval o).run P w=.ok .skip w')(hk:K (a.put o.dst undef) w'):o.wp P a w K R:=by
 unfold Oper.wp;rw[h];exact hk
def p9 (o:Oper):Bool:=match o.op with|.defer _=>true|_=>false
theorem mh9 (h:p9 o=false):∀ c,o.op≠.defer c:=λc e=>by simp[p9,e]at h
theorem l5 {C:Ctx}{R:Exit->Act->World->Prop}{l:List Oper}{a:Act}{w:World}(hS:St C S a w)(hg:S.gd ops o=some true)(hd:p9 o=false){ρ:Option Nat}{P:Program}
 (h:∀ K:Act->World->Prop,(∀ a w,wpListIn (WF ρ) 0 P ops R l a w->K a w)->o.wp P a w K R):wpListIn (WF ρ) 0 P ops R (o::l) a w:=
 wpListIn_step λK hK=>by
  rw[Sd.Dv hS hg,Ad rfl];exact qb6 (mh9 hd) (h K hK)
def Ji.known:Ji->Bool
 |.pure=>true
 |_=>false
theorem jk6 {d:Nat}{v:V}(hq:Quiet E S o v)(hdst:o.dst=some d)(hd:d<E.C.nt)(hg:S.gd ops o=some true)(hdf:p9 o=false)(hw:way.known=false)(h:TR E draw ops Q rest (S.put d v)):TR E draw ops Q (.step o way rest) S:=λa w hS=>by
 have hS0:=hS;obtain⟨β,hB⟩:=hS;obtain⟨x,h1,h2⟩:=hq.out β a w hB;have hput:∀ w',aG w w'->St E.C (S.put d v) (a.put o.dst x) w':=λw' g=>by
  rw[hdst];exact St.later ⟨β,hB.put hd h2⟩ g
 cases draw with
 |true=>
  dsimp only;cases way with
  |pure=>cases hw
  |quiet=>
   simp only[x5];rw[Sd.Dv hS0 hg,Ad rfl];refine⟨x,λn=>?_,h _ _ (hput w (aG.refl w))⟩;rw[h1 n.w n.grows];exact⟨rfl,rfl⟩
  |grow=>
   simp only[x5];intro n;rw[Sd.Dv hS0 hg,Ad rfl];exact p8 (h1 n.w n.grows) ⟨aG.refl _,h _ _ (hput n.w n.grows)⟩
  |bar=>
   simp only[x5];intro n;rw[Sd.Dv hS0 hg,Ad rfl];exact p8 (h1 n.w n.grows) (h _ _ (hput n.w n.grows))
 |false=>exact l5 hS0 hg hdf λK hK=>p8 (h1 w (aG.refl w)) (hK _ _ (h _ _ (hput w (aG.refl w))))
theorem jd2 {d:Nat}{v:V}(hq:aH E S o v)(hdst:o.dst=some d)(hd:d<E.C.nt)(hg:S.gd ops o=some true)(hdf:p9 o=false)(h:TR E draw ops Q rest (S.put d v)):TR E draw ops Q (.step o way rest) S:=λa w hS=>by
 have hS0:=hS;obtain⟨β,hB⟩:=hS;obtain⟨x,h1,h2⟩:=hq.out β a w hB;have hput:∀ w',aG w w'->St E.C (S.put d v) (a.put o.dst x) w':=λw' g=>by
  rw[hdst];exact St.later ⟨β,hB.put hd h2⟩ g
 cases draw with
 |true=>
  dsimp only;cases way with
  |pure=>
   simp only[x5];rw[Sd.Dv hS0 hg,Ad rfl];exact⟨x,λw'=>h1 w' trivial,h _ _ (hput w (aG.refl w))⟩
  |quiet=>
   simp only[x5];rw[Sd.Dv hS0 hg,Ad rfl];refine⟨x,λn=>?_,h _ _ (hput w (aG.refl w))⟩;rw[h1 n.w trivial];exact⟨rfl,rfl⟩
  |grow=>
   simp only[x5];intro n;rw[Sd.Dv hS0 hg,Ad rfl];exact p8 (h1 n.w trivial) ⟨aG.refl _,h _ _ (hput n.w n.grows)⟩
  |bar=>
   simp only[x5];intro n;rw[Sd.Dv hS0 hg,Ad rfl];exact p8 (h1 n.w trivial) (h _ _ (hput n.w n.grows))
 |false=>exact l5 hS0 hg hdf λK hK=>p8 (h1 w trivial) (hK _ _ (h _ _ (hput w (aG.refl w))))
theorem qp0 {d:Nat}(hdst:o.dst=some d)(hd:d<E.C.nt)(hg:S.gd ops o=some false)(h:TR E draw ops Q rest (S.put d (.tup []))):TR E draw ops Q (.step o way rest) S:=λa w hS=>by
 have hS0:=hS;have hput:∀ w',aG w w'->St E.C (S.put d (.tup [])) (a.put o.dst undef) w':=λw' g=>by
  obtain⟨β,hB⟩:=hS.later g;rw[hdst];exact⟨β,hB.put hd ⟨[],rfl,rfl⟩⟩
 cases draw with
 |true=>
  dsimp only;cases way with
  |pure=>
   simp only[x5];rw[Sd.Dv hS0 hg,Af (by decide)];exact h _ _ (hput w (aG.refl w))
  |quiet=>
   simp only[x5];rw[Sd.Dv hS0 hg,Af (by decide)];exact h _ _ (hput w (aG.refl w))
  |grow=>
   simp only[x5];intro n;rw[Sd.Dv hS0 hg,Af (by decide)];exact h _ _ (hput n.w n.grows)
  |bar=>
   simp only[x5];intro n;rw[Sd.Dv hS0 hg,Af (by decide)];exact h _ _ (hput n.w n.grows)
 |false=>
  refine wpListIn_step λK hK=>?_;rw[Sd.Dv hS0 hg,Af (by decide)];exact⟨λ_ _=>vh9 _ _,hK _ _ (h _ _ (hput w (aG.refl w)))⟩
def Ji.loud:Ji->Bool
 |.pure=>false
 |.quiet=>false
 |_=>true
theorem jn3 {d:Nat}{S':Sd}{v:V}(hq:Grow E S o S' v)(hdst:o.dst=some d)(hd:d<E.C.nt)(hg:S.gd ops o=some true)(hdf:p9 o=false)(hw:way.loud=true)(h:TR E draw ops Q rest (S'.put d v)):TR E draw ops Q (.step o way rest) S:=λa w hS=>by
 have hS0:=hS;have key:∀ w1,aG w w1->∀ K:Act->World->Prop,(∀ a2 w2,aG w1 w2->St E.C (S'.put d v) a2 w2->K a2 w2)->o.wp E.P a w1 K (Qof E.C Q):=λw1 g K hK=>by
  obtain⟨β,hB⟩:=hS.later g;obtain⟨x,w',β',h1,h2,h3,h4⟩:=hq.out β a w1 hB;refine p8 h1 (hK _ _ h2 ?_);rw[hdst];exact⟨β',h3.put hd h4⟩
 cases draw with
 |true=>
  dsimp only;cases way with
  |pure=>cases hw
  |quiet=>cases hw
  |grow=>
   simp only[x5];intro n;rw[Sd.Dv hS0 hg,Ad rfl];exact key n.w n.grows _ λa2 w2 g2 hs2=>⟨g2,h _ _ hs2⟩
  |bar=>
   simp only[x5];intro n;rw[Sd.Dv hS0 hg,Ad rfl];exact key n.w n.grows _ λa2 w2 g2 hs2=>h _ _ hs2
 |false=>exact l5 hS0 hg hdf λK hK=>key w (aG.refl w) K λa2 w2 _ hs2=>hK _ _ (h _ _ hs2)
def Jv:Bool->Ji->Bool
 |false,_=>true
 |true,.bar=>true
 |true,_=>false
theorem kl9 {S':Sd}(hq:Turn E S o S')(hdst:o.dst=none)(hg:S.gd ops o=some true)(hdf:p9 o=false)(hw:Jv draw way=true)(h:TR E draw ops Q rest S'):TR E draw ops Q (.step o way rest) S:=λa w hS=>by
 have hS0:=hS;have key:∀ w1,aG w w1->∀ K:Act->World->Prop,(∀ a2 w2,St E.C S' a2 w2->K a2 w2)->o.wp E.P a w1 K (Qof E.C Q):=λw1 g K hK=>by
  obtain⟨β,hB⟩:=hS.later g;obtain⟨w',h1,h2⟩:=hq.out β a w1 hB;refine rh2 h1 (hK _ _ ?_);rw[hdst];exact h2
 cases draw with
 |true=>
  dsimp only;cases way with
  |pure=>cases hw
  |quiet=>cases hw
  |grow=>cases hw
  |bar=>
   simp only[x5];intro n;rw[Sd.Dv hS0 hg,Ad rfl];exact key n.w n.grows _ λa2 w2 hs2=>h _ _ hs2
 |false=>exact l5 hS0 hg hdf λK hK=>key w (aG.refl w) K λa2 w2 hs2=>hK _ _ (h _ _ hs2)
end
end
end Go.Proofs.YtklklgfpkpglgaaGreatDoor
