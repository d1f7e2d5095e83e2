/- Parts: D16, D17. -/
import Derived.Test.YtklklgfpkpglgaaGreatDoorP7
set_option linter.all false
set_option maxRecDepth 100000
set_option maxHeartbeats 16000000
namespace Go.Proofs.YtklklgfpkpglgaaGreatDoor
open Go.RowKit
section
inductive Nj where
 |int (k:IntKind)
 |str
 |agg (ls:List Nat)
def rt0 (P:Program)(t:Nat):Nj->Bool
 |.int k=>rr1 P t k
 |.str=>rr2 P t
 |.agg ls=>va8 P t ls && rr0 P t ls.length
def vb0 (P:Program)(t k e:Nat):Bool:=match P.underlying t with
 |some (.map k' e')=>k' == k && e' == e
 |_=>false
class TMap (P:Program)(t:Nat)(k e:outParam Nat):Prop where
 ok:vb0 P t k e=true
class TKey (P:Program)(t:Nat)(kk:outParam Nj):Prop where
 ok:rt0 P t kk=true
def ma9:List Value->List D->Bool
 |[],[]=>true
 |u::us,x::xs=>(match u,x with
  |.int k n,.int k' n'=>decide (k=k') && decide (n=n')
  |.bool b,.bool b'=>b == b'
  |.string t,.str t'=>t.size == 0 && t'.size == 0
  |.slice none 0 0,.list _ []=>true
  |.pointer none,.raw (.pointer none)=>true
  |.map none,.raw (.map none)=>true
  |.nilFunc,.raw .nilFunc=>true
  |_,_=>false) && ma9 us xs
 |_,_=>false
def qs4 (P:Program)(t:Nat)(v:V):Bool:=match P.info? t with
 |some i=>(match i.zero with
  |some (.agg cs)=>(match v with|.d (.agg ds)=>ma9 cs.toList ds|_=>false)
  |some z=>jt4 z v
  |none=>false)
 |none=>false
class Jp (P:Program)(t:Nat)(v:outParam V):Prop where
 ok:qs4 P t v=true
theorem jt6 {w:World}{M:Nat->Nat->Prop}:∀ {us:List Value} {xs:List D},ma9 us xs=true->Gc w M xs us
 |[],[],_=>rfl
 |u::us,x::xs,h=>by
  simp only[ma9,Aa]at h;obtain⟨h1,h2⟩:=h;refine⟨u,us,rfl,?_,?_,jt6 h2⟩
  ·split at h1<;>first|rfl|cases h1
  ·split at h1
   ·simp only[Aa,Ak]at h1;obtain⟨rfl,rfl⟩:=h1;rfl
   ·simp only[Bx]at h1;subst h1;rfl
   ·simp only[Aa,Bx]at h1;rw[mi8 h1.1 h1.2];rfl
   ·exact⟨none,0,[],rfl,Au _,Ai _,fun _=>rfl,rfl,Reads.nil _ _ _⟩
   ·exact⟨rfl,rfl⟩
   ·exact⟨rfl,rfl⟩
   ·exact⟨rfl,rfl⟩
   ·cases h1
 |[],_::_,h=>by simp[ma9]at h
 |_::_,[],h=>by simp[ma9]at h
theorem kp3 {P:Program}{t:Nat}{v:V}(h:Jp P t v):∃ i z,P.info? t=some i/\i.zero=some z/\∀ {w:World} {M:Nat->Nat->Prop} {β:Nat->Hd} {H:List (Nat × Ob)},Dp w M β H v z:=by
 have:=h.ok;unfold qs4 at this;cases hi:P.info? t with
 |none=>rw[hi]at this;cases this
 |some i=>
  rw[hi]at this;dsimp only at this;cases hz:i.zero with
  |none=>rw[hz]at this;cases this
  |some z=>
   rw[hz]at this;refine⟨i,z,rfl,hz,?_⟩;intro w M β H;cases z
   case agg cs=>
    dsimp only at this;split at this
    ·exact⟨cs.toList,by simp,jt6 this⟩
    ·cases this
   all_goals exact ji1 this
inductive Comp:Nj->D->D->Prop
 |int (k:IntKind) (a b:Int):Comp (.int k) (.int k a) (.int k b)
 |str (a b:ByteArray):Comp .str (.str a) (.str b)
 |agg {ls:List Nat} {ds es:List D} {p:Prop} (h:EqC ls ds es p):Comp (.agg ls) (.agg ds) (.agg es)
def Jg:D->Value
 |.agg ds=>.agg (ds.map Gv).toArray
 |x=>Gv x
theorem EqC.iff {ls:List Nat}{ds es:List D}{p:Prop}(h:EqC ls ds es p):p↔es.map Gv=ds.map Gv:=by
 induction h with
 |nil=>simp
 |bool _ ih=>simp[ih,Gv,eq_comm]
 |@int k a b ls ds es p _ ih=>simp[ih,Gv,eq_comm]
 |str _ ih=>simp[ih,Gv,eq_comm]
theorem EqC.inj {ls:List Nat}{ds es:List D}{p:Prop}(h:EqC ls ds es p):es.map Gv=ds.map Gv↔es=ds:=by
 induction h with
 |nil=>simp
 |bool _ ih=>simp[ih,Gv]
 |@int k a b ls ds es p _ ih=>simp[ih,Gv]
 |str _ ih=>simp[ih,Gv]
theorem Comp.rep {kk:Nj}{x y:D}(h:Comp kk x y){w:World}{M:Nat->Nat->Prop}:(∀ u,Gw w M x u->u=Jg x)/\(∀ u,Gw w M y u->u=Jg y):=by
 cases h with
 |int=>exact⟨fun u h=>h,fun u h=>h⟩
 |str=>exact⟨fun u h=>h,fun u h=>h⟩
 |agg h=>
  constructor
  ·rintro u ⟨vs,rfl,h1⟩;rw[h.rep.1 vs h1];rfl
  ·rintro u ⟨vs,rfl,h1⟩;rw[h.rep.2 vs h1];rfl
theorem Comp.inj {kk:Nj}{x y:D}(h:Comp kk x y):Jg y=Jg x↔y=x:=by
 cases h with
 |int=>simp[Jg,Gv]
 |str=>simp[Jg,Gv]
 |agg h=>simp only[Jg,Value.agg.injEq,D.agg.injEq];rw[<-h.inj];exact⟨fun e=>by simpa using congrArg Array.toList e,fun e=>by rw[e]⟩
section
variable {P:Program}
theorem ri3 (a b:ByteArray):(a == b)=true↔a=b:=by
 cases a;cases b;show ByteArray.beq _ _=true↔_;unfold ByteArray.beq;simp
theorem qs5 (a:ByteArray):(a == a)=true:=(ri3 a a).2 rfl
def Found (u:Value)(es:List MapEntry)(i:Nat)(r:Option (Nat × Value)):Prop:=
 (r=none/\∀ e∈es,e.key≠u)\/∃ j e,r=some (i+j,e.val)/\es[j]? =some e/\e.key=u/\∀ j' e',j'<j->es[j']? =some e'->e'.key≠u
theorem Found.cons {u:Value}{e:MapEntry}{es:List MapEntry}{i:Nat}{r:Option (Nat × Value)}(h:Found u es (i+1) r)(hne:e.key≠u):Found u (e::es) i r:=by
 rcases h with ⟨rfl,h⟩|⟨j,e',rfl,h1,h2,h3⟩
 ·exact .inl ⟨rfl,fun x hx=>(Bc.1 hx).elim (fun e=>e ▸ hne) (h x)⟩
 ·refine .inr ⟨j+1,e',(by rw[show i+1+j=i+(j+1) by omega]),h1,h2,fun j' x hj hx=>?_⟩;cases j' with
  |zero=>simp at hx;subst hx;exact hne
  |succ j'=>exact h3 j' x (by omega) (by simpa using hx)
theorem jw4 {d:TypeDesc}{u:Value}:∀ (es:List MapEntry) (i:Nat),(∀ e∈es,∃ b,(b=true↔e.key=u)/\Instr.sameNow d u e.key=some b)->∃ r,Instr.findNow d u es i=some r/\Found u es i r
 |[],i,_=>⟨none,rfl,.inl ⟨rfl,fun e h=>by cases h⟩⟩
 |e::es,i,h=>by
  obtain⟨b,h1,h2⟩:=h e Az;cases b with
  |true=>exact⟨some (i,e.val),by simp[Instr.findNow,h2],.inr ⟨0,e,rfl,rfl,h1.1 rfl,fun j' e' hj=>by omega⟩⟩
  |false=>
   obtain⟨r,h3,h4⟩:=jw4 es (i+1) (fun x hx=>h x (Bb _ hx));exact⟨r,by simp[Instr.findNow,h2,h3],h4.cons (fun e=>by have:=h1.2 e;cases this)⟩
theorem ju1 {t:Nat}{u:Value}(w:World):∀ (es:List MapEntry) (i:Nat),(∀ e∈es,∃ b,(b=true↔e.key=u)/\∀ w,(Op.equal t u e.key).run P w=.ok b w)->∃ r,(Instr.findAsking t u es i).run P w=.ok r w/\Found u es i r
 |[],i,_=>⟨none,rfl,.inl ⟨rfl,fun e h=>by cases h⟩⟩
 |e::es,i,h=>by
  obtain⟨b,h1,h2⟩:=h e Az;cases b with
  |true=>exact⟨some (i,e.val),by unfold Instr.findAsking;rw[Sem.run_bind,h2 w];rfl,.inr ⟨0,e,rfl,rfl,h1.1 rfl,fun j' e' hj=>by omega⟩⟩
  |false=>
   obtain⟨r,h3,h4⟩:=ju1 w es (i+1) (fun x hx=>h x (Bb _ hx));exact⟨r,by unfold Instr.findAsking;rw[Sem.run_bind,h2 w];exact h3,h4.cons (fun e=>by have:=h1.2 e;cases this)⟩
theorem jg5 {t:Nat}{kk:Nj}[hk:TKey P t kk]{x:D}(w:World)(es:List MapEntry)(h:∀ e∈es,∃ y,Comp kk x y/\e.key=Jg y):∃ r,(Instr.findKey t (Jg x) es).run P w=.ok r w/\Found (Jg x) es 0 r:=by
 have hok:=hk.ok;cases kk with
 |int k=>
  have hd:=mi5 (P:=P) (t:=t) ⟨hok⟩;obtain⟨r,h4,h5⟩:=jw4 (d:=.int k) (u:=Jg x) es 0 fun e he=>by
   obtain⟨y,c,hy⟩:=h e he;rw[hy,c.inj];cases c with
   |int k a b=>exact⟨a == b,by rw[Bx,D.int.injEq];exact⟨fun e=>⟨rfl,e.symm⟩,fun e=>e.2.symm⟩,by show(if k=k then some (a == b) else none)=_;rw[Ad rfl]⟩
  exact⟨r,by simp[Instr.findKey,run_underlying hd,h4],h5⟩
 |str=>
  have hd:=ka0 (P:=P) (t:=t) ⟨hok⟩;obtain⟨r,h4,h5⟩:=jw4 (d:=.string) (u:=Jg x) es 0 fun e he=>by
   obtain⟨y,c,hy⟩:=h e he;rw[hy,c.inj];cases c with
   |str a b=>exact⟨a == b,by rw[ri3,D.str.injEq];exact eq_comm,rfl⟩
  exact⟨r,by simp[Instr.findKey,run_underlying hd,h4],h5⟩
 |agg ls=>
  simp only[rt0,Aa]at hok;obtain⟨d,i,hd,hd',_,_⟩:=jr2 (P:=P) (t:=t) ⟨hok.2⟩;obtain⟨r,h4,h5⟩:=ju1 (P:=P) (t:=t) (u:=Jg x) w es 0 fun e he=>by
   obtain⟨y,c,hy⟩:=h e he;rw[hy,c.inj];cases c with
   |agg c=>
    obtain⟨b,h1,h2⟩:=ri2 (hs:=⟨hok.2⟩) ⟨hok.1⟩ c;refine⟨b,?_,h2⟩;rw[h1,c.iff,c.inj];simp
  refine⟨r,?_,h5⟩;cases es with
  |nil=>
   have:r=none:=by
    rcases h5 with h5|⟨j,e,_,h5,_⟩
    ·exact h5.1
    ·simp at h5
   subst this;simp[Instr.findKey,run_underlying hd,Instr.findNow]
  |cons e es=>
   have hn:Instr.findNow d (Jg x) (e::es) 0=none:=by
    have:Instr.sameNow d (Jg x) e.key=none:=by rcases hd' with ⟨fs,rfl⟩|⟨n,el,rfl⟩<;>rfl
    simp[Instr.findNow,this]
   simp[Instr.findKey,run_underlying hd,hn,h4]
theorem qb7:∀ (d D:Nat) (t:TypeId) (ls:List Nat),d<=D->leaves P d t=some ls->∀ (i:TypeInfo),P.info? t=some i->i.size=ls.length->∀ (ds es:List Go.Proofs.YtklklgfpkpglgaaGreatDoor.D) (p:Prop),EqC ls ds es p->∀ (pre post:List Value) (off:Nat),pre.length=off->
 ∃ a,(∀ w,(part t (pre++ds.map Gv++post).toArray off).run P w=.ok a w)/\(∀ em w,(Instr.checkKey em D t a).run P w=.ok () w)/\((∃ fs,P.underlying t=some (.struct fs))->a=.agg (ds.map Gv).toArray):=by
 intro d
 induction d with
 |zero=>intro D t ls _ h;simp[leaves]at h
 |succ d ih=>
  intro D t ls hD h i hi hn ds es p hE pre post off ho;obtain⟨D,rfl⟩:∃ D',D=D'+1:=⟨D - 1,by omega⟩;obtain⟨hl1,hl2⟩:=hE.length;have get:∀ (v:Value) (l:List Value),l=[v]->(pre++l++post)[off]? =some v:=fun v l h2=>by subst ho;subst h2;simp
  unfold leaves at h;split at h
  ·rename_i hu;cases h;obtain⟨x,y,rfl,rfl,rfl⟩:=hE.inv0;exact⟨_,fun w=>jf2 hu (by simp) (by simp) (get (.bool x) _ rfl) w,fun em w=>by simp[Instr.checkKey,run_underlying hu],fun⟨fs,hf⟩=>by rw[hu]at hf;cases hf⟩
  ·rename_i k hu;cases h;obtain⟨k',x,y,rfl,rfl,rfl⟩:=hE.inv1;exact⟨_,fun w=>jf2 hu (by simp) (by simp) (get (.int k' x) _ rfl) w,fun em w=>by simp[Instr.checkKey,run_underlying hu],fun⟨fs,hf⟩=>by rw[hu]at hf;cases hf⟩
  ·rename_i hu;cases h;obtain⟨x,y,rfl,rfl,rfl⟩:=hE.inv2;exact⟨_,fun w=>jf2 hu (by simp) (by simp) (get (.string x) _ rfl) w,fun em w=>by simp[Instr.checkKey,run_underlying hu],fun⟨fs,hf⟩=>by rw[hu]at hf;cases hf⟩
  ·rename_i fs hu;split at h
   ·cases h
   ·rename_i hst;have fields:∀ (em:Bool) (fl:List Field) (off:Nat) (ls:List Nat),jw3 P (leaves P d) off fl=some ls->∀ (ds es:List Go.Proofs.YtklklgfpkpglgaaGreatDoor.D) (p:Prop),EqC ls ds es p->∀ (pre:List Value),pre.length=off->
     ∀ w,(forIn fl PUnit.unit fun f _=>if f.name≠ "_" then (do Instr.checkKey em D f.type (<-part f.type (pre++ds.map Gv).toArray f.offset);pure (ForInStep.yield PUnit.unit)) else pure (ForInStep.yield PUnit.unit):Sem PUnit).run P w=.ok PUnit.unit w:=by
     intro em fl
     induction fl with
     |nil=>intros;rfl
     |cons f fl ih2=>
      intro off ls h ds es p hE pre ho w;simp only[jw3]at h;split at h
      ·cases h
      ·rename_i hf;simp only[Bm,Bx,bne_iff_ne,ne_eq,not_or,Ei]at hf;split at h
       ·rename_i l i' hl hi';split at h
        ·rename_i hsz;simp only[Bx]at hsz;obtain⟨ls',h',rfl⟩:=Fp.1 h;obtain⟨d1,d2,e1,e2,p1,p2,rfl,rfl,h1,h2,rfl⟩:=hE.split l;obtain⟨q1,q2⟩:=h1.length;obtain⟨a,k1,k2,_⟩:=ih D f.type l (by omega) hl i' hi' hsz d1 e1 p1 h1 pre (d2.map Gv) off ho;have k5:=ih2 (off+l.length) ls' h' d2 e2 p2 h2 (pre++d1.map Gv) (by simp;omega) w;have e1':(pre++(d1++d2).map Gv)=pre++d1.map Gv++d2.map Gv:=by simp
         rw[e1'];simp only[List.forIn_cons,hf.1,ne_eq,not_false_eq_true,if_true,hf.2,Sem.run_bind,k1,k2,Result.andThen_ok,Sem.run_pure];exact k5
        ·cases h
       ·cases h
    refine⟨.agg (ds.map Gv).toArray,fun w=>ma8 hu hi ho (by simp;omega) w,fun em w=>?_,fun _=>rfl⟩;have:=fields em fs.toList 0 ls h ds es p hE [] rfl w;simp only[Af]at this;simp only[Instr.checkKey,Sem.run_bind,run_underlying hu,Result.andThen_ok,<-Array.forIn_toList];rw[this];rfl
  ·cases h
theorem mj1 (n:Nat){t:Nat}{k k':IntKind}{a:Int}(hu:P.underlying t=some (.int k))(em:Bool)(w:World):(Instr.checkKey em (n+1) t (.int k' a)).run P w=.ok () w:=by simp[Instr.checkKey,run_underlying hu]
theorem mj2 (n:Nat){t:Nat}{a:ByteArray}(hu:P.underlying t=some .string)(em:Bool)(w:World):(Instr.checkKey em (n+1) t (.string a)).run P w=.ok () w:=by simp[Instr.checkKey,run_underlying hu]
theorem Comp.check {t:Nat}{kk:Nj}[hk:TKey P t kk]{x y:D}(h:Comp kk x y)(em:Bool)(w:World):(Instr.checkKey em 10000 t (Jg x)).run P w=.ok () w:=by
 have hok:=hk.ok;cases h with
 |int k a b=>exact mj1 9999 (mi5 ⟨hok⟩) em w
 |str a b=>exact mj2 9999 (ka0 ⟨hok⟩) em w
 |@agg ls ds es p h=>
  simp only[rt0,Aa]at hok;have h1:=hok.1;unfold va8 at h1;simp only[Aa,Bx,Bq]at h1;obtain⟨⟨h2,h3⟩,h4⟩:=h1;obtain⟨d,i,hu,hd,hi,hsz⟩:=jr2 (P:=P) (t:=t) ⟨hok.2⟩;obtain⟨a,_,k3,k5⟩:=qb7 8 10000 t ls (by omega) h3 i hi hsz ds es p h [] [] 0 rfl;have e:=k5 (by
   split at h2
   ·rename_i fs hu';exact⟨fs,hu'⟩
   ·cases h2)
  subst e;exact k3 em w
theorem mb0 (n:Nat){ls:List Nat}{ds es:List D}{p:Prop}(h:EqC ls ds es p):(((ds.map Gv).zip (ds.map Gv)).all fun(x,y)=>Instr.sameBits n x y)=true:=by
 induction h with
 |nil=>rfl
 |bool _ ih=>simp only[Aq,List.zip_cons_cons,Fe,ih,Bw];cases n<;>simp[Gv,Instr.sameBits]
 |int _ ih=>simp only[Aq,List.zip_cons_cons,Fe,ih,Bw];cases n<;>simp[Gv,Instr.sameBits]
 |str _ ih=>simp only[Aq,List.zip_cons_cons,Fe,ih,Bw];cases n<;>simp[Gv,Instr.sameBits,qs5]
theorem Comp.stays {kk:Nj}{x y:D}(h:Comp kk x y)(w:World):(Instr.keyThatStays (Jg x) (Jg x)).run P w=.ok (Jg x) w:=by
 have:Instr.sameBits 10000 (Jg x) (Jg x)=true:=by
  cases h with
  |int k a b=>simp[Jg,Gv,Instr.sameBits]
  |str a b=>simp[Jg,Gv,Instr.sameBits,qs5]
  |agg h=>
   have:=mb0 9999 h;simp only[Jg,Instr.sameBits,BEq.rfl,Bi];exact this
 simp[Instr.keyThatStays,this]
theorem jc8 {t k e:Nat}(h:TMap P t k e):P.underlying t=some (.map k e):=by
 have:=h.ok;unfold vb0 at this;split at this
 ·rename_i k' e' hu;simp only[Aa,Bx]at this;obtain⟨rfl,rfl⟩:=this;exact hu
 ·cases this
end
end
section
section
variable {P:Program}
theorem Hg.mem {w:World}{M:Nat->Nat->Prop}{ks:List D}{us:List Value}(h:Hg w M ks us){u:Value}(hu:u∈us):∃ (i:Nat) (x:D),ks[i]? =some x/\us[i]? =some u/\Gw w M x u:=by
 obtain⟨i,hi,rfl⟩:=Er.1 hu;have hlen:=h.length;obtain⟨v,h1,h2⟩:=h.get (i:=i) (x:=ks[i]'(by omega)) (by simp);have:v=us[i]:=by rw[At hi]at h1;exact(Option.some.inj h1).symm
 exact⟨i,_,At (by omega),At hi,this ▸ h2⟩
theorem ka5 {kk:Nj}{key:D}{ks:List D}{w:World}{M:Nat->Nat->Prop}{es:List MapEntry}(h1:Hg w M ks (es.map (·.key)))(hk:∀ y∈ks,Comp kk key y):∀ e∈es,∃ y,Comp kk key y/\e.key=Jg y:=fun e he=>by
 obtain⟨i,x,h2,_,h4⟩:=h1.mem (List.mem_map_of_mem (f:=(·.key)) he);have hc:=hk x (Bu h2);exact⟨x,hc,hc.rep.2 _ h4⟩
theorem qs6 {kk:Nj}{key:D}{ks:List D}{w:World}{M:Nat->Nat->Prop}{es:List MapEntry}(h1:Hg w M ks (es.map (·.key)))(hk:∀ y∈ks,Comp kk key y){j:Nat}{e:MapEntry}(he:es[j]? =some e):∃ y,ks[j]? =some y/\(e.key=Jg key↔y=key):=by
 have hlen:=h1.length;have hj:j<es.length:=(Ay.1 he).1;simp only[Ab]at hlen;obtain⟨v,h2,h3⟩:=h1.get (i:=j) (x:=ks[j]'(by omega)) (by simp);rw[Bp,he]at h2;simp only[Ey,Bf]at h2;have hc:=hk _ (Aw (l:=ks) (n:=j) (by omega));refine⟨_,At (by omega),?_⟩;rw[h2,hc.rep.2 _ h3,hc.inj]
theorem je5 {w:World}{r c:Nat}{es:Array MapEntry}(h:w.heap[r]? =some (.map es c)):(getObj r).run P w=.ok (.map es c) w:=by simp[getObj,Sem.run,h]
theorem jt7 {w:World}{r c:Nat}{es:Array MapEntry}(o:Obj)(h:w.heap[r]? =some (.map es c)):(setObj r o).run P w=.ok () (w.putObj r o):=by simp[setObj,Sem.run,h,World.putObj]
theorem jm8 {t:TypeId}{i:TypeInfo}{z:Value}(hi:P.info? t=some i)(hz:i.zero=some z)(w:World):(zeroValue t).run P w=.ok z w:=by simp[zeroValue,typeInfo,hi,hz]
theorem mj3 {kk:Nj}{key:D}{ks:List D}{w:World}{M:Nat->Nat->Prop}{es:List MapEntry}(h1:Hg w M ks (es.map (·.key)))(hk:∀ y∈ks,Comp kk key y){i:Nat}(hi:ks[i]? =some key)(hf:∀ j,j<i->ks[j]? ≠some key){r:Option (Nat × Value)}(h:Found (Jg key) es 0 r):
 ∃ e,es[i]? =some e/\e.key=Jg key/\r=some (i,e.val):=by
 have hlen:=h1.length;simp only[Ab]at hlen;have hil:i<ks.length:=(Ay.1 hi).1;obtain⟨ei,hei⟩:∃ e,es[i]? =some e:=⟨_,At (by omega)⟩;obtain⟨y,h2,h3⟩:=qs6 h1 hk hei;rw[hi]at h2;cases h2;have h4:=h3.2 rfl;rcases h with ⟨_,h5⟩|⟨j,e,rfl,h5,h6,h7⟩
 ·exact absurd h4 (h5 ei (Bu hei))
 ·obtain⟨z,h8,h9⟩:=qs6 h1 hk h5;have h10:=h9.1 h6;subst h10;have:i=j:=by
   rcases Nat.lt_trichotomy i j with hij|hij|hij
   ·exact absurd h4 (h7 i ei hij hei)
   ·exact hij
   ·exact absurd h8 (hf j hij)
  subst this;rw[hei]at h5;cases h5;exact⟨ei,hei,h4,by simp⟩
theorem kt8 {kk:Nj}{key:D}{ks:List D}{w:World}{M:Nat->Nat->Prop}{es:List MapEntry}(h1:Hg w M ks (es.map (·.key)))(hk:∀ y∈ks,Comp kk key y)(hn:key∉ks){r:Option (Nat × Value)}(h:Found (Jg key) es 0 r):r=none:=by
 rcases h with h|⟨j,e,_,h5,h6,_⟩
 ·exact h.1
 ·obtain⟨y,h8,h9⟩:=qs6 h1 hk h5;have:=h9.1 h6;subst this;exact absurd (Bu h8) hn
theorem ju2 {t k e i r c:Nat}{kk:Nj}{es:Array MapEntry}[ht:TMap P t k e][hkk:TKey P k kk]{key y:D}{ks vs:List D}{w:World}{M:Nat->Nat->Prop}(h1:Hg w M ks (es.toList.map (·.key)))(h2:Hg w M vs (es.toList.map (·.val)))
 (hk:∀ y∈ks,Comp kk key y) (hc:Comp kk key key) (hi:ks[i]? =some key) (hf:∀ j,j<i->ks[j]? ≠some key) (hv:vs[i]? =some y) (ok:Bool):
 ∃ u,Gw w M y u/\∀ w',w'.heap[r]? =some (.map es c)->(Instr.lookup t (.map (some r)) (Jg key) ok).run P w'=.ok (if ok then .tuple #[u,.bool true] else u) w':=by
 obtain⟨u,h3,h4⟩:=h2.get hv;refine⟨u,h4,fun w' hw'=>?_⟩;obtain⟨q,h5,h6⟩:=jg5 (P:=P) (t:=k) (x:=key) w' es.toList (ka5 h1 hk);obtain⟨en,h7,h8,rfl⟩:=mj3 h1 hk hi hf h6;rw[Bp,h7]at h3;simp only[Ey,Bf]at h3;subst h3;simp only[Instr.lookup,Sem.run_bind,run_underlying (jc8 ht),Result.andThen_ok,je5 hw',Sem.run_pure,hc.check,h5]
theorem jr4 {t k e r c:Nat}{kk:Nj}{es:Array MapEntry}[ht:TMap P t k e][hkk:TKey P k kk]{key:D}{ks:List D}{w:World}{M:Nat->Nat->Prop}(h1:Hg w M ks (es.toList.map (·.key)))
 (hk:∀ y∈ks,Comp kk key y) (hc:Comp kk key key) (hn:key∉ks) {i:TypeInfo} {z:Value} (hi:P.info? e=some i) (hz:i.zero=some z) (ok:Bool):
 ∀ w',w'.heap[r]? =some (.map es c)->(Instr.lookup t (.map (some r)) (Jg key) ok).run P w'=.ok (if ok then .tuple #[z,.bool false] else z) w':=by
 intro w' hw';obtain⟨q,h5,h6⟩:=jg5 (P:=P) (t:=k) (x:=key) w' es.toList (ka5 h1 hk);have:=kt8 h1 hk hn h6;subst this;simp only[Instr.lookup,Sem.run_bind,run_underlying (jc8 ht),Result.andThen_ok,je5 hw',Sem.run_pure,hc.check,h5,jm8 hi hz]
end
section
variable {E:Set}{Q:Exit->Sd->Prop}{ops:Array Oper}{draw:Bool}{rest:Todo}{way:Jh}{ty:TypeId}{pos:String}{af:Array Edge}{gd:Option (Nat × Bool)}{dst:Option Tmp}
variable {env:List (Nat × V)}{H:List (Nat × Ob)}{gl:List (Nat × List D)}{d:Nat}
def ka6:Bool->V->Bool->V
 |true,v,b=>.tup [v,.d (.bool b)]
 |false,v,_=>v
theorem vg1 {S:Sd}{t k e n i:Nat}{kk:Nj}{x y:Operand}{key z:D}{ks vs:List D}{ok:Bool}[ht:TMap E.P t k e][hkk:TKey E.P k kk](hx:S.ev x=some (.map n))(hox:Cn x=true)(hl:look n S.H=some (.map ks vs))(hy:S.ev y=some (.d key))(hoy:Cn y=true)
 (hk:∀ y∈ks,Comp kk key y) (hc:Comp kk key key) (hi:ks[i]? =some key) (hf:∀ j,j<i->ks[j]? ≠some key) (hv:vs[i]? =some z):Quiet E S ⟨dst,.lookup t x y ok,ty,pos,af,gd⟩ (ka6 ok (.d z) true):=Quiet.mk fun β a w h=>by
 obtain⟨r,h1,h2⟩:=h.ev hx hox;obtain⟨r',es,c,h3,h4,h5,h6,hbn⟩:=h.obs n _ hl;rw[h1]at h3;cases h3;have hkey:a.eval y=Jg key:=hc.rep.1 _ (h.ev hy hoy);obtain⟨u,h7,h8⟩:=ju2 (P:=E.P) (t:=t) (r:=r) (c:=c) h5 h6 hk hc hi hf hv ok;refine⟨if ok then .tuple #[u,.bool true] else u,fun w' g=>?_,?_⟩
 ·have:=h8 w' (jb0 g h4);simp only[execOp,h2,hkey,Sem.run_bind,this,Result.andThen_ok,Sem.run_pure]
 ·cases ok
  ·exact h7
  ·exact⟨[u,.bool true],rfl,u,_,rfl,h7,_,_,rfl,rfl,rfl⟩
theorem vb1 {S:Sd}{t k e n:Nat}{kk:Nj}{x y:Operand}{key:D}{ks vs:List D}{ok:Bool}{zv:V}[ht:TMap E.P t k e][hkk:TKey E.P k kk][hz:Jp E.P e zv](hx:S.ev x=some (.map n))(hox:Cn x=true)(hl:look n S.H=some (.map ks vs))(hy:S.ev y=some (.d key))(hoy:Cn y=true)
 (hk:∀ y∈ks,Comp kk key y) (hc:Comp kk key key) (hn:key∉ks):Quiet E S ⟨dst,.lookup t x y ok,ty,pos,af,gd⟩ (ka6 ok zv false):=Quiet.mk fun β a w h=>by
 obtain⟨r,h1,h2⟩:=h.ev hx hox;obtain⟨r',es,c,h3,h4,h5,h6,hbn⟩:=h.obs n _ hl;rw[h1]at h3;cases h3;have hkey:a.eval y=Jg key:=hc.rep.1 _ (h.ev hy hoy);obtain⟨i,z,hi,hzi,hzr⟩:=kp3 hz;have h8:=jr4 (P:=E.P) (t:=t) (r:=r) (c:=c) h5 hk hc hn hi hzi ok;refine⟨if ok then .tuple #[z,.bool false] else z,fun w' g=>?_,?_⟩
 ·have:=h8 w' (jb0 g h4);simp only[execOp,h2,hkey,Sem.run_bind,this,Result.andThen_ok,Sem.run_pure]
 ·cases ok
  ·exact hzr
  ·exact⟨[z,.bool false],rfl,z,_,rfl,hzr,_,_,rfl,rfl,rfl⟩
theorem rt1 {S:Sd}{t k e i:Nat}{kk:Nj}{x y:Operand}{key z:D}{ks vs:List D}{ok:Bool}[ht:TMap E.P t k e][hkk:TKey E.P k kk](hx:S.ev x=some (.d (.map ks vs)))(hox:Cn x=true)(hy:S.ev y=some (.d key))(hoy:Cn y=true)
 (hk:∀ y∈ks,Comp kk key y) (hc:Comp kk key key) (hi:ks[i]? =some key) (hf:∀ j,j<i->ks[j]? ≠some key) (hv:vs[i]? =some z):Quiet E S ⟨dst,.lookup t x y ok,ty,pos,af,gd⟩ (ka6 ok (.d z) true):=Quiet.mk fun β a w h=>by
 obtain⟨r,es,c,h3,h4,_,h5,h6,_⟩:=h.ev hx hox;have hkey:a.eval y=Jg key:=hc.rep.1 _ (h.ev hy hoy);obtain⟨u,h7,h8⟩:=ju2 (P:=E.P) (t:=t) (r:=r) (c:=c) h5 h6 hk hc hi hf hv ok;refine⟨if ok then .tuple #[u,.bool true] else u,fun w' g=>?_,?_⟩
 ·have:=h8 w' (jb0 g h4);simp only[execOp,h3,hkey,Sem.run_bind,this,Result.andThen_ok,Sem.run_pure]
 ·cases ok
  ·exact h7
  ·exact⟨[u,.bool true],rfl,u,_,rfl,h7,_,_,rfl,rfl,rfl⟩
theorem re4 {S:Sd}{t k e:Nat}{kk:Nj}{x y:Operand}{key:D}{ks vs:List D}{ok:Bool}{zv:V}[ht:TMap E.P t k e][hkk:TKey E.P k kk][hz:Jp E.P e zv](hx:S.ev x=some (.d (.map ks vs)))(hox:Cn x=true)(hy:S.ev y=some (.d key))(hoy:Cn y=true)
 (hk:∀ y∈ks,Comp kk key y) (hc:Comp kk key key) (hn:key∉ks):Quiet E S ⟨dst,.lookup t x y ok,ty,pos,af,gd⟩ (ka6 ok zv false):=Quiet.mk fun β a w h=>by
 obtain⟨r,es,c,h3,h4,_,h5,h6,_⟩:=h.ev hx hox;have hkey:a.eval y=Jg key:=hc.rep.1 _ (h.ev hy hoy);obtain⟨i,z,hi,hzi,hzr⟩:=kp3 hz;have h8:=jr4 (P:=E.P) (t:=t) (r:=r) (c:=c) h5 hk hc hn hi hzi ok;refine⟨if ok then .tuple #[z,.bool false] else z,fun w' g=>?_,?_⟩
 ·have:=h8 w' (jb0 g h4);simp only[execOp,h3,hkey,Sem.run_bind,this,Result.andThen_ok,Sem.run_pure]
 ·cases ok
  ·exact hzr
  ·exact⟨[z,.bool false],rfl,z,_,rfl,hzr,_,_,rfl,rfl,rfl⟩
theorem mb1 {ks:List D}{key:D}(h:key∈ks):∃ i:Nat,ks[i]? =some key/\∀ j:Nat,j<i->ks[j]? ≠some key:=by
 obtain⟨i,hi,h1⟩:=Er.1 h;obtain⟨m,h2,h3⟩:=least (p:=fun i:Nat=>ks[i]? =some key) ⟨i,by rw[At hi,h1]⟩;exact⟨m,h2,fun j hj hk=>by have:=h3 j hk;omega⟩
theorem mb2 {t k e n:Nat}{kk:Nj}{x y:Operand}{key:D}{ks vs:List D}{ok:Bool}{zv:V}[ht:TMap E.P t k e][hkk:TKey E.P k kk][hz:Jp E.P e zv](hx:Sd.ev ⟨env,H,gl⟩ x=some (.map n))(hox:Cn x=true)(hl:look n H=some (.map ks vs))(hy:Sd.ev ⟨env,H,gl⟩ y=some (.d key))(hoy:Cn y=true)
 (hc:Comp kk key key) (hd:d<E.C.nt) (hg:Sd.gd ⟨env,H,gl⟩ ops ⟨some d,.lookup t x y ok,ty,pos,af,gd⟩=some true) (hw:way.known=false) (hk:∀ y∈ks,Comp kk key y) (hlen:vs.length=ks.length)
 (h1:∀ (i:Nat) z,ks[i]? =some key->vs[i]? =some z->(∀ j:Nat,j<i->ks[j]? ≠some key)->TR E draw ops Q rest ⟨(d,ka6 ok (.d z) true)::env,H,gl⟩)
 (h2:key∉ks->TR E draw ops Q rest ⟨(d,ka6 ok zv false)::env,H,gl⟩):TR E draw ops Q (.step ⟨some d,.lookup t x y ok,ty,pos,af,gd⟩ way rest) ⟨env,H,gl⟩:=by
 by_cases hm:key∈ks
 ·obtain⟨i,hi,hf⟩:=mb1 hm;have hlt:i<ks.length:=(Ay.1 hi).1;have hv:vs[i]? =some (vs[i]'(by omega)):=At (by omega);exact jl9 (vg1 (kk:=kk) hx hox hl hy hoy hk hc hi hf hv) rfl hd hg rfl hw (h1 i _ hi hv hf)
 ·exact jl9 (vb1 (kk:=kk) hx hox hl hy hoy hk hc hm) rfl hd hg rfl hw (h2 hm)
theorem qb8 {t k e:Nat}{kk:Nj}{x y:Operand}{key:D}{ks vs:List D}{ok:Bool}{zv:V}[ht:TMap E.P t k e][hkk:TKey E.P k kk][hz:Jp E.P e zv](hx:Sd.ev ⟨env,H,gl⟩ x=some (.d (.map ks vs)))(hox:Cn x=true)(hy:Sd.ev ⟨env,H,gl⟩ y=some (.d key))(hoy:Cn y=true)
 (hc:Comp kk key key) (hd:d<E.C.nt) (hg:Sd.gd ⟨env,H,gl⟩ ops ⟨some d,.lookup t x y ok,ty,pos,af,gd⟩=some true) (hw:way.known=false) (hk:∀ y∈ks,Comp kk key y) (hlen:vs.length=ks.length)
 (h1:∀ (i:Nat) z,ks[i]? =some key->vs[i]? =some z->(∀ j:Nat,j<i->ks[j]? ≠some key)->TR E draw ops Q rest ⟨(d,ka6 ok (.d z) true)::env,H,gl⟩)
 (h2:key∉ks->TR E draw ops Q rest ⟨(d,ka6 ok zv false)::env,H,gl⟩):TR E draw ops Q (.step ⟨some d,.lookup t x y ok,ty,pos,af,gd⟩ way rest) ⟨env,H,gl⟩:=by
 by_cases hm:key∈ks
 ·obtain⟨i,hi,hf⟩:=mb1 hm;have hlt:i<ks.length:=(Ay.1 hi).1;have hv:vs[i]? =some (vs[i]'(by omega)):=At (by omega);exact jl9 (rt1 (kk:=kk) hx hox hy hoy hk hc hi hf hv) rfl hd hg rfl hw (h1 i _ hi hv hf)
 ·exact jl9 (re4 (kk:=kk) hx hox hy hoy hk hc hm) rfl hd hg rfl hw (h2 hm)
theorem StB.Ww {C:Ctx}{S:Sd}{β:Nat->Hd}{a:Act}{w:World}(h:StB C β S a w){n r:Nat}{ob ob':Ob}(hl:look n S.H=some ob)(hob:ob'.mut=fun _=>True)(hom:∀ o,ob.mut o)(hnr:∀ e sz sh xs k,ob'≠.row e sz sh xs k)(hb':(β n).v=.map (some r)){o o':Obj}(ho:w.heap[r]? =some o)
 (hrep:Ku (w.putObj r o') (Mut C.M0 β ((n,ob')::S.H)) β ((n,ob')::S.H) (β n) ob'\/(Keeps w (Mut C.M0 β S.H) (w.putObj r o') (Mut C.M0 β ((n,ob')::S.H))->Ku (w.putObj r o') (Mut C.M0 β ((n,ob')::S.H)) β ((n,ob')::S.H) (β n) ob')) (hd:ob.deep=false:=by rfl) (hd':ob'.deep=false:=by rfl):StB C β {S with H:=(n,ob')::S.H} a (w.putObj r o'):=by
 have hbn:hb (β n).v=some r:=by rw[hb'];rfl
 have hH:∀ m e sz sh xs k,look m ((n,ob')::S.H)=some (.row e sz sh xs k)->∃ sh' xs',look m S.H=some (.row e sz sh' xs' k):=fun m e sz sh xs k hm=>by
  rw[z7]at hm;split at hm
  ·cases hm;exact absurd rfl (hnr _ _ _ _ _)
  ·exact⟨sh,xs,hm⟩
 refine h.turn hl (fun _ _=>rfl) rfl rfl rfl (by simp[World.putObj]) (fun k _ hk=>World.putObj_heap_other (fun e=>hk (by rw[hbn,e]))) (fun b h=>.inl h) (fun b' o' y h4 h5 _=>absurd (hom o') h5) (fun _ _ _ _ _=>hom _)
  (fun k t x v _=>Dp.keep k (fun _=>rfl) hH x v) (fun _=>rfl) (fun k m cs vs _ _=>Cv.keep k (fun _=>rfl) hH _ vs) (fun k=>?_) hd hd'
 rcases hrep with h|h
 ·exact h
 ·exact h k
theorem map_set {es:List MapEntry}{i:Nat}{e:MapEntry}(he:es[i]? =some e){u:Value}:(es.modify i fun x=>{x with key:=e.key,val:=u}).map (·.key)=es.map (·.key)/\(es.modify i fun x=>{x with key:=e.key,val:=u}).map (·.val)=(es.map (·.val)).set i u:=by
 have hi:=(Ay.1 he).1;have e1:=(Ay.1 he).2;constructor
 ·apply Fu;intro j;rw[Bp,Bp,List.getElem?_modify];split
  ·rename_i hij;subst hij;rw[he];rfl
  ·simp
 ·apply Fu;intro j;rw[Bp,List.getElem?_modify,List.getElem?_set];split
  ·rename_i hij;subst hij;rw[he,Ad (by simpa using hi)];rfl
  ·simp
theorem mj4 {S:Sd}{t k e n i:Nat}{kk:Nj}{x y z:Operand}{key u:D}{v:V}{ks vs:List D}[ht:TMap E.P t k e][hkk:TKey E.P k kk](hx:S.ev x=some (.map n))(hox:Cn x=true)(hl:look n S.H=some (.map ks vs))(hy:S.ev y=some (.d key))(hoy:Cn y=true)(hz:S.ev z=some v)(hoz:Cn z=true)(hu:ToD S.H v u)
 (hk:∀ y∈ks,Comp kk key y) (hc:Comp kk key key) (hi:ks[i]? =some key) (hf:∀ j,j<i->ks[j]? ≠some key):Turn E S ⟨none,.mapUpdate t x y z,ty,pos,af,gd⟩ {S with H:=(n,.map ks (vs.set i u))::S.H}:=Turn.mk fun β a w h=>by
 obtain⟨r,h1,h2⟩:=h.ev hx hox;obtain⟨r',es,c,h3,h4,h5,h6,hbn⟩:=h.obs n _ hl;rw[h1]at h3;cases h3;have hkey:a.eval y=Jg key:=hc.rep.1 _ (h.ev hy hoy);have hval:=hu.rep h (h.ev hz hoz);obtain⟨q,h7,h8⟩:=jg5 (P:=E.P) (t:=k) (x:=key) w es.toList (ka5 h5 hk);obtain⟨en,h9,h10,rfl⟩:=mj3 h5 hk hi hf h8;have hge:es[i]? =some en:=by simpa using h9
 refine⟨w.putObj r (.map (es.modify i fun x=>{x with key:=Jg key,val:=a.eval z}) c),?_,β,h.Ww hl rfl (fun _=>trivial) (fun _ _ _ _ _ h=>by cases h) h1 h4 (.inr fun kp=>⟨r,_,c,h1,World.putObj_heap_same (Br.1 h4).1,?_,?_,?_⟩)⟩
 ·simp only[execOp,h2,hkey,Instr.mapUpdate,Sem.run_bind,run_underlying (jc8 ht),Result.andThen_ok,je5 h4,hc.check,h7,hge,Ey,Option.getD_some,h10,hc.stays,jt7 _ h4,Sem.run_pure]
 ·have:=(map_set h9 (u:=a.eval z)).1;rw[h10]at this;rw[Array.toList_modify,this];exact Hg.keep kp _ _ h5
 ·have:=(map_set h9 (u:=a.eval z)).2;rw[h10]at this;rw[Array.toList_modify,this];exact(Hg.keep kp _ _ h6).set i (Gw.keep kp _ _ hval)
 ·rw[Array.toList_modify];exact hbn.modify i _ fun _=>rfl
theorem mb3 {S:Sd}{t k e n:Nat}{kk:Nj}{x y z:Operand}{key u:D}{v:V}{ks vs:List D}[ht:TMap E.P t k e][hkk:TKey E.P k kk](hx:S.ev x=some (.map n))(hox:Cn x=true)(hl:look n S.H=some (.map ks vs))(hy:S.ev y=some (.d key))(hoy:Cn y=true)(hz:S.ev z=some v)(hoz:Cn z=true)(hu:ToD S.H v u)
 (hk:∀ y∈ks,Comp kk key y) (hc:Comp kk key key) (hn:key∉ks):Turn E S ⟨none,.mapUpdate t x y z,ty,pos,af,gd⟩ {S with H:=(n,.map (ks++[key]) (vs++[u]))::S.H}:=Turn.mk fun β a w h=>by
 obtain⟨r,h1,h2⟩:=h.ev hx hox;obtain⟨r',es,c,h3,h4,h5,h6,hbn⟩:=h.obs n _ hl;rw[h1]at h3;cases h3;have hkr:=h.ev hy hoy;have hkey:a.eval y=Jg key:=hc.rep.1 _ hkr;have hval:=hu.rep h (h.ev hz hoz);obtain⟨q,h7,h8⟩:=jg5 (P:=E.P) (t:=k) (x:=key) w es.toList (ka5 h5 hk);have:=kt8 h5 hk hn h8;subst this;refine⟨w.putObj r (.map (es.push {key:=Jg key,val:=a.eval z,born:=c}) (c+1)),?_,β,h.Ww hl rfl (fun _=>trivial) (fun _ _ _ _ _ h=>by cases h) h1 h4 (.inr fun kp=>⟨r,_,c+1,h1,World.putObj_heap_same (Br.1 h4).1,?_,?_,?_⟩)⟩
 ·simp only[execOp,h2,hkey,Instr.mapUpdate,Sem.run_bind,run_underlying (jc8 ht),Result.andThen_ok,je5 h4,hc.check,h7,jt7 _ h4,Sem.run_pure]
 ·rw[Array.toList_push,As];exact(Hg.keep kp _ _ h5).append ⟨_,[],rfl,Gw.keep kp _ _ (hkey ▸ hkr),rfl⟩
 ·rw[Array.toList_push,As];exact(Hg.keep kp _ _ h6).append ⟨_,[],rfl,Gw.keep kp _ _ hval,rfl⟩
 ·rw[Array.toList_push];exact hbn.push rfl
theorem mb4 {t k e n:Nat}{kk:Nj}{x y z:Operand}{key u:D}{v:V}{ks vs:List D}[ht:TMap E.P t k e][hkk:TKey E.P k kk](hx:Sd.ev ⟨env,H,gl⟩ x=some (.map n))(hox:Cn x=true)(hl:look n H=some (.map ks vs))(hy:Sd.ev ⟨env,H,gl⟩ y=some (.d key))(hoy:Cn y=true)(hz:Sd.ev ⟨env,H,gl⟩ z=some v)(hoz:Cn z=true)(hu:ToD H v u)
 (hc:Comp kk key key) (hg:Sd.gd ⟨env,H,gl⟩ ops ⟨none,.mapUpdate t x y z,ty,pos,af,gd⟩=some true) (hw:Js draw way=true) (hk:∀ y∈ks,Comp kk key y)
 (h1:∀ i:Nat,ks[i]? =some key->(∀ j:Nat,j<i->ks[j]? ≠some key)->TR E draw ops Q rest ⟨env,(n,.map ks (vs.set i u))::H,gl⟩)
 (h2:key∉ks->TR E draw ops Q rest ⟨env,(n,.map (ks++[key]) (vs++[u]))::H,gl⟩):TR E draw ops Q (.step ⟨none,.mapUpdate t x y z,ty,pos,af,gd⟩ way rest) ⟨env,H,gl⟩:=by
 by_cases hm:key∈ks
 ·obtain⟨i,hi,hf⟩:=mb1 hm;exact km8 (mj4 (kk:=kk) hx hox hl hy hoy hz hoz hu hk hc hi hf) rfl hg rfl hw (h1 i hi hf)
 ·exact km8 (mb3 (kk:=kk) hx hox hl hy hoy hz hoz hu hk hc hm) rfl hg rfl hw (h2 hm)
theorem StB.newMap {C:Ctx}{S:Sd}{β:Nat->Hd}{a:Act}{w:World}(h:StB C β S a w){n:Nat}(hn:S.fresh n=true):StB C (upd β n (.map (some w.heap.size))) {S with H:=(n,.map [] [])::S.H} a (w.alloc (.map #[] 0)):=by
 refine h.newObj hn (.map (some w.heap.size)) (Grows.alloc w _) (fun b hb'=>?_) (.map [] []) fun k=>⟨_,#[],0,rfl,heap_alloc_new w _,rfl,rfl,Born.nil 0⟩;simp only[hb,Bf]at hb';omega
theorem qs7 {S:Sd}{n t:Nat}(hn:S.fresh n=true):Grow E S ⟨some d,.makeMap t none,ty,pos,af,gd⟩ {S with H:=(n,.map [] [])::S.H} (.map n):=Grow.mk fun β a w h=>by
 refine⟨.map (some w.heap.size),_,_,?_,Grows.alloc w _,h.newMap hn,⟨w.heap.size,jx0 _ _ _,rfl⟩⟩;simp[execOp,run_makeMap]
theorem qs8 (n:Nat){t:Nat}(hn:Sd.fresh ⟨env,H,gl⟩ n=true)(hd:d<E.C.nt)(hg:Sd.gd ⟨env,H,gl⟩ ops ⟨some d,.makeMap t none,ty,pos,af,gd⟩=some true)(hw:way.loud=true)
 (h:TR E draw ops Q rest ⟨(d,.map n)::env,(n,.map [] [])::H,gl⟩):TR E draw ops Q (.step ⟨some d,.makeMap t none,ty,pos,af,gd⟩ way rest) ⟨env,H,gl⟩:=jo7 (qs7 hn) rfl hd hg rfl hw h
end
end
end Go.Proofs.YtklklgfpkpglgaaGreatDoor
