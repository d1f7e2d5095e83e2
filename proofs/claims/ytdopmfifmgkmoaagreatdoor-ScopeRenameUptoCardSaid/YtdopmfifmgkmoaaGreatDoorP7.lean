/- Parts: D16, D17. -/
import Derived.Test.YtdopmfifmgkmoaaGreatDoorP6
set_option linter.all false
set_option maxRecDepth 100000
set_option maxHeartbeats 16000000
namespace Go.Proofs.YtdopmfifmgkmoaaGreatDoor
open Go.RowKit
section
inductive Ox where
 |int (k:IntKind)
 |str
 |agg (ls:List Nat)
def rg9 (P:Program)(t:Nat):Ox->Bool
 |.int k=>rd6 P t k
 |.str=>rd7 P t
 |.agg ls=>rm7 P t ls && rd5 P t ls.length
def rm9 (P:Program)(t k e:Nat):Bool:=match P.underlying t with
 |some (.map k' e')=>k' == k && e' == e
 |_=>false
class TMap (P:Program)(t:Nat)(k e:outParam Nat):Prop where
 ok:rm9 P t k e=true
class TKey (P:Program)(t:Nat)(kk:outParam Ox):Prop where
 ok:rg9 P t kk=true
def ku5:List Value->List D->Bool
 |[],[]=>true
 |u::us,x::xs=>(match u,x with
  |.int k n,.int k' n'=>decide (k=k') && decide (n=n')
  |.bool b,.bool b'=>b == b'
  |.string t,.str t'=>t.size == 0 && t'.size == 0
  |.slice none 0 0,.list _ []=>true
  |.pointer none,.raw (.pointer none)=>true
  |.map none,.raw (.map none)=>true
  |.nilFunc,.raw .nilFunc=>true
  |_,_=>false) && ku5 us xs
 |_,_=>false
def qk3 (P:Program)(t:Nat)(v:V):Bool:=match P.info? t with
 |some i=>(match i.zero with
  |some (.agg cs)=>(match v with|.d (.agg ds)=>ku5 cs.toList ds|_=>false)
  |some z=>jr2 z v
  |none=>false)
 |none=>false
class Om (P:Program)(t:Nat)(v:outParam V):Prop where
 ok:qk3 P t v=true
theorem jr4 {w:World}{M:Nat->Nat->Prop}:∀ {us:List Value} {xs:List D},ku5 us xs=true->Dv w M xs us
 |[],[],_=>rfl
 |u::us,x::xs,h=>by
  simp only[ku5,Ab]at h;obtain⟨h1,h2⟩:=h;refine⟨u,us,rfl,?_,?_,jr4 h2⟩
  ·split at h1<;>first|rfl|cases h1
  ·split at h1
   ·simp only[Ab,Al]at h1;obtain⟨rfl,rfl⟩:=h1;rfl
   ·simp only[Eb]at h1;subst h1;rfl
   ·simp only[Ab,Eb]at h1;rw[mb5 h1.1 h1.2];rfl
   ·exact⟨none,0,[],rfl,As _,Ak _,fun _=>rfl,rfl,Reads.nil _ _ _⟩
   ·exact⟨rfl,rfl⟩
   ·exact⟨rfl,rfl⟩
   ·exact⟨rfl,rfl⟩
   ·cases h1
 |[],_::_,h=>by simp[ku5]at h
 |_::_,[],h=>by simp[ku5]at h
theorem mb8 {P:Program}{t:Nat}{v:V}(h:Om P t v):∃ i z,P.info? t=some i/\i.zero=some z/\∀ {w:World} {M:Nat->Nat->Prop} {β:Nat->Hd} {H:List (Nat × Ob)},Dw w M β H v z:=by
 have:=h.ok;unfold qk3 at this;cases hi:P.info? t with
 |none=>rw[hi]at this;cases this
 |some i=>
  rw[hi]at this;dsimp only at this;cases hz:i.zero with
  |none=>rw[hz]at this;cases this
  |some z=>
   rw[hz]at this;refine⟨i,z,rfl,hz,?_⟩;intro w M β H;cases z
   case agg cs=>
    dsimp only at this;split at this
    ·exact⟨cs.toList,by simp,jr4 this⟩
    ·cases this
   all_goals exact jg5 this
inductive Comp:Ox->D->D->Prop
 |int (k:IntKind) (a b:Int):Comp (.int k) (.int k a) (.int k b)
 |str (a b:ByteArray):Comp .str (.str a) (.str b)
 |agg {ls:List Nat} {ds es:List D} {p:Prop} (h:EqC ls ds es p):Comp (.agg ls) (.agg ds) (.agg es)
def Js:D->Value
 |.agg ds=>.agg (ds.map Gz).toArray
 |x=>Gz x
theorem EqC.iff {ls:List Nat}{ds es:List D}{p:Prop}(h:EqC ls ds es p):p↔es.map Gz=ds.map Gz:=by
 induction h with
 |nil=>simp
 |bool _ ih=>simp[ih,Gz,eq_comm]
 |@int k a b ls ds es p _ ih=>simp[ih,Gz,eq_comm]
 |str _ ih=>simp[ih,Gz,eq_comm]
theorem EqC.inj {ls:List Nat}{ds es:List D}{p:Prop}(h:EqC ls ds es p):es.map Gz=ds.map Gz↔es=ds:=by
 induction h with
 |nil=>simp
 |bool _ ih=>simp[ih,Gz]
 |@int k a b ls ds es p _ ih=>simp[ih,Gz]
 |str _ ih=>simp[ih,Gz]
theorem Comp.rep {kk:Ox}{x y:D}(h:Comp kk x y){w:World}{M:Nat->Nat->Prop}:(∀ u,Gd w M x u->u=Js x)/\(∀ u,Gd w M y u->u=Js y):=by
 cases h with
 |int=>exact⟨fun u h=>h,fun u h=>h⟩
 |str=>exact⟨fun u h=>h,fun u h=>h⟩
 |agg h=>
  constructor
  ·rintro u ⟨vs,rfl,h1⟩;rw[h.rep.1 vs h1];rfl
  ·rintro u ⟨vs,rfl,h1⟩;rw[h.rep.2 vs h1];rfl
theorem Comp.inj {kk:Ox}{x y:D}(h:Comp kk x y):Js y=Js x↔y=x:=by
 cases h with
 |int=>simp[Js,Gz]
 |str=>simp[Js,Gz]
 |agg h=>simp only[Js,Value.agg.injEq,D.agg.injEq];rw[<-h.inj];exact⟨fun e=>by simpa using congrArg Array.toList e,fun e=>by rw[e]⟩
section
variable {P:Program}
theorem qy0 (a b:ByteArray):(a == b)=true↔a=b:=by
 cases a;cases b;show ByteArray.beq _ _=true↔_;unfold ByteArray.beq;simp
theorem qk4 (a:ByteArray):(a == a)=true:=(qy0 a a).2 rfl
def Found (u:Value)(es:List MapEntry)(i:Nat)(r:Option (Nat × Value)):Prop:=
 (r=none/\∀ e∈es,e.key≠u)\/∃ j e,r=some (i+j,e.val)/\es[j]? =some e/\e.key=u/\∀ j' e',j'<j->es[j']? =some e'->e'.key≠u
theorem Found.cons {u:Value}{e:MapEntry}{es:List MapEntry}{i:Nat}{r:Option (Nat × Value)}(h:Found u es (i+1) r)(hne:e.key≠u):Found u (e::es) i r:=by
 rcases h with ⟨rfl,h⟩|⟨j,e',rfl,h1,h2,h3⟩
 ·exact .inl ⟨rfl,fun x hx=>(Bf.1 hx).elim (fun e=>e ▸ hne) (h x)⟩
 ·refine .inr ⟨j+1,e',(by rw[show i+1+j=i+(j+1) by omega]),h1,h2,fun j' x hj hx=>?_⟩;cases j' with
  |zero=>simp at hx;subst hx;exact hne
  |succ j'=>exact h3 j' x (by omega) (by simpa using hx)
theorem ju1 {d:TypeDesc}{u:Value}:∀ (es:List MapEntry) (i:Nat),(∀ e∈es,∃ b,(b=true↔e.key=u)/\Instr.sameNow d u e.key=some b)->∃ r,Instr.findNow d u es i=some r/\Found u es i r
 |[],i,_=>⟨none,rfl,.inl ⟨rfl,fun e h=>by cases h⟩⟩
 |e::es,i,h=>by
  obtain⟨b,h1,h2⟩:=h e Bi;cases b with
  |true=>exact⟨some (i,e.val),by simp[Instr.findNow,h2],.inr ⟨0,e,rfl,rfl,h1.1 rfl,fun j' e' hj=>by omega⟩⟩
  |false=>
   obtain⟨r,h3,h4⟩:=ju1 es (i+1) (fun x hx=>h x (Bk _ hx));exact⟨r,by simp[Instr.findNow,h2,h3],h4.cons (fun e=>by have:=h1.2 e;cases this)⟩
theorem js1 {t:Nat}{u:Value}(w:World):∀ (es:List MapEntry) (i:Nat),(∀ e∈es,∃ b,(b=true↔e.key=u)/\∀ w,(Op.equal t u e.key).run P w=.ok b w)->∃ r,(Instr.findAsking t u es i).run P w=.ok r w/\Found u es i r
 |[],i,_=>⟨none,rfl,.inl ⟨rfl,fun e h=>by cases h⟩⟩
 |e::es,i,h=>by
  obtain⟨b,h1,h2⟩:=h e Bi;cases b with
  |true=>exact⟨some (i,e.val),by unfold Instr.findAsking;rw[Sem.run_bind,h2 w];rfl,.inr ⟨0,e,rfl,rfl,h1.1 rfl,fun j' e' hj=>by omega⟩⟩
  |false=>
   obtain⟨r,h3,h4⟩:=js1 w es (i+1) (fun x hx=>h x (Bk _ hx));exact⟨r,by unfold Instr.findAsking;rw[Sem.run_bind,h2 w];exact h3,h4.cons (fun e=>by have:=h1.2 e;cases this)⟩
theorem jf7 {t:Nat}{kk:Ox}[hk:TKey P t kk]{x:D}(w:World)(es:List MapEntry)(h:∀ e∈es,∃ y,Comp kk x y/\e.key=Js y):∃ r,(Instr.findKey t (Js x) es).run P w=.ok r w/\Found (Js x) es 0 r:=by
 have hok:=hk.ok;cases kk with
 |int k=>
  have hd:=ji0 (P:=P) (t:=t) ⟨hok⟩;obtain⟨r,h4,h5⟩:=ju1 (d:=.int k) (u:=Js x) es 0 fun e he=>by
   obtain⟨y,c,hy⟩:=h e he;rw[hy,c.inj];cases c with
   |int k a b=>exact⟨a == b,by rw[Eb,D.int.injEq];exact⟨fun e=>⟨rfl,e.symm⟩,fun e=>e.2.symm⟩,by show(if k=k then some (a == b) else none)=_;rw[Ae rfl]⟩
  exact⟨r,by simp[Instr.findKey,run_underlying hd,h4],h5⟩
 |str=>
  have hd:=ji1 (P:=P) (t:=t) ⟨hok⟩;obtain⟨r,h4,h5⟩:=ju1 (d:=.string) (u:=Js x) es 0 fun e he=>by
   obtain⟨y,c,hy⟩:=h e he;rw[hy,c.inj];cases c with
   |str a b=>exact⟨a == b,by rw[qy0,D.str.injEq];exact eq_comm,rfl⟩
  exact⟨r,by simp[Instr.findKey,run_underlying hd,h4],h5⟩
 |agg ls=>
  simp only[rg9,Ab]at hok;obtain⟨d,i,hd,hd',_,_⟩:=jo8 (P:=P) (t:=t) ⟨hok.2⟩;obtain⟨r,h4,h5⟩:=js1 (P:=P) (t:=t) (u:=Js x) w es 0 fun e he=>by
   obtain⟨y,c,hy⟩:=h e he;rw[hy,c.inj];cases c with
   |agg c=>
    obtain⟨b,h1,h2⟩:=qx9 (hs:=⟨hok.2⟩) ⟨hok.1⟩ c;refine⟨b,?_,h2⟩;rw[h1,c.iff,c.inj];simp
  refine⟨r,?_,h5⟩;cases es with
  |nil=>
   have:r=none:=by
    rcases h5 with h5|⟨j,e,_,h5,_⟩
    ·exact h5.1
    ·simp at h5
   subst this;simp[Instr.findKey,run_underlying hd,Instr.findNow]
  |cons e es=>
   have hn:Instr.findNow d (Js x) (e::es) 0=none:=by
    have:Instr.sameNow d (Js x) e.key=none:=by rcases hd' with ⟨fs,rfl⟩|⟨n,el,rfl⟩<;>rfl
    simp[Instr.findNow,this]
   simp[Instr.findKey,run_underlying hd,hn,h4]
theorem mu6:∀ (d D:Nat) (t:TypeId) (ls:List Nat),d<=D->leaves P d t=some ls->∀ (i:TypeInfo),P.info? t=some i->i.size=ls.length->∀ (ds es:List Go.Proofs.YtdopmfifmgkmoaaGreatDoor.D) (p:Prop),EqC ls ds es p->∀ (pre post:List Value) (off:Nat),pre.length=off->
 ∃ a,(∀ w,(part t (pre++ds.map Gz++post).toArray off).run P w=.ok a w)/\(∀ em w,(Instr.checkKey em D t a).run P w=.ok () w)/\((∃ fs,P.underlying t=some (.struct fs))->a=.agg (ds.map Gz).toArray):=by
 intro d
 induction d with
 |zero=>intro D t ls _ h;simp[leaves]at h
 |succ d ih=>
  intro D t ls hD h i hi hn ds es p hE pre post off ho;obtain⟨D,rfl⟩:∃ D',D=D'+1:=⟨D - 1,by omega⟩;obtain⟨hl1,hl2⟩:=hE.length;have get:∀ (v:Value) (l:List Value),l=[v]->(pre++l++post)[off]? =some v:=fun v l h2=>by subst ho;subst h2;simp
  unfold leaves at h;split at h
  ·rename_i hu;cases h;obtain⟨x,y,rfl,rfl,rfl⟩:=hE.inv0;exact⟨_,fun w=>je7 hu (by simp) (by simp) (get (.bool x) _ rfl) w,fun em w=>by simp[Instr.checkKey,run_underlying hu],fun⟨fs,hf⟩=>by rw[hu]at hf;cases hf⟩
  ·rename_i k hu;cases h;obtain⟨k',x,y,rfl,rfl,rfl⟩:=hE.inv1;exact⟨_,fun w=>je7 hu (by simp) (by simp) (get (.int k' x) _ rfl) w,fun em w=>by simp[Instr.checkKey,run_underlying hu],fun⟨fs,hf⟩=>by rw[hu]at hf;cases hf⟩
  ·rename_i hu;cases h;obtain⟨x,y,rfl,rfl,rfl⟩:=hE.inv2;exact⟨_,fun w=>je7 hu (by simp) (by simp) (get (.string x) _ rfl) w,fun em w=>by simp[Instr.checkKey,run_underlying hu],fun⟨fs,hf⟩=>by rw[hu]at hf;cases hf⟩
  ·rename_i fs hu;split at h
   ·cases h
   ·rename_i hst;have fields:∀ (em:Bool) (fl:List Field) (off:Nat) (ls:List Nat),ju0 P (leaves P d) off fl=some ls->∀ (ds es:List Go.Proofs.YtdopmfifmgkmoaaGreatDoor.D) (p:Prop),EqC ls ds es p->∀ (pre:List Value),pre.length=off->
     ∀ w,(forIn fl PUnit.unit fun f _=>if f.name≠ "_" then (do Instr.checkKey em D f.type (<-part f.type (pre++ds.map Gz).toArray f.offset);pure (ForInStep.yield PUnit.unit)) else pure (ForInStep.yield PUnit.unit):Sem PUnit).run P w=.ok PUnit.unit w:=by
     intro em fl
     induction fl with
     |nil=>intros;rfl
     |cons f fl ih2=>
      intro off ls h ds es p hE pre ho w;simp only[ju0]at h;split at h
      ·cases h
      ·rename_i hf;simp only[Bo,Eb,bne_iff_ne,ne_eq,not_or,Bv]at hf;split at h
       ·rename_i l i' hl hi';split at h
        ·rename_i hsz;simp only[Eb]at hsz;obtain⟨ls',h',rfl⟩:=Option.map_eq_some_iff.1 h;obtain⟨d1,d2,e1,e2,p1,p2,rfl,rfl,h1,h2,rfl⟩:=hE.split l;obtain⟨q1,q2⟩:=h1.length;obtain⟨a,k1,k2,_⟩:=ih D f.type l (by omega) hl i' hi' hsz d1 e1 p1 h1 pre (d2.map Gz) off ho;have k5:=ih2 (off+l.length) ls' h' d2 e2 p2 h2 (pre++d1.map Gz) (by simp;omega) w;have e1':(pre++(d1++d2).map Gz)=pre++d1.map Gz++d2.map Gz:=by simp
         rw[e1'];simp only[List.forIn_cons,hf.1,ne_eq,not_false_eq_true,if_true,hf.2,Sem.run_bind,k1,k2,Result.andThen_ok,Sem.run_pure];exact k5
        ·cases h
       ·cases h
    refine⟨.agg (ds.map Gz).toArray,fun w=>ku4 hu hi ho (by simp;omega) w,fun em w=>?_,fun _=>rfl⟩;have:=fields em fs.toList 0 ls h ds es p hE [] rfl w;simp only[Ad]at this;simp only[Instr.checkKey,Sem.run_bind,run_underlying hu,Result.andThen_ok,<-Array.forIn_toList];rw[this];rfl
  ·cases h
theorem mb9 (n:Nat){t:Nat}{k k':IntKind}{a:Int}(hu:P.underlying t=some (.int k))(em:Bool)(w:World):(Instr.checkKey em (n+1) t (.int k' a)).run P w=.ok () w:=by simp[Instr.checkKey,run_underlying hu]
theorem mc0 (n:Nat){t:Nat}{a:ByteArray}(hu:P.underlying t=some .string)(em:Bool)(w:World):(Instr.checkKey em (n+1) t (.string a)).run P w=.ok () w:=by simp[Instr.checkKey,run_underlying hu]
theorem Comp.check {t:Nat}{kk:Ox}[hk:TKey P t kk]{x y:D}(h:Comp kk x y)(em:Bool)(w:World):(Instr.checkKey em 10000 t (Js x)).run P w=.ok () w:=by
 have hok:=hk.ok;cases h with
 |int k a b=>exact mb9 9999 (ji0 ⟨hok⟩) em w
 |str a b=>exact mc0 9999 (ji1 ⟨hok⟩) em w
 |@agg ls ds es p h=>
  simp only[rg9,Ab]at hok;have h1:=hok.1;unfold rm7 at h1;simp only[Ab,Eb,By]at h1;obtain⟨⟨h2,h3⟩,h4⟩:=h1;obtain⟨d,i,hu,hd,hi,hsz⟩:=jo8 (P:=P) (t:=t) ⟨hok.2⟩;obtain⟨a,_,k3,k5⟩:=mu6 8 10000 t ls (by omega) h3 i hi hsz ds es p h [] [] 0 rfl;have e:=k5 (by
   split at h2
   ·rename_i fs hu';exact⟨fs,hu'⟩
   ·cases h2)
  subst e;exact k3 em w
theorem ku6 (n:Nat){ls:List Nat}{ds es:List D}{p:Prop}(h:EqC ls ds es p):(((ds.map Gz).zip (ds.map Gz)).all fun(x,y)=>Instr.sameBits n x y)=true:=by
 induction h with
 |nil=>rfl
 |bool _ ih=>simp only[Am,List.zip_cons_cons,Ei,ih,Bn];cases n<;>simp[Gz,Instr.sameBits]
 |int _ ih=>simp only[Am,List.zip_cons_cons,Ei,ih,Bn];cases n<;>simp[Gz,Instr.sameBits]
 |str _ ih=>simp only[Am,List.zip_cons_cons,Ei,ih,Bn];cases n<;>simp[Gz,Instr.sameBits,qk4]
theorem Comp.stays {kk:Ox}{x y:D}(h:Comp kk x y)(w:World):(Instr.keyThatStays (Js x) (Js x)).run P w=.ok (Js x) w:=by
 have:Instr.sameBits 10000 (Js x) (Js x)=true:=by
  cases h with
  |int k a b=>simp[Js,Gz,Instr.sameBits]
  |str a b=>simp[Js,Gz,Instr.sameBits,qk4]
  |agg h=>
   have:=ku6 9999 h;simp only[Js,Instr.sameBits,BEq.rfl,Bc];exact this
 simp[Instr.keyThatStays,this]
theorem jg7 {t k e:Nat}(h:TMap P t k e):P.underlying t=some (.map k e):=by
 have:=h.ok;unfold rm9 at this;split at this
 ·rename_i k' e' hu;simp only[Ab,Eb]at this;obtain⟨rfl,rfl⟩:=this;exact hu
 ·cases this
end
end
section
section
variable {P:Program}
theorem Iq.mem {w:World}{M:Nat->Nat->Prop}{ks:List D}{us:List Value}(h:Iq w M ks us){u:Value}(hu:u∈us):∃ (i:Nat) (x:D),ks[i]? =some x/\us[i]? =some u/\Gd w M x u:=by
 obtain⟨i,hi,rfl⟩:=Er.1 hu;have hlen:=h.length;obtain⟨v,h1,h2⟩:=h.get (i:=i) (x:=ks[i]'(by omega)) (by simp);have:v=us[i]:=by rw[Be hi]at h1;exact(Option.some.inj h1).symm
 exact⟨i,_,Be (by omega),Be hi,this ▸ h2⟩
theorem jx2 {kk:Ox}{key:D}{ks:List D}{w:World}{M:Nat->Nat->Prop}{es:List MapEntry}(h1:Iq w M ks (es.map (·.key)))(hk:∀ y∈ks,Comp kk key y):∀ e∈es,∃ y,Comp kk key y/\e.key=Js y:=fun e he=>by
 obtain⟨i,x,h2,_,h4⟩:=h1.mem (List.mem_map_of_mem (f:=(·.key)) he);have hc:=hk x (Ek h2);exact⟨x,hc,hc.rep.2 _ h4⟩
theorem qk5 {kk:Ox}{key:D}{ks:List D}{w:World}{M:Nat->Nat->Prop}{es:List MapEntry}(h1:Iq w M ks (es.map (·.key)))(hk:∀ y∈ks,Comp kk key y){j:Nat}{e:MapEntry}(he:es[j]? =some e):∃ y,ks[j]? =some y/\(e.key=Js key↔y=key):=by
 have hlen:=h1.length;have hj:j<es.length:=(Bh.1 he).1;simp only[Aa]at hlen;obtain⟨v,h2,h3⟩:=h1.get (i:=j) (x:=ks[j]'(by omega)) (by simp);rw[Bx,he]at h2;simp only[Fl,Bm]at h2;have hc:=hk _ (Ar (l:=ks) (n:=j) (by omega));refine⟨_,Be (by omega),?_⟩;rw[h2,hc.rep.2 _ h3,hc.inj]
theorem jd8 {w:World}{r c:Nat}{es:Array MapEntry}(h:w.heap[r]? =some (.map es c)):(getObj r).run P w=.ok (.map es c) w:=by simp[getObj,Sem.run,h]
theorem jr5 {w:World}{r c:Nat}{es:Array MapEntry}(o:Obj)(h:w.heap[r]? =some (.map es c)):(setObj r o).run P w=.ok () (w.putObj r o):=by simp[setObj,Sem.run,h,World.putObj]
theorem js2 {t:TypeId}{i:TypeInfo}{z:Value}(hi:P.info? t=some i)(hz:i.zero=some z)(w:World):(zeroValue t).run P w=.ok z w:=by simp[zeroValue,typeInfo,hi,hz]
theorem mc1 {kk:Ox}{key:D}{ks:List D}{w:World}{M:Nat->Nat->Prop}{es:List MapEntry}(h1:Iq w M ks (es.map (·.key)))(hk:∀ y∈ks,Comp kk key y){i:Nat}(hi:ks[i]? =some key)(hf:∀ j,j<i->ks[j]? ≠some key){r:Option (Nat × Value)}(h:Found (Js key) es 0 r):
 ∃ e,es[i]? =some e/\e.key=Js key/\r=some (i,e.val):=by
 have hlen:=h1.length;simp only[Aa]at hlen;have hil:i<ks.length:=(Bh.1 hi).1;obtain⟨ei,hei⟩:∃ e,es[i]? =some e:=⟨_,Be (by omega)⟩;obtain⟨y,h2,h3⟩:=qk5 h1 hk hei;rw[hi]at h2;cases h2;have h4:=h3.2 rfl;rcases h with ⟨_,h5⟩|⟨j,e,rfl,h5,h6,h7⟩
 ·exact absurd h4 (h5 ei (Ek hei))
 ·obtain⟨z,h8,h9⟩:=qk5 h1 hk h5;have h10:=h9.1 h6;subst h10;have:i=j:=by
   rcases Nat.lt_trichotomy i j with hij|hij|hij
   ·exact absurd h4 (h7 i ei hij hei)
   ·exact hij
   ·exact absurd h8 (hf j hij)
  subst this;rw[hei]at h5;cases h5;exact⟨ei,hei,h4,by simp⟩
theorem kp7 {kk:Ox}{key:D}{ks:List D}{w:World}{M:Nat->Nat->Prop}{es:List MapEntry}(h1:Iq w M ks (es.map (·.key)))(hk:∀ y∈ks,Comp kk key y)(hn:key∉ks){r:Option (Nat × Value)}(h:Found (Js key) es 0 r):r=none:=by
 rcases h with h|⟨j,e,_,h5,h6,_⟩
 ·exact h.1
 ·obtain⟨y,h8,h9⟩:=qk5 h1 hk h5;have:=h9.1 h6;subst this;exact absurd (Ek h8) hn
theorem km1 {t k e i r c:Nat}{kk:Ox}{es:Array MapEntry}[ht:TMap P t k e][hkk:TKey P k kk]{key y:D}{ks vs:List D}{w:World}{M:Nat->Nat->Prop}(h1:Iq w M ks (es.toList.map (·.key)))(h2:Iq w M vs (es.toList.map (·.val)))
 (hk:∀ y∈ks,Comp kk key y) (hc:Comp kk key key) (hi:ks[i]? =some key) (hf:∀ j,j<i->ks[j]? ≠some key) (hv:vs[i]? =some y) (ok:Bool):
 ∃ u,Gd w M y u/\∀ w',w'.heap[r]? =some (.map es c)->(Instr.lookup t (.map (some r)) (Js key) ok).run P w'=.ok (if ok then .tuple #[u,.bool true] else u) w':=by
 obtain⟨u,h3,h4⟩:=h2.get hv;refine⟨u,h4,fun w' hw'=>?_⟩;obtain⟨q,h5,h6⟩:=jf7 (P:=P) (t:=k) (x:=key) w' es.toList (jx2 h1 hk);obtain⟨en,h7,h8,rfl⟩:=mc1 h1 hk hi hf h6;rw[Bx,h7]at h3;simp only[Fl,Bm]at h3;subst h3;simp only[Instr.lookup,Sem.run_bind,run_underlying (jg7 ht),Result.andThen_ok,jd8 hw',Sem.run_pure,hc.check,h5]
theorem kk2 {t k e r c:Nat}{kk:Ox}{es:Array MapEntry}[ht:TMap P t k e][hkk:TKey P k kk]{key:D}{ks:List D}{w:World}{M:Nat->Nat->Prop}(h1:Iq w M ks (es.toList.map (·.key)))
 (hk:∀ y∈ks,Comp kk key y) (hc:Comp kk key key) (hn:key∉ks) {i:TypeInfo} {z:Value} (hi:P.info? e=some i) (hz:i.zero=some z) (ok:Bool):
 ∀ w',w'.heap[r]? =some (.map es c)->(Instr.lookup t (.map (some r)) (Js key) ok).run P w'=.ok (if ok then .tuple #[z,.bool false] else z) w':=by
 intro w' hw';obtain⟨q,h5,h6⟩:=jf7 (P:=P) (t:=k) (x:=key) w' es.toList (jx2 h1 hk);have:=kp7 h1 hk hn h6;subst this;simp only[Instr.lookup,Sem.run_bind,run_underlying (jg7 ht),Result.andThen_ok,jd8 hw',Sem.run_pure,hc.check,h5,js2 hi hz]
end
section
variable {E:Set}{Q:Exit->Sd->Prop}{ops:Array Oper}{draw:Bool}{rest:Todo}{way:Kt}{ty:TypeId}{pos:String}{af:Array Edge}{gd:Option (Nat × Bool)}{dst:Option Tmp}
variable {env:List (Nat × V)}{H:List (Nat × Ob)}{gl:List (Nat × List D)}{d:Nat}
def qu3:Bool->V->Bool->V
 |true,v,b=>.tup [v,.d (.bool b)]
 |false,v,_=>v
theorem rq9 {S:Sd}{t k e n i:Nat}{kk:Ox}{x y:Operand}{key z:D}{ks vs:List D}{ok:Bool}[ht:TMap E.P t k e][hkk:TKey E.P k kk](hx:S.ev x=some (.map n))(hox:Cw x=true)(hl:look n S.H=some (.map ks vs))(hy:S.ev y=some (.d key))(hoy:Cw y=true)
 (hk:∀ y∈ks,Comp kk key y) (hc:Comp kk key key) (hi:ks[i]? =some key) (hf:∀ j,j<i->ks[j]? ≠some key) (hv:vs[i]? =some z):Quiet E S ⟨dst,.lookup t x y ok,ty,pos,af,gd⟩ (qu3 ok (.d z) true):=Quiet.mk fun β a w h=>by
 obtain⟨r,h1,h2⟩:=h.ev hx hox;obtain⟨r',es,c,h3,h4,h5,h6,hbn⟩:=h.obs n _ hl;rw[h1]at h3;cases h3;have hkey:a.eval y=Js key:=hc.rep.1 _ (h.ev hy hoy);obtain⟨u,h7,h8⟩:=km1 (P:=E.P) (t:=t) (r:=r) (c:=c) h5 h6 hk hc hi hf hv ok;refine⟨if ok then .tuple #[u,.bool true] else u,fun w' g=>?_,?_⟩
 ·have:=h8 w' (jh6 g h4);simp only[execOp,h2,hkey,Sem.run_bind,this,Result.andThen_ok,Sem.run_pure]
 ·cases ok
  ·exact h7
  ·exact⟨[u,.bool true],rfl,u,_,rfl,h7,_,_,rfl,rfl,rfl⟩
theorem rn0 {S:Sd}{t k e n:Nat}{kk:Ox}{x y:Operand}{key:D}{ks vs:List D}{ok:Bool}{zv:V}[ht:TMap E.P t k e][hkk:TKey E.P k kk][hz:Om E.P e zv](hx:S.ev x=some (.map n))(hox:Cw x=true)(hl:look n S.H=some (.map ks vs))(hy:S.ev y=some (.d key))(hoy:Cw y=true)
 (hk:∀ y∈ks,Comp kk key y) (hc:Comp kk key key) (hn:key∉ks):Quiet E S ⟨dst,.lookup t x y ok,ty,pos,af,gd⟩ (qu3 ok zv false):=Quiet.mk fun β a w h=>by
 obtain⟨r,h1,h2⟩:=h.ev hx hox;obtain⟨r',es,c,h3,h4,h5,h6,hbn⟩:=h.obs n _ hl;rw[h1]at h3;cases h3;have hkey:a.eval y=Js key:=hc.rep.1 _ (h.ev hy hoy);obtain⟨i,z,hi,hzi,hzr⟩:=mb8 hz;have h8:=kk2 (P:=E.P) (t:=t) (r:=r) (c:=c) h5 hk hc hn hi hzi ok;refine⟨if ok then .tuple #[z,.bool false] else z,fun w' g=>?_,?_⟩
 ·have:=h8 w' (jh6 g h4);simp only[execOp,h2,hkey,Sem.run_bind,this,Result.andThen_ok,Sem.run_pure]
 ·cases ok
  ·exact hzr
  ·exact⟨[z,.bool false],rfl,z,_,rfl,hzr,_,_,rfl,rfl,rfl⟩
theorem mo3 {ks:List D}{key:D}(h:key∈ks):∃ i:Nat,ks[i]? =some key/\∀ j:Nat,j<i->ks[j]? ≠some key:=by
 obtain⟨i,hi,h1⟩:=Er.1 h;obtain⟨m,h2,h3⟩:=least (p:=fun i:Nat=>ks[i]? =some key) ⟨i,by rw[Be hi,h1]⟩;exact⟨m,h2,fun j hj hk=>by have:=h3 j hk;omega⟩
theorem jc8 {t k e n:Nat}{kk:Ox}{x y:Operand}{key:D}{ks vs:List D}{ok:Bool}{zv:V}[ht:TMap E.P t k e][hkk:TKey E.P k kk][hz:Om E.P e zv](hx:Sd.ev ⟨env,H,gl⟩ x=some (.map n))(hox:Cw x=true)(hl:look n H=some (.map ks vs))(hy:Sd.ev ⟨env,H,gl⟩ y=some (.d key))(hoy:Cw y=true)
 (hc:Comp kk key key) (hd:d<E.C.nt) (hg:Sd.gd ⟨env,H,gl⟩ ops ⟨some d,.lookup t x y ok,ty,pos,af,gd⟩=some true) (hw:way.known=false) (hk:∀ y∈ks,Comp kk key y) (hlen:vs.length=ks.length)
 (h1:∀ (i:Nat) z,ks[i]? =some key->vs[i]? =some z->(∀ j:Nat,j<i->ks[j]? ≠some key)->TR E draw ops Q rest ⟨(d,qu3 ok (.d z) true)::env,H,gl⟩)
 (h2:key∉ks->TR E draw ops Q rest ⟨(d,qu3 ok zv false)::env,H,gl⟩):TR E draw ops Q (.step ⟨some d,.lookup t x y ok,ty,pos,af,gd⟩ way rest) ⟨env,H,gl⟩:=by
 by_cases hm:key∈ks
 ·obtain⟨i,hi,hf⟩:=mo3 hm;have hlt:i<ks.length:=(Bh.1 hi).1;have hv:vs[i]? =some (vs[i]'(by omega)):=Be (by omega);exact jq6 (rq9 (kk:=kk) hx hox hl hy hoy hk hc hi hf hv) rfl hd hg rfl hw (h1 i _ hi hv hf)
 ·exact jq6 (rn0 (kk:=kk) hx hox hl hy hoy hk hc hm) rfl hd hg rfl hw (h2 hm)
theorem StB.Xk {C:Ctx}{S:Sd}{β:Nat->Hd}{a:Act}{w:World}(h:StB C β S a w){n r:Nat}{ob ob':Ob}(hl:look n S.H=some ob)(hob:ob'.mut=fun _=>True)(hom:∀ o,ob.mut o)(hnr:∀ e sz sh xs k,ob'≠.row e sz sh xs k)(hb':(β n).v=.map (some r)){o o':Obj}(ho:w.heap[r]? =some o)
 (hrep:Ma (w.putObj r o') (Mut C.M0 β ((n,ob')::S.H)) β ((n,ob')::S.H) (β n) ob'\/(Keeps w (Mut C.M0 β S.H) (w.putObj r o') (Mut C.M0 β ((n,ob')::S.H))->Ma (w.putObj r o') (Mut C.M0 β ((n,ob')::S.H)) β ((n,ob')::S.H) (β n) ob')) (hd:ob.deep=false:=by rfl) (hd':ob'.deep=false:=by rfl):StB C β {S with H:=(n,ob')::S.H} a (w.putObj r o'):=by
 have hbn:hb (β n).v=some r:=by rw[hb'];rfl
 have hH:∀ m e sz sh xs k,look m ((n,ob')::S.H)=some (.row e sz sh xs k)->∃ sh' xs',look m S.H=some (.row e sz sh' xs' k):=fun m e sz sh xs k hm=>by
  rw[ja1]at hm;split at hm
  ·cases hm;exact absurd rfl (hnr _ _ _ _ _)
  ·exact⟨sh,xs,hm⟩
 refine h.turn hl (fun _ _=>rfl) rfl rfl rfl (by simp[World.putObj]) (fun k _ hk=>World.putObj_heap_other (fun e=>hk (by rw[hbn,e]))) (fun b h=>.inl h) (fun b' o' y h4 h5 _=>absurd (hom o') h5) (fun _ _ _ _ _=>hom _)
  (fun k t x v _=>Dw.keep k (fun _=>rfl) hH x v) (fun _=>rfl) (fun k m cs vs _ _=>Dc.keep k (fun _=>rfl) hH _ vs) (fun k=>?_) hd hd'
 rcases hrep with h|h
 ·exact h
 ·exact h k
theorem map_set {es:List MapEntry}{i:Nat}{e:MapEntry}(he:es[i]? =some e){u:Value}:(es.modify i fun x=>{x with key:=e.key,val:=u}).map (·.key)=es.map (·.key)/\(es.modify i fun x=>{x with key:=e.key,val:=u}).map (·.val)=(es.map (·.val)).set i u:=by
 have hi:=(Bh.1 he).1;have e1:=(Bh.1 he).2;constructor
 ·apply List.ext_getElem?;intro j;rw[Bx,Bx,List.getElem?_modify];split
  ·rename_i hij;subst hij;rw[he];rfl
  ·simp
 ·apply List.ext_getElem?;intro j;rw[Bx,List.getElem?_modify,List.getElem?_set];split
  ·rename_i hij;subst hij;rw[he,Ae (by simpa using hi)];rfl
  ·simp
theorem mc2 {S:Sd}{t k e n i:Nat}{kk:Ox}{x y z:Operand}{key u:D}{v:V}{ks vs:List D}[ht:TMap E.P t k e][hkk:TKey E.P k kk](hx:S.ev x=some (.map n))(hox:Cw x=true)(hl:look n S.H=some (.map ks vs))(hy:S.ev y=some (.d key))(hoy:Cw y=true)(hz:S.ev z=some v)(hoz:Cw z=true)(hu:ToD S.H v u)
 (hk:∀ y∈ks,Comp kk key y) (hc:Comp kk key key) (hi:ks[i]? =some key) (hf:∀ j,j<i->ks[j]? ≠some key):Turn E S ⟨none,.mapUpdate t x y z,ty,pos,af,gd⟩ {S with H:=(n,.map ks (vs.set i u))::S.H}:=Turn.mk fun β a w h=>by
 obtain⟨r,h1,h2⟩:=h.ev hx hox;obtain⟨r',es,c,h3,h4,h5,h6,hbn⟩:=h.obs n _ hl;rw[h1]at h3;cases h3;have hkey:a.eval y=Js key:=hc.rep.1 _ (h.ev hy hoy);have hval:=hu.rep h (h.ev hz hoz);obtain⟨q,h7,h8⟩:=jf7 (P:=E.P) (t:=k) (x:=key) w es.toList (jx2 h5 hk);obtain⟨en,h9,h10,rfl⟩:=mc1 h5 hk hi hf h8;have hge:es[i]? =some en:=by simpa using h9
 refine⟨w.putObj r (.map (es.modify i fun x=>{x with key:=Js key,val:=a.eval z}) c),?_,β,h.Xk hl rfl (fun _=>trivial) (fun _ _ _ _ _ h=>by cases h) h1 h4 (.inr fun kp=>⟨r,_,c,h1,World.putObj_heap_same (Bw.1 h4).1,?_,?_,?_⟩)⟩
 ·simp only[execOp,h2,hkey,Instr.mapUpdate,Sem.run_bind,run_underlying (jg7 ht),Result.andThen_ok,jd8 h4,hc.check,h7,hge,Fl,Option.getD_some,h10,hc.stays,jr5 _ h4,Sem.run_pure]
 ·have:=(map_set h9 (u:=a.eval z)).1;rw[h10]at this;rw[Array.toList_modify,this];exact Iq.keep kp _ _ h5
 ·have:=(map_set h9 (u:=a.eval z)).2;rw[h10]at this;rw[Array.toList_modify,this];exact(Iq.keep kp _ _ h6).set i (Gd.keep kp _ _ hval)
 ·intro en' hen';rw[Array.toList_modify]at hen';obtain⟨j,hj,rfl⟩:=Er.1 hen';rw[List.getElem_modify];have hj':j<es.toList.length:=by simpa using hj
  have:=hbn es.toList[j] (Ar hj');split
  ·exact this
  ·exact this
theorem ku7 {S:Sd}{t k e n:Nat}{kk:Ox}{x y z:Operand}{key u:D}{v:V}{ks vs:List D}[ht:TMap E.P t k e][hkk:TKey E.P k kk](hx:S.ev x=some (.map n))(hox:Cw x=true)(hl:look n S.H=some (.map ks vs))(hy:S.ev y=some (.d key))(hoy:Cw y=true)(hz:S.ev z=some v)(hoz:Cw z=true)(hu:ToD S.H v u)
 (hk:∀ y∈ks,Comp kk key y) (hc:Comp kk key key) (hn:key∉ks):Turn E S ⟨none,.mapUpdate t x y z,ty,pos,af,gd⟩ {S with H:=(n,.map (ks++[key]) (vs++[u]))::S.H}:=Turn.mk fun β a w h=>by
 obtain⟨r,h1,h2⟩:=h.ev hx hox;obtain⟨r',es,c,h3,h4,h5,h6,hbn⟩:=h.obs n _ hl;rw[h1]at h3;cases h3;have hkr:=h.ev hy hoy;have hkey:a.eval y=Js key:=hc.rep.1 _ hkr;have hval:=hu.rep h (h.ev hz hoz);obtain⟨q,h7,h8⟩:=jf7 (P:=E.P) (t:=k) (x:=key) w es.toList (jx2 h5 hk);have:=kp7 h5 hk hn h8;subst this;refine⟨w.putObj r (.map (es.push {key:=Js key,val:=a.eval z,born:=c}) (c+1)),?_,β,h.Xk hl rfl (fun _=>trivial) (fun _ _ _ _ _ h=>by cases h) h1 h4 (.inr fun kp=>⟨r,_,c+1,h1,World.putObj_heap_same (Bw.1 h4).1,?_,?_,?_⟩)⟩
 ·simp only[execOp,h2,hkey,Instr.mapUpdate,Sem.run_bind,run_underlying (jg7 ht),Result.andThen_ok,jd8 h4,hc.check,h7,jr5 _ h4,Sem.run_pure]
 ·rw[Array.toList_push,Ap];exact(Iq.keep kp _ _ h5).append ⟨_,[],rfl,Gd.keep kp _ _ (hkey ▸ hkr),rfl⟩
 ·rw[Array.toList_push,Ap];exact(Iq.keep kp _ _ h6).append ⟨_,[],rfl,Gd.keep kp _ _ hval,rfl⟩
 ·intro en' hen';rw[Array.toList_push]at hen';rcases Bu.1 hen' with hen'|hen'
  ·have:=hbn _ hen';omega
  ·rw[Em]at hen';subst hen';exact Nat.lt_succ_self c
theorem jc9 {t k e n:Nat}{kk:Ox}{x y z:Operand}{key u:D}{v:V}{ks vs:List D}[ht:TMap E.P t k e][hkk:TKey E.P k kk](hx:Sd.ev ⟨env,H,gl⟩ x=some (.map n))(hox:Cw x=true)(hl:look n H=some (.map ks vs))(hy:Sd.ev ⟨env,H,gl⟩ y=some (.d key))(hoy:Cw y=true)(hz:Sd.ev ⟨env,H,gl⟩ z=some v)(hoz:Cw z=true)(hu:ToD H v u)
 (hc:Comp kk key key) (hg:Sd.gd ⟨env,H,gl⟩ ops ⟨none,.mapUpdate t x y z,ty,pos,af,gd⟩=some true) (hw:Mr draw way=true) (hk:∀ y∈ks,Comp kk key y)
 (h1:∀ i:Nat,ks[i]? =some key->(∀ j:Nat,j<i->ks[j]? ≠some key)->TR E draw ops Q rest ⟨env,(n,.map ks (vs.set i u))::H,gl⟩)
 (h2:key∉ks->TR E draw ops Q rest ⟨env,(n,.map (ks++[key]) (vs++[u]))::H,gl⟩):TR E draw ops Q (.step ⟨none,.mapUpdate t x y z,ty,pos,af,gd⟩ way rest) ⟨env,H,gl⟩:=by
 by_cases hm:key∈ks
 ·obtain⟨i,hi,hf⟩:=mo3 hm;exact jy9 (mc2 (kk:=kk) hx hox hl hy hoy hz hoz hu hk hc hi hf) rfl hg rfl hw (h1 i hi hf)
 ·exact jy9 (ku7 (kk:=kk) hx hox hl hy hoy hz hoz hu hk hc hm) rfl hg rfl hw (h2 hm)
theorem StB.newMap {C:Ctx}{S:Sd}{β:Nat->Hd}{a:Act}{w:World}(h:StB C β S a w){n:Nat}(hn:S.fresh n=true):StB C (upd β n (.map (some w.heap.size))) {S with H:=(n,.map [] [])::S.H} a (w.alloc (.map #[] 0)):=by
 refine h.newObj hn (.map (some w.heap.size)) (Grows.alloc w _) (fun b hb'=>?_) (.map [] []) fun k=>⟨_,#[],0,rfl,heap_alloc_new w _,rfl,rfl,fun e h=>by cases h⟩;simp only[hb,Bm]at hb';omega
theorem qk6 {S:Sd}{n t:Nat}(hn:S.fresh n=true):Grow E S ⟨some d,.makeMap t none,ty,pos,af,gd⟩ {S with H:=(n,.map [] [])::S.H} (.map n):=Grow.mk fun β a w h=>by
 refine⟨.map (some w.heap.size),_,_,?_,Grows.alloc w _,h.newMap hn,⟨w.heap.size,mf0 _ _ _,rfl⟩⟩;simp[execOp,run_makeMap]
theorem qk7 (n:Nat){t:Nat}(hn:Sd.fresh ⟨env,H,gl⟩ n=true)(hd:d<E.C.nt)(hg:Sd.gd ⟨env,H,gl⟩ ops ⟨some d,.makeMap t none,ty,pos,af,gd⟩=some true)(hw:way.loud=true)
 (h:TR E draw ops Q rest ⟨(d,.map n)::env,(n,.map [] [])::H,gl⟩):TR E draw ops Q (.step ⟨some d,.makeMap t none,ty,pos,af,gd⟩ way rest) ⟨env,H,gl⟩:=jt1 (qk6 hn) rfl hd hg rfl hw h
end
end
end Go.Proofs.YtdopmfifmgkmoaaGreatDoor
