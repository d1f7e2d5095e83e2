/- Parts. -/
import Derived.Test.YtklklgfpkpglgaaGreatDoorQ4
set_option linter.all false
set_option maxRecDepth 100000
set_option maxHeartbeats 0
namespace Go.Proofs.YtklklgfpkpglgaaGreatDoor
open Go.RowKit
section
def rq3 (P:Program)(t:Nat):Bool:=(match P.underlying t with|some (.struct _)|some (.array _ _)=>false|some _=>true|none=>false) && (match P.info? t with|some i=>i.size == 1|none=>false)
def va2 (P:Program)(t n:Nat):Bool:=(match P.underlying t with|some (.struct _)|some (.array _ _)=>true|_=>false) && (match P.info? t with|some i=>i.size == n|none=>false)
def qu6 (P:Program)(s f off ft:Nat):Bool:=match P.underlying s with
 |some (.struct fs)=>(match fs[f]? with|some fd=>fd.offset == off && fd.type == ft && (match P.info? ft with|some i=>i.size != 0|none=>false)|none=>false)
 |_=>false
def qu7 (P:Program)(t e sz:Nat):Bool:=match P.underlying t with
 |some (.slice e')=>e' == e && (match P.info? e with|some i=>i.size == sz && decide (i.bytes<=1024) && (match i.zero with|some z=>z.cells.size == sz|none=>false)|none=>false) && decide (0<sz)
 |_=>false
def qu8 (P:Program)(t n e sz:Nat):Bool:=match P.underlying t with
 |some (.array n' e')=>n' == n && e' == e && (match P.info? e with|some i=>i.size == sz|none=>false) && decide (0<sz)
 |_=>false
def va3 (P:Program)(t:Nat)(k:IntKind):Bool:=match P.underlying t with|some (.int k')=>k' == k|_=>false
def va4 (P:Program)(t:Nat):Bool:=match P.underlying t with|some .string=>true|_=>false
class TCell (P:Program)(t:Nat):Prop where
 ok:rq3 P t=true
class TAgg (P:Program)(t:Nat)(n:outParam Nat):Prop where
 ok:va2 P t n=true
class aJ (P:Program)(s f:Nat)(off ft:outParam Nat):Prop where
 ok:qu6 P s f off ft=true
class aK (P:Program)(t:Nat)(e sz:outParam Nat):Prop where
 ok:qu7 P t e sz=true
class TArray (P:Program)(t:Nat)(n e sz:outParam Nat):Prop where
 ok:qu8 P t n e sz=true
class TInt (P:Program)(t:Nat)(k:outParam IntKind):Prop where
 ok:va3 P t k=true
class TStr (P:Program)(t:Nat):Prop where
 ok:va4 P t=true
section
variable {P:Program}
theorem ku2 {t:Nat}(h:TCell P t):∃ d i,P.underlying t=some d/\(∀ fs,d≠.struct fs)/\(∀ n e,d≠.array n e)/\P.info? t=some i/\i.size=1:=by
 have:=h.ok;unfold rq3 at this;simp only[Aa]at this;obtain⟨h1,h2⟩:=this;cases hi:P.info? t with
 |none=>rw[hi]at h2;cases h2
 |some i=>
  cases hu:P.underlying t with
  |none=>rw[hu]at h1;cases h1
  |some d=>
   rw[hi]at h2;rw[hu]at h1;refine⟨d,i,rfl,?_,?_,rfl,by simpa using h2⟩
   ·rintro fs rfl;simp at h1
   ·rintro n e rfl;simp at h1
theorem jq2 {t n:Nat}(h:TAgg P t n):∃ d i,P.underlying t=some d/\((∃ fs,d=.struct fs)\/(∃ n e,d=.array n e))/\P.info? t=some i/\i.size=n:=by
 have:=h.ok;unfold va2 at this;simp only[Aa]at this;obtain⟨h1,h2⟩:=this;cases hi:P.info? t with
 |none=>rw[hi]at h2;cases h2
 |some i=>
  cases hu:P.underlying t with
  |none=>rw[hu]at h1;cases h1
  |some d=>
   rw[hi]at h2;rw[hu]at h1;refine⟨d,i,rfl,?_,rfl,by simpa using h2⟩;cases d<;>simp at h1
   ·exact .inr ⟨_,_,rfl⟩
   ·exact .inl ⟨_,rfl⟩
theorem jn8 {s f off ft:Nat}(h:aJ P s f off ft):∃ fs fd i,P.underlying s=some (.struct fs)/\fs[f]? =some fd/\fd.offset=off/\fd.type=ft/\P.info? ft=some i/\i.size≠0:=by
 have:=h.ok;unfold qu6 at this;split at this
 ·rename_i fs hu;split at this
  ·rename_i fd hf;simp only[Aa,Ed]at this;obtain⟨⟨h1,h2⟩,h3⟩:=this;cases hi:P.info? ft with
   |none=>rw[hi]at h3;cases h3
   |some i=>exact⟨fs,fd,i,hu,hf,h1,h2,rfl,by rw[hi]at h3;simpa using h3⟩
  ·cases this
 ·cases this
theorem jg0 {t e sz:Nat}(h:aK P t e sz):∃ bytes,ve2 P t e sz bytes/\bytes<=1024:=by
 have:=h.ok;unfold qu7 at this;split at this
 ·rename_i e' hu;simp only[Aa,Ed,Ah]at this;obtain⟨⟨rfl,h2⟩,h3⟩:=this;cases hi:P.info? e' with
  |none=>rw[hi]at h2;cases h2
  |some i=>
   rw[hi]at h2;simp only[Aa,Ed,Ah]at h2;obtain⟨⟨h4,h5⟩,h6⟩:=h2;cases hz:i.zero with
   |none=>rw[hz]at h6;cases h6
   |some z=>exact⟨i.bytes,⟨i,z,hu,hi,hz,h4,rfl,by rw[hz]at h6;simpa using h6,h3⟩,h5⟩
 ·cases this
theorem g8 {t e sz:Nat}(h:aK P t e sz):∃ i,P.underlying t=some (.slice e)/\P.info? e=some i/\i.size=sz/\0<sz:=by
 obtain⟨b,⟨i,z,h1,h2,_,h4,_,_,h7⟩,_⟩:=jg0 h;exact⟨i,h1,h2,h4,h7⟩
theorem mq0 {t n e sz:Nat}(h:TArray P t n e sz):∃ i,P.underlying t=some (.array n e)/\P.info? e=some i/\i.size=sz/\0<sz:=by
 have:=h.ok;unfold qu8 at this;split at this
 ·rename_i n' e' hu;simp only[Aa,Ed,Ah]at this;obtain⟨⟨⟨rfl,rfl⟩,h2⟩,h3⟩:=this;cases hi:P.info? e' with
  |none=>rw[hi]at h2;cases h2
  |some i=>exact⟨i,hu,rfl,by rw[hi]at h2;simpa using h2,h3⟩
 ·cases this
theorem mj8 {t:Nat}{k:IntKind}(h:TInt P t k):P.underlying t=some (.int k):=by
 have:=h.ok;unfold va3 at this;split at this
 ·rename_i k' hu;rw[hu];simp at this;rw[this]
 ·cases this
theorem jy8 {t:Nat}(h:TStr P t):P.underlying t=some .string:=by
 have:=h.ok;unfold va4 at this;split at this
 ·assumption
 ·cases this
theorem jg4 (b o j:Nat):(⟨b,o,none⟩:Addr).add j=⟨b,o+j,none⟩:=by unfold Addr.add;split<;>simp_all
theorem ma9 {t:Nat}{d:TypeDesc}(hu:P.underlying t=some d)(h1:∀ fs,d≠.struct fs)(h2:∀ n e,d≠.array n e)(w:World):(isAgg t).run P w=.ok false w:=by
 unfold isAgg;simp only[Sem.run_bind,run_underlying hu,Result.andThen_ok];cases d<;>first|rfl|exact absurd rfl (h1 _)|exact absurd rfl (h2 _ _)
theorem kn9 {t:Nat}{d:TypeDesc}(hu:P.underlying t=some d)(h:(∃ fs,d=.struct fs)\/(∃ n e,d=.array n e))(w:World):(isAgg t).run P w=.ok true w:=by
 unfold isAgg;simp only[Sem.run_bind,run_underlying hu,Result.andThen_ok];rcases h with ⟨fs,rfl⟩|⟨n,e,rfl⟩<;>rfl
theorem jc1 {t:Nat}{i:TypeInfo}(hi:P.info? t=some i)(w:World):(sizeOf t).run P w=.ok i.size w:=by simp[sizeOf,typeInfo,hi]
theorem ju7 {t:Nat}(h:TCell P t){w:World}{b o:Nat}{v:Value}(hc:w.cell? ⟨b,o,none⟩=some v):(Instr.loadAt t (.pointer (some ⟨b,o,none⟩))).run P w=.ok v w:=by
 obtain⟨d,i,hu,h1,h2,_,_⟩:=ku2 h;simp[Instr.loadAt,Instr.sureAddr,loadVar,ma9 hu h1 h2,load,Sem.run,hc]
theorem kb8 {t n:Nat}(h:TAgg P t n){w:World}{b o:Nat}{vs:List Value}(hn:vs.length=n)(hc:∀ j v,vs[j]? =some v->w.cell? ⟨b,o+j,none⟩=some v):
 (Instr.loadAt t (.pointer (some ⟨b,o,none⟩))).run P w=.ok (.agg vs.toArray) w:=by
 obtain⟨d,i,hu,h1,hi,hs⟩:=jq2 h;have:=run_loadCells_list (P:=P) w ⟨b,o,none⟩ vs (λj v hj=>by rw[jg4];exact hc j v hj);simp[Instr.loadAt,Instr.sureAddr,loadVar,kn9 hu h1,jc1 hi,hs,<-hn,this]
end
inductive ToD (H:List (Nat × Ob)):V->D->Prop
 |d (x:D):ToD H (.d x) x
 |own {n k e sz:Nat} {xs:List D} (h:look n H=some (.row e sz true xs k)):ToD H (.own n k) (.list sz xs)
 |nils (sz:Nat):ToD H (.nils sz) (.list sz [])
inductive Nh (H:List (Nat × Ob)):List V->List D->Prop
 |nil:Nh H [] []
 |cons {v:V} {x:D} {vs:List V} {xs:List D} (h:ToD H v x) (t:Nh H vs xs):Nh H (v::vs) (x::xs)
inductive Cut {α:Type}:List α->Nat->Nat->List α->Prop
 |done (l:List α):Cut l 0 0 []
 |take {x:α} {l:List α} {m:Nat} {r:List α} (h:Cut l 0 m r):Cut (x::l) 0 (m+1) (x::r)
 |skip {x:α} {l:List α} {o m:Nat} {r:List α} (h:Cut l o m r):Cut (x::l) (o+1) m r
theorem Cut.eq {α:Type}{l r:List α}{o m:Nat}(h:Cut l o m r):r=(l.drop o).take m/\r.length=m:=by
 induction h with
 |done l=>simp
 |take h ih=>obtain⟨h1,h2⟩:=ih;simp only[Ew]at h1;simp[<-h1,h2]
 |skip h ih=>simpa using ih
theorem ToD.rep {C:Ctx}{β:Nat->Hd}{S:Sd}{a:Act}{w:World}(h:StB C β S a w){v:V}{x:D}(hd:ToD S.H v x){u:Value}(hu:Dc w (Mut C.M0 β S.H) β S.H v u):Gv w (Mut C.M0 β S.H) x u:=by
 cases hd with
 |d=>exact hu
 |@own n k e sz xs hl=>
  have he:u=(β n).v:=hu e sz true xs hl;subst he;obtain⟨ys,h1,h2⟩:=h.obs n _ hl;obtain⟨a',c,hv,h3,h4,h5⟩:=jd9 h1;refine⟨a',c,ys,hv,h3,h4,h5,h2,λj y hj=>?_⟩;rw[hv]at h1;obtain⟨b,o,e',_,hc⟩:=(Sl.Rm h1).rd j y hj;refine⟨b,o,e',?_,hc⟩;have hlt:j<xs.length * sz:=by rw[<-h1.1];exact(Ay.1 hj).1
  have ho:o=0:=by
   rcases h1.2 with ⟨hv',_⟩|⟨g,cap,cur,hv',_⟩<;>(simp only[Value.slice.injEq]at hv';rw[hv'.1]at e';cases e');rfl
  subst ho;rintro(hm|⟨m,ob,h6,h7,h8⟩)
  ·exact h.out n _ b _ hl (.inl (by rw[hv,e'];rfl)) hm
  ·by_cases hnm:m=n
   ·subst hnm;rw[hl]at h6;cases h6;rcases h8 with h8|h8
    ·cases h8
    ·omega
   ·exact h.apart m n b ob _ hnm h6 hl h7 (.inl (by rw[hv,e'];rfl))
 |nils sz=>
  have he:u=.slice none 0 0:=hu;subst he;exact⟨none,0,[],rfl,Ap _,Ak _,λ_=>rfl,rfl,Reads.nil _ _ _⟩
end
section
def D.scalar:D->Bool
 |.agg _=>false
 |_=>true
theorem Gv.aF {w:World}{M:Nat->Nat->Prop}{x:D}{v:Value}(h:Gv w M x v)(hs:x.scalar=true):v.oneCell'=true:=by
 cases x with
 |agg cs=>cases hs
 |int k n=>simp only[Gv]at h;subst h;rfl
 |bool b=>simp only[Gv]at h;subst h;rfl
 |str s=>simp only[Gv]at h;subst h;rfl
 |raw u=>exact h.1 ▸ h.2
 |nil k=>simp only[Gv]at h;subst h;rfl
 |list sz xs=>simp only[Gv]at h;obtain⟨_,_,_,rfl,_⟩:=h;rfl
 |ref cs off=>simp only[Gv]at h;obtain⟨_,_,_,rfl,_⟩:=h;rfl
 |clo fn f c=>simp only[Gv]at h;obtain⟨_,_,rfl,_⟩:=h;rfl
 |map ks vs=>simp only[Gv]at h;obtain⟨_,_,_,rfl,_⟩:=h;rfl
section
variable {E:Set}{S:Sd}{dst:Option Tmp}{ty:TypeId}{pos:String}{af:Array Edge}{gd:Option (Nat × Bool)}
theorem qu9 {x:Operand}{v:V}(hx:S.ev x=some v)(ho:Cm x=true):aH E S ⟨dst,.move x,ty,pos,af,gd⟩ v:=aH.mk λβ a w h=>
 ⟨a.eval x,λw' _=>rfl,h.ev hx ho⟩
theorem jy9 {x:Operand}{v:V}(hx:S.ev x=some v)(ho:Cm x=true):aH E S ⟨dst,.assign x,ty,pos,af,gd⟩ v:=aH.mk λβ a w h=>
 ⟨a.eval x,λw' _=>rfl,h.ev hx ho⟩
theorem vr2 {e sz:Nat}[aK E.P ty e sz]:aH E S ⟨dst,.assign (.const (.slice none 0 0)),ty,pos,af,gd⟩ (.nils sz):=aH.mk λβ a w h=>
 ⟨.slice none 0 0,λw' _=>rfl,rfl⟩
theorem mb0 {c x y:Operand}{v:V}(hc:S.ev c=some (.d (.bool true)))(hk:Cm c=true)(hx:S.ev x=some v)(ho:Cm x=true):aH E S ⟨dst,.pick c x y,ty,pos,af,gd⟩ v:=aH.mk λβ a w h=>by
 have h1:a.eval c=.bool true:=h.ev hc hk;exact⟨a.eval x,λw' _=>by simp[execOp,h1,asBool],h.ev hx ho⟩
theorem mb1 {c x y:Operand}{v:V}(hc:S.ev c=some (.d (.bool false)))(hk:Cm c=true)(hx:S.ev y=some v)(ho:Cm y=true):aH E S ⟨dst,.pick c x y,ty,pos,af,gd⟩ v:=aH.mk λβ a w h=>by
 have h1:a.eval c=.bool false:=h.ev hc hk;exact⟨a.eval y,λw' _=>by simp[execOp,h1,asBool],h.ev hx ho⟩
theorem StB.Ue {C:Ctx}{β:Nat->Hd}{a:Act}{w:World}(h:StB C β S a w){n off:Nat}{cs:List V}{x:Operand}(hx:S.ev x=some (.ptr n off))(hl:look n S.H=some (.box cs)):
 ∃ (b:Nat) (vs:List Value) (t:TypeId),(β n).v=.pointer (some ⟨b,0,none⟩)/\a.eval x=.pointer (some ⟨b,off,none⟩)/\w.heap[b]? =some (.cells vs.toArray t (0,0))/\Cs w (Mut C.M0 β S.H) β S.H cs vs:=by
 have hok:Cm x=true:=by
  cases x<;>first|rfl|skip
  simp only[Sd.ev,Bi]at hx;rename_i v;unfold ki2 at hx;split at hx<;>simp_all
 obtain⟨b,h1,h2⟩:=h.ev hx hok;obtain⟨b',vs,t,h3,h4,h5⟩:=h.obs n _ hl;rw[h1]at h3;cases h3;exact⟨b,vs,t,h1,h2,h4,h5⟩
theorem mb2 {w:World}{b:Nat}{vs:List Value}{t:TypeId}(h:w.heap[b]? =some (.cells vs.toArray t (0,0))){o:Nat}{v:Value}(hv:vs[o]? =some v):w.cell? ⟨b,o,none⟩=some v:=by
 simp[World.cell?,h,hv]
theorem jb1 {w w':World}(g:aG w w'){b:Nat}{o:Obj}(h:w.heap[b]? =some o):w'.heap[b]? =some o:=(g.block b (Bw.1 h).1).trans h
theorem js2 {t:Nat}{x:Operand}{n off:Nat}{cs:List V}{v:V}[ht:TCell E.P t](hx:S.ev x=some (.ptr n off))(hl:look n S.H=some (.box cs))(hc:cs[off]? =some v):Quiet E S ⟨dst,.load t x,ty,pos,af,gd⟩ v:=Quiet.mk λβ a w h=>by
 obtain⟨b,vs,t',h1,h2,h3,h4⟩:=h.Ue hx hl;obtain⟨u,h5,h6⟩:=h4.get hc;refine⟨u,λw' g=>?_,h6⟩;have:=ju7 ht (mb2 (jb1 g h3) h5);simp[execOp,h2,this]
theorem ju8 {t n off m:Nat}{x:Operand}{cs vs':List V}{ds:List D}[ht:TAgg E.P t m](hx:S.ev x=some (.ptr n off))(hl:look n S.H=some (.box cs))(hc:Cut cs off m vs')(hd:Nh S.H vs' ds)
 (hn:ds.all D.scalar=true):Quiet E S ⟨dst,.load t x,ty,pos,af,gd⟩ (.d (.agg ds)):=Quiet.mk λβ a w h=>by
 obtain⟨b,vs,t',h1,h2,h3,h4⟩:=h.Ue hx hl;obtain⟨h5,h6⟩:=hc.eq;have hlen:=h4.length;have hrep:∀ (k:Nat) (vs':List V) (ds:List D),Nh S.H vs' ds->(ds.all D.scalar=true)->(∀ i v,vs'[i]? =some v->cs[k+i]? =some v)->Dz w (Mut E.C.M0 β S.H) ds ((vs.drop k).take vs'.length):=by
  intro k vs' ds hd
  induction hd generalizing k with
  |nil=>intro _ _;simp[Dz]
  |@cons v x vs1 xs1 h7 h8 ih=>
   intro hn hcs;simp only[Ei,Aa]at hn;obtain⟨u,h9,h10⟩:=h4.get (hcs 0 v rfl);have h11:=h7.rep h h10;have h12:=ih (k+1) hn.2 (λi v hv=>by rw[show k+1+i=k+(i+1) by omega];exact hcs (i+1) v (by simpa using hv));have hk:k<vs.length:=(Ay.1 (by simpa using h9)).1;refine⟨u,(vs.drop (k+1)).take vs1.length,?_,?_,h11,h12⟩
   ·rw[Bk hk,Aj,Ez];simp only[Nat.add_zero,Ar hk,Bi]at h9;rw[h9]
   ·exact h11.aF hn.1
 have h7:=hrep off vs' ds hd hn (λi v hv=>by
  rw[h5,Et,Eo]at hv;split at hv
  ·exact hv
  ·cases hv)
 have hle:off+m<=vs.length\/m=0:=by
  rw[h5]at h6;simp at h6;omega
 refine⟨.agg ((vs.drop off).take vs'.length).toArray,λw' g=>?_,⟨_,rfl,h7⟩⟩;have:=kb8 (vs:=(vs.drop off).take vs'.length) (w:=w') (b:=b) (o:=off) ht (by simp;omega) (λj v hv=>mb2 (jb1 g h3) (by
  rw[Et,Eo]at hv;split at hv
  ·exact hv
  ·cases hv))
 simp[execOp,h2,this]
theorem StB.Yi {C:Ctx}{β:Nat->Hd}{a:Act}{w:World}(h:StB C β S a w){off:Nat}{cs:List D}{x:Operand}(hx:S.ev x=some (.d (.ref cs off))):
 ∃ (b o:Nat) (vs:List Value),a.eval x=.pointer (some ⟨b,o+off,none⟩)/\Dz w (Mut C.M0 β S.H) cs vs/\Reads w (Mut C.M0 β S.H) (some ⟨b,o,none⟩) vs:=by
 have hok:Cm x=true:=by
  cases x<;>first|rfl|skip
  simp only[Sd.ev,Bi]at hx;rename_i v;unfold ki2 at hx;split at hx<;>simp_all
 exact h.ev hx hok
theorem ko0 {w w':World}{M:Nat->Nat->Prop}{b o:Nat}{vs:List Value}(h:Reads w M (some ⟨b,o,none⟩) vs)(g:aG w w'){j:Nat}{v:Value}(hj:vs[j]? =some v):w'.cell? ⟨b,o+j,none⟩=some v:=by
 obtain⟨b',o',e,_,hc⟩:=h j v hj;cases e;exact(g.cell (p:=⟨b,o+j,none⟩) (World.block_lt_of_cell? w ⟨b,o+j,none⟩ hc)).trans hc
theorem qd9 {t:Nat}{x:Operand}{off:Nat}{cs:List D}{v:D}[ht:TCell E.P t](hx:S.ev x=some (.d (.ref cs off)))(hc:cs[off]? =some v):Quiet E S ⟨dst,.load t x,ty,pos,af,gd⟩ (.d v):=Quiet.mk λβ a w h=>by
 obtain⟨b,o,vs,h1,h2,h3⟩:=h.Yi hx;obtain⟨u,h4,_,h5⟩:=h2.get hc;refine⟨u,λw' g=>?_,h5⟩;have:=ju7 ht (ko0 h3 g h4);simp[execOp,h1,this]
theorem mq1 {t off m:Nat}{x:Operand}{cs ds:List D}[ht:TAgg E.P t m](hx:S.ev x=some (.d (.ref cs off)))(hc:Cut cs off m ds):Quiet E S ⟨dst,.load t x,ty,pos,af,gd⟩ (.d (.agg ds)):=Quiet.mk λβ a w h=>by
 obtain⟨b,o,vs,h1,h2,h3⟩:=h.Yi hx;obtain⟨h5,h6⟩:=hc.eq;have h7:Dz w (Mut E.C.M0 β S.H) ds ((vs.drop off).take m):=by rw[h5];exact(h2.drop off).take m
 refine⟨.agg ((vs.drop off).take m).toArray,λw' g=>?_,⟨_,rfl,h7⟩⟩;have:=kb8 (vs:=(vs.drop off).take m) (w:=w') (b:=b) (o:=o+off) ht (by rw[h7.length];exact h6) (λj v hv=>by
  rw[Et,Eo]at hv;split at hv
  ·rw[Fd];exact ko0 h3 g hv
  ·cases hv)
 simp[execOp,h1,this]
theorem ju9 {P:Program}{s f off ft:Nat}(h:aJ P s f off ft)(w:World)(b o:Nat):(Instr.fieldAt s (.pointer (some ⟨b,o,none⟩)) f).run P w=.ok (.pointer (some ⟨b,o+off,none⟩)) w:=by
 obtain⟨fs,fd,i,hu,hf,h1,h2,hi,h3⟩:=jn8 h;simp[Instr.fieldAt,Instr.sureAddr,run_underlying hu,hf,fieldPlace,h2,jc1 hi,h3,jg4,h1]
theorem mq2 {s f off' ft n off:Nat}{x:Operand}[ht:aJ E.P s f off' ft](hx:S.ev x=some (.ptr n off)):aH E S ⟨dst,.fieldAddr s x f,ty,pos,af,gd⟩ (.ptr n (off+off')):=aH.mk λβ a w h=>by
 have hok:Cm x=true:=by
  cases x<;>first|rfl|skip
  simp only[Sd.ev,Bi]at hx;rename_i v;unfold ki2 at hx;split at hx<;>simp_all
 obtain⟨b,h1,h2⟩:=h.ev hx hok;exact⟨.pointer (some ⟨b,off+off',none⟩),λw' _=>by simp[execOp,h2,ju9 ht],b,h1,rfl⟩
theorem mq3 {s f off' ft off:Nat}{cs:List D}{x:Operand}[ht:aJ E.P s f off' ft](hx:S.ev x=some (.d (.ref cs off))):aH E S ⟨dst,.fieldAddr s x f,ty,pos,af,gd⟩ (.d (.ref cs (off+off'))):=aH.mk λβ a w h=>by
 obtain⟨b,o,vs,h1,h2,h3⟩:=h.Yi hx;exact⟨.pointer (some ⟨b,o+(off+off'),none⟩),λw' _=>by simp[execOp,h1,ju9 ht,Fd],b,o,vs,rfl,h2,h3⟩
theorem qv0 {n off:Nat}{x:Operand}(hx:S.ev x=some (.ptr n off)):aH E S ⟨dst,.nilCheck x,ty,pos,af,gd⟩ (.ptr n off):=aH.mk λβ a w h=>by
 have hok:Cm x=true:=by
  cases x<;>first|rfl|skip
  simp only[Sd.ev,Bi]at hx;rename_i v;unfold ki2 at hx;split at hx<;>simp_all
 obtain⟨b,h1,h2⟩:=h.ev hx hok;exact⟨a.eval x,λw' _=>by simp[execOp,h2],b,h1,h2⟩
def inK:IntKind->Int->Prop
 |.i8,n=>-128<=n/\n<=127
 |.i16,n=>-32768<=n/\n<=32767
 |.i32,n=>-2147483648<=n/\n<=2147483647
 |.i64,n=>-9223372036854775808<=n/\n<=9223372036854775807
 |.u8,n=>0<=n/\n<=255
 |.u16,n=>0<=n/\n<=65535
 |.u32,n=>0<=n/\n<=4294967295
 |.u64,n=>0<=n/\n<=18446744073709551615
theorem qv1 {k:IntKind}{n:Int}(h:inK k n):k.wrap n=n:=by
 cases k
 ·exact IntWalk.i8_in n h
 ·exact IntWalk.i16_in n h
 ·exact IntWalk.i32_in n h
 ·exact IntWalk.i64_in n h
 ·exact IntWalk.u8_in n h
 ·exact IntWalk.u16_in n h
 ·exact IntWalk.u32_in n h
 ·exact IntWalk.u64_in n h
variable {xt yt:TypeId}{x y:Operand}{k:IntKind}{p q r:Int}
theorem mb3 {op:BinOp}{v:Value}{D:V}(hx:S.ev x=some (.d (.int k p)))(hy:S.ev y=some (.d (.int k q)))(hox:Cm x=true)(hoy:Cm y=true)(hne:op≠.shl/\op≠.shr)
 (hr:∀ w,(binOp op xt (.int k p) (.int k q)).run E.P w=.ok v w) (hv:∀ w M β H,Dc w M β H D v):aH E S ⟨dst,.binOp op xt x y yt,ty,pos,af,gd⟩ D:=aH.mk λβ a w h=>by
 have h1:a.eval x=.int k p:=h.ev hx hox;have h2:a.eval y=.int k q:=h.ev hy hoy;refine⟨v,λw' _=>?_,hv _ _ _ _⟩;have hg:(eqGuard op xt x y (.int k p) (.int k q)).run E.P w'=.ok () w':=by
  unfold eqGuard;cases op<;>rfl
 simp[execOp,h1,h2,hg,hr]
theorem ko1 {P:Program}{op:BinOp}(hop:op=.add\/op=.sub\/op=.mul)(w:World):(binOp op xt (.int k p) (.int k q)).run P w=(Op.intArith op k p q).run P w:=by
 rcases hop with rfl|rfl|rfl<;>simp[binOp]
theorem vr3 (hx:S.ev x=some (.d (.int k p)))(hy:S.ev y=some (.d (.int k q)))(hox:Cm x=true)(hoy:Cm y=true)(hin:inK k (p+q)):aH E S ⟨dst,.binOp .add xt x y yt,ty,pos,af,gd⟩ (.d (.int k (p+q))):=
 mb3 hx hy hox hoy (by simp) (v:=.int k (p+q)) (λw=>by rw[ko1 (by simp)];simp[Op.intArith,qv1 hin]) (λ_ _ _ _=>rfl)
theorem va5 (hx:S.ev x=some (.d (.int k p)))(hy:S.ev y=some (.d (.int k q)))(hox:Cm x=true)(hoy:Cm y=true):aH E S ⟨dst,.binOp .add xt x y yt,ty,pos,af,gd⟩ (.d (.int k (k.wrap (p+q)))):=
 mb3 hx hy hox hoy (by simp) (v:=.int k (k.wrap (p+q))) (λw=>by rw[ko1 (by simp)];simp[Op.intArith]) (λ_ _ _ _=>rfl)
theorem vr4 (hx:S.ev x=some (.d (.int k p)))(hy:S.ev y=some (.d (.int k q)))(hox:Cm x=true)(hoy:Cm y=true)(hin:inK k (p - q)):aH E S ⟨dst,.binOp .sub xt x y yt,ty,pos,af,gd⟩ (.d (.int k (p - q))):=
 mb3 hx hy hox hoy (by simp) (v:=.int k (p - q)) (λw=>by rw[ko1 (by simp)];simp[Op.intArith,qv1 hin]) (λ_ _ _ _=>rfl)
def cmp:BinOp->Int->Int->Prop
 |.lss,p,q=>p<q
 |.leq,p,q=>p<=q
 |.gtr,p,q=>q<p
 |.geq,p,q=>q<=p
 |.eql,p,q=>p=q
 |.neq,p,q=>¬p=q
 |_,_,_=>False
def Qs:BinOp->Bool
 |.lss|.leq|.gtr|.geq|.eql|.neq=>true
 |_=>false
theorem vk4 {op:BinOp}(hop:Qs op=true)(hx:S.ev x=some (.d (.int k p)))(hy:S.ev y=some (.d (.int k q)))(hox:Cm x=true)(hoy:Cm y=true){b:Bool}(hb:(b=true)=cmp op p q):
 aH E S ⟨dst,.binOp op xt x y yt,ty,pos,af,gd⟩ (.d (.bool b)):=
 mb3 hx hy hox hoy (by cases op<;>simp_all [Qs]) (v:=.bool b) (λw=>by
  have hd:∀ (c:Prop) [Decidable c],(b=true)=c->decide c=b:=λc _ h=>by cases b<;>simp_all
  cases op<;>simp[Qs]at hop<;>simp only[cmp]at hb<;>simp[binOp,Op.intCmp]
  ·exact(Bool.beq_eq_decide_eq p q).trans (hd _ hb)
  ·rw[bne,Bool.beq_eq_decide_eq];have:=hd _ hb;rw[<-this];by_cases h:p=q<;>simp[h]
  all_goals exact hd _ hb) (λ_ _ _ _=>rfl)
theorem qv2 {op:BinOp}(hop:Qs op=true)(hx:S.ev x=some (.d (.int k p)))(hy:S.ev y=some (.d (.int k q)))(hox:Cm x=true)(hoy:Cm y=true)(h:cmp op p q):aH E S ⟨dst,.binOp op xt x y yt,ty,pos,af,gd⟩ (.d (.bool true)):=
 vk4 hop hx hy hox hoy (propext ⟨λ_=>h,λ_=>rfl⟩)
theorem qv3 {op:BinOp}(hop:Qs op=true)(hx:S.ev x=some (.d (.int k p)))(hy:S.ev y=some (.d (.int k q)))(hox:Cm x=true)(hoy:Cm y=true)(h:¬cmp op p q):aH E S ⟨dst,.binOp op xt x y yt,ty,pos,af,gd⟩ (.d (.bool false)):=
 vk4 hop hx hy hox hoy (propext ⟨(λh'=>by cases h'),λh'=>absurd h' h⟩)
theorem vk5 {Q:Exit->Sd->Prop}{ops:Array Oper}{draw:Bool}{rest:Todo}{way:Ji}{op:BinOp}{d:Nat}(hop:Qs op=true)(hx:S.ev x=some (.d (.int k p)))(hy:S.ev y=some (.d (.int k q)))(hox:Cm x=true)(hoy:Cm y=true)(hd:d<E.C.nt){o:Oper}
 (ho:o=⟨some d,.binOp op xt x y yt,ty,pos,af,gd⟩) (hg:S.gd ops o=some true) (h1:cmp op p q->TR E draw ops Q rest (S.put d (.d (.bool true)))) (h2:¬cmp op p q->TR E draw ops Q rest (S.put d (.d (.bool false)))):TR E draw ops Q (.step o way rest) S:=by
 subst ho;by_cases h:cmp op p q
 ·exact jd2 (qv2 hop hx hy hox hoy h) rfl hd hg rfl (h1 h)
 ·exact jd2 (qv3 hop hx hy hox hoy h) rfl hd hg rfl (h2 h)
end
end
section
inductive Evs (S:Sd):List Operand->List V->Prop
 |nil:Evs S [] []
 |cons {x:Operand} {v:V} {xs:List Operand} {vs:List V} (h:S.ev x=some v) (ho:Cm x=true) (t:Evs S xs vs):Evs S (x::xs) (v::vs)
inductive Fv:D->List D->Prop
 |agg (cs:List D):Fv (.agg cs) cs
 |int (k:IntKind) (n:Int):Fv (.int k n) [.int k n]
 |bool (b:Bool):Fv (.bool b) [.bool b]
 |str (s:ByteArray):Fv (.str s) [.str s]
 |list (sz:Nat) (xs:List D):Fv (.list sz xs) [.list sz xs]
 |ref (cs:List D) (o:Nat):Fv (.ref cs o) [.ref cs o]
 |clo (fn:Fn) (f c:List D):Fv (.clo fn f c) [.clo fn f c]
 |raw (v:Value):Fv (.raw v) [.raw v]
 |nil (sz:Nat):Fv (.nil sz) [.nil sz]
 |map (ks vs:List D):Fv (.map ks vs) [.map ks vs]
inductive Repl {α:Type}:List α->Nat->List α->List α->Prop
 |done (l:List α):Repl l 0 [] l
 |here {x y:α} {l ys r:List α} (h:Repl l 0 ys r):Repl (x::l) 0 (y::ys) (y::r)
 |there {x:α} {l ys r:List α} {i:Nat} (h:Repl l i ys r):Repl (x::l) (i+1) ys (x::r)
theorem Repl.eq {α:Type}{l ys r:List α}{i:Nat}(h:Repl l i ys r):r=l.take i++ys++l.drop (i+ys.length)/\i+ys.length<=l.length:=by
 induction h with
 |done l=>simp
 |here h ih=>
  obtain⟨h1,h2⟩:=ih;simp only[List.take_zero,Ae,Es]at h1 h2 ⊢;refine⟨?_,by simpa using h2⟩;rw[h1];simp
 |@there x l ys r i h ih=>
  obtain⟨h1,h2⟩:=ih;refine⟨?_,by simp;omega⟩;rw[h1,show i+1+ys.length=(i+ys.length)+1 by omega];simp
theorem Evs.rep {C:Ctx}{β:Nat->Hd}{S:Sd}{a:Act}{w:World}(h:StB C β S a w){xs:List Operand}{vs:List V}(he:Evs S xs vs):Cs w (Mut C.M0 β S.H) β S.H vs (xs.map a.eval):=by
 induction he with
 |nil=>rfl
 |cons h1 ho _ ih=>exact⟨_,_,rfl,h.ev h1 ho,ih⟩
theorem Fv.rep {w:World}{M:Nat->Nat->Prop}{x:D}{cs:List D}(h:Fv x cs){v:Value}(hv:Gv w M x v):Dz w M cs v.cells.toList:=by
 cases h with
 |agg cs=>obtain⟨vs,rfl,h2⟩:=hv;simpa [Value.cells]using h2
 |raw u=>exact⟨v,[],by obtain⟨rfl,h1⟩:=hv;cases v<;>simp_all [Value.cells,Value.oneCell'],hv.1 ▸ hv.2,hv,rfl⟩
 |list sz xs=>have h0:=hv;obtain⟨_,_,_,rfl,_⟩:=hv;exact⟨_,[],rfl,rfl,h0,rfl⟩
 |ref sz xs=>have h0:=hv;obtain⟨_,_,_,rfl,_⟩:=hv;exact⟨_,[],rfl,rfl,h0,rfl⟩
 |clo sz f xs=>have h0:=hv;obtain⟨_,_,rfl,_⟩:=hv;exact⟨_,[],rfl,rfl,h0,rfl⟩
 |map ks vs=>have h0:=hv;obtain⟨_,_,_,rfl,_⟩:=hv;exact⟨_,[],rfl,rfl,h0,rfl⟩
 |int k n=>have h0:=hv;simp only[Gv]at hv;subst hv;exact⟨_,[],rfl,rfl,h0,rfl⟩
 |bool b=>have h0:=hv;simp only[Gv]at hv;subst hv;exact⟨_,[],rfl,rfl,h0,rfl⟩
 |nil b=>have h0:=hv;simp only[Gv]at hv;subst hv;exact⟨_,[],rfl,rfl,h0,rfl⟩
 |str s=>have h0:=hv;simp only[Gv]at hv;subst hv;exact⟨_,[],rfl,rfl,h0,rfl⟩
section
variable {E:Set}{S:Sd}{dst:Option Tmp}{ty:TypeId}{pos:String}{af:Array Edge}{gd:Option (Nat × Bool)}
theorem jz0 (s t:ByteArray){b:Bool}(hb:(b=true)=(s=t)):(s.toList == t.toList)=b:=by
 rw[ByteArray.toList_eq,ByteArray.toList_eq];have:(s.data.toList=t.data.toList)=(s=t):=by
  apply propext;constructor
  ·intro h;cases s;cases t;simp only[ByteArray.mk.injEq];exact Array.toList_inj.1 h
  ·rintro rfl;rfl
 rw[<-this]at hb;cases b
 ·simp only[Bb,eq_iff_iff,false_iff]at hb;simpa using hb
 ·simp only[eq_self_iff_true,eq_iff_iff,true_iff]at hb;simp[hb]
theorem mj9 {xt yt:TypeId}{x y:Operand}{s t:ByteArray}(hx:S.ev x=some (.d (.str s)))(hy:S.ev y=some (.d (.str t)))(hox:Cm x=true)(hoy:Cm y=true){b:Bool}(hb:(b=true)=(s=t)):
 aH E S ⟨dst,.binOp .eql xt x y yt,ty,pos,af,gd⟩ (.d (.bool b)):=aH.mk λβ a w h=>by
 have h1:a.eval x=.string s:=h.ev hx hox;have h2:a.eval y=.string t:=h.ev hy hoy;refine⟨.bool b,λw' _=>?_,rfl⟩;simp[execOp,h1,h2,eqGuard,binOp,Op.stringOp,jz0 s t hb]
theorem mk0 {xt yt:TypeId}{x y:Operand}{s t:ByteArray}(hx:S.ev x=some (.d (.str s)))(hy:S.ev y=some (.d (.str t)))(hox:Cm x=true)(hoy:Cm y=true){b:Bool}(hb:(b=true)=¬(s=t)):
 aH E S ⟨dst,.binOp .neq xt x y yt,ty,pos,af,gd⟩ (.d (.bool b)):=aH.mk λβ a w h=>by
 have h1:a.eval x=.string s:=h.ev hx hox;have h2:a.eval y=.string t:=h.ev hy hoy;refine⟨.bool b,λw' _=>?_,rfl⟩;have h3:((!b)=true)=(s=t):=by cases b<;>simp_all
 have h4:=jz0 s t h3;simp[execOp,h1,h2,eqGuard,binOp,Op.stringOp,h4]
theorem qv4 {xt yt:TypeId}{x y:Operand}{s t:ByteArray}(hx:S.ev x=some (.d (.str s)))(hy:S.ev y=some (.d (.str t)))(hox:Cm x=true)(hoy:Cm y=true)(hl:s.size+t.size<=9223372036854775807):
 aH E S ⟨dst,.binOp .add xt x y yt,ty,pos,af,gd⟩ (.d (.str (s++t))):=aH.mk λβ a w h=>by
 have h1:a.eval x=.string s:=h.ev hx hox;have h2:a.eval y=.string t:=h.ev hy hoy;refine⟨.string (s++t),λw' _=>?_,rfl⟩;have h3:¬(((s.size+t.size:Nat):Int) > IntKind.i64.max):=by
  have:IntKind.i64.max=9223372036854775807:=by decide
  omega
 have h4:(s.size:Int)+(t.size:Int)<=9223372036854775807:=by omega
 simp only[Int.natCast_add,gt_iff_lt]at h3;simp[execOp,h1,h2,eqGuard,binOp,Op.stringOp,h3];exact h4
theorem qe0 {xt yt:TypeId}{x y:Operand}{s t:Bool}[ht:TCell E.P xt](hu:E.P.underlying xt=some .bool)(hx:S.ev x=some (.d (.bool s)))(hy:S.ev y=some (.d (.bool t)))(hox:Cm x=true)(hoy:Cm y=true):
 aH E S ⟨dst,.binOp .eql xt x y yt,ty,pos,af,gd⟩ (.d (.bool (s == t))):=aH.mk λβ a w h=>by
 have h1:a.eval x=.bool s:=h.ev hx hox;have h2:a.eval y=.bool t:=h.ev hy hoy;refine⟨.bool (s == t),λw' _=>?_,rfl⟩;have he:(Op.equal xt (.bool s) (.bool t)).run E.P w'=.ok (s == t) w':=by
  unfold Op.equal;rw[show Op.maxDepth=9999+1 from rfl,Op.equalIn];simp only[Sem.run_bind,run_underlying hu,Result.andThen_ok,Sem.run_pure]
 have hb:(binOp .eql xt (.bool s) (.bool t)).run E.P w'=.ok (.bool (s == t)) w':=by
  show(do pure (Value.bool (<-Op.equal xt (.bool s) (.bool t))):Sem Value).run E.P w'=_;simp only[Sem.run_bind,he,Result.andThen_ok,Sem.run_pure]
 simp[execOp,h1,h2,eqGuard,hb]
theorem va6 {xt:TypeId}{x:Operand}{b:Bool}(hx:S.ev x=some (.d (.bool b)))(hox:Cm x=true):aH E S ⟨dst,.unOp .not xt x,ty,pos,af,gd⟩ (.d (.bool !b)):=aH.mk λβ a w h=>by
 have h1:a.eval x=.bool b:=h.ev hx hox;exact⟨.bool !b,λw' _=>by simp[execOp,h1,Op.unary],rfl⟩
theorem vr5 {xt yt:TypeId}{x y:Operand}{k k':IntKind}{p q:Int}(hx:S.ev x=some (.d (.int k p)))(hy:S.ev y=some (.d (.int k' q)))(hox:Cm x=true)(hoy:Cm y=true)(h0:0<=q):
 aH E S ⟨dst,.binOp .shr xt x y yt,ty,pos,af,gd⟩ (.d (.int k (p.fdiv (2 ^ min q.toNat k.bits)))):=aH.mk λβ a w h=>by
 have h1:a.eval x=.int k p:=h.ev hx hox;have h2:a.eval y=.int k' q:=h.ev hy hoy;have h3:¬q<0:=by omega
 exact⟨_,λw' _=>by simp[execOp,h1,h2,eqGuard,binOp,Op.shift,h3],rfl⟩
theorem qv5 {x:Operand}{vs:List V}{i:Nat}{v:V}(hx:S.ev x=some (.tup vs))(hox:Cm x=true)(hv:vs[i]? =some v):aH E S ⟨dst,.extract x i,ty,pos,af,gd⟩ v:=aH.mk λβ a w h=>by
 obtain⟨us,h1,h2⟩:=h.ev hx hox;obtain⟨u,h3,h4⟩:=Cs.get h2 hv;exact⟨u,λw' _=>by simp[execOp,h1,Instr.extract,h3],h4⟩
theorem qe1 {fn:Fn}{f c:List Operand}{fs cs:List V}(hf:Evs S f fs)(hc:Evs S c cs):aH E S ⟨dst,.makeFunc fn f.toArray c.toArray,ty,pos,af,gd⟩ (.clo fn fs cs):=aH.mk λβ a w h=>
 ⟨.func fn (f.map a.eval).toArray (c.map a.eval).toArray,λw' _=>by simp[execOp,Instr.makeFunc],_,_,rfl,hf.rep h,hc.rep h⟩
theorem va7 {s f off ft:Nat}{x:Operand}{cs:List D}{v:D}[ht:aJ E.P s f off ft][hc:TCell E.P ft](hx:S.ev x=some (.d (.agg cs)))(hox:Cm x=true)(hv:cs[off]? =some v):aH E S ⟨dst,.field s x f,ty,pos,af,gd⟩ (.d v):=aH.mk λβ a w h=>by
 obtain⟨vs,h1,h2⟩:=h.ev hx hox;obtain⟨u,h3,_,h4⟩:=h2.get hv;obtain⟨fs,fd,i,hu,hf,e1,e2,hi,_⟩:=jn8 ht;obtain⟨d,i',hu',n1,n2,_,_⟩:=ku2 hc;exact⟨u,λw' _=>by simp[execOp,h1,Instr.field,run_underlying hu,hf,asAgg,part,e2,ma9 hu' n1 n2,e1,h3],h4⟩
theorem vr6 {t:TypeId}{e sz:Nat}{x:Operand}{sz' n:Nat}{xs:List D}[ht:aK E.P t e sz](hx:S.ev x=some (.d (.list sz' xs)))(hox:Cm x=true)(hn:xs.length=n):aH E S ⟨dst,.call {callee:=.builtin .len,args:=#[x],argTypes:=#[t]},ty,pos,af,gd⟩ (.d (.int .i64 (n:Nat))):=aH.mk λβ a w h=>by
 subst hn;obtain⟨ad,c,ys,h1,_⟩:=h.ev hx hox;obtain⟨i,hu,_⟩:=g8 ht;exact⟨.int .i64 (xs.length:Nat),λw' _=>by simp[execOp,resolve,invoke,builtin,h1,Builtin.len_,run_underlying hu,goInt],rfl⟩
theorem qv6 {t:TypeId}{e sz:Nat}{x:Operand}{n k e' sz' m:Nat}{sh:Bool}{xs:List D}[ht:aK E.P t e sz](hx:S.ev x=some (.own n k))(hox:Cm x=true)(hl:look n S.H=some (.row e' sz' sh xs k))(hm:xs.length=m):
 aH E S ⟨dst,.call {callee:=.builtin .len,args:=#[x],argTypes:=#[t]},ty,pos,af,gd⟩ (.d (.int .i64 (m:Nat))):=aH.mk λβ a w h=>by
 subst hm;have h1:a.eval x=(β n).v:=h.ev hx hox e' sz' sh xs hl;obtain⟨ys,h2,_⟩:=h.obs n _ hl;obtain⟨ad,c,h3,_⟩:=jd9 h2;obtain⟨i,hu,_⟩:=g8 ht;exact⟨.int .i64 (xs.length:Nat),λw' _=>by simp[execOp,resolve,invoke,builtin,h1,h3,Builtin.len_,run_underlying hu,goInt],rfl⟩
theorem qv7 {t:TypeId}{x:Operand}{s:ByteArray}[ht:TStr E.P t](hx:S.ev x=some (.d (.str s)))(hox:Cm x=true):aH E S ⟨dst,.call {callee:=.builtin .len,args:=#[x],argTypes:=#[t]},ty,pos,af,gd⟩ (.d (.int .i64 (s.size:Nat))):=aH.mk λβ a w h=>by
 have h1:a.eval x=.string s:=h.ev hx hox;exact⟨.int .i64 (s.size:Nat),λw' _=>by simp[execOp,resolve,invoke,builtin,h1,Builtin.len_,run_underlying (jy8 ht),goInt],rfl⟩
theorem qv8 {w:World}{M:Nat->Nat->Prop}{sz:Nat}{xs:List D}{v:Value}(h:Gv w M (.list sz xs) v)(hsz:0<sz){i:Nat}{x:D}(hx:xs[i]? =some x){cs:List D}(hc:Fv x cs):
 ∃ b o c,v=.slice (some ⟨b,o,none⟩) xs.length c/\Gv w M (.ref cs 0) (.pointer (some ⟨b,o+i * sz,none⟩)):=by
 obtain⟨a,c,ys,rfl,h1,h2,h3,h4,h5⟩:=h;obtain⟨u,h6,h7,h8⟩:=h4.get hx;have hpos:0<u.cells.toList.length:=by simp;omega
 obtain⟨b,o,e,_,_⟩:=h5 _ _ (h8 0 u.cells.toList[0] (by simp[hpos]));subst e;refine⟨b,o,c,rfl,b,o+i * sz,u.cells.toList,rfl,hc.rep h6,λj y hj=>?_⟩;obtain⟨b',o',e',h9,h10⟩:=h5 _ _ (h8 j y hj);cases e';exact⟨b,o+i * sz,rfl,by rwa [Fd],by rwa [Fd]⟩
theorem jv0 {P:Program}{t e sz:Nat}(ht:aK P t e sz){b o n c i:Nat}{k:IntKind}(hi:i<n)(w:World):(Instr.indexAt t (.slice (some ⟨b,o,none⟩) n c) (.int k (i:Nat))).run P w=.ok (.pointer (some ⟨b,o+i * sz,none⟩)) w:=by
 obtain⟨ie,hu,hie,hs,_⟩:=g8 ht;have h1:(i:Int)<(n:Int):=by omega
 have h2:¬n<=i:=by omega
 simp[Instr.indexAt,asIntOf,run_underlying hu,h1,h2,jc1 hie,hs,jg4]
theorem va8 {t e sz i:Nat}{x y:Operand}{xs cs:List D}{z:D}{k:IntKind}{n:Int}[ht:aK E.P t e sz](hx:S.ev x=some (.d (.list sz xs)))(hy:S.ev y=some (.d (.int k n)))(hox:Cm x=true)(hoy:Cm y=true)(hi:n=(i:Nat))(hz:xs[i]? =some z)(hc:Fv z cs):
 aH E S ⟨dst,.indexAddr t x y,ty,pos,af,gd⟩ (.d (.ref cs 0)):=aH.mk λβ a w h=>by
 subst hi;obtain⟨_,_,_,_,hsz⟩:=g8 ht;obtain⟨b,o,c,h1,h2⟩:=qv8 (h.ev hx hox) hsz hz hc;have h3:a.eval y=.int k (i:Nat):=h.ev hy hoy;refine⟨.pointer (some ⟨b,o+i * sz,none⟩),λw' _=>?_,h2⟩;simp[execOp,h1,h3,jv0 ht (Ay.1 hz).1]
theorem mq4 {t e sz i n k' e':Nat}{sh:Bool}{x y:Operand}{xs:List D}{k:IntKind}{m:Int}[ht:aK E.P t e sz](hx:S.ev x=some (.own n k'))(hl:look n S.H=some (.row e' sz sh xs k'))(hy:S.ev y=some (.d (.int k m)))(hox:Cm x=true)(hoy:Cm y=true)(hi:m=(i:Nat))(hz:i<xs.length):
 aH E S ⟨dst,.indexAddr t x y,ty,pos,af,gd⟩ (.el n k' i 0):=aH.mk λβ a w h=>by
 subst hi;have h1:a.eval x=(β n).v:=h.ev hx hox e' sz sh xs hl;have h3:a.eval y=.int k (i:Nat):=h.ev hy hoy;obtain⟨ys,h2,_⟩:=h.obs n _ hl;obtain⟨ie,hu,hie,hs,hpos⟩:=g8 ht;rcases h2.2 with ⟨h4,h5⟩|⟨g,cap,cur,h4,_,_,_⟩
 ·omega
 ·refine⟨.pointer (some ⟨g,i * sz,none⟩),λw' _=>?_,λe2 sz2 sh2 xs2 hl2=>?_⟩
  ·have:=jv0 (P:=E.P) (b:=g) (o:=0) (c:=cap) (k:=k) ht hz w';rw[Es]at this;simp[execOp,h1,h3,h4,this]
  ·rw[hl]at hl2;cases hl2;exact⟨g,_,cap,h4,rfl⟩
theorem rq4 {C:Ctx}{β:Nat->Hd}{a:Act}{w:World}(h:StB C β S a w){n e sz k i:Nat}{sh:Bool}{xs:List D}(hl:look n S.H=some (.row e sz sh xs k)){z:D}(hz:xs[i]? =some z){b l c:Nat}(hb':(β n).v=.slice (some ⟨b,0,none⟩) l c):
 ∃ u,Gv w (Mut C.M0 β S.H) z u/\∀ w',aG w w'->∀ j v,u.cells.toList[j]? =some v->w'.cell? ⟨b,i * sz+j,none⟩=some v:=by
 obtain⟨ys,h2,h3⟩:=h.obs n _ hl;obtain⟨u,h4,_,h5⟩:=h3.get hz;refine⟨u,h4,λw' g j v hj=>?_⟩;have:=h2.cells (g:=b) (by rw[hb'];rfl) _ v (h5 j v hj);rw[jg4,Es]at this;exact(g.cell (p:=⟨b,i * sz+j,none⟩) (World.block_lt_of_cell? w ⟨b,i * sz+j,none⟩ this)).trans this
theorem jc8 {t n k i off e sz:Nat}{sh:Bool}{x:Operand}{xs cs:List D}{z v:D}[ht:TCell E.P t](hx:S.ev x=some (.el n k i off))(hox:Cm x=true)(hl:look n S.H=some (.row e sz sh xs k))(hz:xs[i]? =some z)(hc:Fv z cs)(hv:cs[off]? =some v):
 Quiet E S ⟨dst,.load t x,ty,pos,af,gd⟩ (.d v):=Quiet.mk λβ a w h=>by
 obtain⟨b,l,c,h1,h2⟩:=h.ev hx hox e sz sh xs hl;obtain⟨u,h3,h4⟩:=rq4 h hl hz h1;obtain⟨u',h5,_,h6⟩:=(hc.rep h3).get hv;refine⟨u',λw' g=>?_,h6⟩;have:=ju7 ht (h4 w' g off u' h5);simp[execOp,h2,this]
theorem qe2 {t n k i off m e sz:Nat}{sh:Bool}{x:Operand}{xs cs ds:List D}{z:D}[ht:TAgg E.P t m](hx:S.ev x=some (.el n k i off))(hox:Cm x=true)(hl:look n S.H=some (.row e sz sh xs k))(hz:xs[i]? =some z)(hc:Fv z cs)(hv:Cut cs off m ds):
 Quiet E S ⟨dst,.load t x,ty,pos,af,gd⟩ (.d (.agg ds)):=Quiet.mk λβ a w h=>by
 obtain⟨b,l,c,h1,h2⟩:=h.ev hx hox e sz sh xs hl;obtain⟨u,h3,h4⟩:=rq4 h hl hz h1;obtain⟨h5,h6⟩:=hv.eq;have h7:Dz w (Mut E.C.M0 β S.H) ds ((u.cells.toList.drop off).take m):=by rw[h5];exact((hc.rep h3).drop off).take m
 refine⟨.agg ((u.cells.toList.drop off).take m).toArray,λw' g=>?_,_,rfl,h7⟩;have:=kb8 (vs:=(u.cells.toList.drop off).take m) (w:=w') (b:=b) (o:=i * sz+off) ht (by rw[h7.length];exact h6) (λj v hj=>by
  rw[Et,Eo]at hj;split at hj
  ·rw[Fd];exact h4 w' g _ v hj
  ·cases hj)
 simp[execOp,h2,this]
theorem qe3 {s f off' ft n k i off:Nat}{x:Operand}[ht:aJ E.P s f off' ft](hx:S.ev x=some (.el n k i off))(hox:Cm x=true){e sz:Nat}{sh:Bool}{xs:List D}(hl:look n S.H=some (.row e sz sh xs k)):aH E S ⟨dst,.fieldAddr s x f,ty,pos,af,gd⟩ (.el n k i (off+off')):=aH.mk λβ a w h=>by
 obtain⟨b,l,c,h1,h2⟩:=h.ev hx hox e sz sh xs hl;refine⟨.pointer (some ⟨b,i * sz+(off+off'),none⟩),λw' _=>by simp[execOp,h2,ju9 ht,Fd],λe2 sz2 sh2 xs2 hl2=>?_⟩;rw[hl]at hl2;cases hl2;exact⟨b,l,c,h1,rfl⟩
theorem mq5 {w:World}{M:Nat->Nat->Prop}{sz:Nat}{xs:List D}{a:Option Addr}{c:Nat}(h:Gv w M (.list sz xs) (.slice a xs.length c)){l m:Nat}(hlm:l<=m)(hm:m<=xs.length):
 Gv w M (.list sz ((xs.drop l).take (m - l))) (sliced a l m c sz):=by
 obtain⟨a',c',ys,e,h1,h2,h3,h4,h5⟩:=h;cases e;have hlen:((xs.drop l).take (m - l)).length=m - l:=by simp;omega
 have h6:=(h4.drop l (by omega)).take (m - l) (by simp;omega);unfold sliced;by_cases hc:c=l
 ·have:m - l=0:=by omega
  rw[Ad hc];refine⟨a,c - l,[],by rw[hlen],by omega,by omega,λhn=>by have:=h3 hn;omega,by rw[this,List.take_zero];rfl,Reads.nil _ _ _⟩
 ·rw[Af hc];refine⟨a.map (·.add (l * sz)),c - l,_,by rw[hlen],by omega,by omega,λhn=>?_,h6,?_⟩
  ·cases a with
   |none=>have:=h3 rfl;omega
   |some ad=>cases hn
  ·cases a with
   |none=>
    intro j y hj;have hl0:=h6.length;have hc0:=h3 rfl;have:((xs.drop l).take (m - l)).length=0:=by omega
    rw[this,Nat.zero_mul]at hl0;rw[Em.1 hl0]at hj;simp at hj
   |some ad=>
    have hr:Reads w M (some ad) ys:=h5;intro j y hj;rw[Et]at hj;split at hj
    ·rw[Eo]at hj;obtain⟨b,o,e,h7,h8⟩:=hr _ _ hj;cases e;refine⟨b,o+l * sz,by simp[jg4],by rwa [Fd],by rwa [Fd]⟩
    ·cases hj
def bnd (S:Sd)(o:Option Operand)(d:Int):Option Int:=match o with
 |none=>some d
 |some x=>match S.ev x with
  |some (.d (.int _ n))=>if Cm x then some n else none
  |_=>none
theorem qv9 {t e sz l m:Nat}{x:Operand}{lo hi:Option Operand}{xs:List D}{li hi':Int}[ht:aK E.P t e sz](hx:S.ev x=some (.d (.list sz xs)))(hox:Cm x=true)(hl:bnd S lo 0=some li)(hh:bnd S hi (xs.length:Nat)=some hi')(el:li=(l:Nat))(eh:hi'=(m:Nat))(hlm:l<=m)(hm:m<=xs.length):
 aH E S ⟨dst,.slice t x lo hi none,ty,pos,af,gd⟩ (.d (.list sz ((xs.drop l).take (m - l)))):=aH.mk λβ a w h=>by
 subst el;subst eh;have h0:=h.ev hx hox;obtain⟨ad,c,ys,h1,h2,_⟩:=h0;obtain⟨ie,hu,hie,hs,hpos⟩:=g8 ht;have hr:=h.ev hx hox;rw[h1]at hr;refine⟨sliced ad l m c sz,λw' _=>?_,mq5 hr hlm hm⟩;have hm':(m:Int)<=(c:Int):=by omega
 have hlo:lo=none/\l=0\/∃ y k,lo=some y/\a.eval y=.int k (l:Nat):=by
  cases lo with
  |none=>simp only[bnd,Bi]at hl;exact .inl ⟨rfl,by omega⟩
  |some y=>
   simp only[bnd]at hl;split at hl
   ·rename_i k n hy;split at hl
    ·rename_i hok;cases hl;exact .inr ⟨y,k,rfl,h.ev hy hok⟩
    ·cases hl
   ·cases hl
 have hhi:hi=none/\m=xs.length\/∃ y k,hi=some y/\a.eval y=.int k (m:Nat):=by
  cases hi with
  |none=>simp only[bnd,Bi]at hh;exact .inl ⟨rfl,by omega⟩
  |some y=>
   simp only[bnd]at hh;split at hh
   ·rename_i k n hy;split at hh
    ·rename_i hok;cases hh;exact .inr ⟨y,k,rfl,h.ev hy hok⟩
    ·cases hh
   ·cases hh
 have hb:(Instr.sliceBounds true xs.length c (lo.map a.eval) (hi.map a.eval) none).run E.P w'=.ok (l,m,c) w':=by
  rcases hlo with ⟨rfl,rfl⟩|⟨y,k,rfl,hy⟩<;>rcases hhi with ⟨rfl,rfl⟩|⟨y',k',rfl,hy'⟩
  ·simp[Instr.sliceBounds]
  ·simp[Instr.sliceBounds,hy',Instr.sliceBound,asIntOf,hm',show ¬c<m by omega]
  ·have:(l:Int)<=(xs.length:Int):=by omega
   simp[Instr.sliceBounds,hy,Instr.sliceBound,asIntOf,this,show ¬xs.length<l by omega]
  ·have:(l:Int)<=(m:Int):=by omega
   simp[Instr.sliceBounds,hy,hy',Instr.sliceBound,asIntOf,hm',this,show m<=c by omega,hlm]
 simp[execOp,h1,Instr.sliceAt,run_underlying hu,Instr.slice,hb,jc1 hie,hs,sliced]
theorem mq6 {t i:Nat}{x y:Operand}{s:ByteArray}{k:IntKind}{n:Int}{c:UInt8}[ht:TStr E.P t](hx:S.ev x=some (.d (.str s)))(hy:S.ev y=some (.d (.int k n)))(hox:Cm x=true)(hoy:Cm y=true)(hi:n=(i:Nat))(hc:s.data.toList[i]? =some c):
 aH E S ⟨dst,.index t x y,ty,pos,af,gd⟩ (.d (.int .u8 c.toNat)):=aH.mk λβ a w h=>by
 subst hi;have h1:a.eval x=.string s:=h.ev hx hox;have h2:a.eval y=.int k (i:Nat):=h.ev hy hoy;refine⟨.int .u8 c.toNat,λw' _=>?_,rfl⟩;have h3:s[i]? =some c:=by
  obtain⟨h4,h5⟩:=Ay.1 hc;rw[getElem?_pos s i (by simpa using h4)];rw[<-h5];rfl
 simp[execOp,h1,h2,Instr.index,asIntOf,run_underlying (jy8 ht),h3]
end
end
end Go.Proofs.YtklklgfpkpglgaaGreatDoor
