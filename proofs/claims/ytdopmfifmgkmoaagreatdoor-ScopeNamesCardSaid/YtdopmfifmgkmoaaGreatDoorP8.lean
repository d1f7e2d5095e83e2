/- Parts: D11, D12, D13. -/
import Derived.Test.YtdopmfifmgkmoaaGreatDoorP7
set_option linter.all false
set_option maxRecDepth 100000
set_option maxHeartbeats 16000000
namespace Go.Proofs.YtdopmfifmgkmoaaGreatDoor
open Go.RowKit
section
inductive Build (P:Program)(S:Sd)(t:Nat):List D->List (Nat × Operand)->List D->Prop
 |nil (zs:List D):Build P S t zs [] zs
 |cons {zs zs' ds cs:List D} {f off ft m:Nat} {x:Operand} {v:V} {d:D} {ps:List (Nat × Operand)} [hf:TField P t f off ft] [hs:TSize P ft m] (hx:S.ev x=some v) (ho:okOp x=true) (hd:ToD S.H v d) (hc:CellsD d cs) (hm:cs.length=m) (hr:Repl zs off cs zs') (h:Build P S t zs' ps ds):
  Build P S t zs ((f,x)::ps) ds
theorem kn1 (off:Nat)(l:List Value)(cs:Array Value)(h:off+l.length<=cs.size):
 (l.toArray.zipIdx.foldl (fun cs (x:Value × Nat)=>cs.setIfInBounds (off+x.2) x.1) cs)=(cs.toList.take off++l++cs.toList.drop (off+l.length)).toArray:=by
 have:=Go.Great.foldl_set off l 0 cs
 obtain⟨h1,h2⟩:=this
 have e:l.toArray.zipIdx.foldl (fun cs (x:Value × Nat)=>cs.setIfInBounds (off+x.2) x.1) cs=(l.zipIdx 0).foldl (fun cs (x:Value × Nat)=>cs.setIfInBounds (off+x.2) x.1) cs:=by
  simp
 rw[e]
 apply Array.ext_getElem?
 intro k
 rw[h2 k]
 have hlt:(cs.toList.take off).length=off:=by simp;omega
 by_cases hk:off<=k/\k<off+l.length
 ·rw[if_pos (by omega)]
  simp only[List.getElem?_toArray,List.append_assoc]
  rw[List.getElem?_append_right (by omega),List.getElem?_append_left (by omega),hlt]
  congr 1
 ·rw[if_neg (by omega)]
  simp only[List.getElem?_toArray,List.append_assoc]
  by_cases hk2:k<off
  ·rw[List.getElem?_append_left (by omega),List.getElem?_take,if_pos hk2]
   simp
  ·rw[List.getElem?_append_right (by omega),List.getElem?_append_right (by omega),hlt,List.getElem?_drop]
   simp only[Array.getElem?_toList]
   congr 1
   omega
theorem Build.rep {P:Program}{C:Ctx}{β:Nat->Hd}{S:Sd}{a:Act}{w:World}(h:StB C β S a w){t:Nat}{fs:Array Field}(hu:P.underlying t=some (.struct fs)){places:Array (Nat × Nat)}(hp:∀ (f:Nat) (fd:Field) i,fs[f]? =some fd->P.info? fd.type=some i->places[f]? =some (fd.offset,i.size))
 {zs ds:List D} {ps:List (Nat × Operand)} (hb:Build P S t zs ps ds):∀ {us:List Value},RepA w (Mut C.M0 β S.H) zs us->
 ∃ vs:List Value,Instr.fill (places[·]?) us.toArray (ps.map fun x=>(x.1,a.eval x.2))=some vs.toArray/\RepA w (Mut C.M0 β S.H) ds vs:=by
 induction hb with
 |nil zs=>intro us hr;exact⟨us,rfl,hr⟩
 |@cons zs zs' ds cs f off ft m x v d ps hf hs hx ho hd hc hm hr hb ih=>
  intro us hrep
  obtain⟨fs',fd,i,hu',h1,h2,h3,h4,_⟩:=jr3 hf
  rw[hu]at hu'
  cases hu'
  have hi:i.size=m:=by have:=hs.ok;rw[h4]at this;simpa using this
  have hpl:=hp f fd i h1 (by rw[h3];exact h4)
  have hd':=hd.rep h (h.ev hx ho)
  have hcs:=hc.rep hd'
  have hlen:=hcs.length
  obtain⟨h5,h6⟩:=hr.eq
  have hul:=hrep.length
  have hsz:(a.eval x).cells.size=m:=by simp at hlen;omega
  have hnew:RepA w (Mut C.M0 β S.H) zs' (us.take off++(a.eval x).cells.toList++us.drop (off+(a.eval x).cells.toList.length)):=by
   rw[h5,<-hlen]
   exact((hrep.take off).append hcs).append (hrep.drop _)
  obtain⟨vs,h7,h8⟩:=ih hnew
  refine⟨vs,?_,h8⟩
  simp only[List.map_cons,Instr.fill,hpl]
  rw[if_neg (by
   simp only[ne_eq,Bool.or_eq_true,decide_eq_true_eq,not_or,Decidable.not_not,List.size_toArray]
   simp at hlen
   omega)]
  have hfo:=kn1 fd.offset (a.eval x).cells.toList us.toArray (by simp at hlen ⊢;omega)
  rw[Array.toArray_toList]at hfo
  simp only[List.toList_toArray]at hfo
  rw[hfo,h2]
  exact h7
section
variable {E:Set}{S:Sd}{dst:Option Tmp}{ty:TypeId}{pos:String}{af:Array Edge}{gd:Option (Nat × Bool)}
theorem kn2 {P:Program}(fs:List Field)(h:∀ fd∈fs,(P.info? fd.type).isSome=true):
 ∃ ps:List (Nat × Nat),(∀ w,(fs.mapM fun f=>do pure (f.offset,<-sizeOf f.type):Sem (List (Nat × Nat))).run P w=.ok ps w)/\∀ (f:Nat) (fd:Field) i,fs[f]? =some fd->P.info? fd.type=some i->ps[f]? =some (fd.offset,i.size):=by
 induction fs with
 |nil=>exact⟨[],fun _=>rfl,fun f fd i hf=>by simp at hf⟩
 |cons x fs ih=>
  obtain⟨ps,h1,h2⟩:=ih (fun fd hfd=>h fd (List.mem_cons_of_mem _ hfd))
  cases hi:P.info? x.type with
  |none=>have:=h x List.mem_cons_self;rw[hi]at this;cases this
  |some i=>
   refine⟨(x.offset,i.size)::ps,fun w=>?_,fun f fd j hf hj=>?_⟩
   ·simp only[List.mapM_cons,Sem.run_bind,jd1 hi,Result.andThen_ok,Sem.run_pure,h1]
   ·cases f with
    |zero=>simp at hf;subst hf;rw[hi]at hj;cases hj;rfl
    |succ f=>exact h2 f fd j (by simpa using hf) hj
def mi8 (P:Program)(t:Nat):Bool:=match P.underlying t with
 |some (.struct fs)=>fs.toList.all fun fd=>(P.info? fd.type).isSome
 |_=>false
class TStruct (P:Program)(t:Nat):Prop where
 ok:mi8 P t=true
theorem jz8 {P:Program}{t:Nat}(h:TStruct P t):∃ fs,P.underlying t=some (.struct fs)/\∀ fd∈fs.toList,(P.info? fd.type).isSome=true:=by
 have:=h.ok
 unfold mi8 at this
 split at this
 ·rename_i fs hu
  exact⟨fs,hu,List.all_eq_true.1 this⟩
 ·cases this
inductive ZeroD:List V->List D->Prop
 |nil:ZeroD [] []
 |d {x:D} {vs:List V} {xs:List D} (h:ZeroD vs xs):ZeroD (.d x::vs) (x::xs)
 |nils {sz:Nat} {vs:List V} {xs:List D} (h:ZeroD vs xs):ZeroD (.nils sz::vs) (.list sz []::xs)
 |none {sz:Nat} {vs:List V} {xs:List D} (h:ZeroD vs xs):ZeroD (.nils sz::vs) (.nil sz::xs)
theorem qc8 {w:World}{M:Nat->Nat->Prop}{vs:List V}{ds:List D}(hz:ZeroD vs ds):∀ {us:List Value},jh9 us vs=true->RepA w M ds us:=by
 induction hz with
 |nil=>intro us h;cases us with|nil=>rfl|cons _ _=>cases h
 |@d x vs xs hz ih=>
  intro us h
  cases us with
  |nil=>cases h
  |cons u us=>
   simp only[jh9,Bool.and_eq_true]at h
   refine⟨u,us,rfl,?_,jg0 (β:=qd4) (H:=[]) h.1,ih h.2⟩
   have:=h.1
   unfold jp7 at this
   split at this<;>first|rfl|cases this
 |@nils sz vs xs hz ih=>
  intro us h
  cases us with
  |nil=>cases h
  |cons u us=>
   simp only[jh9,Bool.and_eq_true]at h
   have hu:u=.slice none 0 0:=jg0 (w:=w) (M:=M) (β:=qd4) (H:=[]) h.1
   subst hu
   exact⟨_,us,rfl,rfl,⟨none,0,[],rfl,Nat.le_refl _,Nat.zero_le _,fun _=>rfl,rfl,Reads.nil _ _ _⟩,ih h.2⟩
 |@none sz vs xs hz ih=>
  intro us h
  cases us with
  |nil=>cases h
  |cons u us=>
   simp only[jh9,Bool.and_eq_true]at h
   have hu:u=.slice none 0 0:=jg0 (w:=w) (M:=M) (β:=qd4) (H:=[]) h.1
   subst hu
   exact⟨_,us,rfl,rfl,rfl,ih h.2⟩
theorem qc9 {t:Nat}{ps:List (Nat × Operand)}{vs:List V}{zs ds:List D}[ht:TStruct E.P t][hz:TZero E.P t vs](hzd:ZeroD vs zs)(hb:Build E.P S t zs ps ds):Swift E S ⟨dst,.build t ps.toArray,ty,pos,af,gd⟩ (.d (.agg ds)):=Swift.mk fun β a w h=>by
 obtain⟨fs,hu,hfs⟩:=jz8 ht
 obtain⟨i,z,hi,hiz,h1,_⟩:=jy0 hz
 obtain⟨pl,h2,h3⟩:=kn2 (P:=E.P) fs.toList hfs
 obtain⟨us,h4,h5⟩:=hb.rep h hu (places:=pl.toArray) (fun f fd i hf hi=>by simpa using h3 f fd i (by simpa using hf) hi) (qc8 (w:=w) (M:=Mut E.C.M0 β S.H) hzd h1)
 refine⟨.agg us.toArray,fun w' _=>?_,us,rfl,h5⟩
 have hpl:(fs.mapM fun f=>do pure (f.offset,<-sizeOf f.type):Sem (Array (Nat × Nat))).run E.P w'=.ok pl.toArray w':=by
  rw[Array.mapM_eq_mapM_toList]
  simp only[Sem.run_map]
  refine(congrArg (fun r:Result (List (Nat × Nat))=>r.andThen fun a w'=>Result.ok a.toArray w') (h2 w')).trans ?_
  rfl
 rw[Array.toArray_toList]at h4
 simp only[execOp,Sem.run_bind,Instr.build,zeroValue,typeInfo,hi,hiz,run_underlying hu,Sem.run_pure,Result.andThen_ok,program,Sem.run]
 simp only[hpl,Result.andThen_ok]
 have e:(ps.toArray.map fun x=>(x.1,a.eval x.2)).toList=ps.map fun x=>(x.1,a.eval x.2):=by simp
 rw[e,h4]
 rfl
end
end
section
inductive Elems (S:Sd)(sz:Nat):Nat->List (Nat × Operand)->List D->Prop
 |nil (i:Nat):Elems S sz i [] []
 |cons {i:Nat} {x:Operand} {v:V} {d:D} {cs:List D} {ps:List (Nat × Operand)} {ds:List D} (hx:S.ev x=some v) (ho:okOp x=true) (hd:ToD S.H v d) (hc:CellsD d cs) (hm:cs.length=sz) (h:Elems S sz (i+1) ps ds):Elems S sz i ((i,x)::ps) (d::ds)
theorem Elems.rep {C:Ctx}{β:Nat->Hd}{S:Sd}{a:Act}{w:World}(h:StB C β S a w){sz i:Nat}{ps:List (Nat × Operand)}{ds:List D}(he:Elems S sz i ps ds):
 ∃ us:List Value,ps.map (fun x=>(x.1,a.eval x.2))=(us.zipIdx i).map (fun x=>(x.2,x.1))/\us.length=ds.length/\(∀ u∈us,u.cells.size=sz)/\RepE w (Mut C.M0 β S.H) sz ds (us.flatMap fun v=>v.cells.toList):=by
 induction he with
 |nil i=>exact⟨[],rfl,rfl,(fun u hu=>by cases hu),rfl⟩
 |@cons i x v d cs ps ds hx ho hd hc hm _ ih=>
  obtain⟨us,h1,h2,h3,h4⟩:=ih
  have h5:=hd.rep h (h.ev hx ho)
  have h6:=(hc.rep h5).length
  have h7:(a.eval x).cells.size=sz:=by simp at h6;omega
  refine⟨a.eval x::us,?_,by simp[h2],fun u hu=>?_,a.eval x,_,by simp,h7,h5,h4⟩
  ·simp only[List.map_cons,h1,List.zipIdx_cons]
  ·rcases List.mem_cons.1 hu with rfl|hu
   ·exact h7
   ·exact h3 u hu
theorem StB.newRow {C:Ctx}{β:Nat->Hd}{S:Sd}{a:Act}{w w':World}(h:StB C β S a w){n e sz:Nat}{sh:Bool}{xs:List D}(hn:S.fresh n=true)(g:Grows w w'){v:Value}{ys:List Value}(hv:∀ b,v.ownBlock=some b->w.heap.size<=b)(hown:w'.ownsRow 0 e sz v xs.length ys)
 (hr:RepE w (Mut C.M0 β S.H) sz xs ys):StB C (upd β n v) {S with H:=(n,.row e sz sh xs 0)::S.H} a w':=
 h.newObj hn v g (fun b hb'=>hv b (by rw[<-mu9 hown];exact hb')) _ fun k=>⟨ys,hown,RepE.keep k _ _ _ hr⟩
section
variable {E:Set}{Q:Exit->Sd->Prop}{S:Sd}{ops:Array Oper}{draw:Bool}{rest:Todo}{way:Way3}{ty:TypeId}{pos:String}{af:Array Edge}{gd:Option (Nat × Bool)}
theorem jv5 {w:World}{M:Nat->Nat->Prop}{β:Nat->Hd}{H:List (Nat × Ob)}{n:Nat}{v:Value}{k:Nat}:RepV w M (upd β n v) H (.own n k) v:=fun _ _ _ _ _=>(mb1 β n v).symm
theorem rg3 {d n t e sz len:Nat}{ps:List (Nat × Operand)}{xs:List D}[ht:TSlice E.P t e sz](hp:Elems S sz 0 ps xs)(hlen:xs.length=len)(hsmall:len * sz<=16777216)(hn:S.fresh n=true):
 Grow E S ⟨some d,.buildSlice t len ps.toArray,ty,pos,af,gd⟩ {S with H:=(n,.row e sz true xs 0)::S.H} (.own n 0):=Grow.mk fun β a w h=>by
 obtain⟨bytes,⟨i,z,hu,hi,hz,hs,hby,hzs,hpos⟩,_⟩:=jk3 ht
 obtain⟨us,h1,h2,h3,h4⟩:=hp.rep h
 have hfl:(us.flatMap fun v=>v.cells.toList).length=len * sz:=by rw[h4.length,hlen]
 have hown:=kn8 w (us.flatMap fun v=>v.cells.toList) e len sz 0 hfl (by unfold maxLen;have:=Nat.le_mul_of_pos_right len hpos;omega) (Nat.zero_le _)
 have hst:∀ w',w'=w.alloc (.cells (us.flatMap fun v=>v.cells.toList).toArray e)->StB E.C (upd β n (.slice (some ⟨w.heap.size,0,none⟩) len len)) {S with H:=(n,.row e sz true xs 0)::S.H} a w':=fun w' e'=>by
  subst e'
  refine h.newRow hn (Grows.alloc w _) (fun b hb'=>?_) (by rw[hlen];exact hown) h4
  simp only[Value.ownBlock,Option.some.injEq]at hb'
  omega
 refine⟨.slice (some ⟨w.heap.size,0,none⟩) len len,_,_,?_,Grows.alloc w _,hst _ rfl,jv5⟩
 have hparts:(ps.toArray.map fun x=>(x.1,a.eval x.2)).toList=(us.zipIdx 0).map (fun x=>(x.2,x.1)):=by simp[<-h1]
 by_cases h0:len=0
 ·subst h0
  have hus:us=[]:=List.eq_nil_of_length_eq_zero (by rw[h2,hlen])
  subst hus
  simp only[List.zipIdx_nil,List.map_nil]at hparts
  have hps:ps=[]:=by simpa using hparts
  subst hps
  have e0:Array.range 0=#[]:=Array.eq_empty_of_size_eq_zero (by simp)
  simp[execOp,Instr.buildSlice,run_underlying hu,jd1 hi,Instr.fill,newRow,e0]
 ·have hne:¬len * i.size=0:=by rw[hs];exact Nat.mul_ne_zero h0 (by omega)
  have hf:=Go.Great.fill_whole (s:=sz) hpos us ((Array.range (len * sz)).map (z.cells[·% z.cells.size]!)) h3 (by simp;rw[h2,hlen])
  have hr:=run_buildSlice (P:=E.P) w t e len (ps.toArray.map fun x=>(x.1,a.eval x.2)) _ i z hu hi hz (by rw[hs];omega) hne (by rw[hs,hparts];exact hf)
  simp only[execOp,Sem.run_bind,hr,Result.andThen_ok,Sem.run_pure]
structure GrowK (E:Set)(S:Sd)(o:Oper)(S':Nat->Sd)(v:Nat->V):Prop where
 out:∀ β a w,StB E.C β S a w->∃ x w' β' k,(execOp a.eval o).run E.P w=.ok (.value x) w'/\StB E.C β' (S' k) a w'/\RepV w' (Mut E.C.M0 β' (S' k).H) β' (S' k).H (v k) x
theorem ql8 {o:Oper}{d:Nat}{S':Nat->Sd}{v:Nat->V}(hq:GrowK E S o S' v)(hdst:o.dst=some d)(hd:d<E.C.nt)(hg:S.gd ops o=some true)(hdf:jb9 o=false)(hw:isBar draw way=true)(h:∀ k,TR E draw ops Q rest ((S' k).put d (v k))):TR E draw ops Q (.step o way rest) S:=fun a w hS=>by
 have hS0:=hS
 have key:∀ w1,Grows w w1->∀ K:Act->World->Prop,(∀ k a2 w2,St E.C ((S' k).put d (v k)) a2 w2->K a2 w2)->o.wp E.P a w1 K (Qof E.C Q):=fun w1 g K hK=>by
  obtain⟨β,hB⟩:=hS.later g
  obtain⟨x,w',β',k,h1,h2,h3⟩:=hq.out β a w1 hB
  refine je2 h1 (hK k _ _ ?_)
  rw[hdst]
  exact⟨β',h2.put hd h3⟩
 cases draw with
 |true=>
  dsimp only
  cases way with
  |pure=>cases hw
  |quiet=>cases hw
  |grow=>cases hw
  |bar=>
   simp only[x7]
   intro n
   rw[Sd.gd_sound hS0 hg,if_pos rfl]
   exact key n.w n.grows _ fun k a2 w2 hs2=>h k _ _ hs2
 |false=>exact ja0 hS0 hg hdf fun K hK=>key w (Grows.refl w) K fun k a2 w2 hs2=>hK _ _ (h k _ _ hs2)
theorem ks1 {P:Program}{a:Act}{s x:Operand}{t:TypeId}{dst:Option Tmp}{w w':World}{v:Value}(h:(Builtin.append_ #[t,t] ty #[a.eval s,a.eval x]).run P w=.ok v w'):
 (execOp a.eval ⟨dst,.call {callee:=.builtin .append,args:=#[s,x],argTypes:=#[t,t]},ty,pos,af,gd⟩).run P w=.ok (.value v) w':=by
 simp[execOp,resolve,invoke,builtin,h]
theorem ql9 {d t e sz n k:Nat}{sh:Bool}{s x:Operand}{v:V}{xs ys:List D}[ht:TSlice E.P t e sz](hs:S.ev s=some (.own n k))(hos:okOp s=true)(hl:look n S.H=some (.row e sz sh xs k))(hx:S.ev x=some v)(hox:okOp x=true)(hy:ToD S.H v (.list sz ys))(hlen:xs.length+ys.length<=100000000000)(hN:E.C.N.contains n=false):
 GrowK E S ⟨some d,.call {callee:=.builtin .append,args:=#[s,x],argTypes:=#[t,t]},ty,pos,af,gd⟩ (fun k'=>{S with H:=(n,.row e sz sh (xs++ys) k')::S.H}) (fun k'=>.own n k'):=GrowK.mk fun β a w h=>by
 obtain⟨bytes,he,hby⟩:=jk3 ht
 have h1:a.eval s=(β n).v:=h.ev hs hos e sz sh xs hl
 obtain⟨olds,h2,h3⟩:=h.obs n _ hl
 obtain⟨xa,xc,news,h4,h5,h6,h7,h8,h9⟩:=hy.rep h (h.ev hx hox)
 obtain⟨v',w',h10,h11,h12⟩:=qt0 (P:=E.P) (ty:=ty) w he h2 (xa:=xa) (m:=ys.length) (xc:=xc) (news:=news) h8.length (fun j u hu=>by
  obtain⟨b,o,e1,_,e2⟩:=h9 j u hu
  exact⟨b,o,e1,e2⟩) h7 h5 h8.one hlen hby
 refine⟨v',w',_,max (qo2 S.env) (qo3 S.H),ks1 (by rw[h1,h4];exact h10),h.append hl h2 h3 h8 h11 h12 _ (Nat.le_refl _) hN,jv5⟩
theorem StB.nilRow {C:Ctx}{β:Nat->Hd}{a:Act}{w:World}(h:StB C β S a w){n e sz:Nat}(hn:S.fresh n=true):StB C (upd β n (.slice none 0 0)) {S with H:=(n,.row e sz true [] 0)::S.H} a w:=
 h.newRow hn (Grows.refl w) (fun b hb'=>by cases hb') (World.ownsRow_nil w 0 e sz) rfl
end
end
section
section
variable {E:Set}{Q:Exit->Sd->Prop}{ops:Array Oper}{draw:Bool}{rest:Todo}{way:Way3}{ty:TypeId}{pos:String}{af:Array Edge}{gd:Option (Nat × Bool)}{dst:Option Tmp}
variable {env:List (Nat × V)}{H:List (Nat × Ob)}{gl:List (Nat × List D)}{d:Nat}
theorem s_p {v:V}{o:Oper}(hq:Swift E ⟨env,H,gl⟩ o v)(hdst:o.dst=some d)(hd:d<E.C.nt)(hg:Sd.gd ⟨env,H,gl⟩ ops o=some true)(hdf:jb9 o=false)(h:TR E draw ops Q rest ⟨(d,v)::env,H,gl⟩):TR E draw ops Q (.step o way rest) ⟨env,H,gl⟩:=
 jd0 hq hdst hd hg hdf h
theorem s_q {v:V}{o:Oper}(hq:Quiet E ⟨env,H,gl⟩ o v)(hdst:o.dst=some d)(hd:d<E.C.nt)(hg:Sd.gd ⟨env,H,gl⟩ ops o=some true)(hdf:jb9 o=false)(hw:way.known=false)(h:TR E draw ops Q rest ⟨(d,v)::env,H,gl⟩):TR E draw ops Q (.step o way rest) ⟨env,H,gl⟩:=
 ju6 hq hdst hd hg hdf hw h
theorem rd1 {o:Oper}(hdst:o.dst=some d)(hd:d<E.C.nt)(hg:Sd.gd ⟨env,H,gl⟩ ops o=some false)(h:TR E draw ops Q rest ⟨(d,.tup [])::env,H,gl⟩):TR E draw ops Q (.step o way rest) ⟨env,H,gl⟩:=mz0 hdst hd hg h
theorem qw8 (n:Nat){t:Nat}{vs:List V}[ht:TZero E.P t vs](hn:Sd.fresh ⟨env,H,gl⟩ n=true)(hs:saysL n vs=false)(hd:d<E.C.nt)(hg:Sd.gd ⟨env,H,gl⟩ ops ⟨some d,.alloc t,ty,pos,af,gd⟩=some true)(hw:way.loud=true)
 (h:TR E draw ops Q rest ⟨(d,.ptr n 0)::env,(n,.box vs)::H,gl⟩):TR E draw ops Q (.step ⟨some d,.alloc t,ty,pos,af,gd⟩ way rest) ⟨env,H,gl⟩:=jx5 (qw3 hn hs) rfl hd hg rfl hw h
theorem rg4 (n:Nat){t:Nat}{x:Operand}{v:V}{vs:List V}(hx:Sd.ev ⟨env,H,gl⟩ x=some v)(hox:okOp x=true)(hown:ownOk ⟨env,H,gl⟩ v=true)(hc:CellsV v vs)(hn:Sd.fresh ⟨env,H,gl⟩ n=true)(hs:saysL n vs=false)(hd:d<E.C.nt)
 (hg:Sd.gd ⟨env,H,gl⟩ ops ⟨some d,.box t x,ty,pos,af,gd⟩=some true) (hw:way.loud=true)
 (h:TR E draw ops Q rest ⟨(d,.ptr n 0)::env,(n,.box vs)::H,gl⟩):TR E draw ops Q (.step ⟨some d,.box t x,ty,pos,af,gd⟩ way rest) ⟨env,H,gl⟩:=jx5 (rg2 hx hox hown hc hn hs) rfl hd hg rfl hw h
theorem qw9 {t n off m:Nat}{x y:Operand}{v:V}{vs cs cs':List V}[ht:TSize E.P t m](hx:Sd.ev ⟨env,H,gl⟩ x=some (.ptr n off))(hox:okOp x=true)(hy:Sd.ev ⟨env,H,gl⟩ y=some v)(hoy:okOp y=true)(hown:ownOk ⟨env,H,gl⟩ v=true)
 (hl:look n H=some (.box cs)) (hc:CellsV v vs) (hm:vs.length=m) (hr:Repl cs off vs cs') (hg:Sd.gd ⟨env,H,gl⟩ ops ⟨none,.store t x y,ty,pos,af,gd⟩=some true) (hw:isBar draw way=true)
 (h:TR E draw ops Q rest ⟨env,(n,.box cs')::H,gl⟩):TR E draw ops Q (.step ⟨none,.store t x y,ty,pos,af,gd⟩ way rest) ⟨env,H,gl⟩:=kg9 (qw4 hx hox hy hoy hown hl hc hm hr) rfl hg rfl hw h
theorem rg5 (n:Nat){t e sz len:Nat}{ps:List (Nat × Operand)}{xs:List D}[ht:TSlice E.P t e sz](hp:Elems ⟨env,H,gl⟩ sz 0 ps xs)(hlen:xs.length=len)(hsmall:len * sz<=16777216)(hn:Sd.fresh ⟨env,H,gl⟩ n=true)(hd:d<E.C.nt)
 (hg:Sd.gd ⟨env,H,gl⟩ ops ⟨some d,.buildSlice t len ps.toArray,ty,pos,af,gd⟩=some true) (hw:way.loud=true)
 (h:TR E draw ops Q rest ⟨(d,.own n 0)::env,(n,.row e sz true xs 0)::H,gl⟩):TR E draw ops Q (.step ⟨some d,.buildSlice t len ps.toArray,ty,pos,af,gd⟩ way rest) ⟨env,H,gl⟩:=jx5 (rg3 hp hlen hsmall hn) rfl hd hg rfl hw h
theorem qm0 {t e sz n k:Nat}{sh:Bool}{s x:Operand}{v:V}{xs ys:List D}[ht:TSlice E.P t e sz](hs:Sd.ev ⟨env,H,gl⟩ s=some (.own n k))(hos:okOp s=true)(hl:look n H=some (.row e sz sh xs k))(hx:Sd.ev ⟨env,H,gl⟩ x=some v)(hox:okOp x=true)(hy:ToD H v (.list sz ys))
 (hlen:xs.length+ys.length<=100000000000) (hN:E.C.N.contains n=false) (hd:d<E.C.nt) (hg:Sd.gd ⟨env,H,gl⟩ ops ⟨some d,.call {callee:=.builtin .append,args:=#[s,x],argTypes:=#[t,t]},ty,pos,af,gd⟩=some true) (hw:isBar draw way=true)
 (h:∀ k',TR E draw ops Q rest ⟨(d,.own n k')::env,(n,.row e sz sh (xs++ys) k')::H,gl⟩):TR E draw ops Q (.step ⟨some d,.call {callee:=.builtin .append,args:=#[s,x],argTypes:=#[t,t]},ty,pos,af,gd⟩ way rest) ⟨env,H,gl⟩:=
 ql8 (ql9 hs hos hl hx hox hy hlen hN (d:=d)) rfl hd hg rfl hw h
theorem rd2 {f:Nat}{xs:List Operand}{ats:Array TypeId}{vs vs':List V}{R:V->Prop}[hf:TFun E.P f](hx:Evs ⟨env,H,gl⟩ xs vs)(ha:Args H vs vs')(hc:FnD E.P gl f vs' R)(hd:d<E.C.nt)
 (hg:Sd.gd ⟨env,H,gl⟩ ops ⟨some d,.call {callee:=.value (.func f),args:=xs.toArray,argTypes:=ats},ty,pos,af,gd⟩=some true) (hw:way.loud=true)
 (h:∀ v,R v->TR E draw ops Q rest ⟨(d,v)::env,H,gl⟩):TR E draw ops Q (.step ⟨some d,.call {callee:=.value (.func f),args:=xs.toArray,argTypes:=ats},ty,pos,af,gd⟩ way rest) ⟨env,H,gl⟩:=
 qw6 hx ha hc hd rfl hg hw h
theorem rg6 {op:BinOp}{xt yt:TypeId}{x y:Operand}{k:IntKind}{p q:Int}(hop:isCmp op=true)(hx:Sd.ev ⟨env,H,gl⟩ x=some (.d (.int k p)))(hy:Sd.ev ⟨env,H,gl⟩ y=some (.d (.int k q)))(hox:okOp x=true)(hoy:okOp y=true)(hd:d<E.C.nt)
 (hg:Sd.gd ⟨env,H,gl⟩ ops ⟨some d,.binOp op xt x y yt,ty,pos,af,gd⟩=some true) (h1:cmp op p q->TR E draw ops Q rest ⟨(d,.d (.bool true))::env,H,gl⟩) (h2:¬cmp op p q->TR E draw ops Q rest ⟨(d,.d (.bool false))::env,H,gl⟩):
 TR E draw ops Q (.step ⟨some d,.binOp op xt x y yt,ty,pos,af,gd⟩ way rest) ⟨env,H,gl⟩:=rd0 hop hx hy hox hoy hd rfl hg h1 h2
theorem qm1 {xt yt:TypeId}{x y:Operand}{s t:ByteArray}(hx:Sd.ev ⟨env,H,gl⟩ x=some (.d (.str s)))(hy:Sd.ev ⟨env,H,gl⟩ y=some (.d (.str t)))(hox:okOp x=true)(hoy:okOp y=true)(hd:d<E.C.nt)
 (hg:Sd.gd ⟨env,H,gl⟩ ops ⟨some d,.binOp .eql xt x y yt,ty,pos,af,gd⟩=some true) (h1:s=t->TR E draw ops Q rest ⟨(d,.d (.bool true))::env,H,gl⟩) (h2:¬s=t->TR E draw ops Q rest ⟨(d,.d (.bool false))::env,H,gl⟩):
 TR E draw ops Q (.step ⟨some d,.binOp .eql xt x y yt,ty,pos,af,gd⟩ way rest) ⟨env,H,gl⟩:=by
 by_cases h:s=t
 ·exact jd0 (q_str_eql hx hy hox hoy (b:=true) (propext ⟨fun _=>h,fun _=>rfl⟩)) rfl hd hg rfl (h1 h)
 ·exact jd0 (q_str_eql hx hy hox hoy (b:=false) (propext ⟨(fun h'=>by cases h'),fun h'=>absurd h' h⟩)) rfl hd hg rfl (h2 h)
theorem qm2 {S:Sd}{b:Bool}:Swift E S ⟨dst,.assign (.const (.bool b)),ty,pos,af,gd⟩ (.d (.bool b)):=jv3 rfl rfl
theorem qx0 {S:Sd}{k:IntKind}{n:Int}:Swift E S ⟨dst,.assign (.const (.int k n)),ty,pos,af,gd⟩ (.d (.int k n)):=jv3 rfl rfl
theorem qx1 {S:Sd}{s:ByteArray}:Swift E S ⟨dst,.assign (.const (.string s)),ty,pos,af,gd⟩ (.d (.str s)):=jv3 rfl rfl
theorem qx2 {S:Sd}{k:IntKind}{n:Int}:Swift E S ⟨dst,.move (.const (.int k n)),ty,pos,af,gd⟩ (.d (.int k n)):=qb5 rfl rfl
theorem rg7 {S:Sd}{c y:Operand}{b:Bool}(hc:S.ev c=some (.d (.bool true)))(hk:okOp c=true):Swift E S ⟨dst,.pick c (.const (.bool b)) y,ty,pos,af,gd⟩ (.d (.bool b)):=kr8 hc hk rfl rfl
theorem rg8 {S:Sd}{c x:Operand}{b:Bool}(hc:S.ev c=some (.d (.bool false)))(hk:okOp c=true):Swift E S ⟨dst,.pick c x (.const (.bool b)),ty,pos,af,gd⟩ (.d (.bool b)):=kr9 hc hk rfl rfl
theorem qx3 {S:Sd}{xt:TypeId}{x:Operand}(hx:S.ev x=some (.d (.bool true)))(hox:okOp x=true):Swift E S ⟨dst,.unOp .not xt x,ty,pos,af,gd⟩ (.d (.bool false)):=qw1 hx hox
theorem qx4 {S:Sd}{xt:TypeId}{x:Operand}(hx:S.ev x=some (.d (.bool false)))(hox:okOp x=true):Swift E S ⟨dst,.unOp .not xt x,ty,pos,af,gd⟩ (.d (.bool true)):=qw1 hx hox
theorem rh2 {rest:Todo}{b:Bool}(h1:b=true->TR E draw ops Q rest ⟨(d,.d (.bool true))::env,H,gl⟩)(h2:b=false->TR E draw ops Q rest ⟨(d,.d (.bool false))::env,H,gl⟩):TR E draw ops Q rest ⟨(d,.d (.bool b))::env,H,gl⟩:=by
 cases b
 ·exact h2 rfl
 ·exact h1 rfl
theorem qm3 {xt yt:TypeId}{x y:Operand}{s t:ByteArray}(hx:Sd.ev ⟨env,H,gl⟩ x=some (.d (.str s)))(hy:Sd.ev ⟨env,H,gl⟩ y=some (.d (.str t)))(hox:okOp x=true)(hoy:okOp y=true)(hd:d<E.C.nt)
 (hg:Sd.gd ⟨env,H,gl⟩ ops ⟨some d,.binOp .neq xt x y yt,ty,pos,af,gd⟩=some true) (h1:s=t->TR E draw ops Q rest ⟨(d,.d (.bool false))::env,H,gl⟩) (h2:¬s=t->TR E draw ops Q rest ⟨(d,.d (.bool true))::env,H,gl⟩):
 TR E draw ops Q (.step ⟨some d,.binOp .neq xt x y yt,ty,pos,af,gd⟩ way rest) ⟨env,H,gl⟩:=by
 by_cases h:s=t
 ·exact jd0 (ky5 hx hy hox hoy (b:=false) (propext ⟨(fun h'=>by cases h'),fun h'=>absurd h h'⟩)) rfl hd hg rfl (h1 h)
 ·exact jd0 (ky5 hx hy hox hoy (b:=true) (propext ⟨fun _=>h,fun _=>rfl⟩)) rfl hd hg rfl (h2 h)
theorem ki4 {α:Type}{l:List α}{f:α->D}{k:Nat}(h:k<l.length):(l.map f)[k]? =some (f l[k]):=by simp[h]
theorem jv6 {α:Type}{l:List α}{k:Nat}(h:k<l.length):l[k]? =some l[k]:=by simp[h]
theorem qx5 {P:Program}{S:Sd}{rs:List ResultVar}{R:V->Prop}{vs:List V}(h:Res P S rs vs)(hr:R (oneOf vs)):Ends P rs R .ret S:=⟨.inl rfl,vs,h,hr⟩
theorem qd0 {S:Sd}{c:Operand}{x y:Code}(hc:S.ev c=some (.d (.bool true)))(ho:okOp c=true)(ht:TC E x Q S):TC E (.cond c x y) Q S:=my9 hc ho (fun _=>ht) (fun h=>by cases h)
theorem qd1 {S:Sd}{c:Operand}{x y:Code}(hc:S.ev c=some (.d (.bool false)))(ho:okOp c=true)(ht:TC E y Q S):TC E (.cond c x y) Q S:=my9 hc ho (fun h=>by cases h) (fun _=>ht)
end
end
end Go.Proofs.YtdopmfifmgkmoaaGreatDoor
