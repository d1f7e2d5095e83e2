/- Parts. -/
import Derived.Test.YtklklgfpkpglgaaGreatDoorW42
import Derived.Test.YtklklgfpkpglgaaGreatDoorW52
set_option linter.all false
set_option maxRecDepth 100000
set_option maxHeartbeats 0
namespace Go.Proofs.YtklklgfpkpglgaaGreatDoor
open Go.RowKit Go.Proofs.Tryz
section
open Go.ChangeShapes Go.WideShapes Go.ChangeAt Go.RowKit
set_option maxRecDepth 100000 in
theorem mb0 (os:Os)(started:os.Started)(H:Type)(enc:TypeId × Value->H):
 ReturnsInHanded {} Tryz.checked os 4 .any (λw args=>(Rows.aliasAddedSpec.pre enc prog Tryz.f4 [] false w args/\laidMetH prog mm5 w)/\sizedMet enc prog Tryz.f4 (OpenSpec.ofChange Rows.aliasAddedSpec) false w args)
  (Rows.aliasAddedSpec.post enc prog Tryz.f4 false true false false):=by
 refine kx1 (C:=Tryz.checked) (X:=λw _=>laidMetH prog mm5 w) (λ_ _ _ hh h=>h.of_heap hh) ra8 started (by kernel_rfl) func4
  (ChangeSpec.witness_shaped (enc:=enc) (C:=Tryz.checked) (os:=os) (X:=λw _=>laidMetH prog mm5 w) false (World.laidAll prog os mm5) #[.agg #[.int .u8 0,.string ⟨#[]⟩,.int .u8 0,.int .u8 0,.int .u8 0,.int .i32 0,.string ⟨#[]⟩,.slice none 0 0,.slice none 0 0,.slice none 0 0,.string ⟨#[]⟩,.int .u8 0,.int .u8 0,.int .u8 0,.int .i32 0,.string ⟨#[]⟩,.slice none 0 0,.int .u8 0,.int .u8 0,.int .u8 0,.int .i32 0,.string ⟨#[]⟩,.slice none 0 0,.slice none 0 0,.slice none 0 0,.slice none 0 0,.int .u8 0,.int .u8 0,.int .i64 0,.int .u8 0,.string ⟨#[]⟩,.slice none 0 0,.int .u8 0,.int .u8 0,.int .u8 0,.int .i32 0,.string ⟨#[]⟩,.slice none 0 0,.bool false,.slice none 0 0,.slice none 0 0,.slice none 0 0],.string ⟨#[]⟩,.agg #[.int .u8 0,.int .u8 0,.int .u8 0,.int .i32 0,.string ⟨#[]⟩,.slice none 0 0],.int .u8 0] 8 (World.laidAll_os _ _ _) (World.shaped_of_ZipB (by kernel_rfl) (by kernel_rfl)) (by kernel_rfl) (by kernel_rfl) (by kernel_rfl) (ra7 os _)) ?_
 intro W base args ds gs before hval0 hW hL hsh;obtain⟨mm,hG⟩:=mf6 hL hsh;have hval:∀ (j:Nat) t v,Tryz.f4.params[j]? =some t->args[j]? =some v->Value.okWide prog W .any base t v:=hval0;have hW':=hW;obtain⟨p,q,hA0,hV,rfl,hfz,hnd⟩:=hW;have hA:DataW.TrodAll enc prog W 0 (λ_=>true) true Tryz.f4.params.toList args.toList ds p:=hA0;rw[Tryz.params4]at hA hval;obtain⟨v0,vs0,d0,ds0,p0,q0,hargs,rfl,rfl,h0,r0⟩:=trodAll_cons hA;obtain⟨v1,vs1,d1,ds1,p1,q1,rfl,rfl,rfl,h1,r1⟩:=trodAll_cons r0;obtain⟨v2,vs2,d2,ds2,p2,q2,rfl,rfl,rfl,h2,r2⟩:=trodAll_cons r1;obtain⟨v3,vs3,d3,ds3,p3,q3,rfl,rfl,rfl,h3,r3⟩:=trodAll_cons r2;obtain⟨rfl,rfl,rfl⟩:=trodAll_nil r3;obtain rfl:args=#[v0,v1,v2,v3]:=by cases args;simp_all
 obtain⟨rfl,rfl⟩:=trodVars_none hV;have lt0:∀ x∈p0,x.block<W.heap.size:=by obtain⟨m,hm⟩:=h0;exact DataW.trod_lt m _ _ _ hm
 have lt1:∀ x∈p1,x.block<W.heap.size:=by obtain⟨m,hm⟩:=h1;exact DataW.trod_lt m _ _ _ hm
 have lt2:∀ x∈p2,x.block<W.heap.size:=by obtain⟨m,hm⟩:=h2;exact DataW.trod_lt m _ _ _ hm
 have lt3:∀ x∈p3,x.block<W.heap.size:=by obtain⟨m,hm⟩:=h3;exact DataW.trod_lt m _ _ _ hm
 obtain⟨e0,w0,b0⟩:∃ e:Pr,Gm W NoM (dPr e) v0/\Lx.kPr e:=by
  obtain⟨c,⟨e,he,hk⟩,hr,_⟩:=qm5 Tryz.underlying45 mm4 (hval 0 45 v0 rfl rfl) h0;exact⟨e,he ▸ hr,hk⟩
 obtain⟨e1,w1⟩:∃ e:ByteArray,Gm W NoM (.str e) v1:=by
  obtain⟨i,rfl,_⟩:=Go.ChangeMaps.open_string Tryz.underlying9 (hval 1 9 v1 rfl rfl) h1;exact⟨i,rfl⟩
 obtain⟨e2,w2⟩:∃ e:Ex,Gm W NoM (dEx e) v2:=by
  obtain⟨c,⟨e,he⟩,hr,_⟩:=qm5 Tryz.underlying28 ji9 (hval 2 28 v2 rfl rfl) h2;rw[he]at hr;exact⟨e,by rw[k9];exact hr⟩
 obtain⟨e3,w3,b3⟩:=rz0 Tryz.underlying5 (hval 3 5 v3 rfl rfl) h3;clear hA0 hval0;refine((Al.Ub (mm:=mm) e0 b0 e1 e2 e3 b3.1 b3.2) W NoM [v0,v1,v2,v3] (λ_ _ h=>h.elim) ⟨_,_,rfl,w0,_,_,rfl,w1,_,_,rfl,w2,_,_,rfl,w3,rfl⟩ hG).mono λe W' he=>?_;obtain⟨v,x,rfl,_,rfl,bel,hr⟩:=he;obtain rfl:x=.bool true:=hr;exact⟨_,rfl,_,_,_,[],_,[],hW',trodAll_mk1 (shut_bool Tryz.underlying4 _),(trodAll_cons_mk (Below.trod kf8 (by kernel_rfl) (of_decide_eq_true (by kernel_rfl)) h0 bel lt0) (trodAll_cons_mk (Below.trod kf8 (by kernel_rfl) (of_decide_eq_true (by kernel_rfl)) h1 bel lt1) (trodAll_cons_mk (Below.trod kf8 (by kernel_rfl) (of_decide_eq_true (by kernel_rfl)) h2 bel lt2) (trodAll_cons_mk (Below.trod kf8 (by kernel_rfl) (of_decide_eq_true (by kernel_rfl)) h3 bel lt3) trodAll_mk0)))),rfl,bel.frame _,λh=>by cases h⟩
theorem qb1:Rows.AliasAddedSaid:=
 OpenClaim.holds_of_wide 4 Tryz.f4 rfl rfl rfl rfl rfl rfl rfl ⟨rfl,rfl,rfl,rfl,rfl⟩ rfl rfl rfl rfl rfl (by kernel_rfl) func4 (by kernel_rfl)
  (of_decide_eq_true (by kernel_rfl)) (by unfold Func.isWrapper;first|(rw[Ae (by decide+kernel)];kernel_rfl)|(rw[Af (by decide+kernel)];exact⟨rfl,rfl⟩))
  (λos started H enc _=>mb0 os started H enc)
end
end Go.Proofs.YtklklgfpkpglgaaGreatDoor
