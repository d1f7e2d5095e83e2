/- Parts. -/
import Derived.Test.YtklklgfpkpglgaaGreatDoorQ43
import Derived.Test.YtklklgfpkpglgaaGreatDoorQ52
set_option linter.all false
set_option maxRecDepth 100000
set_option maxHeartbeats 0
namespace Go.Proofs.YtklklgfpkpglgaaGreatDoor
open Go.RowKit Go.Proofs.Tryz
section
open Go.ChangeShapes Go.WideShapes Go.ChangeAt Go.RowKit
set_option maxRecDepth 100000 in
theorem kp4 (os:Os)(started:os.Started)(H:Type)(enc:TypeId × Value->H):
 ReturnsInHanded {} Tryz.checked os 5 .any (λw args=>(Rows.aliasScopeSpec.pre enc prog Tryz.f5 [] false w args/\laidMetH prog mp3 w)/\sizedMet enc prog Tryz.f5 (OpenSpec.ofChange Rows.aliasScopeSpec) false w args)
  (Rows.aliasScopeSpec.post enc prog Tryz.f5 false true false false):=by
 refine kz1 (C:=Tryz.checked) (X:=λw _=>laidMetH prog mp3 w) (λ_ _ _ hh h=>h.of_heap hh) ri1 started (by kernel_rfl) func5
  (ChangeSpec.witness_shaped (enc:=enc) (C:=Tryz.checked) (os:=os) (X:=λw _=>laidMetH prog mp3 w) false (World.laidAll prog os mp3) #[.agg #[.int .u8 0,.string ⟨#[]⟩,.int .u8 0,.int .u8 0,.int .u8 0,.int .i32 0,.string ⟨#[]⟩,.slice none 0 0,.slice none 0 0,.slice none 0 0,.string ⟨#[]⟩,.int .u8 0,.int .u8 0,.int .u8 0,.int .i32 0,.string ⟨#[]⟩,.slice none 0 0,.int .u8 0,.int .u8 0,.int .u8 0,.int .i32 0,.string ⟨#[]⟩,.slice none 0 0,.slice none 0 0,.slice none 0 0,.slice none 0 0,.int .u8 0,.int .u8 0,.int .i64 0,.int .u8 0,.string ⟨#[]⟩,.slice none 0 0,.int .u8 0,.int .u8 0,.int .u8 0,.int .i32 0,.string ⟨#[]⟩,.slice none 0 0,.bool false,.slice none 0 0,.slice none 0 0,.slice none 0 0]] 8 (World.laidAll_os _ _ _) (World.shaped_of_ZipB (by kernel_rfl) (by kernel_rfl)) (by kernel_rfl) (by kernel_rfl) (by kernel_rfl) (ri0 os _)) ?_
 intro W base args ds gs before hval0 hW hL hsh;obtain⟨mm,hG⟩:=mi1 hL hsh;have hval:∀ (j:Nat) t v,Tryz.f5.params[j]? =some t->args[j]? =some v->Value.okWide prog W .any base t v:=hval0;have hW':=hW;obtain⟨p,q,hA0,hV,rfl,hfz,hnd⟩:=hW;have hA:DataW.TrodAll enc prog W 0 (λ_=>true) true Tryz.f5.params.toList args.toList ds p:=hA0;rw[Tryz.params5]at hA hval;obtain⟨v0,vs0,d0,ds0,p0,q0,hargs,rfl,rfl,h0,r0⟩:=trodAll_cons hA;obtain⟨rfl,rfl,rfl⟩:=trodAll_nil r0;obtain rfl:args=#[v0]:=by cases args;simp_all
 obtain⟨rfl,rfl⟩:=trodVars_none hV;have lt0:∀ x∈p0,x.block<W.heap.size:=by obtain⟨m,hm⟩:=h0;exact DataW.trod_lt m _ _ _ hm
 obtain⟨e0,w0,b0⟩:∃ e:Pr,Gv W NoM (dPr e) v0/\Lx.kPr e:=by
  obtain⟨c,⟨e,he,hk⟩,hr,_⟩:=ry2 Tryz.underlying45 mp2 (hval 0 45 v0 rfl rfl) h0;exact⟨e,he ▸ hr,hk⟩
 clear hA0 hval0;refine((Al.Uc (mm:=mm) e0 b0) W NoM [v0] (λ_ _ h=>h.elim) ⟨_,_,rfl,w0,rfl⟩ hG).mono λe W' he=>?_;obtain⟨v,x,rfl,_,rfl,bel,hr⟩:=he;obtain rfl:x=.bool true:=hr;exact⟨_,rfl,_,_,_,[],_,[],hW',trodAll_mk1 (shut_bool Tryz.underlying4 _),(trodAll_cons_mk (Below.trod ri2 (by kernel_rfl) (of_decide_eq_true (by kernel_rfl)) h0 bel lt0) trodAll_mk0),rfl,bel.frame _,λh=>by cases h⟩
theorem ml7:Rows.AliasScopeSaid:=
 OpenClaim.holds_of_wide 5 Tryz.f5 rfl rfl rfl rfl rfl rfl rfl ⟨rfl,rfl,rfl,rfl,rfl⟩ rfl rfl rfl rfl rfl (by kernel_rfl) func5 (by kernel_rfl)
  (of_decide_eq_true (by kernel_rfl)) (by unfold Func.isWrapper;first|(rw[Ad (by decide+kernel)];kernel_rfl)|(rw[Af (by decide+kernel)];exact⟨rfl,rfl⟩))
  (λos started H enc _=>kp4 os started H enc)
end
end Go.Proofs.YtklklgfpkpglgaaGreatDoor
