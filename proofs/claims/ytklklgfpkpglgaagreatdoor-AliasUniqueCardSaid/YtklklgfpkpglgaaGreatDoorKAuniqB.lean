/- Parts: RSAuniq. -/
import Derived.Test.YtklklgfpkpglgaaGreatDoorP33
import Derived.Test.YtklklgfpkpglgaaGreatDoorP49
set_option linter.all false
set_option maxRecDepth 100000
set_option maxHeartbeats 16000000
namespace Go.Proofs.YtklklgfpkpglgaaGreatDoor
open Go.RowKit Go.Proofs.Tryz
section
open Go.ChangeShapes Go.WideShapes Go.ChangeAt Go.RowKit
set_option maxRecDepth 100000 in
theorem kt9 (os:Os)(started:os.Started)(H:Type)(enc:TypeId × Value->H):
 ReturnsInHanded {} Tryz.checked os 3 .any (fun w args=>(Rows.aliasUniqueSpec.pre enc prog Tryz.f3 [] false w args/\laidMetH prog mn4 w)/\sizedMet enc prog Tryz.f3 (OpenSpec.ofChange Rows.aliasUniqueSpec) false w args)
  (Rows.aliasUniqueSpec.post enc prog Tryz.f3 false true false false):=by
 refine kx0 (C:=Tryz.checked) (X:=fun w _=>laidMetH prog mn4 w) (fun _ _ _ hh h=>h.of_heap hh) qz4 started (by kernel_rfl) func3
  (ChangeSpec.witness_shaped (enc:=enc) (C:=Tryz.checked) (os:=os) (X:=fun w _=>laidMetH prog mn4 w) false (World.laidAll prog os mn4) #[.agg #[.int .u8 0,.string ⟨#[]⟩,.int .u8 0,.int .u8 0,.int .u8 0,.int .i32 0,.string ⟨#[]⟩,.slice none 0 0,.slice none 0 0,.slice none 0 0,.string ⟨#[]⟩,.int .u8 0,.int .u8 0,.int .u8 0,.int .i32 0,.string ⟨#[]⟩,.slice none 0 0,.int .u8 0,.int .u8 0,.int .u8 0,.int .i32 0,.string ⟨#[]⟩,.slice none 0 0,.slice none 0 0,.slice none 0 0,.slice none 0 0,.int .u8 0,.int .u8 0,.int .i64 0,.int .u8 0,.string ⟨#[]⟩,.slice none 0 0,.int .u8 0,.int .u8 0,.int .u8 0,.int .i32 0,.string ⟨#[]⟩,.slice none 0 0,.bool false,.slice none 0 0,.slice none 0 0,.slice none 0 0]] 8 (World.laidAll_os _ _ _) (World.shaped_of_ZipB (by kernel_rfl) (by kernel_rfl)) (by kernel_rfl) (by kernel_rfl) (by kernel_rfl) (qz3 os _)) ?_
 intro W base args ds gs before hval0 hW hL hsh;obtain⟨mm,hG⟩:=mf8 hL hsh;have hval:∀ (j:Nat) t v,Tryz.f3.params[j]? =some t->args[j]? =some v->Value.okWide prog W .any base t v:=hval0;have hW':=hW;obtain⟨p,q,hA0,hV,rfl,hfz,hnd⟩:=hW;have hA:DataW.TrodAll enc prog W 0 (fun _=>true) true Tryz.f3.params.toList args.toList ds p:=hA0;rw[Tryz.params3]at hA hval;obtain⟨v0,vs0,d0,ds0,p0,q0,hargs,rfl,rfl,h0,r0⟩:=trodAll_cons hA;obtain⟨rfl,rfl,rfl⟩:=trodAll_nil r0;obtain rfl:args=#[v0]:=by cases args;simp_all
 obtain⟨rfl,rfl⟩:=trodVars_none hV;have lt0:∀ x∈p0,x.block<W.heap.size:=by obtain⟨m,hm⟩:=h0;exact DataW.trod_lt m _ _ _ hm
 obtain⟨e0,w0,b0⟩:∃ e:Pr,Gw W NoM (dPr e) v0/\Lx.kPr e:=by
  obtain⟨c,⟨e,he,hk⟩,hr,_⟩:=rm8 Tryz.underlying45 mn3 (hval 0 45 v0 rfl rfl) h0;exact⟨e,he ▸ hr,hk⟩
 clear hA0 hval0;refine((Al.Sk (mm:=mm) e0) W NoM [v0] (fun _ _ h=>h.elim) ⟨_,_,rfl,w0,rfl⟩ hG).mono fun e W' he=>?_;obtain⟨v,x,rfl,_,rfl,bel,hr⟩:=he;obtain rfl:x=.bool true:=hr;exact⟨_,rfl,_,_,_,[],_,[],hW',trodAll_mk1 (shut_bool Tryz.underlying4 _),(trodAll_cons_mk (Below.trod qz5 (by kernel_rfl) (of_decide_eq_true (by kernel_rfl)) h0 bel lt0) trodAll_mk0),rfl,bel.frame _,fun h=>by cases h⟩
theorem mw8:Rows.AliasUniqueSaid:=
 OpenClaim.holds_of_wide 3 Tryz.f3 rfl rfl rfl rfl rfl rfl rfl ⟨rfl,rfl,rfl,rfl,rfl⟩ rfl rfl rfl rfl rfl (by kernel_rfl) func3 (by kernel_rfl)
  (of_decide_eq_true (by kernel_rfl)) (by unfold Func.isWrapper;first|(rw[Ad (by decide+kernel)];kernel_rfl)|(rw[Ae (by decide+kernel)];exact⟨rfl,rfl⟩))
  (fun os started H enc _=>kt9 os started H enc)
end
end Go.Proofs.YtklklgfpkpglgaaGreatDoor
