/- Parts. -/
import Derived.Test.YtklklgfpkpglgaaGreatDoorQ11
import Derived.Test.YtklklgfpkpglgaaGreatDoorProg
set_option linter.all false
set_option maxRecDepth 100000
set_option maxHeartbeats 0
namespace Go.Proofs.YtklklgfpkpglgaaGreatDoor
open Go.RowKit Go.Proofs.Tryz
section
instance:TCell prog 3:=⟨by kernel_rfl⟩
instance:TSize prog 3 1:=⟨by kernel_rfl⟩
instance:TZero prog 3 [.d (.int .i64 0)]:=⟨by kernel_rfl⟩
instance:TCell prog 4:=⟨by kernel_rfl⟩
instance:TSize prog 4 1:=⟨by kernel_rfl⟩
instance:TZero prog 4 [.d (.bool false)]:=⟨by kernel_rfl⟩
instance:TCell prog 9:=⟨by kernel_rfl⟩
instance:TSize prog 9 1:=⟨by kernel_rfl⟩
instance:TStr prog 9:=⟨by kernel_rfl⟩
instance:TZero prog 9 [.d (.str ByteArray.empty)]:=⟨by kernel_rfl⟩
instance:TCell prog 21:=⟨by kernel_rfl⟩
instance:TSize prog 21 1:=⟨by kernel_rfl⟩
instance:TCell prog 22:=⟨by kernel_rfl⟩
instance:TSize prog 22 1:=⟨by kernel_rfl⟩
instance:TCell prog 23:=⟨by kernel_rfl⟩
instance:TSize prog 23 1:=⟨by kernel_rfl⟩
instance:TCell prog 24:=⟨by kernel_rfl⟩
instance:TSize prog 24 1:=⟨by kernel_rfl⟩
instance:TCell prog 25:=⟨by kernel_rfl⟩
instance:TSize prog 25 1:=⟨by kernel_rfl⟩
instance:TCell prog 26:=⟨by kernel_rfl⟩
instance:TSize prog 26 1:=⟨by kernel_rfl⟩
instance:aK prog 26 28 6:=⟨by kernel_rfl⟩
instance:TAgg prog 28 6:=⟨by kernel_rfl⟩
instance:TSize prog 28 6:=⟨by kernel_rfl⟩
instance:aL prog 28:=⟨by kernel_rfl⟩
instance:aJ prog 28 0 0 23:=⟨by kernel_rfl⟩
instance:aJ prog 28 1 1 24:=⟨by kernel_rfl⟩
instance:aJ prog 28 2 2 25:=⟨by kernel_rfl⟩
instance:aJ prog 28 3 3 21:=⟨by kernel_rfl⟩
instance:aJ prog 28 4 4 9:=⟨by kernel_rfl⟩
instance:aJ prog 28 5 5 26:=⟨by kernel_rfl⟩
instance:TZero prog 28 [.d (.int .u8 0),.d (.int .u8 0),.d (.int .u8 0),.d (.int .i32 0),.d (.str ByteArray.empty),.nils 6]:=⟨by kernel_rfl⟩
instance:TAgg prog 30 13:=⟨by kernel_rfl⟩
instance:TSize prog 30 13:=⟨by kernel_rfl⟩
instance:aL prog 30:=⟨by kernel_rfl⟩
instance:aJ prog 30 0 0 9:=⟨by kernel_rfl⟩
instance:aJ prog 30 1 1 28:=⟨by kernel_rfl⟩
instance:aJ prog 30 2 7 28:=⟨by kernel_rfl⟩
instance:TZero prog 30 [.d (.str ByteArray.empty),.d (.int .u8 0),.d (.int .u8 0),.d (.int .u8 0),.d (.int .i32 0),.d (.str ByteArray.empty),.nils 6,.d (.int .u8 0),.d (.int .u8 0),.d (.int .u8 0),.d (.int .i32 0),.d (.str ByteArray.empty),.nils 6]:=⟨by kernel_rfl⟩
instance:TCell prog 31:=⟨by kernel_rfl⟩
instance:TSize prog 31 1:=⟨by kernel_rfl⟩
instance:aK prog 31 93 23:=⟨by kernel_rfl⟩
instance:TCell prog 32:=⟨by kernel_rfl⟩
instance:TSize prog 32 1:=⟨by kernel_rfl⟩
instance:aK prog 32 45 42:=⟨by kernel_rfl⟩
instance:TCell prog 33:=⟨by kernel_rfl⟩
instance:TSize prog 33 1:=⟨by kernel_rfl⟩
instance:aK prog 33 3 1:=⟨by kernel_rfl⟩
instance:TCell prog 34:=⟨by kernel_rfl⟩
instance:TSize prog 34 1:=⟨by kernel_rfl⟩
instance:TAgg prog 36 4:=⟨by kernel_rfl⟩
instance:TSize prog 36 4:=⟨by kernel_rfl⟩
instance:aL prog 36:=⟨by kernel_rfl⟩
instance:aJ prog 36 0 0 25:=⟨by kernel_rfl⟩
instance:aJ prog 36 1 1 3:=⟨by kernel_rfl⟩
instance:aJ prog 36 2 2 25:=⟨by kernel_rfl⟩
instance:aJ prog 36 3 3 9:=⟨by kernel_rfl⟩
instance:TEq prog 36 [1,1,1,2]:=⟨by kernel_rfl⟩
instance:TZero prog 36 [.d (.int .u8 0),.d (.int .i64 0),.d (.int .u8 0),.d (.str ByteArray.empty)]:=⟨by kernel_rfl⟩
instance:TCell prog 37:=⟨by kernel_rfl⟩
instance:TSize prog 37 1:=⟨by kernel_rfl⟩
instance:aK prog 37 9 1:=⟨by kernel_rfl⟩
instance:TZero prog 37 [.nils 1]:=⟨by kernel_rfl⟩
instance:TCell prog 38:=⟨by kernel_rfl⟩
instance:TSize prog 38 1:=⟨by kernel_rfl⟩
instance:aK prog 38 124 2:=⟨by kernel_rfl⟩
instance:TAgg prog 40 2:=⟨by kernel_rfl⟩
instance:TSize prog 40 2:=⟨by kernel_rfl⟩
instance:aL prog 40:=⟨by kernel_rfl⟩
instance:aJ prog 40 0 0 4:=⟨by kernel_rfl⟩
instance:aJ prog 40 1 1 38:=⟨by kernel_rfl⟩
instance:TZero prog 40 [.d (.bool false),.nils 2]:=⟨by kernel_rfl⟩
instance:TCell prog 41:=⟨by kernel_rfl⟩
instance:TSize prog 41 1:=⟨by kernel_rfl⟩
instance:aK prog 41 128 6:=⟨by kernel_rfl⟩
instance:TAgg prog 43 16:=⟨by kernel_rfl⟩
instance:TSize prog 43 16:=⟨by kernel_rfl⟩
instance:aL prog 43:=⟨by kernel_rfl⟩
instance:aJ prog 43 0 0 34:=⟨by kernel_rfl⟩
instance:aJ prog 43 1 1 36:=⟨by kernel_rfl⟩
instance:aJ prog 43 2 5 37:=⟨by kernel_rfl⟩
instance:aJ prog 43 3 6 28:=⟨by kernel_rfl⟩
instance:aJ prog 43 4 12 40:=⟨by kernel_rfl⟩
instance:aJ prog 43 5 14 41:=⟨by kernel_rfl⟩
instance:aJ prog 43 6 15 32:=⟨by kernel_rfl⟩
instance:TZero prog 43 [.d (.int .u8 0),.d (.int .u8 0),.d (.int .i64 0),.d (.int .u8 0),.d (.str ByteArray.empty),.nils 1,.d (.int .u8 0),.d (.int .u8 0),.d (.int .u8 0),.d (.int .i32 0),.d (.str ByteArray.empty),.nils 6,.d (.bool false),.nils 2,.nils 6,.nils 42]:=⟨by kernel_rfl⟩
instance:TAgg prog 45 42:=⟨by kernel_rfl⟩
instance:TSize prog 45 42:=⟨by kernel_rfl⟩
instance:aL prog 45:=⟨by kernel_rfl⟩
instance:aJ prog 45 0 0 22:=⟨by kernel_rfl⟩
instance:aJ prog 45 1 1 9:=⟨by kernel_rfl⟩
instance:aJ prog 45 2 2 28:=⟨by kernel_rfl⟩
instance:aJ prog 45 3 8 26:=⟨by kernel_rfl⟩
instance:aJ prog 45 4 9 26:=⟨by kernel_rfl⟩
instance:aJ prog 45 5 10 30:=⟨by kernel_rfl⟩
instance:aJ prog 45 6 23 31:=⟨by kernel_rfl⟩
instance:aJ prog 45 7 24 32:=⟨by kernel_rfl⟩
instance:aJ prog 45 8 25 33:=⟨by kernel_rfl⟩
instance:aJ prog 45 9 26 43:=⟨by kernel_rfl⟩
instance:TZero prog 45 [.d (.int .u8 0),.d (.str ByteArray.empty),.d (.int .u8 0),.d (.int .u8 0),.d (.int .u8 0),.d (.int .i32 0),.d (.str ByteArray.empty),.nils 6,.nils 6,.nils 6,.d (.str ByteArray.empty),.d (.int .u8 0),.d (.int .u8 0),.d (.int .u8 0),.d (.int .i32 0),.d (.str ByteArray.empty),.nils 6,.d (.int .u8 0),.d (.int .u8 0),.d (.int .u8 0),.d (.int .i32 0),.d (.str ByteArray.empty),.nils 6,.nils 23,.nils 42,.nils 1,.d (.int .u8 0),.d (.int .u8 0),.d (.int .i64 0),.d (.int .u8 0),.d (.str ByteArray.empty),.nils 1,.d (.int .u8 0),.d (.int .u8 0),.d (.int .u8 0),.d (.int .i32 0),.d (.str ByteArray.empty),.nils 6,.d (.bool false),.nils 2,.nils 6,.nils 42]:=⟨by kernel_rfl⟩
instance:TCell prog 49:=⟨by kernel_rfl⟩
instance:TSize prog 49 1:=⟨by kernel_rfl⟩
instance:TZero prog 49 [.d (.int .i64 0)]:=⟨by kernel_rfl⟩
instance:TCell prog 58:=⟨by kernel_rfl⟩
instance:TCell prog 66:=⟨by kernel_rfl⟩
instance:TCell prog 70:=⟨by kernel_rfl⟩
instance:TSize prog 70 1:=⟨by kernel_rfl⟩
instance:TZero prog 70 [.d (.raw (.map none))]:=⟨by kernel_rfl⟩
instance:TCell prog 74:=⟨by kernel_rfl⟩
instance:TCell prog 75:=⟨by kernel_rfl⟩
instance:TCell prog 77:=⟨by kernel_rfl⟩
instance:TSize prog 77 1:=⟨by kernel_rfl⟩
instance:TCell prog 82:=⟨by kernel_rfl⟩
instance:TSize prog 82 1:=⟨by kernel_rfl⟩
instance:TCell prog 83:=⟨by kernel_rfl⟩
instance:TSize prog 83 1:=⟨by kernel_rfl⟩
instance:aL prog 85:=⟨by kernel_rfl⟩
instance:aJ prog 85 0 0 82:=⟨by kernel_rfl⟩
instance:aJ prog 85 1 1 83:=⟨by kernel_rfl⟩
instance:aJ prog 85 2 2 3:=⟨by kernel_rfl⟩
instance:aJ prog 85 3 3 77:=⟨by kernel_rfl⟩
instance:TZero prog 85 [.d (.raw (.map none)),.d (.raw (.map none)),.d (.int .i64 0),.d (.raw .nilFunc)]:=⟨by kernel_rfl⟩
instance:TCell prog 91:=⟨by kernel_rfl⟩
instance:TSize prog 91 1:=⟨by kernel_rfl⟩
instance:TAgg prog 93 23:=⟨by kernel_rfl⟩
instance:TSize prog 93 23:=⟨by kernel_rfl⟩
instance:aL prog 93:=⟨by kernel_rfl⟩
instance:aJ prog 93 0 0 91:=⟨by kernel_rfl⟩
instance:aJ prog 93 1 1 9:=⟨by kernel_rfl⟩
instance:aJ prog 93 2 2 28:=⟨by kernel_rfl⟩
instance:aJ prog 93 3 8 28:=⟨by kernel_rfl⟩
instance:aJ prog 93 4 14 26:=⟨by kernel_rfl⟩
instance:aJ prog 93 5 15 26:=⟨by kernel_rfl⟩
instance:aJ prog 93 6 16 28:=⟨by kernel_rfl⟩
instance:aJ prog 93 7 22 32:=⟨by kernel_rfl⟩
instance:TZero prog 93 [.d (.int .u8 0),.d (.str ByteArray.empty),.d (.int .u8 0),.d (.int .u8 0),.d (.int .u8 0),.d (.int .i32 0),.d (.str ByteArray.empty),.nils 6,.d (.int .u8 0),.d (.int .u8 0),.d (.int .u8 0),.d (.int .i32 0),.d (.str ByteArray.empty),.nils 6,.nils 6,.nils 6,.d (.int .u8 0),.d (.int .u8 0),.d (.int .u8 0),.d (.int .i32 0),.d (.str ByteArray.empty),.nils 6,.nils 42]:=⟨by kernel_rfl⟩
instance:TCell prog 94:=⟨by kernel_rfl⟩
instance:TSize prog 94 1:=⟨by kernel_rfl⟩
instance:TCell prog 95:=⟨by kernel_rfl⟩
instance:TSize prog 95 1:=⟨by kernel_rfl⟩
instance:aL prog 97:=⟨by kernel_rfl⟩
instance:aJ prog 97 0 0 70:=⟨by kernel_rfl⟩
instance:aJ prog 97 1 1 94:=⟨by kernel_rfl⟩
instance:aJ prog 97 2 2 95:=⟨by kernel_rfl⟩
instance:TZero prog 97 [.d (.raw (.map none)),.d (.raw (.map none)),.d (.raw (.map none))]:=⟨by kernel_rfl⟩
instance:aL prog 103:=⟨by kernel_rfl⟩
instance:aJ prog 103 0 0 3:=⟨by kernel_rfl⟩
instance:TZero prog 103 [.d (.int .i64 0)]:=⟨by kernel_rfl⟩
instance:aK prog 109 112 3:=⟨by kernel_rfl⟩
instance:TAgg prog 112 3:=⟨by kernel_rfl⟩
instance:TSize prog 112 3:=⟨by kernel_rfl⟩
instance:aL prog 112:=⟨by kernel_rfl⟩
instance:aJ prog 112 0 0 9:=⟨by kernel_rfl⟩
instance:aJ prog 112 1 1 4:=⟨by kernel_rfl⟩
instance:aJ prog 112 2 2 37:=⟨by kernel_rfl⟩
instance:TZero prog 112 [.d (.str ByteArray.empty),.d (.bool false),.nils 1]:=⟨by kernel_rfl⟩
instance:TCell prog 122:=⟨by kernel_rfl⟩
instance:TSize prog 122 1:=⟨by kernel_rfl⟩
instance:aK prog 122 25 1:=⟨by kernel_rfl⟩
instance:TAgg prog 124 2:=⟨by kernel_rfl⟩
instance:TSize prog 124 2:=⟨by kernel_rfl⟩
instance:aJ prog 124 0 0 9:=⟨by kernel_rfl⟩
instance:aJ prog 124 1 1 122:=⟨by kernel_rfl⟩
instance:TZero prog 124 [.d (.str ByteArray.empty),.nils 1]:=⟨by kernel_rfl⟩
instance:TAgg prog 128 6:=⟨by kernel_rfl⟩
instance:TSize prog 128 6:=⟨by kernel_rfl⟩
instance:aJ prog 128 0 0 4:=⟨by kernel_rfl⟩
instance:aJ prog 128 1 1 36:=⟨by kernel_rfl⟩
instance:aJ prog 128 2 5 9:=⟨by kernel_rfl⟩
instance:TEq prog 128 [0,1,1,1,2,2]:=⟨by kernel_rfl⟩
instance:TZero prog 128 [.d (.bool false),.d (.int .u8 0),.d (.int .i64 0),.d (.int .u8 0),.d (.str ByteArray.empty),.d (.str ByteArray.empty)]:=⟨by kernel_rfl⟩
instance:TSize prog 130 3:=⟨by kernel_rfl⟩
instance:aL prog 130:=⟨by kernel_rfl⟩
instance:aJ prog 130 0 0 41:=⟨by kernel_rfl⟩
instance:aJ prog 130 1 1 70:=⟨by kernel_rfl⟩
instance:aJ prog 130 2 2 70:=⟨by kernel_rfl⟩
instance:TZero prog 130 [.nils 6,.d (.raw (.map none)),.d (.raw (.map none))]:=⟨by kernel_rfl⟩
instance:TCell prog 136:=⟨by kernel_rfl⟩
instance:aK prog 173 26 1:=⟨by kernel_rfl⟩
instance:TAgg prog 176 2:=⟨by kernel_rfl⟩
instance:TSize prog 176 2:=⟨by kernel_rfl⟩
instance:aL prog 176:=⟨by kernel_rfl⟩
instance:aJ prog 176 0 0 3:=⟨by kernel_rfl⟩
instance:aJ prog 176 1 1 3:=⟨by kernel_rfl⟩
instance:TZero prog 176 [.d (.int .i64 0),.d (.int .i64 0)]:=⟨by kernel_rfl⟩
instance:TAgg prog 178 15:=⟨by kernel_rfl⟩
instance:TSize prog 178 15:=⟨by kernel_rfl⟩
instance:aL prog 178:=⟨by kernel_rfl⟩
instance:aJ prog 178 0 0 4:=⟨by kernel_rfl⟩
instance:aJ prog 178 1 1 4:=⟨by kernel_rfl⟩
instance:aJ prog 178 2 2 4:=⟨by kernel_rfl⟩
instance:aJ prog 178 3 3 4:=⟨by kernel_rfl⟩
instance:aJ prog 178 4 4 4:=⟨by kernel_rfl⟩
instance:aJ prog 178 5 5 176:=⟨by kernel_rfl⟩
instance:aJ prog 178 6 7 176:=⟨by kernel_rfl⟩
instance:aJ prog 178 7 9 176:=⟨by kernel_rfl⟩
instance:aJ prog 178 8 11 176:=⟨by kernel_rfl⟩
instance:aJ prog 178 9 13 91:=⟨by kernel_rfl⟩
instance:aJ prog 178 10 14 91:=⟨by kernel_rfl⟩
instance:TZero prog 178 [.d (.bool false),.d (.bool false),.d (.bool false),.d (.bool false),.d (.bool false),.d (.int .i64 0),.d (.int .i64 0),.d (.int .i64 0),.d (.int .i64 0),.d (.int .i64 0),.d (.int .i64 0),.d (.int .i64 0),.d (.int .i64 0),.d (.int .u8 0),.d (.int .u8 0)]:=⟨by kernel_rfl⟩
instance:TCell prog 181:=⟨by kernel_rfl⟩
instance:TCell prog 182:=⟨by kernel_rfl⟩
instance:aK prog 202 91 1:=⟨by kernel_rfl⟩
instance:TCell prog 208:=⟨by kernel_rfl⟩
instance:TSize prog 208 1:=⟨by kernel_rfl⟩
instance:TZero prog 208 [.d (.raw .nilFunc)]:=⟨by kernel_rfl⟩
instance:TAgg prog 252 3:=⟨by kernel_rfl⟩
instance:TSize prog 252 3:=⟨by kernel_rfl⟩
instance:aJ prog 252 0 0 25:=⟨by kernel_rfl⟩
instance:aJ prog 252 1 1 9:=⟨by kernel_rfl⟩
instance:aJ prog 252 2 2 3:=⟨by kernel_rfl⟩
instance:TZero prog 252 [.d (.int .u8 0),.d (.str ByteArray.empty),.d (.int .i64 0)]:=⟨by kernel_rfl⟩
instance:TAgg prog 253 9:=⟨by kernel_rfl⟩
instance:TArray prog 253 3 252 3:=⟨by kernel_rfl⟩
instance:Py prog 9 (.str ByteArray.empty):=⟨by kernel_rfl⟩
instance:TKey prog 9 (.str):=⟨by kernel_rfl⟩
instance:Jo prog 4 (.d (.bool false)):=⟨by kernel_rfl⟩
instance:TMap prog 70 9 4:=⟨by kernel_rfl⟩
instance:TMap prog 82 9 109:=⟨by kernel_rfl⟩
instance:Jo prog 109 (.nils 3):=⟨by kernel_rfl⟩
instance:TMap prog 83 9 3:=⟨by kernel_rfl⟩
instance:Jo prog 3 (.d (.int .i64 0)):=⟨by kernel_rfl⟩
instance:TMap prog 94 9 9:=⟨by kernel_rfl⟩
instance:Jo prog 9 (.d (.str ByteArray.empty)):=⟨by kernel_rfl⟩
instance:TMap prog 95 9 130:=⟨by kernel_rfl⟩
instance:Jo prog 130 (.d (.agg [.list 6 [],.raw (.map none),.raw (.map none)])):=⟨by kernel_rfl⟩
instance:Py prog 112 (.agg [.str ByteArray.empty,.bool false,.list 1 []]):=⟨by kernel_rfl⟩
class In (l:List Nat)(f:Nat):Prop where
 h:f∈l
instance (g f l)[h:In l f]:In (g::l) f:=⟨List.mem_cons_of_mem _ h.h⟩
instance (f l):In (f::l) f:=⟨List.mem_cons_self⟩
abbrev tF0:List Nat:=[6,7,8,9,10,11,12,13,14,15,16,17,19,21,22,23,24,25,26,27,28,29,30,31,32,33,34,35,36,37,38,39]
instance {f}[h:In tF0 f]:TFun prog f:=⟨List.all_eq_true.1 (by kernel_rfl:tF0.all (qy5 prog)=true) f h.h⟩
abbrev tF32:List Nat:=[40,41,42,43,44,45,46,47,48,49,50,51,52,53,54,55,56,57,58,61,62,63,64,65,66,67,68,69,70,71,72,73]
instance {f}[h:In tF32 f]:TFun prog f:=⟨List.all_eq_true.1 (by kernel_rfl:tF32.all (qy5 prog)=true) f h.h⟩
abbrev tF64:List Nat:=[74,75,76,77,78,79,80,81,82,83,84,85,86,87,88,89,90,91,103,104,105,106,107,108,109,110,111,112,113,114,115,116]
instance {f}[h:In tF64 f]:TFun prog f:=⟨List.all_eq_true.1 (by kernel_rfl:tF64.all (qy5 prog)=true) f h.h⟩
abbrev tF96:List Nat:=[117,118,119,120,121,122,123,124,125,126,127,128,129,130,131,132,133,141,142,143,144,145,146,147,148,149,150,151,152,153,154,155]
instance {f}[h:In tF96 f]:TFun prog f:=⟨List.all_eq_true.1 (by kernel_rfl:tF96.all (qy5 prog)=true) f h.h⟩
abbrev tF128:List Nat:=[156,157,158,159,160,161,162,163,164,165,166,167,168,169,170,171,172,173,174,175,176,177,178,179,180,183,184,185,186,187,188,189]
instance {f}[h:In tF128 f]:TFun prog f:=⟨List.all_eq_true.1 (by kernel_rfl:tF128.all (qy5 prog)=true) f h.h⟩
abbrev tF160:List Nat:=[190,191,192,193,194,195,196,197,198,199,200,201,202,203,204,205,206,207,208,209,210,211,212,217,219,220,221,222,223,224,230]
instance {f}[h:In tF160 f]:TFun prog f:=⟨List.all_eq_true.1 (by kernel_rfl:tF160.all (qy5 prog)=true) f h.h⟩
theorem mixed:prog.follows .mixedOrders=true:=by kernel_rfl
instance:TMixed prog:=⟨mixed⟩
end
section
theorem StB.recast {C:Ctx}{β β':Nat->Hd}{S:Sd}{a:Act}{w:World}(h:StB C β S a w){H':List (Nat × Ob)}(n q:Nat)
 (hold:∀ m ob,m≠n->m≠q->look m H'=some ob->look m S.H=some ob) (hβ:∀ m,m≠n->m≠q->β' m=β m) (hn:(β' n).v=(β n).v) (hnr:∀ e sz sh xs k,look n H'≠some (.row e sz sh xs k)) (hq:S.aD q=true\/(look q H'=none/\β' q=β q))
 (hown:∀ m ob b o,m=n\/m=q->look m H'=some ob->own (β' m) ob b->(∃ m0 ob0,(m0=n\/m0=q)/\look m0 S.H=some ob0/\own (β m0) ob0 b/\(ob.mut o->ob0.mut o)))
 (hap:∀ b ob ob',n≠q->look n H'=some ob->look q H'=some ob'->own (β' n) ob b->¬own (β' q) ob' b)
 (hobs:aI w (Mut C.M0 β S.H) w (Mut C.M0 β' H')->(∀ x v,x.says q=false->Dc w (Mut C.M0 β S.H) β S.H x v->Dc w (Mut C.M0 β' H') β' H' x v)->(∀ xs vs,Jj q xs=false->Cs w (Mut C.M0 β S.H) β S.H xs vs->Cs w (Mut C.M0 β' H') β' H' xs vs)->∀ m ob,n=m\/q=m->look m H'=some ob->La w (Mut C.M0 β' H') β' H' (β' m) ob)
 (hN:∀ m∈C.N,(look m H').isSome=true):StB C β' {S with H:=H'} a w:=by
 have hsn:∀ m,m≠q->V.Kw β β' S.H H' m:=λm hm=>by
  by_cases hmn:m=n
  ·subst hmn;exact⟨hn,λe sz sh xs k hl=>absurd hl (hnr _ _ _ _ _)⟩
  ·exact⟨congrArg Hd.v (hβ m hmn hm),λe sz sh xs k hl=>⟨sh,xs,hold m _ hmn hm hl⟩⟩
 have hmut:∀ b o,Mut C.M0 β' H' b o->Mut C.M0 β S.H b o:=λb o hm=>by
  rcases hm with hm|⟨m,ob,h1,h2,h3⟩
  ·exact .inl hm
  ·by_cases hmn:m=n\/m=q
   ·obtain⟨m0,ob0,_,h5,h6,h7⟩:=hown m ob b o hmn h1 h2;exact .inr ⟨m0,ob0,h5,h6,h7 h3⟩
   ·simp only[not_or]at hmn;rw[hβ m hmn.1 hmn.2]at h2;exact .inr ⟨m,ob,hold m ob hmn.1 hmn.2 h1,h2,h3⟩
 have k:aI w (Mut C.M0 β S.H) w (Mut C.M0 β' H'):=aI.weak hmut;have hq':∀ x:V,x.says q=false\/(look q H'=none/\β' q=β q)->∀ m,x.says m=true->V.Kw β β' S.H H' m:=λx hx m hm=>by
  by_cases hmq:m=q
  ·subst hmq;rcases hx with hx|⟨hx,hx'⟩
   ·rw[hx]at hm;cases hm
   ·exact⟨congrArg Hd.v hx',λe sz sh xs k hl=>by rw[hx]at hl;cases hl⟩
  ·exact hsn m hmq
 have hqL:∀ xs:List V,Jj q xs=false\/(look q H'=none/\β' q=β q)->∀ m,Jj m xs=true->V.Kw β β' S.H H' m:=λx hx m hm=>by
  by_cases hmq:m=q
  ·subst hmq;rcases hx with hx|⟨hx,hx'⟩
   ·rw[hx]at hm;cases hm
   ·exact⟨congrArg Hd.v hx',λe sz sh xs k hl=>by rw[hx]at hl;cases hl⟩
  ·exact hsn m hmq
 have pl:∀ m ob b,look m H'=some ob->own (β' m) ob b->∃ m0 ob0,look m0 S.H=some ob0/\own (β m0) ob0 b:=λm ob b h1 h2=>by
  by_cases hmn:m=n\/m=q
  ·obtain⟨m0,ob0,_,h5,h6,_⟩:=hown m ob b 0 hmn h1 h2;exact⟨m0,ob0,h5,h6⟩
  ·simp only[not_or]at hmn;rw[hβ m hmn.1 hmn.2]at h2;exact⟨m,ob,hold m ob hmn.1 hmn.2 h1,h2⟩
 refine⟨h.size,h.small,h.defers,h.sys,λt v hl=>?_,λm ob hl=>?_,λm m' b ob ob' hne h1 h2 h3 h4=>?_,λm ob b hl h1=>?_,λg cs hl=>(h.glob g cs hl).keep k,h.frame,λm ob b o hl h1=>?_,h.low,λm hm=>?_,hN⟩
 ·obtain⟨u,h1,h2⟩:=h.env t v hl;refine⟨u,h1,Dc.gen k v u (hq' v ?_) h2⟩;rcases hq with hq|hq
  ·simp only[Sd.aD,Aa]at hq;exact .inl (jh9 hq.1 hl)
  ·exact .inr hq
 ·by_cases hmn:m=n\/m=q
  ·refine hobs k (λx v hx hr=>Dc.gen k x v (hq' x (.inl hx)) hr) (λx v hx hr=>Cs.gen k x v (hqL x (.inl hx)) hr) m ob (hmn.imp Eq.symm Eq.symm) hl
  ·simp only[not_or]at hmn;rw[hβ m hmn.1 hmn.2];have hl0:=hold m ob hmn.1 hmn.2 hl;refine La.keep k (λ_ _=>rfl) (λvs hL=>Cs.gen k _ vs (hqL _ ?_) hL) (h.obs m ob hl0);rcases hq with hq|hq
   ·simp only[Sd.aD,Aa]at hq;exact .inl (ja8 hq.2 hl0).2
   ·exact .inr hq
 ·have key:∀ m m' ob ob',m≠m'->(m=n\/m=q)->¬(m'=n\/m'=q)->look m H'=some ob->look m' H'=some ob'->own (β' m) ob b->own (β' m') ob' b->False:=λm m' ob ob' hne hm hm' h1 h2 h3 h4=>by
   obtain⟨m0,ob0,h5,h6,h7,_⟩:=hown m ob b 0 hm h1 h3;simp only[not_or]at hm';rw[hβ m' hm'.1 hm'.2]at h4;refine h.apart m0 m' b ob0 ob' ?_ h6 (hold m' ob' hm'.1 hm'.2 h2) h7 h4;rintro rfl;rcases h5 with h5|h5
   ·exact hm'.1 h5
   ·exact hm'.2 h5
  by_cases hm:m=n\/m=q
  ·by_cases hm':m'=n\/m'=q
   ·rcases hm with rfl|rfl
    ·rcases hm' with rfl|rfl
     ·exact hne rfl
     ·exact hap b ob ob' hne h1 h2 h3 h4
    ·rcases hm' with rfl|rfl
     ·exact hap b ob' ob (Ne.symm hne) h2 h1 h4 h3
     ·exact hne rfl
   ·exact key m m' ob ob' hne hm hm' h1 h2 h3 h4
  ·by_cases hm':m'=n\/m'=q
   ·exact key m' m ob' ob (Ne.symm hne) hm' hm h2 h1 h4 h3
   ·simp only[not_or]at hm hm';rw[hβ m hm.1 hm.2]at h3;rw[hβ m' hm'.1 hm'.2]at h4;exact h.apart m m' b ob ob' hne (hold m ob hm.1 hm.2 h1) (hold m' ob' hm'.1 hm'.2 h2) h3 h4
 ·obtain⟨m0,ob0,h5,h6⟩:=pl m ob b hl h1;exact h.place m0 ob0 b h5 h6
 ·obtain⟨m0,ob0,h5,h6⟩:=pl m ob b hl h1;exact h.out m0 ob0 b o h5 h6
 ·by_cases hmq:m=q
  ·subst hmq;rcases hq with hq|hq
   ·have:=h.has m hm;rw[Sd.Mg hq]at this;cases this
   ·rw[hq.2];exact h.fix m hm
  ·by_cases hmn:m=n
   ·subst hmn;rw[hn];exact h.fix m hm
   ·rw[hβ m hmn hmq];exact h.fix m hm
theorem my6 {w:World}{e sz l:Nat}{v:Value}{ys:List Value}(h:w.ownsRow 0 e sz v l ys):∃ a c,v=.slice a l c:=by
 obtain⟨a,c,e,_⟩:=jd9 h;exact⟨a,c,e⟩
section
variable {E:Set}{Q:Exit->Sd->Prop}{ops:Array Oper}{draw:Bool}{rest:Todo}{way:Ji}{ty:TypeId}{pos:String}{af:Array Edge}{gd:Option (Nat × Bool)}{dst:Option Tmp}
variable {env:List (Nat × V)}{H:List (Nat × Ob)}{gl:List (Nat × List D)}{d:Nat}
theorem StB.hboxOut {C:Ctx}{β:Nat->Hd}{S:Sd}{a:Act}{w:World}(h:StB C β S a w){n q e sz i:Nat}{xs:List D}{cs:List V}(hl:look n S.H=some (.hbox e sz xs i cs))(hq:S.aD q=true):
 ∃ β',StB C β' {S with H:=(n,.box (cs.set i (.own q 0)))::(q,.row e sz false xs 0)::S.H} a w:=by
 have hqn:n≠q:=by
  rintro rfl;rw[Sd.Mg hq]at hl;cases hl
 obtain⟨b,vs,u,t,ys,h1,h2,h3,h4,h5,h6,h7,h8⟩:=h.obs n _ hl;have hbq:hb (β n).v=some b:=by rw[h1];rfl
 have hlq:∀ m,look m ((n,Ob.box (cs.set i (.own q 0)))::(q,Ob.row e sz false xs 0)::S.H)=if n=m then some (.box (cs.set i (.own q 0))) else if q=m then some (.row e sz false xs 0) else look m S.H:=λm=>by rw[j6,j6]
 refine⟨λm=>if m=q then ⟨u,[]⟩ else β m,h.recast n q (λm ob hm hm' hl'=>?_) (λm hm hm'=>by simp[hm']) (by simp[hqn]) (λe sz sh xs k hl'=>?_) (.inl hq) (λm ob b' o hm hl' ho=>?_) (λb' ob ob' _ hl1 hl2 ho1 ho2=>?_) (λk hV hL m ob hm hl'=>?_) (λm hm=>?_)⟩
 ·rw[hlq,Af (Ne.symm hm),Af (Ne.symm hm')]at hl';exact hl'
 ·rw[hlq,Ad rfl]at hl';cases hl'
 ·refine⟨n,_,.inl rfl,hl,?_,λ_=>trivial⟩;rcases hm with rfl|rfl
  ·rw[hlq,Ad rfl]at hl';cases hl';simp only[hqn,if_false]at ho;exact .inl ((z8 rfl).1 ho)
  ·rw[hlq,Af hqn,Ad rfl]at hl';cases hl';simp only[if_true]at ho;exact .inr ⟨rfl,(h5 b').2 ((z8 rfl).1 ho)⟩
 ·rw[hlq,Ad rfl]at hl1;rw[hlq,Af hqn,Ad rfl]at hl2;cases hl1;cases hl2;simp only[hqn,if_false]at ho1;simp only[if_true]at ho2;have e1:=(z8 rfl).1 ho1;rw[hbq]at e1;cases e1;exact h6 ((h5 b).2 ((z8 rfl).1 ho2))
 ·rcases hm with rfl|rfl
  ·rw[hlq,Ad rfl]at hl';cases hl';simp only[hqn,if_false];refine⟨b,vs.set i u,t,h1,h2,?_⟩;simp only[Sd.aD,Aa]at hq;have h9:=Cs.set (hL cs vs (ja8 hq.2 hl).2 h8) i (x:=.own q 0) (v:=u) ?_
   ·exact h9
   ·intro e' sz' sh xs' hl'';simp
  ·rw[hlq,Af hqn,Ad rfl]at hl';cases hl';simp only[if_true];exact⟨ys,h3,Gb.keep k _ _ _ h4⟩
 ·rw[hlq];split
  ·rfl
  ·split
   ·rfl
   ·exact h.has m hm
theorem StB.hboxIn {C:Ctx}{β:Nat->Hd}{S:Sd}{a:Act}{w:World}(h:StB C β S a w){n q e sz i k:Nat}{xs:List D}{cs:List V}{H0:List (Nat × Ob)}(hl:look n S.H=some (.box cs))(hi:cs[i]? =some (.own q k))(hr:look q S.H=some (.row e sz false xs k))
 (hs:Jj q (cs.set i (.nils 0))=false) (hd:∀ m,m≠q->look m H0=look m S.H) (hdq:look q H0=none) (hN:C.N.contains q=false):
 ∃ β',StB C β' {S with H:=(n,.hbox e sz xs i (cs.set i (.nils 0)))::H0} a w:=by
 have hqn:n≠q:=by
  rintro rfl;rw[hl]at hr;cases hr
 obtain⟨b,vs,t,h1,h2,h3⟩:=h.obs n _ hl;obtain⟨ys,h4,h5⟩:=h.obs q _ hr;obtain⟨u,h6,h7⟩:=h3.get hi;have hu:u=(β q).v:=h7 e sz false xs hr;subst hu;have hiv:i<vs.length:=(Ay.1 h6).1;have hbq:hb (β n).v=some b:=by rw[h1];rfl
 have hlq:∀ m,look m ((n,Ob.hbox e sz xs i (cs.set i (.nils 0)))::H0)=if n=m then some (.hbox e sz xs i (cs.set i (.nils 0))) else look m H0:=λm=>by rw[j6]
 refine⟨λm=>if m=n then ⟨(β n).v,(hb (β q).v).toList⟩ else β m,h.recast n q (λm ob hm hm' hl'=>?_) (λm hm hm'=>by simp[hm]) (by simp) (λe sz sh xs k hl'=>?_) (.inr ⟨?_,by simp[Ne.symm hqn]⟩) (λm ob b' o hm hl' ho=>?_) (λb' ob ob' _ hl1 hl2 ho1 ho2=>?_) (λk hV hL m ob hm hl'=>?_) (λm hm=>?_)⟩
 ·rw[hlq,Af (Ne.symm hm),hd m hm']at hl';exact hl'
 ·rw[hlq,Ad rfl]at hl';cases hl'
 ·rw[hlq,Af hqn];exact hdq
 ·rcases hm with hm|hm
  ·have hm:=hm.symm;subst hm;rw[hlq,Ad rfl]at hl';cases hl';simp only[if_true]at ho;rcases ho with ho|⟨_,ho⟩
   ·exact⟨n,_,.inl rfl,hl,.inl ho,λ_=>trivial⟩
   ·exact⟨q,_,.inr rfl,hr,.inl (by simpa using ho),λ_=>.inl rfl⟩
  ·have hm:=hm.symm;subst hm;rw[hlq,Af hqn,hdq]at hl';cases hl'
 ·rw[hlq,Af hqn,hdq]at hl2;cases hl2
 ·rcases hm with rfl|rfl
  ·rw[hlq,Ad rfl]at hl';cases hl';simp only[if_true];refine⟨b,vs.set i (.slice none 0 0),(β q).v,t,ys,h1,?_,h4,Gb.keep k _ _ _ h5,λq'=>by simp,?_,by simpa using hiv,hL _ _ hs (Cs.set h3 i rfl)⟩
   ·rw[List.set_set];rw[show vs.set i (β q).v=vs from by
     obtain⟨h8,h9⟩:=Ay.1 h6;rw[<-h9];exact List.set_getElem_self h8]
    exact h2
   ·intro hm;have:hb (β q).v=some b:=by simpa using hm
    exact h.apart n q b _ _ hqn hl hr (.inl hbq) (.inl this)
  ·rw[hlq,Af hqn,hdq]at hl';cases hl'
 ·rw[hlq];split
  ·rfl
  ·rename_i hmn;by_cases hmq:m=q
   ·subst hmq;simp[hm]at hN
   ·rw[hd m hmq];exact h.has m hm
def Qp (f:ByteArray->List D)(s:ByteArray)(xs:List D):ByteArray->List D:=λt=>if t=s then xs else f t
theorem rb0 {es:List MapEntry}(h:es.Pairwise λx y=>x.key≠y.key){x y:MapEntry}(hx:x∈es)(hy:y∈es)(hk:x.key=y.key):x=y:=by
 obtain⟨i,hi,rfl⟩:=Ev.1 hx;obtain⟨j,hj,rfl⟩:=Ev.1 hy;rcases Fp i j with hlt|hlt|hlt
 ·exact absurd hk (Fj.1 h i j hi hj hlt)
 ·subst hlt;rfl
 ·exact absurd hk.symm (Fj.1 h j i hj hi hlt)
theorem Lies.one {es:List MapEntry}(h1:es.Pairwise λx y=>x.key≠y.key){s:ByteArray}{u:Value}(h:Lies es s u){en:MapEntry}(he:en∈es)(hk:en.key=.string s):en.val=u:=by
 rcases h with ⟨en',h2,h3,h4⟩|⟨h2,_⟩
 ·rw[rb0 h1 he h2 (hk.trans h3.symm),h4]
 ·exact absurd hk (h2 en he)
theorem StB.smapNew {C:Ctx}{β:Nat->Hd}{S:Sd}{a:Act}{w:World}(h:StB C β S a w){n:Nat}(e sz:Nat)(hl:look n S.H=some (.map [] [])):∃ β',StB C β' {S with H:=(n,.smap e sz (λ_=>[]) none)::S.H} a w:=by
 let β':Nat->Hd:=λm=>if m=n then ⟨(β n).v,[]⟩ else β m
 have hv:∀ m,(β' m).v=(β m).v:=λm=>by
  show(if m=n then (⟨(β n).v,[]⟩:Hd) else β m).v=_;split
  ·rename_i e;subst e;rfl
  ·rfl
 have hlq:∀ m,look m ((n,Ob.smap e sz (λ_=>[]) none)::S.H)=if n=m then some (.smap e sz (λ_=>[]) none) else look m S.H:=λm=>by rw[j6]
 have hn:β' n=⟨(β n).v,[]⟩:=by simp[β']
 have hH:∀ m,V.Kw β β' S.H ((n,Ob.smap e sz (λ_=>[]) none)::S.H) m:=λm=>⟨hv m,λe' sz' sh xs k hm=>by
  rw[hlq]at hm;split at hm
  ·cases hm
  ·exact⟨sh,xs,hm⟩⟩
 obtain⟨r,es,c,h1,h2,h3,_,h4⟩:=h.obs n _ hl;have he:es.toList=[]:=by
  simp only[Hg]at h3;exact List.map_eq_nil_iff.1 h3
 refine⟨β',h.Ym hl (λm hm=>by simp[β',hm]) rfl rfl rfl (Ap _) (λ_ _ _=>rfl) (λb hb'=>?_) (λ_ _ _ _ _ h=>h) (λ_ _ _ _ _=>trivial)
  (λk t x v _=>Dc.gen k x v (λm _=>hH m)) (λ_=>hv n) (λk m ob2 vs _ _=>Cs.gen k _ vs (λm _=>hH m)) (λk=>?_)⟩
 ·rw[hn]at hb';rcases hb' with hb'|⟨_,hb'⟩
  ·exact .inl (.inl hb')
  ·cases hb'
 ·rw[hn];refine⟨r,es,c,h1,h2,?_,λs v hx=>by cases hx⟩;rw[he];exact⟨(λen h=>nomatch h),.nil,(λen h=>nomatch h),(λen h=>nomatch h),(λ_ _ _=>rfl),(λb=>⟨(λh=>nomatch h),(λ⟨en,h,_⟩=>nomatch h)⟩),(λen h=>nomatch h),(λh=>nomatch h)⟩
theorem StB.smapOut {C:Ctx}{β:Nat->Hd}{S:Sd}{a:Act}{w:World}(h:StB C β S a w){n q e sz:Nat}{f:ByteArray->List D}(s:ByteArray)(hl:look n S.H=some (.smap e sz f none))(hq:S.aD q=true):
 ∃ β',StB C β' {S with H:=(n,.smap e sz f (some (s,.own q 0)))::(q,.row e sz false (f s) 0)::S.H} a w:=by
 have hqn:n≠q:=by
  rintro rfl;rw[Sd.Mg hq]at hl;cases hl
 obtain⟨r,es,c,h1,h2,h3,_⟩:=h.obs n _ hl;have hbr:hb (β n).v=some r:=by rw[h1];rfl
 obtain⟨u,hu⟩:∃ u,Lies es.toList s u:=by
  by_cases hm:∃ en∈es.toList,en.key=.string s
  ·obtain⟨en,h4,h5⟩:=hm;exact⟨en.val,.inl ⟨en,h4,h5,rfl⟩⟩
  ·exact⟨_,.inr ⟨λen h4 h5=>hm ⟨en,h4,h5⟩,rfl⟩⟩
 obtain⟨ys,h4,h5⟩:∃ ys,w.ownsRow 0 e sz u (f s).length ys/\Gb w (Mut C.M0 β S.H) sz (f s) ys:=by
  rcases hu with ⟨en,h6,h7,h8⟩|⟨h6,h7⟩
  ·rw[<-h8];exact h3.here en h6 s h7 (by simp)
  ·rw[h7,h3.none s (by simp) h6];exact⟨[],World.ownsRow_nil w 0 e sz,rfl⟩
 have hub:∀ b,hb u=some b->b∈(β n).bs:=λb hb'=>by
  rcases hu with ⟨en,h6,h7,h8⟩|⟨h6,h7⟩
  ·rw[<-h8]at hb';exact(h3.blk b).2 ⟨en,h6,s,h7,by simp,hb'⟩
  ·rw[h7]at hb';cases hb'
 have hlq:∀ m,look m ((n,Ob.smap e sz f (some (s,.own q 0)))::(q,Ob.row e sz false (f s) 0)::S.H)=if n=m then some (.smap e sz f (some (s,.own q 0))) else if q=m then some (.row e sz false (f s) 0) else look m S.H:=λm=>by rw[j6,j6]
 have hsm:SMap w (Mut C.M0 β S.H) e sz f (some s) es.toList c r ((β n).bs.filter λb=>hb u≠some b):=by
  refine⟨h3.key,h3.one,h3.born,λen he s' hk hx=>h3.here en he s' hk (by simp),λs' hx=>h3.none s' (by simp),λb=>?_,λen he en' he' s1 s2 b k1 k2 x1 x2=>h3.apart en he en' he' s1 s2 b k1 k2 (by simp) (by simp),λhm=>h3.map (List.mem_filter.1 hm).1⟩;rw[List.mem_filter];constructor
  ·rintro⟨hm,hne⟩;obtain⟨en,h6,s',h7,_,h8⟩:=(h3.blk b).1 hm;refine⟨en,h6,s',h7,?_,h8⟩;rintro e';cases e';have:=hu.one h3.one h6 h7;rw[this]at h8;simp[h8]at hne
  ·rintro⟨en,h6,s',h7,h8,h9⟩;refine⟨(h3.blk b).2 ⟨en,h6,s',h7,by simp,h9⟩,?_⟩;have:hb u≠some b:=λhb'=>by
    rcases hu with ⟨en',h10,h11,h12⟩|⟨h10,h11⟩
    ·rw[<-h12]at hb';exact h3.apart en h6 en' h10 s' s b h7 h11 (by simp) (by simp) (λe'=>h8 (by rw[e'])) h9 hb'
    ·rw[h11]at hb';cases hb'
   simp[this]
 refine⟨λm=>if m=q then ⟨u,[]⟩ else if m=n then ⟨(β n).v,(β n).bs.filter λb=>hb u≠some b⟩ else β m,h.recast n q (λm ob hm hm' hl'=>?_) (λm hm hm'=>by simp[hm,hm']) (by simp[hqn]) (λe sz sh xs k hl'=>?_) (.inl hq) (λm ob b' o hm hl' ho=>?_) (λb' ob ob' _ hl1 hl2 ho1 ho2=>?_) (λk hV hL m ob hm hl'=>?_) (λm hm=>?_)⟩
 ·rw[hlq,Af (Ne.symm hm),Af (Ne.symm hm')]at hl';exact hl'
 ·rw[hlq,Ad rfl]at hl';cases hl'
 ·refine⟨n,_,.inl rfl,hl,?_,λ_=>trivial⟩;rcases hm with hm|hm
  ·have hm:=hm.symm;subst hm;rw[hlq,Ad rfl]at hl';cases hl';simp only[hqn,if_false,if_true]at ho;rcases ho with ho|⟨_,ho⟩
   ·exact .inl ho
   ·exact .inr ⟨rfl,(List.mem_filter.1 ho).1⟩
  ·have hm:=hm.symm;subst hm;rw[hlq,Af hqn,Ad rfl]at hl';cases hl';simp only[if_true]at ho;exact .inr ⟨rfl,hub b' ((z8 rfl).1 ho)⟩
 ·rw[hlq,Ad rfl]at hl1;rw[hlq,Af hqn,Ad rfl]at hl2;cases hl1;cases hl2;simp only[hqn,if_false,if_true]at ho1;simp only[if_true]at ho2;have ho2:=(z8 rfl).1 ho2;rcases ho1 with ho1|⟨_,ho1⟩
  ·rw[hbr]at ho1;cases ho1;exact h3.map (hub r ho2)
  ·have:=(List.mem_filter.1 ho1).2;simp[ho2]at this
 ·rcases hm with rfl|rfl
  ·rw[hlq,Ad rfl]at hl';cases hl';simp only[hqn,if_false,if_true];refine⟨r,es,c,h1,h2,hsm.keep k (λ_ _=>rfl),λs' v hx=>?_⟩;cases hx;refine⟨u,λe' sz' sh xs hl''=>?_,hu⟩;simp
  ·rw[hlq,Af hqn,Ad rfl]at hl';cases hl';simp only[if_true];exact⟨ys,h4,Gb.keep k _ _ _ h5⟩
 ·rw[hlq];split
  ·rfl
  ·split
   ·rfl
   ·exact h.has m hm
theorem StB.smapIn {C:Ctx}{β:Nat->Hd}{S:Sd}{a:Act}{w:World}(h:StB C β S a w){n q e sz k:Nat}{f:ByteArray->List D}{s:ByteArray}{xs:List D}{H0:List (Nat × Ob)}(hl:look n S.H=some (.smap e sz f (some (s,.own q k))))(hr:look q S.H=some (.row e sz false xs k))
 (hd:∀ m,m≠q->look m H0=look m S.H) (hdq:look q H0=none) (hN:C.N.contains q=false):
 ∃ β',StB C β' {S with H:=(n,.smap e sz (Qp f s xs) none)::H0} a w:=by
 have hqn:n≠q:=by
  rintro rfl;rw[hl]at hr;cases hr
 obtain⟨r,es,c,h1,h2,h3,h4⟩:=h.obs n _ hl;obtain⟨ys,h5,h6⟩:=h.obs q _ hr;obtain⟨u,hu,hu2⟩:=h4 s _ rfl;have hu:u=(β q).v:=hu e sz false xs hr;subst hu;have hbr:hb (β n).v=some r:=by rw[h1];rfl
 have hlq:∀ m,look m ((n,Ob.smap e sz (Qp f s xs) none)::H0)=if n=m then some (.smap e sz (Qp f s xs) none) else look m H0:=λm=>by rw[j6]
 have hdis:∀ b,hb (β q).v=some b->¬(b=r\/b∈(β n).bs):=λb hb' hm=>by
  rcases hm with rfl|hm
  ·exact h.apart n q b _ _ hqn hl hr (.inl hbr) (.inl hb')
  ·exact h.apart n q b _ _ hqn hl hr (.inr ⟨rfl,hm⟩) (.inl hb')
 have hsm:SMap w (Mut C.M0 β S.H) e sz (Qp f s xs) none es.toList c r ((β n).bs++(hb (β q).v).toList):=by
  refine⟨h3.key,h3.one,h3.born,λen he s' hk _=>?_,λs' _ hno=>?_,λb=>?_,λen he en' he' s1 s2 b k1 k2 _ _ hne b1 b2=>?_,λhm=>?_⟩
  ·by_cases e':s'=s
   ·subst e';rw[hu2.one h3.one he hk];simp only[Qp,if_true];exact⟨ys,h5,h6⟩
   ·simp only[Qp,e',if_false];exact h3.here en he s' hk (λh=>e' (by simpa using h.symm))
  ·by_cases e':s'=s
   ·subst e';simp only[Qp,if_true];rcases hu2 with ⟨en,h7,h8,_⟩|⟨_,h7⟩
    ·exact absurd h8 (hno en h7)
    ·rw[h7]at h5;obtain⟨a',c',h8⟩:=my6 h5;simp only[Value.slice.injEq]at h8;exact Bg h8.2.1.symm
   ·simp only[Qp,e',if_false];exact h3.none s' (λh=>e' (by simpa using h.symm)) hno
  ·rw[Au,h3.blk b];constructor
   ·rintro(⟨en,h7,s',h8,h9,h10⟩|h7)
    ·exact⟨en,h7,s',h8,by simp,h10⟩
    ·have h7:hb (β q).v=some b:=by simpa using h7
     rcases hu2 with ⟨en,h8,h9,h10⟩|⟨_,h8⟩
     ·exact⟨en,h8,s,h9,by simp,by rw[h10];exact h7⟩
     ·rw[h8]at h7;cases h7
   ·rintro⟨en,h7,s',h8,_,h10⟩;by_cases e':s'=s
    ·subst e';rw[hu2.one h3.one h7 h8]at h10;exact .inr (by simpa using h10)
    ·exact .inl ⟨en,h7,s',h8,λh=>e' (by simpa using h.symm),h10⟩
  ·by_cases e1:s1=s
   ·subst e1;rw[hu2.one h3.one he k1]at b1;exact hdis b b1 (.inr ((h3.blk b).2 ⟨en',he',s2,k2,λh=>hne (by simpa using h),b2⟩))
   ·by_cases e2:s2=s
    ·subst e2;rw[hu2.one h3.one he' k2]at b2;exact hdis b b2 (.inr ((h3.blk b).2 ⟨en,he,s1,k1,λh=>e1 (by simpa using h.symm),b1⟩))
    ·exact h3.apart en he en' he' s1 s2 b k1 k2 (λh=>e1 (by simpa using h.symm)) (λh=>e2 (by simpa using h.symm)) hne b1 b2
  ·rcases Au.1 hm with hm|hm
   ·exact h3.map hm
   ·exact hdis r (by simpa using hm) (.inl rfl)
 refine⟨λm=>if m=n then ⟨(β n).v,(β n).bs++(hb (β q).v).toList⟩ else β m,h.recast n q (λm ob hm hm' hl'=>?_) (λm hm hm'=>by simp[hm]) (by simp) (λe sz sh xs k hl'=>?_) (.inr ⟨?_,by simp[Ne.symm hqn]⟩) (λm ob b' o hm hl' ho=>?_) (λb' ob ob' _ hl1 hl2 ho1 ho2=>?_) (λk hV hL m ob hm hl'=>?_) (λm hm=>?_)⟩
 ·rw[hlq,Af (Ne.symm hm),hd m hm']at hl';exact hl'
 ·rw[hlq,Ad rfl]at hl';cases hl'
 ·rw[hlq,Af hqn];exact hdq
 ·rcases hm with hm|hm
  ·have hm:=hm.symm;subst hm;rw[hlq,Ad rfl]at hl';cases hl';simp only[if_true]at ho;rcases ho with ho|⟨_,ho⟩
   ·exact⟨n,_,.inl rfl,hl,.inl ho,λ_=>trivial⟩
   ·rcases Au.1 ho with ho|ho
    ·exact⟨n,_,.inl rfl,hl,.inr ⟨rfl,ho⟩,λ_=>trivial⟩
    ·exact⟨q,_,.inr rfl,hr,.inl (by simpa using ho),λ_=>.inl rfl⟩
  ·have hm:=hm.symm;subst hm;rw[hlq,Af hqn,hdq]at hl';cases hl'
 ·rw[hlq,Af hqn,hdq]at hl2;cases hl2
 ·rcases hm with rfl|rfl
  ·rw[hlq,Ad rfl]at hl';cases hl';simp only[if_true];exact⟨r,es,c,h1,h2,hsm.keep k (λ_ _=>rfl),λs' v hx=>by cases hx⟩
  ·rw[hlq,Af hqn,hdq]at hl';cases hl'
 ·rw[hlq];split
  ·rfl
  ·by_cases hmq:m=q
   ·subst hmq;simp[hm]at hN
   ·rw[hd m hmq];exact h.has m hm
end
end
end Go.Proofs.YtklklgfpkpglgaaGreatDoor
