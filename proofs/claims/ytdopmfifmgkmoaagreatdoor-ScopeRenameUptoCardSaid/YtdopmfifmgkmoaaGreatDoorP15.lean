/- Parts: Shelf, O11, O12, O15, O13, O16. -/
import Derived.Shelf.Small.Bits
import Derived.Shelf.Strconv.Itoa0
import Derived.Shelf.Strconv.Itoa1
import Derived.Shelf.LaysM
import Derived.Shelf.Strconv.Itoa2
import Derived.Shelf.Strconv.Itoa3
import Derived.Shelf.Strings.Search1
import Derived.Shelf.Strings.Search2
import Derived.Shelf.Strings.Search3
import Derived.Shelf.Strings.Shaped
import Derived.Shelf.Sort.Plain
import Derived.Shelf.Slices.CompactS
import Derived.Shelf.Slices.Cells
import Derived.Shelf.Slices.In.SortNone
import Derived.Test.YtdopmfifmgkmoaaGreatDoorP14
set_option linter.all false
set_option maxRecDepth 100000
set_option maxHeartbeats 16000000
namespace Go.Proofs.YtdopmfifmgkmoaaGreatDoor
open Go.RowKit Go.Proofs.Tryz
end Go.Proofs.YtdopmfifmgkmoaaGreatDoor
namespace Go.Proofs
open Go.Shelf
def Tryz.Un:Go.Shelf.Ren:=⟨fun|171=>95|243=>148|246=>190|283=>213|284=>214|285=>215|286=>216|129=>118|317=>225|318=>226|319=>227|320=>228|337=>232|338=>233|n=>n,fun|3=>3|9=>9|2=>2|4=>4|171=>243|0=>0|53=>176|37=>206|5=>5|173=>245|212=>256|51=>174|20=>20|213=>257|46=>129|232=>262|233=>263|n=>n,fun|17=>3|18=>6|19=>7|n=>n⟩
theorem Tryz.Xm:Go.Proofs.LaysM.n171 Tryz.prog Tryz.Un:={
 mixed:=by kernel_rfl
 f129:=Tryz.func118.trans (congrArg some (by kernel_rfl))
 f171:=Tryz.func95.trans (congrArg some (by kernel_rfl))
 f243:=Tryz.func148.trans (congrArg some (by kernel_rfl))
 f246:=Tryz.func190.trans (congrArg some (by kernel_rfl))
 f283:=Tryz.func213.trans (congrArg some (by kernel_rfl))
 f284:=Tryz.func214.trans (congrArg some (by kernel_rfl))
 f285:=Tryz.func215.trans (congrArg some (by kernel_rfl))
 f286:=Tryz.func216.trans (congrArg some (by kernel_rfl))
 f317:=Tryz.func225.trans (congrArg some (by kernel_rfl))
 f318:=Tryz.func226.trans (congrArg some (by kernel_rfl))
 f319:=Tryz.func227.trans (congrArg some (by kernel_rfl))
 f320:=Tryz.func228.trans (congrArg some (by kernel_rfl))
 f337:=Tryz.func232.trans (congrArg some (by kernel_rfl))
 f338:=Tryz.func233.trans (congrArg some (by kernel_rfl))
 t0:=Tryz.underlying0
 a0:=Tryz.isAgg0
 z0:=Tryz.sizeOf0
 v0:=Tryz.zeroValue0
 t2:=Tryz.underlying2
 a2:=Tryz.isAgg2
 z2:=Tryz.sizeOf2
 v2:=Tryz.zeroValue2
 t3:=Tryz.underlying3
 a3:=Tryz.isAgg3
 z3:=Tryz.sizeOf3
 v3:=Tryz.zeroValue3
 t4:=Tryz.underlying4
 a4:=Tryz.isAgg4
 z4:=Tryz.sizeOf4
 v4:=Tryz.zeroValue4
 t5:=Tryz.underlying5
 a5:=Tryz.isAgg5
 z5:=Tryz.sizeOf5
 v5:=Tryz.zeroValue5
 t9:=Tryz.underlying9
 a9:=Tryz.isAgg9
 z9:=Tryz.sizeOf9
 v9:=Tryz.zeroValue9
 t20:=Tryz.underlying20
 a20:=Tryz.isAgg20
 z20:=Tryz.sizeOf20
 v20:=Tryz.zeroValue20
 t37:=Tryz.underlying206
 a37:=Tryz.isAgg206
 z37:=Tryz.sizeOf206
 v37:=Tryz.zeroValue206
 t46:=Tryz.underlying129
 a46:=Tryz.isAgg129
 z46:=Tryz.sizeOf129
 v46:=Tryz.zeroValue129
 t51:=Tryz.underlying174
 a51:=Tryz.isAgg174
 z51:=Tryz.sizeOf174
 v51:=Tryz.zeroValue174
 t53:=Tryz.underlying176
 a53:=Tryz.isAgg176
 z53:=Tryz.sizeOf176
 v53:=Tryz.zeroValue176
 t171:=Tryz.underlying243
 a171:=Tryz.isAgg243
 z171:=Tryz.sizeOf243
 v171:=Tryz.zeroValue243
 t173:=Tryz.underlying245
 a173:=Tryz.isAgg245
 z173:=Tryz.sizeOf245
 v173:=Tryz.zeroValue245
 t212:=Tryz.underlying256
 a212:=Tryz.isAgg256
 z212:=Tryz.sizeOf256
 v212:=Tryz.zeroValue256
 t213:=Tryz.underlying257
 a213:=Tryz.isAgg257
 z213:=Tryz.sizeOf257
 t232:=Tryz.underlying262
 a232:=Tryz.isAgg262
 z232:=Tryz.sizeOf262
 v232:=Tryz.zeroValue262
 t233:=Tryz.underlying263
 a233:=Tryz.isAgg263
 z233:=Tryz.sizeOf263
 v233:=Tryz.zeroValue263
 g17:=by kernel_rfl
 g18:=by kernel_rfl
 g19:=by kernel_rfl
 i0:=by kernel_rfl
 i2:=by kernel_rfl
 i3:=by kernel_rfl
 i4:=by kernel_rfl
 i5:=by kernel_rfl
 i9:=by kernel_rfl
 i20:=by kernel_rfl
 i37:=by kernel_rfl
 i46:=by kernel_rfl
 i51:=by kernel_rfl
 i53:=by kernel_rfl
 i171:=by kernel_rfl
 i173:=by kernel_rfl
 i212:=by kernel_rfl
 i232:=by kernel_rfl
 i233:=by kernel_rfl
 m17:=by kernel_rfl
 m18:=by kernel_rfl
 m19:=by kernel_rfl}
open Go.RowKit Go.Sort Go.Lib in
theorem Tryz.strconv_Itoa (n:Int)(h0:-9223372036854775808<=n)(h1:n<=9223372036854775807)(w:World)(htab:Lib.TabIs Tryz.prog w "internal/strconv.uint64pow10" .u64 Lib.pow10Tab):
 Calls Tryz.prog 95 #[.int .i64 n] w fun e w'=>e=.returned (.string ⟨(Lib.itoa n).toArray⟩)/\∃ k os,w'=grow (w.drewN k) os:=Any.strconv_Itoa Tryz.Xm n h0 h1 w htab
def Tryz.Vg:Go.Shelf.Ren:=⟨fun|144=>201|143=>218|219=>230|217=>234|225=>235|224=>236|267=>237|266=>238|314=>239|n=>n,fun|9=>9|4=>4|3=>3|5=>5|46=>129|146=>264|51=>174|n=>n,fun|1=>5|n=>n⟩
theorem Tryz.lays144:Go.Proofs.Lays.n144 Tryz.prog Tryz.Vg:={
 mixed:=by kernel_rfl
 f143:=Tryz.func218.trans (congrArg some (by kernel_rfl))
 f144:=Tryz.func201.trans (congrArg some (by kernel_rfl))
 f217:=Tryz.func234.trans (congrArg some (by kernel_rfl))
 f219:=Tryz.func230.trans (congrArg some (by kernel_rfl))
 f224:=Tryz.func236.trans (congrArg some (by kernel_rfl))
 f225:=Tryz.func235.trans (congrArg some (by kernel_rfl))
 f266:=Tryz.func238.trans (congrArg some (by kernel_rfl))
 f267:=Tryz.func237.trans (congrArg some (by kernel_rfl))
 f314:=Tryz.func239.trans (congrArg some (by kernel_rfl))
 t3:=Tryz.underlying3
 a3:=Tryz.isAgg3
 z3:=Tryz.sizeOf3
 v3:=Tryz.zeroValue3
 t4:=Tryz.underlying4
 a4:=Tryz.isAgg4
 z4:=Tryz.sizeOf4
 v4:=Tryz.zeroValue4
 t5:=Tryz.underlying5
 a5:=Tryz.isAgg5
 z5:=Tryz.sizeOf5
 v5:=Tryz.zeroValue5
 t9:=Tryz.underlying9
 a9:=Tryz.isAgg9
 z9:=Tryz.sizeOf9
 v9:=Tryz.zeroValue9
 t46:=Tryz.underlying129
 a46:=Tryz.isAgg129
 z46:=Tryz.sizeOf129
 v46:=Tryz.zeroValue129
 t51:=Tryz.underlying174
 a51:=Tryz.isAgg174
 z51:=Tryz.sizeOf174
 v51:=Tryz.zeroValue174
 t146:=Tryz.underlying264
 a146:=Tryz.isAgg264
 z146:=Tryz.sizeOf264
 v146:=Tryz.zeroValue264
 g1:=by kernel_rfl}
open Go.RowKit Go.Lib in
theorem Tryz.strings_Contains (s sub:ByteArray)(m:Int)(w:World)(hs:s.size<4294967281)(hm:w.cell? ⟨5,0,none⟩=some (.int .i64 m)):
 Calls Tryz.prog 201 #[.string s,.string sub] w fun e w'=>e=.returned (.bool (Lib.contains s.data.toList sub.data.toList))/\w'=w:=Any.strings_Contains Tryz.lays144 s sub m w hs hm
def Tryz.Vl:Go.Shelf.Ren:=⟨fun|190=>34|125=>70|258=>69|128=>117|129=>118|302=>108|303=>109|304=>110|305=>111|306=>112|307=>113|308=>114|309=>115|310=>116|333=>149|329=>150|330=>151|334=>152|335=>153|336=>154|344=>191|n=>n,fun|31=>37|9=>9|3=>3|46=>129|0=>0|51=>174|53=>176|4=>4|183=>166|182=>165|131=>171|5=>5|218=>200|222=>204|228=>226|229=>227|n=>n,fun|n=>n⟩
theorem Tryz.Ws:Go.Proofs.Lays.n190 Tryz.prog Tryz.Vl:={
 mixed:=by kernel_rfl
 f125:=Tryz.func70.trans (congrArg some (by kernel_rfl))
 f128:=Tryz.func117.trans (congrArg some (by kernel_rfl))
 f129:=Tryz.func118.trans (congrArg some (by kernel_rfl))
 f190:=Tryz.func34.trans (congrArg some (by kernel_rfl))
 f258:=Tryz.func69.trans (congrArg some (by kernel_rfl))
 f302:=Tryz.func108.trans (congrArg some (by kernel_rfl))
 f303:=Tryz.func109.trans (congrArg some (by kernel_rfl))
 f304:=Tryz.func110.trans (congrArg some (by kernel_rfl))
 f305:=Tryz.func111.trans (congrArg some (by kernel_rfl))
 f306:=Tryz.func112.trans (congrArg some (by kernel_rfl))
 f307:=Tryz.func113.trans (congrArg some (by kernel_rfl))
 f308:=Tryz.func114.trans (congrArg some (by kernel_rfl))
 f309:=Tryz.func115.trans (congrArg some (by kernel_rfl))
 f310:=Tryz.func116.trans (congrArg some (by kernel_rfl))
 f329:=Tryz.func150.trans (congrArg some (by kernel_rfl))
 f330:=Tryz.func151.trans (congrArg some (by kernel_rfl))
 f333:=Tryz.func149.trans (congrArg some (by kernel_rfl))
 f334:=Tryz.func152.trans (congrArg some (by kernel_rfl))
 f335:=Tryz.func153.trans (congrArg some (by kernel_rfl))
 f336:=Tryz.func154.trans (congrArg some (by kernel_rfl))
 f344:=Tryz.func191.trans (congrArg some (by kernel_rfl))
 t0:=Tryz.underlying0
 a0:=Tryz.isAgg0
 z0:=Tryz.sizeOf0
 v0:=Tryz.zeroValue0
 t3:=Tryz.underlying3
 a3:=Tryz.isAgg3
 z3:=Tryz.sizeOf3
 v3:=Tryz.zeroValue3
 t4:=Tryz.underlying4
 a4:=Tryz.isAgg4
 z4:=Tryz.sizeOf4
 v4:=Tryz.zeroValue4
 t5:=Tryz.underlying5
 a5:=Tryz.isAgg5
 z5:=Tryz.sizeOf5
 v5:=Tryz.zeroValue5
 t9:=Tryz.underlying9
 a9:=Tryz.isAgg9
 z9:=Tryz.sizeOf9
 v9:=Tryz.zeroValue9
 t31:=Tryz.underlying37
 a31:=Tryz.isAgg37
 z31:=Tryz.sizeOf37
 v31:=Tryz.zeroValue37
 t46:=Tryz.underlying129
 a46:=Tryz.isAgg129
 z46:=Tryz.sizeOf129
 v46:=Tryz.zeroValue129
 t51:=Tryz.underlying174
 a51:=Tryz.isAgg174
 z51:=Tryz.sizeOf174
 v51:=Tryz.zeroValue174
 t53:=Tryz.underlying176
 a53:=Tryz.isAgg176
 z53:=Tryz.sizeOf176
 v53:=Tryz.zeroValue176
 t131:=Tryz.underlying171
 a131:=Tryz.isAgg171
 z131:=Tryz.sizeOf171
 v131:=Tryz.zeroValue171
 t182:=Tryz.underlying165
 a182:=Tryz.isAgg165
 z182:=Tryz.sizeOf165
 v182:=Tryz.zeroValue165
 t183:=Tryz.underlying166
 a183:=Tryz.isAgg166
 z183:=Tryz.sizeOf166
 v183:=Tryz.zeroValue166
 t218:=Tryz.underlying200
 a218:=Tryz.isAgg200
 z218:=Tryz.sizeOf200
 v218:=Tryz.zeroValue200
 t222:=Tryz.underlying204
 a222:=Tryz.isAgg204
 z222:=Tryz.sizeOf204
 v222:=Tryz.zeroValue204
 t228:=Tryz.underlying226
 a228:=Tryz.isAgg226
 z228:=Tryz.sizeOf226
 v228:=Tryz.zeroValue226
 t229:=Tryz.underlying227
 a229:=Tryz.isAgg227
 z229:=Tryz.sizeOf227
 v229:=Tryz.zeroValue227}
open Go.Sort Go.RowKit in
theorem Tryz.slices_Sort_string (blk off cap:Nat)(ss:List (List UInt8))(w:World)(hH:Holds encStr w blk off ss.toArray)(hblk:blk<w.heap.size)(hsz:ss.length<4611686018427387904):
 Calls Tryz.prog 34 #[.slice (some ⟨blk,off,none⟩) ss.length cap] w fun e w'=>
  e=.returned (.tuple #[])/\∃ n os,w'=grow (putRow encStr (Sort.ahead w n) blk off (ss.mergeSort fun x y=>decide (x<=y)).toArray) os:=Any.slices_Sort_string Tryz.Ws blk off cap ss w hH hblk hsz
def Tryz.Vi:Go.Shelf.Ren:=⟨fun|194=>35|n=>n,fun|31=>37|9=>9|3=>3|4=>4|0=>0|n=>n,fun|n=>n⟩
theorem Tryz.Wx:Go.Proofs.Lays.n194 Tryz.prog Tryz.Vi:={
 mixed:=by kernel_rfl
 f194:=Tryz.func35.trans (congrArg some (by kernel_rfl))
 t0:=Tryz.underlying0
 a0:=Tryz.isAgg0
 z0:=Tryz.sizeOf0
 v0:=Tryz.zeroValue0
 t3:=Tryz.underlying3
 a3:=Tryz.isAgg3
 z3:=Tryz.sizeOf3
 v3:=Tryz.zeroValue3
 t4:=Tryz.underlying4
 a4:=Tryz.isAgg4
 z4:=Tryz.sizeOf4
 v4:=Tryz.zeroValue4
 t9:=Tryz.underlying9
 a9:=Tryz.isAgg9
 z9:=Tryz.sizeOf9
 v9:=Tryz.zeroValue9
 t31:=Tryz.underlying37
 a31:=Tryz.isAgg37
 z31:=Tryz.sizeOf37
 v31:=Tryz.zeroValue37}
open Go.RowKit Go.Lib Go.Sort in
theorem Tryz.slices_Compact_string (blk off cap:Nat)(zs:List (List UInt8))(w:World)(hH:Holds encStr w blk off zs.toArray)(hsz:zs.length<=9223372036854775807)(hcap:zs.length<=cap):
 Calls Tryz.prog 35 #[.slice (some ⟨blk,off,none⟩) zs.length cap] w fun e w'=>e=.returned (.slice (some ⟨blk,off,none⟩) (Lib.compact zs).length cap)/\∃ q,w'=putRow encStr (Sort.ahead w q) blk off (Lib.compact zs++List.replicate (zs.length - (Lib.compact zs).length) []).toArray:=Any.slices_Compact_string Tryz.Wx blk off cap zs w hH hsz hcap
open Go.RowKit Go.Lib Go.Sort in
theorem Tryz.slices_Compact_string_empty (a:Option Addr)(cap:Nat)(w:World):
 Calls Tryz.prog 35 #[.slice a 0 cap] w fun e w'=>e=.returned (.slice a 0 cap)/\w'=w:=Any.slices_Compact_string_empty Tryz.Wx a cap w
open Go.RowKit Go.Sort in
theorem Tryz.slices_Sort_string_none (p:Option Addr)(cap:Nat)(w:World):
 Calls Tryz.prog 34 #[.slice p 0 cap] w fun e w'=>e=.returned (.tuple #[])/\w'=w:=Any.slices_Sort_string_none Tryz.Ws p cap w
end Go.Proofs
namespace Go.Proofs.YtdopmfifmgkmoaaGreatDoor
open Go.RowKit Go.Proofs.Tryz
section
def Rk:List Nat:=[0,2,3,4,5,6]
variable {mm:Int}
namespace Lx
def inside (s t:ByteArray):Bool:=(List.range (s.size+1)).any fun i=>t.data.toList.isPrefixOf (s.data.toList.drop i)
def kl0:List UInt8:=[32,65,70,84,69,82,32,65,76,84,32,65,78,68,32,66,79,79,76,32,66,89,84,69,32,67,65,83,69,32,67,72,65,78,32,69,76,83,69,32,70,65,76,83,69,32,70,79,82,32,73,70,32,73,78,84,32,73,83,32,77,73,78,85,83,32,78,79,84,32,79,70,32,79,82,32,80,65,82,32,80,76,65,67,69,68,32,80,76,85,83,32,80,82,73,32,80,82,79,67,32,80,82,79,67,69,83,83,79,82,32,80,82,79,84,79,67,79,76,32,83,69,81,32,83,73,90,69,32,83,75,73,80,32,83,84,79,80,32,84,73,77,69,82,32,84,73,77,69,83,32,84,82,85,69,32,86,65,76,32,87,72,73,76,69,32]
def Wp:ByteArray:=⟨kl0.toArray⟩
theorem ky4:∀ (s t:List UInt8),(32:UInt8)∉s->(s++32::t).takeWhile (fun c=>c != 32)=s
 |[],t,_=>by simp
 |c::s,t,h=>by
  have h1:c≠32:=fun e=>h (by simp[e]);have h2:=ky4 s t (fun e=>h (Bk _ e));simp[List.takeWhile_cons,h1,h2]
theorem ra8:∀ i<167,kl0[i]? =some 32->(kl0.drop (i+1)).takeWhile (fun c=>c != 32)=[]\/(keys.any fun k=>decide (k.data.toList=(kl0.drop (i+1)).takeWhile (fun c=>c != 32)))=true:=by decide+kernel
theorem my9:∀ k∈keys.map (fun k=>k.data.toList),∃ i<167,(32::k++[32]).isPrefixOf (kl0.drop i)=true:=by decide+kernel
theorem mp9 {s:List UInt8}(h:s.all Md=true):(32:UInt8)∉s:=fun hm=>by
 have:=Ec.1 h _ hm
 revert this
 decide
theorem Ri:Wp.size=166:=by decide+kernel
theorem Vd (s:ByteArray)(hw:s.data.toList.all Md=true)(h0:s.data.toList≠[]):inside Wp ((⟨#[32]⟩++s)++⟨#[32]⟩)=isKey s:=by
 have hl:((⟨#[32]⟩++s)++⟨#[32]⟩:ByteArray).data.toList=32::s.data.toList++[32]:=by simp[ByteArray.data_append]
 unfold inside;rw[hl,Ej];have hK:Wp.data.toList=kl0:=rfl;rw[hK];constructor
 ·intro h;obtain⟨i,hi,hp⟩:=Eo.1 h;have hi:i<167:=by have:=List.mem_range.1 hi;rw[Ri]at this;omega
  obtain⟨t,ht⟩:=List.isPrefixOf_iff_prefix.1 hp;have h1:kl0[i]? =some 32:=by
   have:(kl0.drop i)[0]? =some 32:=by rw[<-ht];rfl
   rwa [Fh,Nat.add_zero]at this
  have h2:kl0.drop (i+1)=s.data.toList++32::t:=by
   have:(kl0.drop i).drop 1=s.data.toList++32::t:=by rw[<-ht];simp
   rwa [List.drop_drop]at this
  have h3:=ra8 i hi h1;rw[h2,ky4 _ _ (mp9 hw)]at h3;rcases h3 with h3|h3
  ·exact absurd h3 h0
  ·unfold isKey;obtain⟨k,hk,hk2⟩:=Eo.1 h3;refine Eo.2 ⟨k,hk,?_⟩;have hk2:=of_decide_eq_true hk2;refine Bt ?_;cases k with|mk k=>cases s with|mk s=>cases k with|mk k=>cases s with|mk s=>exact congrArg (fun l=>ByteArray.mk (Array.mk l)) hk2
 ·intro h;unfold isKey at h;obtain⟨k,hk,hk2⟩:=Eo.1 h;have hk2:=of_decide_eq_true hk2;subst hk2;obtain⟨i,hi,hp⟩:=my9 k.data.toList (Bs.2 ⟨k,hk,rfl⟩);exact Eo.2 ⟨i,List.mem_range.2 (by rw[Ri];omega),hp⟩
end Lx
theorem ka6:∀ l sub:List UInt8,0<=Lib.index l sub↔∃ i,i<=l.length/\sub.isPrefixOf (l.drop i)=true
 |[],sub=>by
  cases sub with
  |nil=>simp[Lib.index]
  |cons c sub=>simp[Lib.index]
 |b::l,sub=>by
  have ih:=ka6 l sub;have hge:=Lib.index_ge l sub;rw[Lib.index];constructor
  ·intro h;split at h
   ·rename_i hp;exact⟨0,Ak _,hp⟩
   ·split at h
    ·omega
    ·rename_i hne;have hne:Lib.index l sub≠-1:=fun e=>hne (by rw[e];rfl);obtain⟨i,hi,hp⟩:=ih.1 (by omega);exact⟨i+1,by simp only[Ai];omega,hp⟩
  ·rintro⟨i,hi,hp⟩;split
   ·omega
   ·rename_i hn;cases i with
    |zero=>exact absurd hp hn
    |succ i=>
     have h0:=ih.2 ⟨i,by simp only[Ai]at hi;omega,hp⟩;have hne:¬(Lib.index l sub == -1)=true:=by
      intro e;have:=eq_of_beq e;omega
     rw[Af hne];omega
theorem kf0 (s t:ByteArray):Lib.contains s.data.toList t.data.toList=Lx.inside s t:=by
 unfold Lib.contains Lx.inside;rw[Ej,Al,ka6,Eo];have hl:s.data.toList.length=s.size:=by simp
 constructor
 ·rintro⟨i,hi,hp⟩;exact⟨i,List.mem_range.2 (by omega),hp⟩
 ·rintro⟨i,hi,hp⟩;exact⟨i,by have:=List.mem_range.1 hi;omega,hp⟩
theorem me5 (s t:ByteArray)(hs:s.size<=1000):FnD prog (glS mm) 201 [.d (.str s),.d (.str t)] (fun v=>v=.d (.bool (Lx.inside s t))):=by
 intro w M us hM hus hg;simp only[Dc]at hus;obtain⟨v,r,rfl,hv,u,r2,rfl,hu,rfl⟩:=hus;have hv':v=.string s:=hv;have hu':u=.string t:=hu;subst hv' hu';obtain⟨v1,t1,f1,q1,_,q2⟩:=hg 5 _ rfl;simp only[Dv]at q2;obtain⟨z,r3,rfl,_,hz,rfl⟩:=q2;have hz':z=.int .i64 mm:=hz;subst hz';refine(Tryz.strings_Contains s t mm w (by omega) ?_).mono ?_
 ·simp only[World.cell?,q1];rfl
 ·rintro e w' ⟨rfl,rfl⟩;exact⟨_,_,rfl,.d _,rfl,Below.refl _ _,by rw[kf0];rfl⟩
attribute [local irreducible] TR TC
theorem rj6 (s:ByteArray)(hs:s.size<=1000):FnD prog (glS mm) 177 [.d (.str s)] (fun v=>v=.d (.bool (Lx.isKey s))):=by
 have hsz:s.data.toList.length=s.size:=by simp
 have hrun:=qw4 (glS mm) s (by omega);have hc:=me5 (mm:=mm) Lx.Wp ((⟨#[32]⟩++s)++⟨#[32]⟩) (by rw[Lx.Ri];omega);have hz:(⟨#[32]⟩:ByteArray).size=1:=rfl;have hz2:(⟨#[32]⟩++s:ByteArray).size=1+s.size:=by rw[ByteArray.size_append,hz]
 have hnk:∀ c∈Lx.keys,c.data.toList.all Lx.Md=true/\c≠⟨#[]⟩:=by decide+kernel
 by_cases h0:s=⟨#[]⟩
 ·have hk:Lx.isKey s=false:=by rw[h0];decide+kernel
  (refine j3 func177 ntmps177 results177 fun w M=>?_)
  (repeat' first|refine yyp ?_;try refine Cc ?_ ?_<;>intro hb|refine yy ?_|refine yy2 ?_ ?_<;>intro hcmp|refine at_nil ?_;refine Ce Rk ?_|refine Cb fun K hK=>?_|apply_assumption -exfalso -symm)
  all_goals try contradiction
  (refine j0 (j5 ?_))
  rw[hk];rfl
 by_cases hw:s.data.toList.all Lx.Md=true
 ·have h0':s.data.toList≠[]:=fun e=>h0 (by cases s with|mk s=>cases s with|mk s=>cases e;rfl);rw[Lx.Vd s hw h0']at hc;have hr:Lx.run s.data.toList=s.size:=by rw[<-hsz];exact(Lx.Rs _).2 hw
  rw[hr]at hrun
  (refine j3 func177 ntmps177 results177 fun w M=>?_)
  (repeat' first|refine yyp ?_;try refine Cc ?_ ?_<;>intro hb|refine yy ?_|refine yy2 ?_ ?_<;>intro hcmp|refine Cf 176 ?_;refine Cg (hc:=hrun) ?_|refine Cf 201 ?_;refine Cg (hc:=hc) ?_;try refine Cc ?_ ?_<;>intro hb|refine at_nil ?_;refine Ce Rk ?_|refine Cb fun K hK=>?_|apply_assumption -exfalso -symm)
  all_goals try contradiction
  all_goals
   (refine j0 (j5 ?_))
   simp only[oneOf, *]
 ·have hk:Lx.isKey s=false:=by
   cases h:Lx.isKey s with
   |false=>rfl
   |true=>
    obtain⟨k,hk,hk2⟩:=Eo.1 h;have:=of_decide_eq_true hk2;subst this;exact absurd (hnk _ hk).1 hw
  have hr:¬Lx.run s.data.toList=s.size:=fun e=>hw ((Lx.Rs _).1 (by rw[hsz];exact e))
  (refine j3 func177 ntmps177 results177 fun w M=>?_)
  (repeat' first|refine yyp ?_;try refine Cc ?_ ?_<;>intro hb|refine yy ?_|refine yy2 ?_ ?_<;>intro hcmp|refine Cf 176 ?_;refine Cg (hc:=hrun) ?_|refine at_nil ?_;refine Ce Rk ?_|refine Cb fun K hK=>?_|apply_assumption -exfalso -symm)
  all_goals try contradiction
  (refine j0 (j5 ?_))
  rw[hk];rfl
theorem ji7 (s:ByteArray):FnD prog (glS mm) 140 [.d (.str s)] (fun v=>v=.d (.bool (Lx.Dg s))):=by
 have hsz:s.data.toList.length=s.size:=by simp
 cases hs:s.data.toList with
 |nil=>
  have h0:s=⟨#[]⟩:=by cases s with|mk s=>cases s with|mk s=>cases hs;rfl
  (refine j3 func140 ntmps140 results140 fun w M=>?_)
  (repeat' first|refine yyp ?_;try refine Cc ?_ ?_<;>intro hb|refine yy ?_|refine yy2 ?_ ?_<;>intro hcmp|refine at_nil ?_;refine Ce Rk ?_|refine Cb fun K hK=>?_|apply_assumption -exfalso -symm)
  all_goals try contradiction
  (refine j0 (j5 ?_))
  simp[oneOf,Lx.Dg,hs]
 |cons c l=>
  rw[hs]at hsz;simp only[Ai]at hsz;have h0:¬s=⟨#[]⟩:=fun e=>by rw[e]at hs;cases hs
  have hn:=ky3 s c l hs;have hc0:s.data.toList[0]? =some c:=by rw[hs];rfl
  by_cases h32:s.size<=32
  ·have hrun:=qw4 (glS mm) s (by omega);have hk:=rj6 (mm:=mm) s (by omega);by_cases hall:(c::l).all Lx.Md=true
   ·have hr:Lx.run s.data.toList=s.size:=by rw[hs,(Lx.Rs _).2 hall];simpa using hsz
    rw[hr]at hrun
    (refine j3 func140 ntmps140 results140 fun w M=>?_)
    (repeat' first|refine yyp ?_;try refine Cc ?_ ?_<;>intro hb|refine yy ?_|refine yy2 ?_ ?_<;>intro hcmp|refine Cf 175 ?_;refine Cg (hc:=(ke5 (glS mm) c)) ?_;try refine Cc ?_ ?_<;>intro hb|refine Cf 176 ?_;refine Cg (hc:=hrun) ?_|refine Cf 177 ?_;refine Cg (hc:=hk) ?_;try refine Cc ?_ ?_<;>intro hb|refine at_nil ?_;refine Ce Rk ?_|refine Cb fun K hK=>?_|apply_assumption -exfalso -symm)
    all_goals try contradiction
    all_goals
     (refine j0 (j5 ?_))
     rw[hn];rw[Ei]at hall;have h31:l.length<32:=by omega
     simp only[Ab]at hall;simp only[oneOf, *,decide_true,Bc,Bn,Av,Bool.not_true,Bool.not_false]
   ·have hr:¬Lx.run s.data.toList=s.size:=fun e=>hall ((Lx.Rs _).1 (by rw[hs]at e;rw[e];simpa using hsz.symm))
    (refine j3 func140 ntmps140 results140 fun w M=>?_)
    (repeat' first|refine yyp ?_;try refine Cc ?_ ?_<;>intro hb|refine yy ?_|refine yy2 ?_ ?_<;>intro hcmp|refine Cf 175 ?_;refine Cg (hc:=(ke5 (glS mm) c)) ?_;try refine Cc ?_ ?_<;>intro hb|refine Cf 176 ?_;refine Cg (hc:=hrun) ?_|refine at_nil ?_;refine Ce Rk ?_|refine Cb fun K hK=>?_|apply_assumption -exfalso -symm)
    all_goals try contradiction
    all_goals
     (refine j0 (j5 ?_))
     rw[hn];rw[Ei]at hall;simp only[oneOf,Ax,An];have hlw:=js8 c
     (repeat (rename (∀ S:Sd,TC _ _ _ S->_)=>hX;clear hX))
     clear hn hrun hk
     grind
  ·(refine j3 func140 ntmps140 results140 fun w M=>?_)
   (repeat' first|refine yyp ?_;try refine Cc ?_ ?_<;>intro hb|refine yy ?_|refine yy2 ?_ ?_<;>intro hcmp|refine at_nil ?_;refine Ce Rk ?_|refine Cb fun K hK=>?_|apply_assumption -exfalso -symm)
   all_goals try contradiction
   all_goals
    (refine j0 (j5 ?_))
    rw[hn];have h31:¬l.length<32:=by omega
    simp only[oneOf,h31,decide_false,Av]
theorem kq9 (t:Ty):FnD prog (glS mm) 184 [.d (dTy t)] (fun v=>v=.d (.bool (Lx.Qp t))):=by
 (refine j3 func184 ntmps184 results184 fun w M=>?_)
 (repeat' first|refine Ca 1 ?_;(refine j6 1 ?_)|refine yyp ?_;try refine Cc ?_ ?_<;>intro hb|refine yy ?_|refine yy2 ?_ ?_<;>intro hcmp|refine Cf 205 ?_;refine Cg (hc:=(by first|exact ra6 t.kind|exact ra6 t.item)) ?_;try refine Cc ?_ ?_<;>intro hb|refine Cf 140 ?_;refine Cg (hc:=(ji7 t.proto)) ?_;try refine Cc ?_ ?_<;>intro hb|refine at_nil ?_;refine Ce [0,1,2,3,4,5,6,12,24,31] ?_|refine Cb fun K hK=>?_|apply_assumption -exfalso -symm)
 all_goals try contradiction
 all_goals
  (refine j0 (j5 ?_))
  simp only[oneOf,Ax,An,Lx.Qp]
  (repeat (rename (∀ S:Sd,TC _ _ _ S->_)=>hX;clear hX))
  simp only[jf0]at *
  grind [Lx.prim]
end
section
def Sj:List Nat:=[0,1,2,3,4,5,6,7,37,39,40,41,42,63]
variable {mm:Int}
theorem ky5 (pre l:List Va)(v:Va):Lx.Ol pre (v::l)=(Lx.Dg v.tag && Lx.Ld v.items 0 && !(pre.any fun w=>decide (w.tag=v.tag)) && Lx.Ol (pre++[v]) l):=rfl
theorem ja3 {α:Type}(l:List α)(k:Nat)(h:k<l.length):l.take k++[l[k]]=l.take (k+1):=(Ba h).symm
theorem mz0 {α β:Type}(f:α->β)(l:List α)(m:Nat):((l.map f).drop 0).take (m - 0)=(l.take m).map f:=by
 rw[Et,Nat.sub_zero,Ep]
attribute [local irreducible] TR TC
theorem mz1 (l:List Va):FnD prog (glS mm) 186 [.d (dPt ⟨false,l⟩)] (fun v=>v=.d (.bool (Lx.Ny ⟨false,l⟩))):=by
 unfold dPt Lx.Ny;dsimp only
 match l with
 |[]=>
  (refine j3 func186 ntmps186 results186 fun w M=>?_)
  (repeat' first|refine Ca 1 ?_;(refine j6 1 ?_)|refine yyp ?_;try refine Cc ?_ ?_<;>intro hb|refine yy ?_|refine yy2 ?_ ?_<;>intro hcmp|refine at_nil ?_;refine Ce Sj ?_|refine Cb fun K hK=>?_|apply_assumption -exfalso -symm)
  ((all_goals try contradiction);(all_goals try (exfalso;(repeat (rename (∀ S:Sd,TC _ _ _ S->_)=>hX;clear hX));simp only[Ai,Aq,Aa]at * <;>omega)))
  all_goals
   (refine j0 (j5 ?_))
   rfl
 |[v]=>
  have hv:(dVa v)=.agg [.str v.tag,.list 1 (v.items.map (.int .u8))]:=rfl
  (refine j3 func186 ntmps186 results186 fun w M=>?_)
  (repeat' first|refine Ca 1 ?_;(refine j6 1 ?_)|refine yyp ?_;try refine Cc ?_ ?_<;>intro hb|refine yy ?_|refine yy2 ?_ ?_<;>intro hcmp|refine Cf 206 ?_;refine Cg (hc:=(mj6 v.items 1)) ?_;try refine Cc ?_ ?_<;>intro hb|refine at_nil ?_;refine Ce Sj ?_|refine Cb fun K hK=>?_|apply_assumption -exfalso -symm)
  all_goals try simp only[Ez]at hcmp
  ((all_goals try contradiction);(all_goals try (exfalso;(repeat (rename (∀ S:Sd,TC _ _ _ S->_)=>hX;clear hX));simp only[Ai,Aq,Aa]at * <;>omega)))
  all_goals
   (refine j0 (j5 ?_))
   simp[oneOf,jf0, *]
 |v::w::r=>
  (refine j3 func186 ntmps186 results186 fun w M=>?_)
  (repeat' first|refine Ca 1 ?_;(refine j6 1 ?_)|refine yyp ?_;try refine Cc ?_ ?_<;>intro hb|refine yy ?_|refine yy2 ?_ ?_<;>intro hcmp|refine at_nil ?_;refine Ce Sj ?_|refine Cb fun K hK=>?_|apply_assumption -exfalso -symm)
  all_goals try simp only[Ez]at hcmp
  ((all_goals try contradiction);(all_goals try (exfalso;(repeat (rename (∀ S:Sd,TC _ _ _ S->_)=>hX;clear hX));simp only[Ai,Aq,Aa]at * <;>omega)))
  all_goals
   (refine j0 (j5 ?_))
   rfl
theorem mz2 (l:List Va):FnD prog (glS mm) 186 [.d (dPt ⟨true,l⟩)] (fun v=>v=.d (.bool (Lx.Ny ⟨true,l⟩))):=by
 unfold dPt Lx.Ny;dsimp only;rw[Ae rfl]
 (refine j3 func186 ntmps186 results186 fun w M=>?_)
 (repeat' first|refine Ca 1 ?_;(refine j6 1 ?_)|refine yyp ?_;try refine Cc ?_ ?_<;>intro hb|refine yy ?_|refine yy2 ?_ ?_<;>intro hcmp|refine at_nil ?_;refine Ce Sj ?_|refine Cb fun K hK=>?_|apply_assumption -exfalso -symm)
 ·(refine j0 (j5 ?_))
  rw[Bq (by omega)];rfl
 ·(refine j0 (j5 ?_))
  rw[Bq (by omega)];rfl
 have hd:decide (1<=l.length/\l.length<=16)=true:=Bt (by omega);refine j8 [2,3,4,41,42,43,44,45,46,47,48,49,50,51,52,53,54,55,56,57,58,59,60,61,62,63,64] [] (fun k:Nat=>[(41,.d (.int .i64 k))]) (fun _=>[]) (fun k=>k<=l.length/\Lx.Ol [] l=Lx.Ol (l.take k) (l.drop k)) (fun k=>l.length - k) 0 ⟨by omega,rfl⟩ fun k ⟨hk,hi⟩=>?_;dsimp only[Ac,Ad];rcases Ah k l.length with hk2|hk2
 ·rw[Bd hk2,ky5,ja3 l k hk2]at hi;have hit:=mj6 (mm:=mm) l[k].items 0;have hcf:=ro3 (glS mm) l[k].tag (l[k].items.map (.int .u8)) (fun w=>decide (w.tag=l[k].tag)) (l.take k) fun j hj=>ky2 (mm:=mm) l[k].tag (l[k].items.map (.int .u8)) _
  (repeat' first|refine Ca 4 ?_;(refine Cj 4 ?_)|refine Ca 60 ?_;(refine z_p rh1 ?_;simp only[mz0])|refine Ca 62 ?_;refine Ch (hc:=hcf) ?_;try refine Cc ?_ ?_<;>intro hb|refine yyp ?_;try refine Cc ?_ ?_<;>intro hb|refine yy ?_|refine Cf 206 ?_;refine Cg (hc:=hit) ?_;try refine Cc ?_ ?_<;>intro hb|refine Cf 140 ?_;refine Cg (hc:=(ji7 l[k].tag)) ?_;try refine Cc ?_ ?_<;>intro hb|refine at_nil ?_;refine Ce Sj ?_|refine Cb fun K hK=>?_|apply_assumption -exfalso -symm)
  all_goals first
   |(refine⟨k+1,⟨by omega,?_⟩,by omega,v6⟩
     rw[hi];simp only[*,Bool.not_false,Bc])
   |((refine j0 (j5 ?_))
     rw[hi,hd];simp only[oneOf, *,Bool.not_true,Bc,Az,Av])
 ·rw[Br hk2]at hi
  (repeat' first|refine yyp ?_;try refine Cc ?_ ?_<;>intro hb|refine yy ?_|refine at_nil ?_;refine Ce Sj ?_|refine Cb fun K hK=>?_|apply_assumption -exfalso -symm)
  (refine j0 (j5 ?_))
  rw[hi,hd];rfl
theorem qo2 (p:Pt):FnD prog (glS mm) 186 [.d (dPt p)] (fun v=>v=.d (.bool (Lx.Ny p))):=by
 obtain⟨c,l⟩:=p;cases c with
 |false=>exact mz1 l
 |true=>exact mz2 l
end
section
def Qr:List Nat:=[0,1,2,3,4,5,6,7,47,50,51,52,65]
def Qq:List Nat:=[0,1,2,3,4,5,6,7,47,52,66]
def kn1:Plan:=lin [0,8,20,28,5,12,17,25,32,37,42,44]
attribute [local irreducible] TR TC
theorem mz3 (gl:List (Nat × List D)):∀ (m:Nat) (x y:Ex),exN x<=m->FnD prog gl 84 [.d (dEx x),.d (dEx y)] (fun v=>v=.d (.bool (eqB x y))):=by
 intro m
 induction m with
 |zero=>intro x y h;have:=jm4 x;omega
 |succ m ih=>
  intro x y hm;rw[mx9]at hm;have hl:∀ z∈x.l,∀ y,FnD prog gl 84 [.d (dEx z),.d (dEx y)] (fun v=>v=.d (.bool (eqB z y))):=fun z hz y=>ih z y (by have:=ju7 hz;omega);have hxy:=rj4 (a:=x) (b:=y);clear ih hm;simp only[r9]at hl ⊢;rw[km9 x,km9 y]
  (refine j3 func84 ntmps84 results84 fun w M=>?_)
  refine k9 0 5 rfl rfl fun hna=>?_;refine k9 1 5 rfl rfl fun hnb=>?_;simp only[Aa]at hna hnb
  (repeat' first|refine Ca 2 ?_;(refine j6 2 ?_)|refine Ca 3 ?_;(refine j6 3 ?_)|refine Ca 11 ?_;(first|refine yyp ?_;try refine Cc ?_ ?_<;>intro hb|refine yy2 ?_ ?_<;>intro hcmp);all_goals try refine Db true 11 47 Qr ?_|refine Ca 18 ?_;(first|refine yyp ?_;try refine Cc ?_ ?_<;>intro hb|refine yy2 ?_ ?_<;>intro hcmp);all_goals try refine Db true 18 47 Qr ?_|refine Ca 25 ?_;(first|refine yyp ?_;try refine Cc ?_ ?_<;>intro hb|refine yy2 ?_ ?_<;>intro hcmp);all_goals try refine Db true 25 47 Qr ?_|refine Ca 32 ?_;(first|refine yyp ?_;try refine Cc ?_ ?_<;>intro hb|refine yy2 ?_ ?_<;>intro hcmp);all_goals try refine Db true 32 47 Qr ?_|refine Ca 39 ?_;(first|refine yyp ?_;try refine Cc ?_ ?_<;>intro hb|refine yy2 ?_ ?_<;>intro hcmp);all_goals try refine Db true 39 47 Qr ?_|refine yyp ?_;try refine Cc ?_ ?_<;>intro hb|refine yy ?_|refine yy2 ?_ ?_<;>intro hcmp|refine at_nil ?_;refine Ce Qr ?_|refine Cb fun K hK=>?_|refine Ck 6 ?_;refine j1 [] kn1 ?_|apply_assumption -exfalso -symm)
  iterate 5
   focus
    (refine j0 (j5 ?_))
    have hne:¬x=y:=by
     (repeat (rename (∀ S:Sd,TC _ _ _ S->_)=>hX;clear hX))
     clear hl
     grind
    rw[v7.2 hne];rfl
  rotate_left
  iterate 1
   focus
    (refine j0 (j5 ?_))
    have hne:¬x=y:=by
     (repeat (rename (∀ S:Sd,TC _ _ _ S->_)=>hX;clear hX))
     clear hl
     grind
    rw[v7.2 hne];rfl
  have hlen:x.l.length=y.l.length:=by omega
  have hfl:x=y↔x.l=y.l:=by
   (repeat (rename (∀ S:Sd,TC _ _ _ S->_)=>hX;clear hX))
   clear hl
   grind
  refine j8 [4,5,51,52,53,54,55,56,57,58,59,60,61,62,63,64,65,66] [] (fun k:Nat=>[(51,.d (.int .i64 k))]) (fun _=>[]) (fun k=>k<=x.l.length/\x.l.take k=y.l.take k) (fun k=>x.l.length - k) 0 ⟨Ak _,rfl⟩ fun k ⟨hk,hi⟩=>?_;dsimp only[Ac,Ad];rcases Ah k x.l.length with hk2|hk2
  ·have hk3:k<y.l.length:=by omega
   have hone:=hl x.l[k] (Ar _) y.l[k]
   (repeat' first|refine yyp ?_;try refine Cc ?_ ?_<;>intro hb|refine yy ?_|refine Cf 84 ?_;refine Cg (hc:=hone) ?_;try refine Cc ?_ ?_<;>intro hb|refine at_nil ?_;refine Ce Qr ?_|refine Cb fun K hK=>?_|refine Ck 6 ?_;refine j1 [] kn1 ?_|apply_assumption -exfalso -symm)
   ·refine⟨k+1,⟨by omega,x8 hk2 hk3 hi (k7.1 hb)⟩,by omega,v6⟩
   ·(refine j0 (j5 ?_))
    have hne:¬x=y:=fun e=>y9 hk2 hk3 (v7.1 hb) (hfl.1 e);rw[v7.2 hne];rfl
  ·(repeat' first|refine yyp ?_;try refine Cc ?_ ?_<;>intro hb|refine yy ?_|refine at_nil ?_;refine Ce Qr ?_|refine Cb fun K hK=>?_|refine Ck 6 ?_;refine j1 [] kn1 ?_|apply_assumption -exfalso -symm)
   (refine j0 (j5 ?_))
   rw[k7.2 (hfl.2 (y5 hk2 (by omega) hi))];rfl
theorem me6 (gl:List (Nat × List D)):∀ (m:Nat) (x y:Ex),exN x<=m->FnD prog gl 44 [.d (dEx x),.d (dEx y)] (fun v=>v=.d (.bool (eqB x y))):=by
 intro m
 induction m with
 |zero=>intro x y h;have:=jm4 x;omega
 |succ m ih=>
  intro x y hm;rw[mx9]at hm;have hl:∀ z∈x.l,∀ y,FnD prog gl 44 [.d (dEx z),.d (dEx y)] (fun v=>v=.d (.bool (eqB z y))):=fun z hz y=>ih z y (by have:=ju7 hz;omega);have hxy:=rj4 (a:=x) (b:=y);clear ih hm;simp only[r9]at hl ⊢;rw[km9 x,km9 y]
  (refine j3 func44 ntmps44 results44 fun w M=>?_)
  refine k9 0 5 rfl rfl fun hna=>?_;refine k9 1 5 rfl rfl fun hnb=>?_;simp only[Aa]at hna hnb
  (repeat' first|refine Ca 2 ?_;(refine j6 2 ?_)|refine Ca 3 ?_;(refine j6 3 ?_)|refine Ca 11 ?_;(first|refine yyp ?_;try refine Cc ?_ ?_<;>intro hb|refine yy2 ?_ ?_<;>intro hcmp);all_goals try refine Db true 11 47 Qq ?_|refine Ca 18 ?_;(first|refine yyp ?_;try refine Cc ?_ ?_<;>intro hb|refine yy2 ?_ ?_<;>intro hcmp);all_goals try refine Db true 18 47 Qq ?_|refine Ca 25 ?_;(first|refine yyp ?_;try refine Cc ?_ ?_<;>intro hb|refine yy2 ?_ ?_<;>intro hcmp);all_goals try refine Db true 25 47 Qq ?_|refine Ca 32 ?_;(first|refine yyp ?_;try refine Cc ?_ ?_<;>intro hb|refine yy2 ?_ ?_<;>intro hcmp);all_goals try refine Db true 32 47 Qq ?_|refine Ca 39 ?_;(first|refine yyp ?_;try refine Cc ?_ ?_<;>intro hb|refine yy2 ?_ ?_<;>intro hcmp);all_goals try refine Db true 39 47 Qq ?_|refine yyp ?_;try refine Cc ?_ ?_<;>intro hb|refine yy ?_|refine yy2 ?_ ?_<;>intro hcmp|refine at_nil ?_;refine Ce Qq ?_|refine Cb fun K hK=>?_|refine Ck 6 ?_;refine j1 [] kn1 ?_|apply_assumption -exfalso -symm)
  iterate 5
   focus
    (refine j0 (j5 ?_))
    have hne:¬x=y:=by
     (repeat (rename (∀ S:Sd,TC _ _ _ S->_)=>hX;clear hX))
     clear hl
     grind
    rw[v7.2 hne];rfl
  rotate_left
  iterate 1
   focus
    (refine j0 (j5 ?_))
    have hne:¬x=y:=by
     (repeat (rename (∀ S:Sd,TC _ _ _ S->_)=>hX;clear hX))
     clear hl
     grind
    rw[v7.2 hne];rfl
  have hlen:x.l.length=y.l.length:=by omega
  have hfl:x=y↔x.l=y.l:=by
   (repeat (rename (∀ S:Sd,TC _ _ _ S->_)=>hX;clear hX))
   clear hl
   grind
  refine j8 [4,5,48,49,50,51,52,53,54,55,56,57,58,59,60,61,62,63,64,65,66] [] (fun k:Nat=>[(5,.d (.int .i64 k))]) (fun _=>[]) (fun k=>k<=x.l.length/\x.l.take k=y.l.take k) (fun k=>x.l.length - k) 0 ⟨Ak _,rfl⟩ fun k ⟨hk,hi⟩=>?_;dsimp only[Ac,Ad];rcases Ah k x.l.length with hk2|hk2
  ·have hk3:k<y.l.length:=by omega
   have hone:=hl x.l[k] (Ar _) y.l[k]
   (repeat' first|refine yyp ?_;try refine Cc ?_ ?_<;>intro hb|refine yy ?_|refine Cf 44 ?_;refine Cg (hc:=hone) ?_;try refine Cc ?_ ?_<;>intro hb|refine at_nil ?_;refine Ce Qq ?_|refine Cb fun K hK=>?_|refine Ck 6 ?_;refine j1 [] kn1 ?_|apply_assumption -exfalso -symm)
   ·refine⟨k+1,⟨by omega,x8 hk2 hk3 hi (k7.1 hb)⟩,by omega,v6⟩
   ·(refine j0 (j5 ?_))
    have hne:¬x=y:=fun e=>y9 hk2 hk3 (v7.1 hb) (hfl.1 e);rw[v7.2 hne];rfl
  ·(repeat' first|refine yyp ?_;try refine Cc ?_ ?_<;>intro hb|refine yy ?_|refine at_nil ?_;refine Ce Qq ?_|refine Cb fun K hK=>?_|refine Ck 6 ?_;refine j1 [] kn1 ?_|apply_assumption -exfalso -symm)
   (refine j0 (j5 ?_))
   rw[k7.2 (hfl.2 (y5 hk2 (by omega) hi))];rfl
end
section
variable {mm:Int}
attribute [local irreducible] TR TC
theorem qo3 (gl:List (Nat × List D))(k:Int):FnD prog gl 203 [.d (.int .u8 k)] (fun v=>v=.d (.str (Lx.Lf k).1)):=by
 (refine j3 func203 ntmps203 results203 fun w M=>?_)
 (repeat' first|refine yyp ?_;try refine Cc ?_ ?_<;>intro hb|refine yy ?_|refine yy2 ?_ ?_<;>intro hcmp|refine at_nil ?_;refine Ce [0,2,3,4,5,6,8] ?_|refine Cb fun K hK=>?_|apply_assumption -exfalso -symm)
 all_goals
  (refine j0 (j5 ?_))
  simp only[oneOf,Lx.Lf, *,if_true,if_false]
  try rfl
theorem kr0 (k:Int):(Lx.Lf k).1=⟨#[]⟩↔Lx.prim k=false:=by
 unfold Lx.Lf Lx.prim;by_cases h1:k=1
 ·simp[h1]
 ·by_cases h2:k=2
  ·simp[h2]
  ·by_cases h3:k=3
   ·simp[h3]
   ·simp[h1,h2,h3,jf0]
theorem rr8 (n:Int):n.fdiv (2 ^ min (Int.toNat 8) IntKind.i32.bits)=0↔(0<=n/\n<=255):=by
 have:(2 ^ min (Int.toNat 8) IntKind.i32.bits:Int)=256:=by decide
 rw[this,Int.fdiv_eq_ediv_of_nonneg _ (by omega)];omega
theorem rr9 (n:Int):n.fdiv (2 ^ min (Int.toNat 1) IntKind.i32.bits)=0↔(0<=n/\n<=1):=by
 have:(2 ^ min (Int.toNat 1) IntKind.i32.bits:Int)=2:=by decide
 rw[this,Int.fdiv_eq_ediv_of_nonneg _ (by omega)];omega
theorem qo4 (e:Ex):0<=e.op/\e.op<=255:=by
 cases e with|mk k o t n s l=>
 have:=o.toNat_lt;simp only[Ex.op];omega
theorem qo5 (e:Ex):FnD prog (glS mm) 181 [.d (dE e)] (fun v=>v=.tup [.d (.int .i64 (Lx.Ka e.kind e.op e.ty e.n e.s).1),.d (.bool (Lx.Ka e.kind e.op e.ty e.n e.s).2)]):=by
 obtain⟨ho1,ho2⟩:=qo4 e;have hp:=qo3 (glS mm) e.ty;have htw:=kr0 e.ty;have h8:=rr8 e.n;have h1:=rr9 e.n
 (refine j3 func181 ntmps181 results181 fun w M=>?_)
 (repeat' first|refine Ca 1 ?_;(refine j6 1 ?_)|refine Ca 4 ?_;(refine Cj 4 ?_)|refine yyp ?_;try refine Cc ?_ ?_<;>intro hb|refine yy ?_|refine yy2 ?_ ?_<;>intro hcmp|refine Cf 140 ?_;refine Cg (hc:=(ji7 e.s)) ?_;try refine Cc ?_ ?_<;>intro hb|refine Cf 203 ?_;refine Cg (hc:=hp) ?_|refine at_nil ?_;refine Ce [0,1,2,3,4,5,6,9,10,13,18,20,25,27,34,38,39,49,51,60,62,67] ?_|refine Cb fun K hK=>?_|refine Ck 35 ?_;refine j1 [] (lin [0,4,9,12,16,20,25,28,32,36,40,45,48,52,56,60,76,65,68,72,80]) ?_|apply_assumption -exfalso -symm)
 all_goals
  (refine j0 (j5 ?_))
  simp only[oneOf,V.tup.injEq,List.cons.injEq,Ax,D.int.injEq,An,and_true,true_and,Lx.Ka]
  (repeat (rename (∀ S:Sd,TC _ _ _ S->_)=>hX;clear hX))
  clear hp;simp only[jf0,h8,h1,Bv,htw]at *;clear h8 h1 htw
  grind
end
section
def Vn:List Nat:=[0,1,2,3,4,6,7,8,10,34,36,37,38,39,47]
variable {mm:Int}
theorem me7 (deep left:Int)(e:Ex)(l:List Ex):Lx.Gi deep left (e::l)=if (Lx.Dx deep left e).1 then Lx.Gi deep (Lx.Dx deep left e).2 l else Lx.Dx deep left e:=by rw[Lx.Gi]
theorem mq0 (deep left:Int)(e:Ex):Lx.Dx deep left e=if Lx.Lg e=false\/left - 1<0\/32<deep then (false,left - 1) else Lx.Gi (deep+1) (left - 1) e.l:=by
 cases e;rw[Lx.Dx];rfl
def HV (left:Int):List (Nat × Ob):=[(3,.box [.d (.int .i64 left)]),(4,.box [.clo (.func 180) [] [.ptr 3 0,.ptr 4 0]])]
theorem me8 (e:Ex)(deep left:Int)(h0:0<=left)(h1:1<=deep)(h2:deep<=33)(h:(Lx.Dx deep left e).1=true):0<=(Lx.Dx deep left e).2/\(Lx.Dx deep left e).2<=left - 1:=by
 have:=Lx.Pj e (deep - 1) left h0 (by omega) (by omega);rw[show deep - 1+1=deep by omega]at this;have h3:=this.1.1 h;have h4:=this.2 h3;omega
attribute [local irreducible] TR TC
theorem qo6:∀ (m:Nat) (e:Ex) (deep left:Int),exN e<=m->0<=left->left<=256->1<=deep->deep<=33->
 FnE prog (glS mm) 180 [.d (dEx e),.d (.int .i64 deep),.ptr 3 0,.ptr 4 0] (HV left) (fun v H1=>v=.d (.bool (Lx.Dx deep left e).1)/\H1=HV (Lx.Dx deep left e).2):=by
 intro m
 induction m with
 |zero=>intro e d l h;have:=jm4 e;omega
 |succ m ih=>
  intro e deep left hm h0 h1 h2 h3;rw[mx9]at hm;have hl:∀ z∈e.l,∀ d r:Int,0<=r->r<=256->1<=d->d<=33->FnE prog (glS mm) 180 [.d (dEx z),.d (.int .i64 d),.ptr 3 0,.ptr 4 0] (HV r) (fun v H1=>v=.d (.bool (Lx.Dx d r z).1)/\H1=HV (Lx.Dx d r z).2):=fun z hz d r=>ih z d r (by have:=ju7 hz;omega);have hparts:=qo5 (mm:=mm) e;have heq:=mq0 deep left e;clear ih hm;generalize Lx.Dx deep left e=res at heq ⊢;have hown:Lx.Lg e=((Lx.Ka e.kind e.op e.ty e.n e.s).2 && decide ((e.l.length:Int)=(Lx.Ka e.kind e.op e.ty e.n e.s).1)):=rfl;generalize hq:Lx.Ka e.kind e.op e.ty e.n e.s=q at hparts hown;simp only[r9]at hl ⊢;rw[km9 e]at hparts ⊢;dsimp only[HV]at hl ⊢
  (refine j4 func180 ntmps180 results180 fun w M E b0=>?_)
  refine k9 0 5 rfl rfl fun hn=>?_;simp only[Aa]at hn
  (repeat' first|refine Ca 4 ?_;(refine j6 1004 ?_)|refine yyp ?_;try refine Cc ?_ ?_<;>intro hb|refine yy ?_|refine yy2 ?_ ?_<;>intro hcmp|refine Cf 181 ?_;refine Cg (hc:=hparts) ?_|refine at_nil ?_;refine Ce Vn ?_|refine Cb fun K hK=>?_|apply_assumption -exfalso -symm)
  ·obtain rfl:res=(false,left - 1):=by rw[heq,Ae (.inr (.inl hcmp))]
   (refine j0 (j7 ⟨?_,rfl⟩))
   rfl
  ·obtain rfl:res=(false,left - 1):=by rw[heq,Ae (.inr (.inr hcmp))]
   (refine j0 (j7 ⟨?_,rfl⟩))
   rfl
  ·have hf:Lx.Lg e=false:=by rw[hown,Bq hcmp,Az]
   obtain rfl:res=(false,left - 1):=by rw[heq,Ae (.inl hf)]
   (refine j0 (j7 ⟨?_,rfl⟩))
   rfl
  ·have hok:Lx.Lg e=true:=by rw[hown,hb,Bt (by omega)];rfl
   rw[Af (by rw[hok];simp only[Bool.true_eq_false,false_or];omega)]at heq;clear hown hq hparts;refine j8 (ι:=Nat × Int) [6,10,38,39,40,41,42,43,44,45,46,47,48] [3] (fun x=>[(38,.d (.int .i64 x.1))]) (fun x=>[(3,.box [.d (.int .i64 x.2)])]) (fun x=>x.1<=e.l.length/\0<=x.2/\x.2<=256/\res=Lx.Gi (deep+1) x.2 (e.l.drop x.1)) (fun x=>e.l.length - x.1) (0,left - 1) ⟨by omega,by omega,by omega,heq⟩ fun⟨k,cur⟩ ⟨hk,hc0,hc1,hi⟩=>?_;dsimp only[Ac,Ad]at hk hc0 hc1 hi ⊢;rcases Ah k e.l.length with hk2|hk2
   ·rw[Bd hk2,me7]at hi;have hone:=hl e.l[k] (Ar _) (deep+1) cur hc0 hc1 (by omega) (by omega);have hrange:=me8 e.l[k] (deep+1) cur hc0 (by omega) (by omega);generalize Lx.Dx (deep+1) cur e.l[k]=r at hone hrange hi
    (repeat' first|refine Ca 10 ?_;(refine Cj 1010 ?_)|refine Ca 46 ?_;refine Ch (hc:=hone) ?_;try refine Cc ?_ ?_<;>intro hb|refine yyp ?_;try refine Cc ?_ ?_<;>intro hb|refine yy ?_|refine at_nil ?_;refine Ce Vn ?_|refine Cb fun K hK=>?_|apply_assumption -exfalso -symm)
    ·have hr:=hrange hb;refine⟨(k+1,r.2),⟨by dsimp only;omega,hr.1,by dsimp only;omega,?_⟩,by dsimp only;omega,v6⟩;rw[hi,Ae hb]
    ·obtain rfl:res=r:=by rw[hi,hb];rfl
     (refine j0 (j7 ⟨?_,rfl⟩))
     rw[hb];rfl
   ·obtain rfl:res=(true,cur):=by rw[hi,Br hk2,Lx.Gi]
    (repeat' first|refine yyp ?_;try refine Cc ?_ ?_<;>intro hb|refine yy ?_|refine at_nil ?_;refine Ce Vn ?_|refine Cb fun K hK=>?_|apply_assumption -exfalso -symm)
    (refine j0 (j7 ⟨?_,rfl⟩))
    rfl
  ·have hf:Lx.Lg e=false:=by rw[hown,hb,Av]
   obtain rfl:res=(false,left - 1):=by rw[heq,Ae (.inl hf)]
   (refine j0 (j7 ⟨?_,rfl⟩))
   rfl
theorem ji8 (e:Ex):FnD prog (glS mm) 144 [.d (dEx e)] (fun v=>v=.d (.bool (Lx.Gr e))):=by
 have h:=qo6 (mm:=mm) _ e 1 256 (As _) (by omega) (by omega) (by omega) (by omega);rw[show Lx.Gr e=(Lx.Dx 1 256 e).1 from rfl];generalize Lx.Dx 1 256 e=r at h ⊢;simp only[r9]at h ⊢;dsimp only[HV]at h
 (refine j3 func144 ntmps144 results144 fun w M=>?_)
 (repeat' first|refine Ca 1 ?_;(refine j6 1 ?_)|refine Ca 3 ?_;(refine Cj 3 ?_)|refine Ca 4 ?_;(refine Cj 4 ?_)|refine Ca 8 ?_;refine Ch (hc:=h) ?_;try refine Cc ?_ ?_<;>intro hb|refine yyp ?_;try refine Cc ?_ ?_<;>intro hb|refine yy ?_|refine at_nil ?_;refine Ce [0,1,2,3,4,5,6] ?_|refine Cb fun K hK=>?_|apply_assumption -exfalso -symm)
 all_goals
  (refine j0 (j5 ?_))
  simp only[oneOf, *]
end
end Go.Proofs.YtdopmfifmgkmoaaGreatDoor
