/- Parts: S20, S21, S22. -/
import Derived.Test.YtdopmfifmgkmoaaGreatDoorP15
import Derived.Test.YtdopmfifmgkmoaaGreatDoorP21
set_option linter.all false
set_option maxRecDepth 100000
set_option maxHeartbeats 16000000
namespace Go.Proofs.YtdopmfifmgkmoaaGreatDoor
open Go.RowKit Go.Proofs.Tryz
section
open Go.RowKit Go.Sort
variable {mm:Int}
theorem mq3 (w:World)(n:Nat):Below w.heap.size w (w.drewN n):=⟨rfl,rfl,rfl,As _,fun _ _=>rfl⟩
theorem mq4 (w:World)(os:Array Obj):Below w.heap.size w (grow w os):=⟨rfl,rfl,rfl,by simp[grow],fun b hb=>by
 unfold grow;simp[Array.getElem?_append_left hb]⟩
theorem kr8:∀ n:Nat,Lib.decDigits n=Sc.dec n:=fun n=>by
 induction n using Nat.strongRecOn with
 |ind n ih=>
  rw[Lib.decDigits,Sc.dec];split
  ·rfl
  ·rw[ih (n / 10) (by omega)]
theorem kz2 {w:World}{M:Nat->Nat->Prop}{k:IntKind}:∀ {l:List Int} {vs:List Value},Dv w M (l.map fun z=>D.int k z) vs->vs=l.map fun z=>Value.int k z
 |[],_,h=>h
 |x::l,_,h=>by
  simp only[Am,Dv]at h;obtain⟨v,r,rfl,_,h3,h4⟩:=h;simp only[Gd]at h3;rw[h3,kz2 h4];rfl
theorem mf7 (n:Nat)(hn:n<1000000000000000000):FnD prog (glS mm) 95 [.d (.int .i64 n)] (fun v=>v=.d (.str ⟨(Sc.dec n).toArray⟩)):=by
 intro w M us hM hus hg;simp only[Dc]at hus;obtain⟨v,r,rfl,hv,rfl⟩:=hus;have hv':v=.int .i64 n:=hv;subst hv';obtain⟨v1,t1,f1,q1,_,q2⟩:=hg 3 _ rfl;have q5:=kz2 q2;subst q5;refine(Tryz.strconv_Itoa n (by omega) (by omega) w ?_).mono ?_
 ·show World.var? _ _ _=_;unfold World.var?;rw[show prog.globalNamed "internal/strconv.uint64pow10"=some 3 from by kernel_rfl];simp only[Option.bind_some,q1];rfl
 ·rintro e w' ⟨rfl,k,os,rfl⟩;refine⟨_,_,rfl,.d _,rfl,?_,?_⟩
  ·have h1:=mq3 w k;have h2:=mq4 (w.drewN k) os;exact h1.trans h2
  ·show Value.string _=Value.string _;unfold Lib.itoa;rw[Af (by omega),Int.toNat_natCast,kr8]
end
section
def Rz:List Nat:=[0,2,3,4,5,6,23]
def qb2:List Nat:=[2,3,4,5,6,7,8,9,10,11,12,13,14,15,16,17,18,19,20,21,22,23,24]
variable {mm:Int}
def Sc.W.Xz (σ:Sc.W):Prop:=∀ x∈σ.tk,x.2≠0
def Sc.W.Ud (σ:Sc.W)(m:Nat):Prop:=0<=σ.count/\σ.count+m * (σ.tk.length+1)<1000000000000000000
theorem qb3 (tk:List (ByteArray × Int))(s:ByteArray):∀ y∈Sc.tkK tk,Comp .str (.str s) y:=fun y hy=>by
 obtain⟨x,_,rfl⟩:=Bs.1 hy;exact .str _ _
theorem rl2 (tk:List (ByteArray × Int)):(Sc.tkV tk).length=(Sc.tkK tk).length:=by simp[Sc.tkV,Sc.tkK]
section
variable {E:Set}{Q:Exit->Sd->Prop}{ops:Array Oper}{draw:Bool}{rest:Todo}{way:Kt}{ty:TypeId}{pos:String}{af:Array Edge}{gd:Option (Nat × Bool)}
variable {env:List (Nat × V)}{H:List (Nat × Ob)}{gl:List (Nat × List D)}{d:Nat}
theorem jm7 {t k e b:Nat}{x y:Operand}{tk:List (ByteArray × Int)}{s:ByteArray}[ht:TMap E.P t k e][hkk:TKey E.P k .str][hz:Om E.P e (.d (.int .i64 0))](hx:Sd.ev ⟨env,H,gl⟩ x=some (.map b))(hox:Cw x=true)(hl:look b H=some (.map (Sc.tkK tk) (Sc.tkV tk)))(hy:Sd.ev ⟨env,H,gl⟩ y=some (.d (.str s)))(hoy:Cw y=true)
 (hd:d<E.C.nt) (hg:Sd.gd ⟨env,H,gl⟩ ops ⟨some d,.lookup t x y false,ty,pos,af,gd⟩=some true) (hw:way.known=false)
 (h1:∀ (i:Nat) z,tk[i]? =some z->z.1=s->(∀ j:Nat,j<i->∀ u,tk[j]? =some u->u.1≠s)->TR E draw ops Q rest ⟨(d,.d (.int .i64 z.2))::env,H,gl⟩)
 (h2:s∉tk.map (·.1)->TR E draw ops Q rest ⟨(d,.d (.int .i64 0))::env,H,gl⟩):TR E draw ops Q (.step ⟨some d,.lookup t x y false,ty,pos,af,gd⟩ way rest) ⟨env,H,gl⟩:=by
 refine jc8 (kk:=.str) hx hox hl hy hoy (.str _ _) hd hg hw (qb3 _ _) (rl2 _) (fun i z q1 q2 q3=>?_) (fun hm=>h2 fun hs=>hm ?_)
 ·unfold Sc.tkK at q1 q3;unfold Sc.tkV at q2;rw[Bx]at q1 q2;cases h3:tk[i]? with
  |none=>rw[h3]at q1;cases q1
  |some u=>
   rw[h3]at q1 q2;simp only[Fl,Bm,D.str.injEq]at q1 q2;subst q2;exact h1 i u h3 q1 fun j hj v hv e=>q3 j hj (by rw[Bx,hv,<-e];rfl)
 ·obtain⟨u,hu,rfl⟩:=Bs.1 hs;exact Bs.2 ⟨u,hu,rfl⟩
end
theorem kr9:∀ n:Nat,(Sc.dec n).length<=n+1:=fun n=>by
 induction n using Nat.strongRecOn with
 |ind n ih=>
  rw[Sc.dec];split
  ·simp
  ·have:=ih (n / 10) (by omega);simp only[Ag,Ai,Aq];omega
theorem jm8 (n:Nat):(⟨#[110]⟩:ByteArray)++⟨(Sc.dec n).toArray⟩=Sc.newName n:=by
 have h:∀ s t:ByteArray,s.data.toList=t.data.toList->s=t:=fun s t h=>by
  cases s with|mk a=>cases t with|mk b=>cases a with|mk a=>cases b with|mk b=>exact congrArg (fun l=>ByteArray.mk (Array.mk l)) h
 apply h;simp[Sc.newName,ByteArray.data_append]
attribute [local irreducible] TR TC
theorem jj2 (k:Sc.Kind)(σ:Sc.W)(ht:σ.Xz)(hn:σ.Ud 1):FnE prog (glS mm) 62 [.ptr 900 0] (HW k σ)
 (fun v H1=>v=.d (.str (Sc.Ct σ).1)/\H1=HW k (Sc.Ct σ).2):=by
 obtain⟨hn0,hn1⟩:=hn;have hfree:=Sc.Qy σ (σ.count.toNat+1);have hhas:=Sc.Oz σ (σ.tk.length+1) (σ.count.toNat+1);have hle:=Sc.Ta σ (σ.count.toNat+1);unfold Sc.Ct;obtain⟨env,tk,c,ev⟩:=σ;dsimp only at *;obtain⟨n,rfl⟩:∃ n:Nat,c=n:=⟨c.toNat,by omega⟩;simp only[Int.toNat_natCast]at *;generalize Sc.skip ⟨env,tk,n,ev⟩ (tk.length+1) (n+1)=nk at *;cases k
 all_goals dsimp only[HW,ja4,n6]
 case free=>
  (refine j4 func62 ntmps62 results62 fun w M E b0=>?_)
  (repeat' first|refine yyp ?_;try refine Cc ?_ ?_<;>intro hb|refine yy ?_|refine at_nil ?_;refine Ce Rz ?_|refine Cb fun K hK=>?_|apply_assumption -exfalso -symm)
  refine j8 qb2 [900] (fun j:Nat=>[]) (fun j=>[(900,.box [.map 901,.map 902,.d (.int .i64 (n+j:Nat)),ja4 .free])]) (fun j=>j<=nk) (fun j=>nk - j) 0 (Ak _) fun j hj=>?_;dsimp only[Ac,Ad,ja4];have hi:=mf7 (mm:=mm) (n+1+j) (by omega);rw[show((n+1+j:Nat):Int)=(n+j:Nat)+1 by omega]at hi;have hsz:(⟨(Sc.dec (n+1+j)).toArray⟩:ByteArray).size<=1000000000000000001:=by
   have:=kr9 (n+1+j);show(Sc.dec (n+1+j)).toArray.size<=_;simp only[Fj];omega
  have hz:(⟨#[110]⟩:ByteArray).size=1:=rfl;have hap:=jm8 (n+1+j)
  (repeat' first|refine Ca 22 ?_;(refine jm7 rfl rfl rfl rfl rfl (ltd rfl) rfl rfl (fun zi z hz1 hz2 hz3=>?_) (fun hmiss=>?_))|refine yyp ?_;try refine Cc ?_ ?_<;>intro hb|refine yy ?_|refine yy2 ?_ ?_<;>intro hcmp|refine Cf 95 ?_;refine Cg (hc:=hi) ?_|refine at_nil ?_;refine Ce Rz ?_|refine Cb fun K hK=>?_|apply_assumption -exfalso -symm)
  ·exact absurd hcmp (ht z (Ek hz1))
  ·have hmem:Sc.newName (n+1+j)∈tk.map (·.1):=by
    rw[<-hap,<-hz2];exact Bs.2 ⟨z,Ek hz1,rfl⟩
   rcases Ah j nk with hlt|hge
   ·refine⟨j+1,hlt,by omega,?_⟩;rw[show((n+(j+1):Nat):Int)=(n+j:Nat)+1 by omega];exact v6
   ·exfalso;obtain rfl:j=nk:=by omega
    exact hfree hmem
  ·rcases Ah j nk with hlt|hge
   ·exfalso;rw[hap]at hmiss;exact hmiss (hhas j hlt)
   ·obtain rfl:j=nk:=by omega
    rw[hap,show((n+1+j:Nat):Int)=(n+j:Nat)+1 by omega]
    (refine j0 (j7 ⟨?_,rfl⟩))
    rfl
 case check ns=>
  (refine j4 func62 ntmps62 results62 fun w M E b0=>?_)
  (repeat' first|refine yyp ?_;try refine Cc ?_ ?_<;>intro hb|refine yy ?_|refine at_nil ?_;refine Ce Rz ?_|refine Cb fun K hK=>?_|apply_assumption -exfalso -symm)
  refine j8 qb2 [900] (fun j:Nat=>[]) (fun j=>[(900,.box [.map 901,.map 902,.d (.int .i64 (n+j:Nat)),ja4 (.check ns)])]) (fun j=>j<=nk) (fun j=>nk - j) 0 (Ak _) fun j hj=>?_;dsimp only[Ac,Ad,ja4];have hi:=mf7 (mm:=mm) (n+1+j) (by omega);rw[show((n+1+j:Nat):Int)=(n+j:Nat)+1 by omega]at hi;have hsz:(⟨(Sc.dec (n+1+j)).toArray⟩:ByteArray).size<=1000000000000000001:=by
   have:=kr9 (n+1+j);show(Sc.dec (n+1+j)).toArray.size<=_;simp only[Fj];omega
  have hz:(⟨#[110]⟩:ByteArray).size=1:=rfl;have hap:=jm8 (n+1+j)
  (repeat' first|refine Ca 22 ?_;(refine jm7 rfl rfl rfl rfl rfl (ltd rfl) rfl rfl (fun zi z hz1 hz2 hz3=>?_) (fun hmiss=>?_))|refine yyp ?_;try refine Cc ?_ ?_<;>intro hb|refine yy ?_|refine yy2 ?_ ?_<;>intro hcmp|refine Cf 95 ?_;refine Cg (hc:=hi) ?_|refine at_nil ?_;refine Ce Rz ?_|refine Cb fun K hK=>?_|apply_assumption -exfalso -symm)
  ·exact absurd hcmp (ht z (Ek hz1))
  ·have hmem:Sc.newName (n+1+j)∈tk.map (·.1):=by
    rw[<-hap,<-hz2];exact Bs.2 ⟨z,Ek hz1,rfl⟩
   rcases Ah j nk with hlt|hge
   ·refine⟨j+1,hlt,by omega,?_⟩;rw[show((n+(j+1):Nat):Int)=(n+j:Nat)+1 by omega];exact v6
   ·exfalso;obtain rfl:j=nk:=by omega
    exact hfree hmem
  ·rcases Ah j nk with hlt|hge
   ·exfalso;rw[hap]at hmiss;exact hmiss (hhas j hlt)
   ·obtain rfl:j=nk:=by omega
    rw[hap,show((n+1+j:Nat):Int)=(n+j:Nat)+1 by omega]
    (refine j0 (j7 ⟨?_,rfl⟩))
    rfl
 case none=>
  (refine j4 func62 ntmps62 results62 fun w M E b0=>?_)
  (repeat' first|refine yyp ?_;try refine Cc ?_ ?_<;>intro hb|refine yy ?_|refine at_nil ?_;refine Ce Rz ?_|refine Cb fun K hK=>?_|apply_assumption -exfalso -symm)
  refine j8 qb2 [900] (fun j:Nat=>[]) (fun j=>[(900,.box [.map 901,.map 902,.d (.int .i64 (n+j:Nat)),ja4 .none])]) (fun j=>j<=nk) (fun j=>nk - j) 0 (Ak _) fun j hj=>?_;dsimp only[Ac,Ad,ja4];have hi:=mf7 (mm:=mm) (n+1+j) (by omega);rw[show((n+1+j:Nat):Int)=(n+j:Nat)+1 by omega]at hi;have hsz:(⟨(Sc.dec (n+1+j)).toArray⟩:ByteArray).size<=1000000000000000001:=by
   have:=kr9 (n+1+j);show(Sc.dec (n+1+j)).toArray.size<=_;simp only[Fj];omega
  have hz:(⟨#[110]⟩:ByteArray).size=1:=rfl;have hap:=jm8 (n+1+j)
  (repeat' first|refine Ca 22 ?_;(refine jm7 rfl rfl rfl rfl rfl (ltd rfl) rfl rfl (fun zi z hz1 hz2 hz3=>?_) (fun hmiss=>?_))|refine yyp ?_;try refine Cc ?_ ?_<;>intro hb|refine yy ?_|refine yy2 ?_ ?_<;>intro hcmp|refine Cf 95 ?_;refine Cg (hc:=hi) ?_|refine at_nil ?_;refine Ce Rz ?_|refine Cb fun K hK=>?_|apply_assumption -exfalso -symm)
  ·exact absurd hcmp (ht z (Ek hz1))
  ·have hmem:Sc.newName (n+1+j)∈tk.map (·.1):=by
    rw[<-hap,<-hz2];exact Bs.2 ⟨z,Ek hz1,rfl⟩
   rcases Ah j nk with hlt|hge
   ·refine⟨j+1,hlt,by omega,?_⟩;rw[show((n+(j+1):Nat):Int)=(n+j:Nat)+1 by omega];exact v6
   ·exfalso;obtain rfl:j=nk:=by omega
    exact hfree hmem
  ·rcases Ah j nk with hlt|hge
   ·exfalso;rw[hap]at hmiss;exact hmiss (hhas j hlt)
   ·obtain rfl:j=nk:=by omega
    rw[hap,show((n+1+j:Nat):Int)=(n+j:Nat)+1 by omega]
    (refine j0 (j7 ⟨?_,rfl⟩))
    rfl
end
section
def Vt:List Nat:=[0,1,3,4,5,6,7,14,26]
def Vv:List Nat:=[0,2,3,5,6,7,8,9]
def Pw:List Nat:=[0,1,3,4,5,6,7,17]
def qb4:Plan:=lin [0,4,8,13,16,20,24,28,36,33,41,44,48,53,58,60,64]
variable {mm:Int}
theorem kz3 (gl:List (Nat × List D))(k:Sc.Kind)(σ:Sc.W)(s:ByteArray)(x:Sc.Ent)(h:(σ.env s).getLast?=some x):FnE prog gl 94 [.ptr 900 0,.d (.str s)] (HW k σ)
 (fun v H1=>v=.tup [.d (Ga x),.d (.bool true)]/\H1=HW k σ):=by
 have hf:=me0 gl k σ s;have he:(σ.env s).isEmpty=false:=by
  cases hl:σ.env s with
  |nil=>rw[hl]at h;cases h
  |cons=>rfl
 rw[h,he]at hf;exact hf
theorem kz4 (gl:List (Nat × List D))(k:Sc.Kind)(σ:Sc.W)(s:ByteArray)(h:(σ.env s).getLast?=none):FnE prog gl 94 [.ptr 900 0,.d (.str s)] (HW k σ)
 (fun v H1=>v=.tup [.d (Ga ⟨ByteArray.empty,false,[]⟩),.d (.bool false)]/\H1=HW k σ):=by
 have hf:=me0 gl k σ s;rw[List.getLast?_eq_none_iff.1 h]at hf;exact hf
attribute [local irreducible] TR TC
theorem kn6 (gl:List (Nat × List D))(k:Sc.Kind)(σ:Sc.W)(t:Ty):FnE prog gl 98 [.ptr 900 0,.d (dTy t)] (HW k σ)
 (fun v H1=>v=.d (.list 1 ((Sc.Cz σ.env t).map .str))/\H1=HW k σ):=by
 unfold Sc.Cz;cases hx:(σ.env t.proto).getLast? with
 |none=>
  have hf:=kz4 gl k σ t.proto hx;simp only[ite_self];cases k
  all_goals dsimp only[HW,ja4,n6]at hf ⊢
  all_goals (refine j4 func98 ntmps98 results98 fun w M E b0=>?_)
  all_goals (repeat' first|refine Ca 3 ?_;(refine j6 3 ?_)|refine Ca 10 ?_;refine yyp ?_;try refine Cc ?_ ?_<;>intro hb|refine Ca 14 ?_;refine yyp ?_;try refine Cc ?_ ?_<;>intro hb|refine Ca 19 ?_;refine Ch (hc:=hf) ?_|refine Ca 5 ?_;(refine Cj 5 ?_)|refine Ca 23 ?_;refine yyp ?_;try refine Cc ?_ ?_<;>intro hb|refine Ca 26 ?_;refine yyp ?_;try refine Cc ?_ ?_<;>intro hb|refine yyp ?_|refine yy ?_|refine yy2 ?_ ?_<;>intro hcmp|refine at_nil ?_;refine Ce Vt ?_|refine Cb fun K hK=>?_|apply_assumption -exfalso -symm)
  all_goals (refine j0 (j7 ⟨?_,rfl⟩))
  all_goals rfl
 |some x=>
  have hf:=kz3 gl k σ t.proto x hx;obtain⟨xf,xp,xt⟩:=x;dsimp only;by_cases hk:t.kind=4/\t.proto≠ByteArray.empty
  ·rw[Ae hk];cases xp
   all_goals simp only[if_true,if_false,Ay]
   all_goals cases k
   all_goals dsimp only[HW,ja4,n6,Ga]at hf ⊢
   all_goals (refine j4 func98 ntmps98 results98 fun w M E b0=>?_)
   all_goals (repeat' first|refine Ca 3 ?_;(refine j6 3 ?_)|refine Ca 10 ?_;refine yyp ?_;try refine Cc ?_ ?_<;>intro hb|refine Ca 14 ?_;refine yyp ?_;try refine Cc ?_ ?_<;>intro hb|refine Ca 19 ?_;refine Ch (hc:=hf) ?_|refine Ca 5 ?_;(refine Cj 5 ?_)|refine Ca 23 ?_;refine yyp ?_;try refine Cc ?_ ?_<;>intro hb|refine Ca 26 ?_;refine yyp ?_;try refine Cc ?_ ?_<;>intro hb|refine yyp ?_|refine yy ?_|refine yy2 ?_ ?_<;>intro hcmp|refine at_nil ?_;refine Ce Vt ?_|refine Cb fun K hK=>?_|apply_assumption -exfalso -symm)
   all_goals first
    |(exfalso;exact absurd hk.1 (by assumption))
    |(exfalso;exact hk.2 (by assumption))
    |((refine j0 (j7 ⟨?_,rfl⟩))
      rfl)
  ·rw[Af hk];cases xp
   all_goals cases k
   all_goals dsimp only[HW,ja4,n6,Ga]at hf ⊢
   all_goals (refine j4 func98 ntmps98 results98 fun w M E b0=>?_)
   all_goals (repeat' first|refine Ca 3 ?_;(refine j6 3 ?_)|refine Ca 10 ?_;refine yyp ?_;try refine Cc ?_ ?_<;>intro hb|refine Ca 14 ?_;refine yyp ?_;try refine Cc ?_ ?_<;>intro hb|refine Ca 19 ?_;refine Ch (hc:=hf) ?_|refine Ca 5 ?_;(refine Cj 5 ?_)|refine Ca 23 ?_;refine yyp ?_;try refine Cc ?_ ?_<;>intro hb|refine Ca 26 ?_;refine yyp ?_;try refine Cc ?_ ?_<;>intro hb|refine yyp ?_|refine yy ?_|refine yy2 ?_ ?_<;>intro hcmp|refine at_nil ?_;refine Ce Vt ?_|refine Cb fun K hK=>?_|apply_assumption -exfalso -symm)
   all_goals first
    |(exfalso;exact hk ⟨by assumption,by assumption⟩)
    |((refine j0 (j7 ⟨?_,rfl⟩))
      rfl)
theorem mk8 (gl:List (Nat × List D))(k:Sc.Kind)(σ:Sc.W)(t:Ty)(hr:σ.room 1):FnE prog gl 101 [.ptr 900 0,.d (dTy t)] (HW k σ)
 (fun v H1=>v=.d (dTy (Sc.Gn σ t).1)/\H1=HW k (Sc.Gn σ t).2):=by
 have hn:=jk4 gl k σ t.proto hr;unfold Sc.Gn;by_cases h0:t.proto=ByteArray.empty
 ·rw[Ae h0];clear hn;cases k
  all_goals dsimp only[HW,ja4,n6]
  all_goals (refine j4 func101 ntmps101 results101 fun w M E b0=>?_)
  all_goals (repeat' first|refine Ca 3 ?_;(refine j6 3 ?_)|refine Ca 4 ?_;(refine Cj 4 ?_)|refine yyp ?_;try refine Cc ?_ ?_<;>intro hb|refine yy ?_|refine yy2 ?_ ?_<;>intro hcmp|refine at_nil ?_;refine Ce [0,1,3,4,5,6,7,36] ?_|refine Cb fun K hK=>?_|apply_assumption -exfalso -symm)
  all_goals first
   |(exfalso;exact absurd h0 (by assumption))
   |((refine j0 (j7 ⟨?_,rfl⟩))
     rfl)
 ·rw[Af h0];dsimp only;generalize Sc.nameOf σ t.proto=r at hn ⊢;cases k
  all_goals dsimp only[HW,ja4,n6]at hn ⊢
  all_goals (refine j4 func101 ntmps101 results101 fun w M E b0=>?_)
  all_goals (repeat' first|refine Ca 3 ?_;(refine j6 3 ?_)|refine Ca 4 ?_;(refine Cj 4 ?_)|refine Ca 11 ?_;refine Ch (hc:=hn) ?_|refine yyp ?_;try refine Cc ?_ ?_<;>intro hb|refine yy ?_|refine yy2 ?_ ?_<;>intro hcmp|refine at_nil ?_;refine Ce [0,1,3,4,5,6,7,36] ?_|refine Cb fun K hK=>?_|apply_assumption -exfalso -symm)
  all_goals first
   |(exfalso;exact h0 (by assumption))
   |((refine j0 (j7 ⟨?_,rfl⟩))
     rfl)
theorem qb5 (gl:List (Nat × List D))(l:List Sc.Ent)(hl:l.length<=1000000000):FnD prog gl 100 [.d (.list 3 (l.map Ga))] (fun v=>v=.d (.list 1 ((l.map (·.fresh)).map .str))):=by
 (refine j3 func100 ntmps100 results100 fun w M=>?_)
 (repeat' first|refine yyp ?_;try refine Cc ?_ ?_<;>intro hb|refine yy ?_|refine at_nil ?_;refine Ce Vv ?_|refine Cb fun K hK=>?_|apply_assumption -exfalso -symm)
 refine jf1 (t:=3) (e:=9) (sz:=1) rfl rfl ?_;refine j8 [3,5,8,9,10,11,12,13,14,15,16,17] [3] (fun x:Nat × Nat=>[(8,.d (.int .i64 x.1)),(3,.own 3 x.2)]) (fun x=>[(3,.row 9 1 true (((l.take x.1).map (·.fresh)).map .str) x.2)]) (fun x=>x.1<=l.length) (fun x=>l.length - x.1) (0,0) (Ak _) fun⟨j,kv⟩ hj=>?_;dsimp only[Ac,Ad]at hj ⊢;have hlen:((l.take j).map (·.fresh)).length=j:=by simp;omega
 rcases Ah j l.length with hj2|hj2
 ·(repeat' first|refine Ca 5 ?_;(refine Cj 5 ?_)|refine Ca 15 ?_;(refine Dh 15 ?_)|refine yyp ?_;try refine Cc ?_ ?_<;>intro hb|refine yy ?_|(refine Cq ?_;first|(refine Cs (fun kv=>?_))|(refine z_append_suf (fun sx sp kv hsx hsp hsl=>?_)))|refine at_nil ?_;refine Ce Vv ?_|refine Cb fun K hK=>?_|apply_assumption -exfalso -symm)
  refine⟨(j+1,kv),by dsimp only;omega,by dsimp only;omega,?_⟩;dsimp only;rw[Ba hj2];simp only[Ap,Am,Aw];exact v6
 ·(repeat' first|refine yyp ?_;try refine Cc ?_ ?_<;>intro hb|refine yy ?_|refine at_nil ?_;refine Ce Vv ?_|refine Cb fun K hK=>?_|apply_assumption -exfalso -symm)
  have:l.take j=l:=Ao hj2;rw[this]
  (refine j0 (j5 ?_))
  rfl
def dPx (p:Pr):D:=.agg [.int .u8 p.kind,.str p.name,
    .int .u8 p.chan.kind,.int .u8 p.chan.op,.int .u8 p.chan.ty,.int .i32 p.chan.n,.str p.chan.s,.list 6 (p.chan.l.map dEx),
    .list 6 (p.targets.map dEx),.list 6 (p.exprs.map dE),
    .str p.rep.name,.int .u8 p.rep.base.kind,.int .u8 p.rep.base.op,.int .u8 p.rep.base.ty,.int .i32 p.rep.base.n,.str p.rep.base.s,.list 6 (p.rep.base.l.map dEx),
    .int .u8 p.rep.count.kind,.int .u8 p.rep.count.op,.int .u8 p.rep.count.ty,.int .i32 p.rep.count.n,.str p.rep.count.s,.list 6 (p.rep.count.l.map dEx),
    .list 23 (p.guards.map dGu),.list 42 (p.l.map dPr),.list 1 (p.procs.map (.int .i64)),
    .int .u8 p.spec.kind,.int .u8 p.spec.type.kind,.int .i64 p.spec.type.dim,.int .u8 p.spec.type.item,.str p.spec.type.proto,.list 1 (p.spec.names.map .str),
    .int .u8 p.spec.e.kind,.int .u8 p.spec.e.op,.int .u8 p.spec.e.ty,.int .i32 p.spec.e.n,.str p.spec.e.s,.list 6 (p.spec.e.l.map dEx),
    .bool p.spec.proto.cases,.list 2 (p.spec.proto.l.map dVa),.list 6 (p.spec.formals.map dFo),.list 42 (p.spec.body.map dPr)]
theorem qw9:dPr=dPx:=by
 rw[v8];funext p;unfold dP dPx;rw[r9]
theorem kn7 (env:ByteArray->List Sc.Ent)(kind:Int)(chan:Ex)(e:Ex)(l:List Ex)(hx:(env chan.s).getLast?=none):Sc.Cy env kind chan (e::l)=false:=by
 unfold Sc.Cy;split
 ·dsimp only;rw[hx,Az]
 ·rfl
theorem kg0 (env:ByteArray->List Sc.Ent)(kind:Int)(chan:Ex)(e:Ex)(l:List Ex)(x:Sc.Ent)(hx:(env chan.s).getLast?=some x):Sc.Cy env kind chan (e::l)=(decide (kind=5) && (decide (e.kind=4) && (!x.proto && x.tags.any (Sc.isB e.s)))):=by
 unfold Sc.Cy;split
 ·rename_i h;dsimp only;rw[hx,Bt h,Bc]
 ·rename_i h;rw[Bq h,Av]
theorem jg0 (gl:List (Nat × List D))(k:Sc.Kind)(σ:Sc.W)(p:Pr)(hp:p.kind=5->0<p.exprs.length):FnE prog gl 57 [.ptr 900 0,.d (dPr p)] (HW k σ)
 (fun v H1=>v=.d (.bool (Sc.Cy σ.env p.kind p.chan p.exprs))/\H1=HW k σ):=by
 rw[qw9];by_cases h5:p.kind=5
 ·have hpos:=hp h5;obtain⟨e,l,hel⟩:∃ e l,p.exprs=e::l:=by
   cases h:p.exprs with
   |nil=>rw[h]at hpos;simp at hpos
   |cons e l=>exact⟨e,l,rfl⟩
  have h0:p.exprs[0]=e:=by simp only[hel,Ez]
  cases hx:(σ.env p.chan.s).getLast? with
  |none=>
   have hf:=kz4 gl k σ p.chan.s hx;rw[hel,kn7 _ _ _ _ _ hx];cases k
   all_goals dsimp only[HW,ja4,n6]at hf ⊢
   all_goals (refine j4 func57 ntmps57 results57 fun w M E b0=>?_)
   all_goals (repeat' first|refine Ca 3 ?_;(refine j6 3 ?_)|refine Ca 10 ?_;(first|refine yyp ?_;try refine Cc ?_ ?_<;>intro hb|refine yy2 ?_ ?_<;>intro hcmp);all_goals try refine Db true 10 17 Pw ?_|refine Ca 17 ?_;refine yyp ?_;try refine Cc ?_ ?_<;>intro hb|refine Ca 23 ?_;refine Ch (hc:=hf) ?_|refine Ca 5 ?_;(refine Cj 5 ?_)|refine Ca 27 ?_;(first|refine yyp ?_;try refine Cc ?_ ?_<;>intro hb|refine yy2 ?_ ?_<;>intro hcmp);all_goals try refine Db false 27 4 Pw ?_|refine yyp ?_|refine yy ?_|refine yy2 ?_ ?_<;>intro hcmp|refine at_nil ?_;refine Ce Pw ?_|refine Cb fun K hK=>?_|refine Ck 4 ?_;refine j1 [] qb4 ?_|apply_assumption -exfalso -symm)
   all_goals (refine j0 (j7 ⟨?_,rfl⟩))
   all_goals rfl
  |some x=>
   have hf:=kz3 gl k σ p.chan.s x hx;have hc:=l9 gl x.tags p.exprs[0].s;rw[hel,kg0 _ _ _ _ _ _ hx,<-h0];generalize x.tags.any (Sc.isB p.exprs[0].s)=b at hc ⊢;obtain⟨xf,xp,xt⟩:=x;dsimp only at hc ⊢;cases k
   all_goals dsimp only[HW,ja4,n6,Ga]at hf ⊢
   all_goals (refine j4 func57 ntmps57 results57 fun w M E b0=>?_)
   all_goals (repeat' first|refine Ca 3 ?_;(refine j6 3 ?_)|refine Ca 10 ?_;(first|refine yyp ?_;try refine Cc ?_ ?_<;>intro hb|refine yy2 ?_ ?_<;>intro hcmp);all_goals try refine Db true 10 17 Pw ?_|refine Ca 17 ?_;refine yyp ?_;try refine Cc ?_ ?_<;>intro hb|refine Ca 23 ?_;refine Ch (hc:=hf) ?_|refine Ca 5 ?_;(refine Cj 5 ?_)|refine Ca 27 ?_;(first|refine yyp ?_;try refine Cc ?_ ?_<;>intro hb|refine yy2 ?_ ?_<;>intro hcmp);all_goals try refine Db false 27 4 Pw ?_|refine Ca 32 ?_;(first|refine yyp ?_;try refine Cc ?_ ?_<;>intro hb|refine yy2 ?_ ?_<;>intro hcmp);all_goals try refine Db false 32 4 Pw ?_|refine yyp ?_|refine yy ?_|refine yy2 ?_ ?_<;>intro hcmp|refine Cf 39 ?_;refine Cg (hc:=hc) ?_|refine at_nil ?_;refine Ce Pw ?_|refine Cb fun K hK=>?_|refine Ck 4 ?_;refine j1 [] qb4 ?_|apply_assumption -exfalso -symm)
   all_goals (refine j0 (j7 ⟨?_,rfl⟩))
   all_goals (clear hc hf;(repeat (rename (∀ S:Sd,TC _ _ _ S->_)=>hX;clear hX));simp_all;try rfl)
 ·have hfalse:Sc.Cy σ.env p.kind p.chan p.exprs=false:=by unfold Sc.Cy;rw[Af h5]
  rw[hfalse];cases k
  all_goals dsimp only[HW,ja4,n6]
  all_goals (refine j4 func57 ntmps57 results57 fun w M E b0=>?_)
  all_goals (repeat' first|refine Ca 3 ?_;(refine j6 3 ?_)|refine Ca 10 ?_;(first|refine yyp ?_;try refine Cc ?_ ?_<;>intro hb|refine yy2 ?_ ?_<;>intro hcmp);all_goals try refine Db true 10 17 Pw ?_|refine yyp ?_|refine yy ?_|refine at_nil ?_;refine Ce Pw ?_|refine Cb fun K hK=>?_|refine Ck 4 ?_;refine j1 [] qb4 ?_|apply_assumption -exfalso -symm)
  all_goals (refine j0 (j7 ⟨?_,rfl⟩))
  all_goals rfl
end
end Go.Proofs.YtdopmfifmgkmoaaGreatDoor
