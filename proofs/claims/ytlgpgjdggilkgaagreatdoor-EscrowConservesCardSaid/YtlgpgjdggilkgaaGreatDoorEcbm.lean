/- Lemmas. -/
import Derived.Test.YtlgpgjdggilkgaaGreatDoorEcbl
import Derived.Shelf.Sort.Plain
import Derived.Shelf.Slices.In.SortNone
import Derived.Ground.Names2Prog
set_option linter.all false
set_option maxHeartbeats 4000000
namespace Go.V
section fv
variable {P:Program}{N:Nat}{env:Env}{L:LH}{K:Post}{ty:TypeId}
def HV{σ:Type}(P:Program)(gf:FuncId)(cap:LV)(step:σ→LV→σ→Prop)(a0:σ→Prop)(s₀:σ)(Lg:LH):Prop :=
 ∀(l:Nat) (J Jx:σ→HP),(∀x vs x',step x vs x'→YTri P l vs [J x] (fun v L'=>(v=.bool true∧L' = [J x'])∨(v=.bool false∧L' = [Jx x]))) →
  Tri P gf (.func (.yield l) #[] #[]::cap).toArray (J s₀::Lg) (fun _ L'=>(∃x,a0 x∧L' = J x::Lg)∨∃x,L' = Jx x::Lg)
def G.f8{g:Operand}{ps:Array Tmp}{assign body:Code}{gf:FuncId}{cap:LV}{σ:Type}{step:σ→LV→σ→Prop}{a9:σ→Prop}{s₀:σ}{Lg:LH}(it:HV P gf cap step a9 s₀ Lg)(hg:evE env g=some (.func (.func gf) #[] cap.toArray))
  (b4:Enters P gf) (b7:∀p∈ps,p<N) (a7:∀x vs x',step x vs x'→vs.length=ps.size) (I:σ→LH) (hl:Ent L (I s₀++Lg))
  (a3:∀x vs x',step x vs x'→G P N assign (penv env (ps.toList.zip vs)) (I x) (Post.seq (fun a6 L'=>G P N body a6 L' (ri K env Lg (I x'))) (fun _ _ _=>False)))
  (a4:∀x,a9 x→K .normal env (I x++Lg)):G P N (.rangeFunc g ps assign body) env L K:=by
 intro r θ Y a w hr i;obtain⟨M,ea,hm,s⟩:=i;have s0:Sat θ (I s₀++Lg++(mkH M++Y)) w:=hl θ _ w s;-- what is the same in both cases
 have a5:∀(fn:FuncId) (l D:Nat) (a0:List Nat) (w₁:World),(Instr.enterLoop fn a.tmps ps assign body r).run P w=.ok (l,mkD a0) w₁ →
   Sat θ (own l (.loop { state:=.ready,pending:=none,fn,tmps:=a.tmps,params:=ps,assign,body,defers:=D })::(mkH a0++(I s₀++Lg++(mkH M++Y)))) w₁ →
   ∃(l:Nat) (a0:List Deferred) (w₁:World) (d:Deferred) (w₁' : World) (f:FuncId) (args:Array Value) (w₂:World),
   (Instr.enterLoop fn a.tmps ps assign body (FW r).round).run P w=.ok (l,a0) w₁ ∧
   (resolve a.eval (rangeCall g l) 0).run P w₁=.ok d w₁' ∧
   (∀f',Target.leads P w₁' d.target d.args=some f'→(FW r).fn f') ∧
   (invoke d.target d.args).run P w₁' = .ok (.enter f args) w₂ ∧
   ((FW r).depth.isSome=true→1≤0) ∧
   CallsIn (FW r) (0 - 1) P f args w₂ (rangePost (FW r) 0 P l (QK θ Y N K) { a with defers:=a0++a.defers }):=by
  intro fn l D a0 w₁ he s1;obtain⟨a1,a2⟩:∃a1:Loop,a1={ state:=.ready,pending:=none,fn,tmps:=a.tmps,params:=ps,assign,body,defers:=D }:=⟨_,rfl⟩;rw[←a2] at s1;have b2:a1.state=.ready:=by rw[a2]
  have b1:a1.pending=none:=by rw[a2]
  have hy:∀x vs x',step x vs x'→YTri P l vs [cm (own l (.loop a1)::I x)] (fun v L'=>(v=.bool true∧L' = [cm (own l (.loop a1)::I x')])∨(v=.bool false∧L' = [hex fun x:Code×LH=>cm (cY (io K env Lg x.1 x.2)::own l (.loop { a1 with state:=.done,pending:=some x.1 })::x.2)])):=by
   intro x vs x' hx;refine oG b2 b1 (by rw[a2];exact a7 _ _ _ hx) (by rw[a2];exact b7) (env:=env) ?_ ?_
   ·rw[a2];exact⟨ea.size,ea.at_⟩
   ·rw[a2];exact a3 x vs x' hx
  have ht:=it l (fun x=>cm (own l (.loop a1)::I x)) (fun _=>hex fun x:Code×LH=>cm (cY (io K env Lg x.1 x.2)::own l (.loop { a1 with state:=.done,pending:=some x.1 })::x.2)) hy;have b5:a.eval g=.func (.func gf) #[] cap.toArray:=aL ea.agr hg;refine⟨l,mkD a0,w₁,{ target:=.fn (.func gf) cap.toArray,args:=#[.func (.yield l) #[] #[]] },w₁,gf,(.func (.yield l) #[] #[]::cap).toArray,w₁,he,?_,fun _ _=>trivial,?_,(fun h=>by cases h),mC ?_⟩
  ·simp only[resolve,Deferred.ofValue,b5];simp[Act.eval]
  ·have:=b4 (.func (.yield l) #[] #[]::cap).toArray w₁
   simpa [invoke] using this
  have s2:Sat θ (cm (own l (.loop a1)::I s₀)::Lg++(mkH a0++(mkH M++Y))) w₁:=by
   refine Sat.a8 (A:=own l (.loop a1)::I s₀) (s1.perm ?_);simp only[al];refine List.Perm.cons _ ?_;rw[aB];refine perm_front.trans ?_;refine List.Perm.append_left _ ?_;exact perm_front
  refine(ht.calls θ _ w₁ s2).mono ?_;rintro e w₂ ⟨v,L',rfl,b3,s3⟩;rcases b3 with⟨x,hx,rfl⟩|⟨k,rfl⟩
  ·have s4:Sat θ (own l (.loop a1)::(I x++(Lg++(mkH a0++(mkH M++Y))))) w₂:=Sat.ofStars (A:=own l (.loop a1)::I x) s3;have hh:=s4.own_heap;refine⟨none,_,(by rw[←b1];exact jA hh (by rw[b2];simp)),?_⟩;have s5:=(Sat.c7 (rec':={ a1 with state:=.exhausted }) s4).tail;refine⟨env,I x++Lg,⟨a0++M,⟨ea.size,ea.at_⟩,by simp[mkD,hm],?_⟩,a4 x hx⟩;have e:mkH (a0++M)++Y=mkH a0++(mkH M++Y):=by simp[mkH]
   rw[e,aB];exact s5
  ·obtain⟨⟨c,L₂⟩,s4⟩:=Sat.ofHex (L:=Lg++(mkH a0++(mkH M++Y))) s3;have s5:Sat θ (cY (io K env Lg c L₂)::(own l (.loop { a1 with state:=.done,pending:=some c })::(L₂++(Lg++(mkH a0++(mkH M++Y)))))) w₂:=Sat.ofStars (A:=cY (io K env Lg c L₂)::own l (.loop { a1 with state:=.done,pending:=some c })::L₂) s4;have hj:=s5.ofPure;have s6:=s5.tail;have hh:=s6.own_heap;have s7:=(Sat.c7 (rec':={ ({ a1 with state:=.done,pending:=some c }:Loop) with state:=.exhausted }) s6).tail;refine⟨some c,_,jA hh cc,?_⟩
   have b0:At N env (L₂++Lg) θ Y { a with defers:=mkD a0++a.defers } { w₂ with heap:=w₂.heap.setIfInBounds l (.loop { ({ a1 with state:=.done,pending:=some c }:Loop) with state:=.exhausted }) }:=by
    refine⟨a0++M,⟨ea.size,ea.at_⟩,by simp[mkD,hm],?_⟩;have e:mkH (a0++M)++Y=mkH a0++(mkH M++Y):=by simp[mkH]
    rw[e,aB];exact s7
   cases c with
   | ret=>exact wpIn_ret ⟨env,_,b0,hj⟩
   | exit id=>exact wpIn_exit ⟨env,_,b0,hj⟩
   | _=>exact hj.elim
 refine wpIn_rangeFunc fun fn _=>?_;cases r with
 | none =>
  have s1:=s0.alloc (o:=.deferred (some []));have s2:=s1.alloc (o:=.loop { state:=.ready,pending:=none,fn,tmps:=a.tmps,params:=ps,assign,body,defers:=w.heap.size });refine a5 fn (w.heap.size+1) w.heap.size [w.heap.size] _ jH ?_;rw[World.size_alloc] at s2;exact s2
 | some l =>
  obtain⟨a1,Y',hY⟩:=hr l rfl
  have b6:w.heap[l]? = some (.loop a1):=by
   have s1:Sat θ (own l (.loop a1)::(I s₀++Lg++(mkH M++Y'))) w:=s0.perm (by
    have h1:(I s₀++Lg++(mkH M++Y)).Perm (I s₀++Lg++(mkH M++(own l (.loop a1)::Y'))):=(hY.append_left _).append_left _;refine h1.trans ?_;rw[←aB,←aB (I s₀++Lg)];exact dX)
   exact s1.own_heap
  exact a5 fn w.heap.size a1.defers [] _ (jG b6) s0.alloc
end fv
end Go.V
namespace Go.Proofs.YtlgpgjdggilkgaaGreatDoor
open Go.V
abbrev tMx:Nat:=143
abbrev tIs:Nat:=22
def keyA(b:Nat)(ks:List Int)(x:OA×Nat):LH:=[osl (encZ .i64) 1 tInt x.1 x.2 ks,obj b tIs [ag x.1 ks.length x.2]]
def keyO(b:Nat)(ks:List Int):HP:=hex fun x=>cm (keyA b ks x)
def Kf(m:List (Int×ExV))(d:List (Int×ExV))(vs:LV)(d' : List (Int×ExV)):Prop:=∃p,d' = d++[p]∧p∈m∧p∉d∧d.length<m.length∧vs=[ac p.1]
attribute [local irreducible] G GO GP GPW GPK GF GE Ev Ef EfR Ent CB GB V.Enters bX delM
def Fp{L0:LH}(bx mb:Nat)(m:List (Int×ExV)) :
  HV Tryz.prog 184 [ax bx] (Kf m) (fun d=>d.Perm m) [] (obj bx tMx [.map (some mb)]::gmap kvI cJ mb m::L0):=by
 intro i J Jx hy;refine Tri.bd (args:=[.func (.yield i) #[] #[],ax bx]) ?_;refine Ks ?_;intros;refine GO.ef (Ef.j7 rfl) ae ?_;rintro _ _⟨r,rfl,rfl⟩;refine Ks ?_;intros;refine G.loop (α:=List (Int×ExV)) (fun z=>z.length≤m.length) (fun z=>[(0,.func (.yield i) #[] #[]),(5,ax r)]) (fun z=>J z::gE kvI cJ mb m r z::obj bx tMx [.map (some mb)]::L0) (fun z=>m.length - z.length) [] (aw _) aC ah ?_;intro z hz;refine Ks ?_;intros;refine GO.ef (Ef.k7 rfl) ae ?_;rintro _ _ (⟨rfl,rfl,a1⟩|⟨p,rfl,rfl,a2,a3,a0⟩)
 ·refine Ks ?_;intros;refine KX.c8 aA ?_ (.inl ⟨z,a1,rfl⟩);refine(Ent.at (A:=gE kvI cJ mb m r z) Ent.k7).trans ?_;exact ah
 have a4:=hy z [ac p.1] (z++[p]) ⟨p,rfl,a2,a3,a0,rfl⟩;refine Ks ?_;intros;refine GO.ev (Ev.j9 (done:=z) rfl rfl) ae ?_;refine Ks ?_;intros;refine GO.ent (L':=J z::(gE kvI cJ mb m r (z++[p])::obj bx tMx [.map (some mb)]::L0)) ah ?_;((with_reducible apply GO.a8);refine GO.efR (EfR.yield (a4) rfl rfl dd) ae ?_);rintro _ _⟨_,(⟨rfl,rfl⟩|⟨rfl,rfl⟩),hL⟩
 ·simp only[al,ak] at hL;subst hL;refine Ks ?_;intros;refine⟨z++[p],by simp;omega,by simp;omega,aC,by exact ah⟩
 ·simp only[al,ak] at hL;subst hL;refine Ks ?_;intros;refine KX.a8 aA ?_ (.inr ⟨z,rfl⟩);refine(Ent.at (A:=gE kvI cJ mb m r (z++[p])) Ent.k7).trans ?_;exact ah
def tY{L:LH}(bx mb:Nat)(m:List (Int×ExV))(hm:m.length≤1000000) :
  Tri Tryz.prog 183 #[ag none 0 0,.func (.func 184) #[] #[ax bx]] (obj bx tMx [.map (some mb)]::gmap kvI cJ mb m::L) (fun v L'=>∃ad cap ks,v=ag ad ks.length cap∧ks.Perm (m.map (·.1))∧L' = osl (encZ .i64) 1 tInt ad cap ks::obj bx tMx [.map (some mb)]::gmap kvI cJ mb m::L):=by
 refine Tri.bd ?_;refine Ks ?_;intros;rename_i b2;refine G.f8 (Fp (L0:=L) bx mb m) rfl en184.1 ae (by rintro x vs x' ⟨p,_,_,_,_,rfl⟩;rfl) (fun d=>[keyO b2 (d.map (·.1))]) ?_ ?_ ?_
 ·simp only[al,ak,bG];refine Ent.trans ?_ (Ent.g8 (none,0) (f:=keyA b2 []) (Ent.refl _));simp only[keyA,bz,al,ak];refine Ent.trans (Ent.c8 (encZ .i64) 1 tInt) ?_;exact ah
 ·rintro d vs d' ⟨p,rfl,a5,a6,a4,rfl⟩;have a2:(d.map (·.1)).length≤1000000:=by rw[an];omega
  rw[aJ];show G _ _ _ ((7,ac p.1)::_) _ _;rw[show[p].map (·.1)=[p.1] from rfl];generalize d.map (·.1)=T at a2;generalize p.1=k;refine G.c8 (f:=keyA b2 T) ?_;rintro⟨a3,c1⟩;simp only[keyA,al,ak];refine Ks ?_;intros;refine GO.ef (Ef.a8 (enc:=encZ .i64) (e:=k) rfl rfl rfl rfl rfl aQ (iu _ _) ab ab) ae ?_;rintro _ _⟨a1,a0,rfl,rfl⟩;refine Ks ?_;intros;refine KX.round ?_;refine Ent.trans ?_ (Ent.g8 (a1,a0) (f:=keyA b2 (T++[k])) (Ent.refl _));simp only[keyA,al,ak];exact ah
 intro d hd;have hp:(d.map (·.1)).Perm (m.map (·.1)):=hd.map _;generalize d.map (·.1)=T at *;simp only[al,ak];refine KX.c7 ?_;refine Ks ?_;intros;refine GO.c8 (f:=keyA b2 T) ?_;rintro⟨a1,a0⟩;simp only[keyA,al,ak];refine Ks ?_;intros;refine KX.a8 aA ?_ ⟨a1,a0,T,rfl,hp,rfl⟩;exact ah
def sF{L:LH}(bx mb:Nat)(m:List (Int×ExV))(hm:m.length≤1000000) :
  Tri Tryz.prog 124 #[.func (.func 184) #[] #[ax bx]] (obj bx tMx [.map (some mb)]::gmap kvI cJ mb m::L) (fun v L'=>∃ad cap ks,v=ag ad ks.length cap∧ks.Perm (m.map (·.1))∧L' = osl (encZ .i64) 1 tInt ad cap ks::obj bx tMx [.map (some mb)]::gmap kvI cJ mb m::L):=by
 refine Tri.bd ?_;refine Ks ?_;intros;refine GO.ca (tY bx mb m hm) ?_;rintro _ _⟨a0,c1,ks,rfl,a1,rfl⟩;refine Ks ?_;intros;exact KX.en ⟨a0,c1,ks,rfl,a1,rfl⟩
def xR{L:LH}(mb:Nat):Tri Tryz.prog 125 #[.map (some mb)] L (fun v L'=>∃bx,v=.func (.func 184) #[] #[ax bx]∧L' = obj bx tMx [.map (some mb)]::L):=by
 refine Tri.bd ?_;refine Ks ?_;intros;rename_i bx;exact KX.en ⟨bx,rfl,rfl⟩
end Go.Proofs.YtlgpgjdggilkgaaGreatDoor
namespace Go.Proofs
open Go.Shelf
def Tryz.lays189_ren:Go.Shelf.Ren:=⟨fun|189=>126|125=>121|257=>185|128=>181|129=>182|294=>260|295=>261|296=>262|297=>263|298=>264|299=>265|216=>266|300=>267|301=>268|328=>296|329=>256|330=>257|331=>297|332=>298|215=>122|343=>310|n=>n,fun|28=>22|3=>3|46=>61|0=>0|51=>291|53=>293|4=>4|183=>285|182=>284|131=>206|5=>5|9=>9|218=>348|222=>352|228=>380|229=>381|n=>n,fun|n=>n⟩
def Tryz.lays189:Go.Proofs.Lays.n189 Tryz.prog Tryz.lays189_ren:={
 mixed:=by kernel_rfl
 f125:=Tryz.func121.trans (congrArg some (by kernel_rfl))
 f128:=Tryz.func181.trans (congrArg some (by kernel_rfl))
 f129:=Tryz.func182.trans (congrArg some (by kernel_rfl))
 f189:=Tryz.func126.trans (congrArg some (by kernel_rfl))
 f215:=Tryz.func122.trans (congrArg some (by kernel_rfl))
 f216:=Tryz.func266.trans (congrArg some (by kernel_rfl))
 f257:=Tryz.func185.trans (congrArg some (by kernel_rfl))
 f294:=Tryz.func260.trans (congrArg some (by kernel_rfl))
 f295:=Tryz.func261.trans (congrArg some (by kernel_rfl))
 f296:=Tryz.func262.trans (congrArg some (by kernel_rfl))
 f297:=Tryz.func263.trans (congrArg some (by kernel_rfl))
 f298:=Tryz.func264.trans (congrArg some (by kernel_rfl))
 f299:=Tryz.func265.trans (congrArg some (by kernel_rfl))
 f300:=Tryz.func267.trans (congrArg some (by kernel_rfl))
 f301:=Tryz.func268.trans (congrArg some (by kernel_rfl))
 f328:=Tryz.func296.trans (congrArg some (by kernel_rfl))
 f329:=Tryz.func256.trans (congrArg some (by kernel_rfl))
 f330:=Tryz.func257.trans (congrArg some (by kernel_rfl))
 f331:=Tryz.func297.trans (congrArg some (by kernel_rfl))
 f332:=Tryz.func298.trans (congrArg some (by kernel_rfl))
 f343:=Tryz.func310.trans (congrArg some (by kernel_rfl))
 t0:=Tryz.underlying0
 a0:=Tryz.isAgg0
 z0:=Tryz.sizeOf0
 v0:=Tryz.zeroValue0
 t3:=Tryz.underlying3
 a3:=Tryz.isAgg3
 z3:=Tryz.sizeOf3
 v3:=Tryz.zeroValue3
 t4:=Tryz.underlying4
 a4:=Tryz.isAgg4
 z4:=Tryz.sizeOf4
 v4:=Tryz.zeroValue4
 t5:=Tryz.underlying5
 a5:=Tryz.isAgg5
 z5:=Tryz.sizeOf5
 v5:=Tryz.zeroValue5
 t9:=Tryz.underlying9
 a9:=Tryz.isAgg9
 z9:=Tryz.sizeOf9
 v9:=Tryz.zeroValue9
 t28:=Tryz.underlying22
 a28:=Tryz.isAgg22
 z28:=Tryz.sizeOf22
 v28:=Tryz.zeroValue22
 t46:=Tryz.underlying61
 a46:=Tryz.isAgg61
 z46:=Tryz.sizeOf61
 v46:=Tryz.zeroValue61
 t51:=Tryz.underlying291
 a51:=Tryz.isAgg291
 z51:=Tryz.sizeOf291
 v51:=Tryz.zeroValue291
 t53:=Tryz.underlying293
 a53:=Tryz.isAgg293
 z53:=Tryz.sizeOf293
 v53:=Tryz.zeroValue293
 t131:=Tryz.underlying206
 a131:=Tryz.isAgg206
 z131:=Tryz.sizeOf206
 v131:=Tryz.zeroValue206
 t182:=Tryz.underlying284
 a182:=Tryz.isAgg284
 z182:=Tryz.sizeOf284
 v182:=Tryz.zeroValue284
 t183:=Tryz.underlying285
 a183:=Tryz.isAgg285
 z183:=Tryz.sizeOf285
 v183:=Tryz.zeroValue285
 t218:=Tryz.underlying348
 a218:=Tryz.isAgg348
 z218:=Tryz.sizeOf348
 v218:=Tryz.zeroValue348
 t222:=Tryz.underlying352
 a222:=Tryz.isAgg352
 z222:=Tryz.sizeOf352
 v222:=Tryz.zeroValue352
 t228:=Tryz.underlying380
 a228:=Tryz.isAgg380
 z228:=Tryz.sizeOf380
 v228:=Tryz.zeroValue380
 t229:=Tryz.underlying381
 a229:=Tryz.isAgg381
 z229:=Tryz.sizeOf381
 v229:=Tryz.zeroValue381 }
open Go.Sort Go.RowKit in
def Tryz.slices_Sort_int(a0 off cap:Nat)(zs:List Int)(w:World)(hH:Holds (Value.int .i64) w a0 off zs.toArray)(a1:a0<w.heap.size)(a2:zs.length<4611686018427387904) :
  Calls Tryz.prog 126 #[.slice (some ⟨a0,off,none⟩) zs.length cap] w fun e w' =>
   e=.returned (.tuple #[])∧∃n os,w' = grow (putRow (Value.int .i64) (Sort.ahead w n) a0 off (zs.mergeSort fun x y=>decide (x≤y)).toArray) os:=Any.slices_Sort_int Tryz.lays189 a0 off cap zs w hH a1 a2
open Go.RowKit Go.Sort in
def Tryz.slices_Sort_int_none(p:Option Addr)(cap:Nat)(w:World) :
  Calls Tryz.prog 126 #[.slice p 0 cap] w fun e w'=>e=.returned (.tuple #[])∧w' = w:=Any.slices_Sort_int_none Tryz.lays189 p cap w
end Go.Proofs
namespace Go.Proofs.YtlgpgjdggilkgaaGreatDoor
section
open Go.V
def nl(xs:List Int):List Int:=xs.mergeSort fun x y=>decide (x≤y)
def kL(xs:List Int):(nl xs).Perm xs:=List.mergeSort_perm _ _
def wF(xs:List Int):(nl xs).Pairwise (fun a b=>a≤b):=by
 have h:=List.pairwise_mergeSort (le:=fun x y:Int=>decide (x≤y)) (by intro a b c;simp;omega) (by intro a b;simp;omega) xs;exact h.imp fun q=>by simpa using q
def zr{xs ys:List Int}(h:xs.Perm ys):nl xs=nl ys :=
 (((kL xs).trans h).trans (kL ys).symm).eq_of_pairwise (le:=fun a b=>a≤b) (fun a b _ _ h1 h2=>by omega) (wF xs) (wF ys)
def gx(N:NdM):List Int:=nl (N.begun.map (·.1)++(N.parts.map (·.1)).filter fun k=>decide ((glk N.begun k).isNone=true))
def oX(N:NdM):(gx N).length≤N.begun.length+N.parts.length:=by
 unfold gx;rw[(kL _).length_eq,aj,an];have:=dv (fun k=>decide ((glk N.begun k).isNone=true)) (N.parts.map (·.1))
 rw[an] at this;omega
attribute [local irreducible] G GO GP GPW GPK GF GE Ev Ef EfR Ent CB GB V.Enters bX delM
def Ct{L:LH}(ad:OA)(cap:Nat)(xs:List Int)(hl:xs.length≤1000000) :
  Tri Tryz.prog 126 #[ag ad xs.length cap] (osl (V.encZ .i64) 1 tInt ad cap xs::L) (rtQ (.tuple #[]) (osl (V.encZ .i64) 1 tInt ad cap (nl xs)::L)) :=
 Tri.d7 Kj (kL xs).length_eq ab (fun _ w=>Tryz.slices_Sort_int_none ad cap w) (fun a0 w h hb=>Tryz.slices_Sort_int a0 0 cap xs w h hb ab)
def tG{L:LH}(nb lb:Nat)(sh shs:Int)(n:NdV)(hb:n.begun.length≤100000)(hp:n.parts.length≤100000) :
  Tri Tryz.prog 64 #[ax nb] (ndL nb lb sh shs n L) (fun v L'=>∃ad cap,v=ag ad (gx n.m).length cap∧L' = osl (encZ .i64) 1 tInt ad cap (gx n.m)::ndL nb lb sh shs n L):=by
 refine Tri.bd ?_;simp only[ndL,ndC];have a6:n.m.begun.map (·.1)=n.begun.map (·.1):=jK ExV.m n.begun;have a9:n.m.parts.map (·.1)=n.parts.map (·.1):=jK PtV.m n.parts;refine Ks ?_;intros;refine GO.ca (xR n.mb) ?_;rintro _ _⟨bx,rfl,rfl⟩;refine Ks ?_;intros;refine GO.ent (L':=obj bx tMx [.map (some n.mb)]::gmap kvI cJ n.mb n.begun::(obj nb tNd [ax lb,ac sh,ac shs,ac n.cnt,ac n.hl,.map (some n.mb),.map (some n.mp),.map (some n.mr)]::bigO exF n.begun::gmap kvI cL n.mp n.parts::bigO ptF n.parts::gmap kvP bT n.mr (tfK n.recv)::L)) ah ?_;refine GO.ca (sF bx n.mb n.begun ab) ?_;rintro _ _⟨kad,kcap,ks,rfl,a4,rfl⟩;have b0:ks.length=n.begun.length:=by rw[a4.length_eq,an]
 refine Ks ?_;intros;refine GO.ef (Ef.j7 rfl) ae ?_;rintro _ _⟨r,rfl,rfl⟩;refine Ks ?_;intros;refine G.loop (α:=List (Int×PtV)×OA×Nat) (fun g=>g.1.length≤n.parts.length) (fun g=>[(0,ax nb),(3,ag g.2.1 (ks++(g.1.map (·.1)).filter fun k=>decide ((glk n.m.begun k).isNone=true)).length g.2.2),(15,ax r)]) (fun g=>osl (encZ .i64) 1 tInt g.2.1 g.2.2 (ks++(g.1.map (·.1)).filter fun k=>decide ((glk n.m.begun k).isNone=true))::gE kvI cL n.mp n.parts r g.1::gmap kvI cJ n.mb n.begun::obj nb tNd [ax lb,ac sh,ac shs,ac n.cnt,ac n.hl,.map (some n.mb),.map (some n.mp),.map (some n.mr)]::bigO exF n.begun::bigO ptF n.parts::gmap kvP bT n.mr (tfK n.recv)::L) (fun g=>n.parts.length - g.1.length) ([],kad,kcap) (aw _) ?_ ?_ ?_
 ·dsimp only;rw[bG,List.filter_nil,aH];exact aC
 ·dsimp only;rw[bG,List.filter_nil,aH];exact ah
 rintro⟨z,a1,a0⟩ hz;dsimp only at hz ⊢
 have b5:(ks++(z.map (·.1)).filter fun k=>decide ((glk n.m.begun k).isNone=true)).length≤200000:=by
  have:=dv (fun k=>decide ((glk n.m.begun k).isNone=true)) (z.map (·.1))
  rw[an] at this;rw[aj];omega
 refine Ks ?_;intros;refine GO.ef (Ef.k7 rfl) ae ?_;rintro _ _ (⟨rfl,rfl,b1⟩|⟨p,rfl,rfl,b3,b4,b2⟩)
 ·have a3:nl (ks++(z.map (·.1)).filter fun k=>decide ((glk n.m.begun k).isNone=true))=gx n.m:=by
   unfold gx;refine zr ?_;rw[a6,a9];exact a4.append ((b1.map _).filter _)
  have a7:(gx n.m).length=(ks++(z.map (·.1)).filter fun k=>decide ((glk n.m.begun k).isNone=true)).length:=by rw[←a3,(kL _).length_eq]
  generalize (ks++(z.map (·.1)).filter fun k=>decide ((glk n.m.begun k).isNone=true))=zs at *;refine Ks ?_;intros;refine GO.ent (Ent.at (A:=osl (encZ .i64) 1 tInt a1 a0 zs) (Ent.refl _)) ?_;refine GO.cr (Ct a1 a0 zs ab) ?_;rw[a3];refine Ks ?_;intros;refine KX.a8 aA ?_ ⟨a1,a0,by rw[a7];rfl,rfl⟩;refine(Ent.at (A:=gE kvI cL n.mp n.parts r z) Ent.k7).trans ?_;exact ah
 refine Ks ?_;intros;refine GO.ev (Ev.j9 (done:=z) rfl rfl) ae ?_;refine Ks ?_;intros;refine GO.ev (Ev.f9 rfl rfl) ae ?_;cases hg:List.lookup p.1 n.begun with
 | some x =>
  have hl:glk n.m.begun p.1=some x.m:=by rw[gc,hg];rfl
  have hf:((z++[p]).map (·.1)).filter (fun k=>decide ((glk n.m.begun k).isNone=true))=(z.map (·.1)).filter fun k=>decide ((glk n.m.begun k).isNone=true):=by
   rw[aJ,cI];simp[hl]
  dsimp only[Option.map,Option.getD,cJ];refine Ks ?_;intros;refine⟨(z++[p],a1,a0),by simp;omega,by simp;omega,?_,?_⟩
  ·dsimp only;rw[hf];exact aC
  ·dsimp only;rw[hf];exact ah
 | none =>
  have hl:glk n.m.begun p.1=none:=by rw[gc,hg];rfl
  have hf:ks++((z++[p]).map (·.1)).filter (fun k=>decide ((glk n.m.begun k).isNone=true))=(ks++(z.map (·.1)).filter fun k=>decide ((glk n.m.begun k).isNone=true))++[p.1]:=by
   rw[aJ,cI,aB];simp[hl]
  dsimp only[Option.map,Option.getD];refine Ks ?_;intros;refine GO.ef (Ef.a8 (enc:=encZ .i64) (e:=p.1) rfl rfl rfl rfl rfl aQ (iu _ _) ab ab) ae ?_;rintro _ _⟨a5,a2,rfl,rfl⟩;rw[←hf];refine Ks ?_;intros;refine⟨(z++[p],a5,a2),by simp;omega,by simp;omega,aC,by exact ah⟩
end
section
open Go.V
attribute [local irreducible] G GO GP GPW GPK Ev Ef EfR Ent CB GB V.Enters
def zf(g:FuncId)(cap:LV)(p:Int→Prop)[DecidablePred p](C:HP):Prop:=∀(n:Int) (L:LH),Tri Tryz.prog g (([]++[Value.int .i64 n]++cap:LV)).toArray (C::L) (rtQ (.bool (dB (p n))) (C::L))
def AH{L:LH}(g:FuncId)(cap:LV)(p:Int→Prop)[DecidablePred p](C:HP)(hg:zf g cap p C)(ad:OA)(c:Nat)(xs:List Int)[hr:Rds (C::L) ad Int (encZ .i64) 1 xs](hl:xs.length≤1000000) :
  Tri Tryz.prog 123 #[ag ad xs.length c,.func (.func g) #[] cap.toArray] (C::L) (fun v L'=>∃i:Int,v=ac i∧((i = -1∧∀k,k<xs.length→¬p xs[k]!)∨∃k:Nat,i=k∧k<xs.length∧p xs[k]!∧∀j,j<k→¬p xs[j]!)∧L' = C::L):=by
 refine Tri.bd ?_;refine Ks ?_;intros;refine G.loop (α:=Nat) (fun i=>i≤xs.length∧∀j,j<i→¬p xs[j]!) (fun i=>[(0,ag ad xs.length c),(1,.func (.func g) #[] cap.toArray),(7,ac (xs.length:Int)),(8,ac (i:Int))]) (fun _=>C::L) (fun i=>xs.length - i) 0 ⟨aw _,fun j hj=>by omega⟩ aC (Ent.refl _) ?_;rintro i ⟨hi,hb⟩;by_cases a1:i<xs.length
 case neg =>
  obtain rfl:i=xs.length:=ab;refine Ks ?_;intros;exact KX.en ⟨-1,rfl,.inl ⟨rfl,hb⟩,rfl⟩
 have a0:(i:Int).toNat=i:=ab;refine Ks ?_;intros;rw[a0];refine GO.ef (Ef.c7 rfl rfl (hg xs[i]! _)) ae ?_;rintro _ _⟨rfl,rfl⟩;by_cases hp:p xs[i]!
 ·rw[bE hp];refine Ks ?_;intros;exact KX.en ⟨i,rfl,.inr ⟨i,rfl,a1,hp,hb⟩,rfl⟩
 ·rw[aW hp];refine Ks ?_;intros;refine⟨i+1,⟨ab,?_⟩,ab,?_,Ent.refl _⟩
  ·intro j hj;rcases fc j i with h|h
   ·exact hb j h
   ·obtain rfl:j=i:=ab;exact hp
  ·rw[bh i];exact aC
def kn(p:Int→Prop)[DecidablePred p](xs:List Int):List Int:=xs.filter fun x=>!dB (p x)
def vm{p:Int→Prop}[DecidablePred p]{xs:List Int}(h:∀k,k<xs.length→¬p xs[k]!):kn p xs=xs:=by
 unfold kn;rw[List.filter_eq_self];intro a ha;obtain⟨k,hk,rfl⟩:=List.mem_iff_getElem.1 ha;have:=h k hk
 rw[getElem!_of hk] at this;rw[aW this];rfl
def lc{p:Int→Prop}[DecidablePred p]{xs:List Int}{j:Nat}(h:j<xs.length):kn p (xs.take (j+1))=kn p (xs.take j)++(if p xs[j]! then[] else[xs[j]!]):=by
 unfold kn;rw[az h,cI,←getElem!_of h];congr 1;generalize xs[j]! = v;by_cases hp:p v
 ·rw[if_pos hp];simp[bE hp]
 ·rw[if_neg hp];simp[aW hp]
def yL{L:LH}(g:FuncId)(cap:LV)(p:Int→Prop)[DecidablePred p](C:HP)(hg:zf g cap p C)(ad:OA)(c:Nat)(xs:List Int)(hl:xs.length≤1000000) :
  Tri Tryz.prog 63 #[ag ad xs.length c,.func (.func g) #[] cap.toArray] (C::osl (encZ .i64) 1 tInt ad c xs::L) (rtQ (ag ad (kn p xs).length c) (C::osl (encZ .i64) 1 tInt ad c (kn p xs)::L)):=by
 refine Tri.bd ?_;refine G.c9 (kE (ad:=ad)) ?_;rintro⟨b2,_⟩;refine Ks ?_;intros;refine GO.ca (AH g cap p C hg ad c xs hl) ?_;rintro _ _⟨z,rfl,(⟨rfl,hz⟩|⟨i0,rfl,a2,b0,a3⟩),rfl⟩
 ·rw[vm hz];refine Ks ?_;intros;exact KX.en ⟨rfl,rfl⟩
 have a7:kn p (xs.take i0)=xs.take i0:=vm (fun k hk=>by
  have a6 : k<i0:=by rw[aK] at hk;omega
  rw[getElem!_of hk,List.getElem_take,←getElem!_of ab];exact a3 k a6)
 refine Ks ?_;intros;refine G.loop (α:=Nat×Nat×List Int) (fun z=>z.1<z.2.1∧z.2.1≤xs.length∧z.2.2.length=xs.length∧z.2.2.take z.1=kn p (xs.take z.2.1)∧z.2.2.drop z.2.1=xs.drop z.2.1) (fun z=>[(0,ag ad xs.length c),(1,.func (.func g) #[] cap.toArray),(5,ac (z.1:Int)),(6,ac (z.2.1:Int))]) (fun z=>C::osl (encZ .i64) 1 tInt ad c z.2.2::L) (fun z=>xs.length - z.2.1) (i0,i0+1,xs) ⟨Nat.lt_succ_self _,a2,rfl,by rw[lc a2,if_pos b0,a7,aH],rfl⟩ aC (Ent.refl _) ?_;rintro⟨i,j,ys⟩ ⟨h1,h2,h3,h4,h5⟩;dsimp only at h1 h2 h3 h4 h5 ⊢;by_cases a0:j<xs.length
 case neg =>
  obtain rfl:j=xs.length:=ab;rw[cC] at h4;have a9:(kn p xs).length=i:=by rw[←h4,aK];omega
  refine Ks ?_;intros;refine GO.efu (Ef.l6 (i:=i) (xs:=ys) rfl ab (by simp[Value.oneCell'])) ?_;rintro _ _⟨rfl,rfl⟩;rw[h4];refine Ks ?_;intros;exact KX.a8 aA ah ⟨by rw[a9];show Value.slice ad (i:Int).toNat c=_;rw[aY],rfl⟩
 have a5:(j:Int).toNat=j:=ab
 have b1:ys[j]! = xs[j]!:=by
  have e:=congrArg (fun l=>l[0]?) h5;simp only[List.getElem?_drop,eA] at e;rw[List.getElem?_eq_getElem ab,List.getElem?_eq_getElem a0] at e;rw[getElem!_of ab,getElem!_of a0];simpa using e
 refine Ks ?_;intros;rw[a5,b1];refine GO.ef (Ef.c7 rfl rfl (hg xs[j]! _)) ae ?_;rintro _ _⟨rfl,rfl⟩
 have a1:∀zs:List Int,zs.drop j=xs.drop j→zs.drop (j+1)=xs.drop (j+1):=fun zs h=>by
  have:=congrArg (List.drop 1) h
  simpa [List.drop_drop] using this
 by_cases hp:p xs[j]!
 ·rw[bE hp];refine Ks ?_;intros;refine⟨(i,j+1,ys),⟨by dsimp only;omega,by dsimp only;omega,h3,?_,a1 ys h5⟩,by dsimp only;omega,?_,Ent.refl _⟩
  ·dsimp only;rw[lc a0,if_pos hp,aH];exact h4
  ·dsimp only;rw[bh j];exact aC
 ·rw[aW hp];have a4:(i:Int).toNat=i:=ab;refine Ks ?_;intros;rw[a4];refine⟨(i+1,j+1,ys.set i xs[j]!),⟨by dsimp only;omega,by dsimp only;omega,by dsimp only;rw[bH];exact h3,?_,?_⟩,by dsimp only;omega,?_,by exact ah⟩
  ·dsimp only;rw[lc a0,if_neg hp,←h4,az (by rw[bH];omega),List.getElem_set_self,List.take_set_of_le (aq _)]
  ·dsimp only;rw[List.drop_set_of_lt ab];exact a1 ys h5
  ·dsimp only;rw[bh j,bh i];exact aC
end
section
open Go.V
abbrev tNdP:Nat:=62
noncomputable def nw(N:NdM):List Int:=(gx N).filter (gq N)
attribute [local irreducible] G GO GP GPW GPK GF GE Ev Ef EfR Ent CB GB V.Enters bX delM
def Fa(nb lb:Nat)(sh shs:Int)(n:NdV)(b1:Nat)(a1:∀p∈n.parts,p.2.legs.length≤1000):zf 65 [ax b1] (fun k=>gq n.m k=false) (cm (obj b1 tNdP [ax nb]::ndL nb lb sh shs n [])):=fun k L=>by
 refine Tri.bd (args:=[ac k,ax b1]) ?_;refine G.ent Ent.openS ?_;rw[show obj b1 tNdP [ax nb]::ndL nb lb sh shs n []++L=obj b1 tNdP [ax nb]::ndL nb lb sh shs n L from rfl];refine Ks ?_;intros;refine GO.ent (L':=ndL nb lb sh shs n (obj b1 tNdP [ax nb]::L)) (by simp only[ndL,ndC];exact ah) ?_;refine GO.cr (AG nb lb sh shs n k a1) ?_
 have a0:Ent (ndL nb lb sh shs n (obj b1 tNdP [ax nb]::L)) (cm (obj b1 tNdP [ax nb]::ndL nb lb sh shs n [])::L):=by
  refine Ent.trans (B:=(obj b1 tNdP [ax nb]::ndL nb lb sh shs n [])++L) ?_ Ent.f9;show Ent _ (obj b1 tNdP [ax nb]::ndL nb lb sh shs n L);simp only[ndL,ndC];exact ah
 cases hb:gq n.m k with
 | true =>
  refine Ks ?_;intros;refine KX.a8 aA a0 ⟨?_,rfl⟩;exact congrArg Value.bool (aW (p:=gq n.m k=false) (by rw[hb];decide)).symm
 | false =>
  refine Ks ?_;intros;refine KX.a8 aA a0 ⟨?_,rfl⟩;exact congrArg Value.bool (bE (p:=gq n.m k=false) hb).symm
def EZ{L:LH}(nb lb:Nat)(sh shs:Int)(n:NdV)(hb:n.begun.length≤100000)(hp:n.parts.length≤100000)(a1:∀p∈n.parts,p.2.legs.length≤1000) :
  Tri Tryz.prog 24 #[ax nb] (ndL nb lb sh shs n L) (fun v L'=>∃ad cap,v=ag ad (nw n.m).length cap∧L' = osl (encZ .i64) 1 tInt ad cap (nw n.m)::ndL nb lb sh shs n L):=by
 have a4:=oX n.m;have a3:n.m.begun.length=n.begun.length:=an _;have a2:n.m.parts.length=n.parts.length:=an _;refine Tri.bd ?_;refine Ks ?_;intros;rename_i b1;refine GO.ent (L':=ndL nb lb sh shs n (obj b1 tNdP [ax nb]::L)) (by simp only[ndL,ndC];exact ah) ?_;refine GO.ca (tG nb lb sh shs n hb hp) ?_;rintro _ _⟨kad,kcap,rfl,rfl⟩;refine Ks ?_;intros;refine GO.ent (L':=cm (obj b1 tNdP [ax nb]::ndL nb lb sh shs n [])::osl (encZ .i64) 1 tInt kad kcap (gx n.m)::L) ?_ ?_
 ·refine Ent.trans (B:=(obj b1 tNdP [ax nb]::ndL nb lb sh shs n [])++(osl (encZ .i64) 1 tInt kad kcap (gx n.m)::L)) ?_ Ent.f9;show Ent _ (obj b1 tNdP [ax nb]::ndL nb lb sh shs n (osl (encZ .i64) 1 tInt kad kcap (gx n.m)::L));simp only[ndL,ndC];exact ah
 refine GO.ca (yL _ [ax b1] (fun k=>gq n.m k=false) _ (Fa nb lb sh shs n b1 a1) kad kcap (gx n.m) ab) ?_
 have a0:kn (fun k=>gq n.m k=false) (gx n.m)=nw n.m:=by
  unfold kn nw;refine List.filter_congr fun k _=>?_;show(!dB (gq n.m k=false))=gq n.m k;by_cases h:gq n.m k=false
  ·rw[bE h,h];rfl
  ·rw[aW h];cases hx:gq n.m k with
   | true=>rfl
   | false=>exact absurd hx h
 rw[a0];rintro _ _⟨rfl,rfl⟩;refine Ks ?_;intros;refine KX.a8 aA ?_ ⟨kad,kcap,rfl,rfl⟩;refine Ent.openS.trans ?_;rw[show(obj b1 tNdP [ax nb]::ndL nb lb sh shs n [])++(osl (encZ .i64) 1 tInt kad kcap (nw n.m)::L)=obj b1 tNdP [ax nb]::ndL nb lb sh shs n (osl (encZ .i64) 1 tInt kad kcap (nw n.m)::L) from rfl];simp only[ndL,ndC];exact ah
