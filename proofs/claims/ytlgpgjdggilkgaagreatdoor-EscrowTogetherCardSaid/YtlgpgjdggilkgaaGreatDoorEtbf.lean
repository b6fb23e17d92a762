/- Lemmas. -/
import Derived.Test.YtlgpgjdggilkgaaGreatDoorEtbe
import Derived.Shelf.Sort.Plain
import Derived.Shelf.Slices.In.SortNone
import Derived.Ground.Names2Prog
set_option linter.all false
set_option maxHeartbeats 4000000
namespace Go.V
section fv
variable {P:Program}{N:Nat}{env:Env}{L:Η}{Ξ:F4}{ty:TypeId}
def JX{σ:Type}(P:Program)(gf:FuncId)(cap:τ)(step:σ->τ->σ->Prop)(fin:σ->Prop)(s₀:σ)(Lg:Η):Prop :=
 ∀(l:Nat) (J7 Jx:σ->HP),(∀x vs x',step x vs x'->SS P l vs [J7 x] (λv Γ=>(v=.bool true/\Γ = [J7 x'])\/(v=.bool false/\Γ = [Jx x]))) ->
  Τ P gf (.func (.yield l) #[] #[]::cap).toArray (J7 s₀::Lg) (λ_ Γ=>(∃x,fin x/\Γ = J7 x::Lg)\/∃x,Γ = Jx x::Lg)
theorem Α.f7{g:Operand}{ps:Array Tmp}{assign body:Code}{gf:FuncId}{cap:τ}{σ:Type}{step:σ->τ->σ->Prop}{fin:σ->Prop}{s₀:σ}{Lg:Η}(it:JX P gf cap step fin s₀ Lg)(hg:cq env g=some (.func (.func gf) #[] cap.toArray))
  (b2:Enters P gf) (b6:∀p∈ps,p<N) (b5:∀x vs x',step x vs x'->vs.length=ps.size) (G2:σ->Η) (U:F L (G2 s₀++Lg))
  (a3:∀x vs x',step x vs x'->Α P N assign (T9 env (ps.toList.zip vs)) (G2 x) (F4.seq (λa6 Γ=>Α P N body a6 Γ (uT Ξ env Lg (G2 x'))) (λ_ _ _=>False)))
  (a4:∀x,fin x->Ξ .normal env (G2 x++Lg)):Α P N (.rangeFunc g ps assign body) env L Ξ:=by
 intro r θ χ a w hr i;obtain⟨ε,ea,hm,s⟩:=i;have s0:Sat θ (G2 s₀++Lg++(E5 ε++χ)) w:=U θ _ w s;-- what is Wi same in both cases
 have a5:∀(fn:FuncId) (l H8:Nat) (B:List Nat) (w₁:World),(Instr.enterLoop fn a.tmps ps assign body r).run P w=.ok (l,Qo B) w₁ ->
   Sat θ (jC l (.loop { state:=.ready,pending:=none,fn,tmps:=a.tmps,params:=ps,assign,body,defers:=H8 })::(E5 B++(G2 s₀++Lg++(E5 ε++χ)))) w₁ ->
   ∃(l:Nat) (B:List Deferred) (w₁:World) (Μ:Deferred) (w₁' : World) (f:FuncId) (args:Array Value) (w₂:World),
   (Instr.enterLoop fn a.tmps ps assign body (FW r).round).run P w=.ok (l,B) w₁ /\
   (resolve a.eval (rangeCall g l) 0).run P w₁=.ok Μ w₁' /\
   (∀f',Target.leads P w₁' Μ.target Μ.args=some f'->(FW r).fn f') /\
   (invoke Μ.target Μ.args).run P w₁' = .ok (.enter f args) w₂ /\
   ((FW r).depth.isSome=true->1<=0) /\
   CallsIn (FW r) (0 - 1) P f args w₂ (rangePost (FW r) 0 P l (QK θ χ N Ξ) { a with defers:=B++a.defers }):=by
  intro fn l H8 B w₁ he s1;obtain⟨M,a2⟩:∃M:Loop,M={ state:=.ready,pending:=none,fn,tmps:=a.tmps,params:=ps,assign,body,defers:=H8 }:=⟨_,rfl⟩;rw[<-a2] at s1;have b0:M.state=.ready:=by rw[a2]
  have a9:M.pending=none:=by rw[a2]
  have Y:∀x vs x',step x vs x'->SS P l vs [cx (jC l (.loop M)::G2 x)] (λv Γ=>(v=.bool true/\Γ = [cx (jC l (.loop M)::G2 x')])\/(v=.bool false/\Γ = [hex λx:Code×Η=>cx (ee (ie Ξ env Lg x.1 x.2)::jC l (.loop { M with state:=.done,pending:=some x.1 })::x.2)])):=by
   intro x vs x' O;refine py b0 a9 aj (by rw[a2];exact b6) (env:=env) ?_ ?_
   .rw[a2];exact⟨ea.size,ea.at_⟩
   .rw[a2];exact a3 x vs x' O
  have ht:=it l (λx=>cx (jC l (.loop M)::G2 x)) (λ_=>hex λx:Code×Η=>cx (ee (ie Ξ env Lg x.1 x.2)::jC l (.loop { M with state:=.done,pending:=some x.1 })::x.2)) Y;have b3:a.eval g=.func (.func gf) #[] cap.toArray:=aJ ea.Pk hg;refine⟨l,Qo B,w₁,{ target:=.fn (.func gf) cap.toArray,args:=#[.func (.yield l) #[] #[]] },w₁,gf,(.func (.yield l) #[] #[]::cap).toArray,w₁,he,?_,λ_ _=>trivial,?_,(λh=>by cases h),mP ?_⟩
  .simp only[resolve,Deferred.ofValue,b3];simp[Act.eval]
  .have:=b2 (.func (.yield l) #[] #[]::cap).toArray w₁
   simpa [invoke] using this
  have s2:Sat θ (cx (jC l (.loop M)::G2 s₀)::Lg++(E5 B++(E5 ε++χ))) w₁:=by
   refine Sat.a8 (Ο:=jC l (.loop M)::G2 s₀) (s1.perm ?_);simp only[au];refine List.Perm.cons _ ?_;rw[aH];refine Ua.trans ?_;refine List.Perm.append_left _ ?_;exact Ua
  refine(ht.calls θ _ w₁ s2).mono ?_;rintro e w₂ ⟨v,Γ,rfl,b1,s3⟩;rcases b1 with⟨x,O,rfl⟩|⟨k,rfl⟩
  .have s4:Sat θ (jC l (.loop M)::(G2 x++(Lg++(E5 B++(E5 ε++χ))))) w₂:=Sat.QB (Ο:=jC l (.loop M)::G2 x) s3;have hh:=s4.Nr;refine⟨none,_,(by rw[<-a9];exact jA hh (by rw[b0];simp)),?_⟩;have s5:=(Sat.c7 (Rf:={ M with state:=.exhausted }) s4).tail;refine⟨env,G2 x++Lg,⟨B++ε,⟨ea.size,ea.at_⟩,by simp[Qo,hm],?_⟩,a4 x O⟩;have e:E5 (B++ε)++χ=E5 B++(E5 ε++χ):=by simp[E5]
   grind
  .obtain⟨⟨c,L₂⟩,s4⟩:=Sat.TI (L:=Lg++(E5 B++(E5 ε++χ))) s3;have s5:Sat θ (ee (ie Ξ env Lg c L₂)::(jC l (.loop { M with state:=.done,pending:=some c })::(L₂++(Lg++(E5 B++(E5 ε++χ)))))) w₂:=Sat.QB (Ο:=ee (ie Ξ env Lg c L₂)::jC l (.loop { M with state:=.done,pending:=some c })::L₂) s4;have hj:=s5.TH;have s6:=s5.tail;have hh:=s6.Nr;have s7:=(Sat.c7 (Rf:={ ({ M with state:=.done,pending:=some c }:Loop) with state:=.exhausted }) s6).tail;refine⟨some c,_,jA hh cj,?_⟩
   have a7:At N env (L₂++Lg) θ χ { a with defers:=Qo B++a.defers } { w₂ with heap:=w₂.heap.setIfInBounds l (.loop { ({ M with state:=.done,pending:=some c }:Loop) with state:=.exhausted }) }:=by
    refine⟨B++ε,⟨ea.size,ea.at_⟩,by simp[Qo,hm],?_⟩;have e:E5 (B++ε)++χ=E5 B++(E5 ε++χ):=by simp[E5]
    rw[e,aH];exact s7
   cases c with
   | ret=>exact wpIn_ret ⟨env,_,a7,hj⟩
   | exit A=>exact wpIn_exit ⟨env,_,a7,hj⟩
   | _=>exact hj.elim
 refine wpIn_rangeFunc λfn _=>?_;cases r with
 | none =>
  have s1:=s0.alloc (o:=.deferred (some []));have s2:=s1.alloc (o:=.loop { state:=.ready,pending:=none,fn,tmps:=a.tmps,params:=ps,assign,body,defers:=w.heap.size });refine a5 fn (w.heap.size+1) w.heap.size [w.heap.size] _ jL ?_;rw[World.size_alloc] at s2;exact s2
 | some l =>
  obtain⟨M,Y',hY⟩:=hr l rfl
  have b4:w.heap[l]? = some (.loop M):=by
   have s1:Sat θ (jC l (.loop M)::(G2 s₀++Lg++(E5 ε++Y'))) w:=s0.perm (by
    have K:(G2 s₀++Lg++(E5 ε++χ)).Perm (G2 s₀++Lg++(E5 ε++(jC l (.loop M)::Y'))):=(hY.append_left _).append_left _;refine K.trans ?_;grind [dS])
   exact s1.Nr
  exact a5 fn w.heap.size M.defers [] _ (jK b4) s0.alloc
end fv
end Go.V
namespace Go.Proofs.YtlgpgjdggilkgaaGreatDoor
open Go.V
abbrev Tx:Nat:=143
abbrev ZC:Nat:=22
def S3(b:Nat)(ks:List Int)(x:OA×Nat):Η:=[Ω (dJ .i64) 1 B7 x.1 x.2 ks,obj b ZC [ah x.1 ks.length x.2]]
def ZD(b:Nat)(ks:List Int):HP:=hex λx=>cx (S3 b ks x)
def MR(m:List (Int×Ow))(Μ:List (Int×Ow))(vs:τ)(d' : List (Int×Ow)):Prop:=∃p,d' = Μ++[p]/\p∈m/\p∉Μ/\Μ.length<m.length/\vs=[J p.1]
attribute [local irreducible] Α GO GP δ ms GF GE Ev Ef C0 F CB GB V.Enters bJ L9
def GL{L0:Η}(bx mb:Nat)(m:List (Int×Ow)) :
  JX Tryz.prog 184 [av bx] (MR m) (λΜ=>Μ.Perm m) [] (obj bx Tx [.map (some mb)]::cS gm cy mb m::L0):=by
 intro i J7 Jx Y;refine Τ.bd (args:=[.func (.yield i) #[] #[],av bx]) ?_;refine Nd ?_;intros;refine GO.ef (Ef.g9 rfl) ae ?_;rintro _ _⟨r,rfl,rfl⟩;refine Nd ?_;intros;refine Α.loop (α:=List (Int×Ow)) (λz=>z.length<=m.length) (λz=>[(0,.func (.yield i) #[] #[]),(5,av r)]) (λz=>J7 z::fY gm cy mb m r z::obj bx Tx [.map (some mb)]::L0) (λz=>m.length - z.length) [] (aC _) aD ak ?_;intro z hz;refine Nd ?_;intros;refine GO.ef (Ef.j6 rfl) ae ?_;rintro _ _ (⟨rfl,rfl,M⟩|⟨p,rfl,rfl,a2,a3,B⟩)
 .refine Nd ?_;intros;refine KX.c8 aF ?_ (.inl ⟨z,M,rfl⟩);refine(F.at (Ο:=fY gm cy mb m r z) F.j8).trans ?_;exact ak
 have a4:=Y z [J p.1] (z++[p]) ⟨p,rfl,a2,a3,B,rfl⟩;refine Nd ?_;intros;refine GO.ev (Ev.j6 (done:=z) rfl rfl) ae ?_;refine Nd ?_;intros;refine GO.cL (Γ:=J7 z::(fY gm cy mb m r (z++[p])::obj bx Tx [.map (some mb)]::L0)) ak ?_;((with_reducible apply GO.a8);refine GO.T8 (C0.yield (a4) rfl rfl fQ) ae ?_);rintro _ _⟨_,(⟨rfl,rfl⟩|⟨rfl,rfl⟩),hL⟩
 .simp only[au,ax] at hL;subst hL;refine Nd ?_;intros;refine⟨z++[p],by simp;omega,by simp;omega,aD,by exact ak⟩
 .simp only[au,ax] at hL;subst hL;refine Nd ?_;intros;refine KX.a8 aF ?_ (.inr ⟨z,rfl⟩);refine(F.at (Ο:=fY gm cy mb m r (z++[p])) F.j8).trans ?_;exact ak
def uS{L:Η}(bx mb:Nat)(m:List (Int×Ow))(hm:m.length<=1000000) :
  Τ Tryz.prog 183 #[ah none 0 0,.func (.func 184) #[] #[av bx]] (obj bx Tx [.map (some mb)]::cS gm cy mb m::L) (λv Γ=>∃ad cap ks,v=ah ad ks.length cap/\ks.Perm (m.map (·.1))/\Γ = Ω (dJ .i64) 1 B7 ad cap ks::obj bx Tx [.map (some mb)]::cS gm cy mb m::L):=by
 refine Τ.bd ?_;refine Nd ?_;intros;rename_i b2;refine Α.f7 (GL (L0:=L) bx mb m) rfl Zf.1 ae (by rintro x vs x' ⟨p,_,_,_,_,rfl⟩;rfl) (λΜ=>[ZD b2 (Μ.map (·.1))]) ?_ ?_ ?_
 .simp only[au,ax,bz];refine F.trans ?_ (F.f8 (none,0) (f:=S3 b2 []) (F.refl _));simp only[S3,bu,au,ax];refine F.trans (F.c8 (dJ .i64) 1 B7) ?_;exact ak
 .rintro Μ vs d' ⟨p,rfl,a5,a6,a4,rfl⟩;have a2:(Μ.map (·.1)).length<=1000000:=by rw[al];omega
  rw[aQ];show Α _ _ _ ((7,J p.1)::_) _ _;rw[show[p].map (·.1)=[p.1] from rfl];generalize Μ.map (·.1)=ac at a2;generalize p.1=k;refine Α.c9 (f:=S3 b2 ac) ?_;rintro⟨a3,c1⟩;simp only[S3,au,ax];refine Nd ?_;intros;refine GO.ef (Ef.a8 (Ε:=dJ .i64) (e:=k) rfl rfl rfl rfl rfl bh (io _ _) D D) ae ?_;rintro _ _⟨M,B,rfl,rfl⟩;refine Nd ?_;intros;refine KX.round ?_;refine F.trans ?_ (F.f8 (M,B) (f:=S3 b2 (ac++[k])) (F.refl _));simp only[S3,au,ax];exact ak
 intro Μ hd;have hp:(Μ.map (·.1)).Perm (m.map (·.1)):=hd.map _;generalize Μ.map (·.1)=ac at *;simp only[au,ax];refine KX.c7 ?_;refine Nd ?_;intros;refine GO.c8 (f:=S3 b2 ac) ?_;rintro⟨M,B⟩;simp only[S3,au,ax];refine Nd ?_;intros;refine KX.a8 aF ?_ ⟨M,B,ac,rfl,hp,rfl⟩;exact ak
def tF{L:Η}(bx mb:Nat)(m:List (Int×Ow))(hm:m.length<=1000000) :
  Τ Tryz.prog 124 #[.func (.func 184) #[] #[av bx]] (obj bx Tx [.map (some mb)]::cS gm cy mb m::L) (λv Γ=>∃ad cap ks,v=ah ad ks.length cap/\ks.Perm (m.map (·.1))/\Γ = Ω (dJ .i64) 1 B7 ad cap ks::obj bx Tx [.map (some mb)]::cS gm cy mb m::L):=by
 refine Τ.bd ?_;refine Nd ?_;intros;refine GO.ca (uS bx mb m hm) ?_;rintro _ _⟨B,c1,ks,rfl,M,rfl⟩;refine Nd ?_;intros;exact KX.en ⟨B,c1,ks,rfl,M,rfl⟩
def zf{L:Η}(mb:Nat):Τ Tryz.prog 125 #[.map (some mb)] L (λv Γ=>∃bx,v=.func (.func 184) #[] #[av bx]/\Γ = obj bx Tx [.map (some mb)]::L):=by
 refine Τ.bd ?_;refine Nd ?_;intros;rename_i bx;exact KX.en ⟨bx,rfl,rfl⟩
end Go.Proofs.YtlgpgjdggilkgaaGreatDoor
namespace Go.Proofs
open Go.Shelf
def Tryz.ZE:Go.Shelf.Ren:=⟨λ|189=>126|125=>121|257=>185|128=>181|129=>182|294=>260|295=>261|296=>262|297=>263|298=>264|299=>265|216=>266|300=>267|301=>268|328=>296|329=>256|330=>257|331=>297|332=>298|215=>122|343=>310|n=>n,λ|28=>22|3=>3|46=>61|0=>0|51=>291|53=>293|4=>4|183=>285|182=>284|131=>206|5=>5|9=>9|218=>348|222=>352|228=>380|229=>381|n=>n,λ|n=>n⟩
def Tryz.XO:Go.Proofs.Lays.n189 Tryz.prog Tryz.ZE:={
 mixed:=by kernel_rfl
 f125:=Tryz.func121.trans (congrArg some (by kernel_rfl))
 f128:=Tryz.func181.trans (congrArg some (by kernel_rfl))
 f129:=Tryz.func182.trans (congrArg some (by kernel_rfl))
 f189:=Tryz.func126.trans (congrArg some (by kernel_rfl))
 f215:=Tryz.func122.trans (congrArg some (by kernel_rfl))
 f216:=Tryz.func266.trans (congrArg some (by kernel_rfl))
 f257:=Tryz.func185.trans (congrArg some (by kernel_rfl))
 f294:=Tryz.func260.trans (congrArg some (by kernel_rfl))
 f295:=Tryz.func261.trans (congrArg some (by kernel_rfl))
 f296:=Tryz.func262.trans (congrArg some (by kernel_rfl))
 f297:=Tryz.func263.trans (congrArg some (by kernel_rfl))
 f298:=Tryz.func264.trans (congrArg some (by kernel_rfl))
 f299:=Tryz.func265.trans (congrArg some (by kernel_rfl))
 f300:=Tryz.func267.trans (congrArg some (by kernel_rfl))
 f301:=Tryz.func268.trans (congrArg some (by kernel_rfl))
 f328:=Tryz.func296.trans (congrArg some (by kernel_rfl))
 f329:=Tryz.func256.trans (congrArg some (by kernel_rfl))
 f330:=Tryz.func257.trans (congrArg some (by kernel_rfl))
 f331:=Tryz.func297.trans (congrArg some (by kernel_rfl))
 f332:=Tryz.func298.trans (congrArg some (by kernel_rfl))
 f343:=Tryz.func310.trans (congrArg some (by kernel_rfl))
 t0:=Tryz.underlying0
 a0:=Tryz.isAgg0
 z0:=Tryz.sizeOf0
 v0:=Tryz.zeroValue0
 t3:=Tryz.underlying3
 a3:=Tryz.isAgg3
 z3:=Tryz.sizeOf3
 v3:=Tryz.zeroValue3
 t4:=Tryz.underlying4
 a4:=Tryz.isAgg4
 z4:=Tryz.sizeOf4
 v4:=Tryz.zeroValue4
 t5:=Tryz.underlying5
 a5:=Tryz.isAgg5
 z5:=Tryz.sizeOf5
 v5:=Tryz.zeroValue5
 t9:=Tryz.underlying9
 a9:=Tryz.isAgg9
 z9:=Tryz.sizeOf9
 v9:=Tryz.zeroValue9
 t28:=Tryz.underlying22
 a28:=Tryz.isAgg22
 z28:=Tryz.sizeOf22
 v28:=Tryz.zeroValue22
 t46:=Tryz.underlying61
 a46:=Tryz.isAgg61
 z46:=Tryz.sizeOf61
 v46:=Tryz.zeroValue61
 t51:=Tryz.underlying291
 a51:=Tryz.isAgg291
 z51:=Tryz.sizeOf291
 v51:=Tryz.zeroValue291
 t53:=Tryz.underlying293
 a53:=Tryz.isAgg293
 z53:=Tryz.sizeOf293
 v53:=Tryz.zeroValue293
 t131:=Tryz.underlying206
 a131:=Tryz.isAgg206
 z131:=Tryz.sizeOf206
 v131:=Tryz.zeroValue206
 t182:=Tryz.underlying284
 a182:=Tryz.isAgg284
 z182:=Tryz.sizeOf284
 v182:=Tryz.zeroValue284
 t183:=Tryz.underlying285
 a183:=Tryz.isAgg285
 z183:=Tryz.sizeOf285
 v183:=Tryz.zeroValue285
 t218:=Tryz.underlying348
 a218:=Tryz.isAgg348
 z218:=Tryz.sizeOf348
 v218:=Tryz.zeroValue348
 t222:=Tryz.underlying352
 a222:=Tryz.isAgg352
 z222:=Tryz.sizeOf352
 v222:=Tryz.zeroValue352
 t228:=Tryz.underlying380
 a228:=Tryz.isAgg380
 z228:=Tryz.sizeOf380
 v228:=Tryz.zeroValue380
 t229:=Tryz.underlying381
 a229:=Tryz.isAgg381
 z229:=Tryz.sizeOf381
 v229:=Tryz.zeroValue381 }
open Go.Sort Go.RowKit in
def Tryz.slices_Sort_int(blk off cap:Nat)(zs:List Int)(w:World)(hH:Holds (Value.int .i64) w blk off zs.toArray)(B:blk<w.heap.size)(M:zs.length<4611686018427387904) :
  Calls Tryz.prog 126 #[.slice (some ⟨blk,off,none⟩) zs.length cap] w λe cO =>
   e=.returned (.tuple #[])/\∃n os,cO = grow (putRow (Value.int .i64) (Sort.ahead w n) blk off (zs.mergeSort λx y=>decide (x<=y)).toArray) os:=Any.slices_Sort_int Tryz.XO blk off cap zs w hH B M
open Go.RowKit Go.Sort in
def Tryz.slices_Sort_int_none(p:Option Addr)(cap:Nat)(w:World) :
  Calls Tryz.prog 126 #[.slice p 0 cap] w λe cO=>e=.returned (.tuple #[])/\cO = w:=Any.slices_Sort_int_none Tryz.XO p cap w
end Go.Proofs
namespace Go.Proofs.YtlgpgjdggilkgaaGreatDoor
section
open Go.V
def nK(I:List Int):List Int:=I.mergeSort λx y=>decide (x<=y)
def jj(I:List Int):(nK I).Perm I:=List.mergeSort_perm _ _
def xP(I:List Int):(nK I).Pairwise (λa b=>a<=b):=by
 have h:=List.pairwise_mergeSort (le:=λx y:Int=>decide (x<=y)) (by intro a b c;simp;omega) (by intro a b;simp;omega) I;exact h.imp λq=>by simpa using q
def AG{I ys:List Int}(h:I.Perm ys):nK I=nK ys :=
 (((jj I).trans h).trans (jj ys).symm).eq_of_pairwise (le:=λa b=>a<=b) (λa b _ _ K T=>D) (xP I) (xP ys)
def ed(N:υ):List Int:=nK (N.Φ.map (·.1)++(N.Β.map (·.1)).filter λk=>decide ((ζ N.Φ k).isNone=true))
def WQ{N:υ}{k:Int}:k∈ed N↔(k∈N.Φ.map (·.1)\/k∈N.Β.map (·.1)):=by
 unfold ed;rw[(jj _).mem_iff,List.mem_append,List.mem_filter];constructor
 .rintro (h|h)
  .exact .inl h
  .exact .inr h.1
 .rintro (h|h)
  .exact .inl h
  .cases hg:ζ N.Φ k with
   | some x=>exact .inl (List.mem_map.2 ⟨(k,x),bQ hg,rfl⟩)
   | none=>exact .inr ⟨h,by simp⟩
def pM(N:υ):(ed N).length<=N.Φ.length+N.Β.length:=by
 unfold ed;rw[(jj _).length_eq,ay,al];have:=fx (λk=>decide ((ζ N.Φ k).isNone=true)) (N.Β.map (·.1))
 rw[al] at this;omega
attribute [local irreducible] Α GO GP δ ms GF GE Ev Ef C0 F CB GB V.Enters bJ L9
def DA{L:Η}(ad:OA)(cap:Nat)(I:List Int)(U:I.length<=1000000) :
  Τ Tryz.prog 126 #[ah ad I.length cap] (Ω (V.dJ .i64) 1 B7 ad cap I::L) (F3 (.tuple #[]) (Ω (V.dJ .i64) 1 B7 ad cap (nK I)::L)) :=
 Τ.d7 MV (jj I).length_eq D (λ_ w=>Tryz.slices_Sort_int_none ad cap w) (λblk w h hb=>Tryz.slices_Sort_int blk 0 cap I w h hb D)
def ux{L:Η}(nb lb:Nat)(d G:Int)(n:G0)(hb:n.Φ.length<=100000)(hp:n.Β.length<=100000) :
  Τ Tryz.prog 64 #[av nb] (eu nb lb d G n L) (λv Γ=>∃ad cap,v=ah ad (ed n.m).length cap/\Γ = Ω (dJ .i64) 1 B7 ad cap (ed n.m)::eu nb lb d G n L):=by
 refine Τ.bd ?_;simp only[eu,gL];have a6:n.m.Φ.map (·.1)=n.Φ.map (·.1):=jQ Ow.m n.Φ;have a9:n.m.Β.map (·.1)=n.Β.map (·.1):=jQ J5.m n.Β;refine Nd ?_;intros;refine GO.ca (zf n.mb) ?_;rintro _ _⟨bx,rfl,rfl⟩;refine Nd ?_;intros;refine GO.cL (Γ:=obj bx Tx [.map (some n.mb)]::cS gm cy n.mb n.Φ::(obj nb C4 [av lb,J d,J G,J n.μ,J n.U,.map (some n.mb),.map (some n.mp),.map (some n.mr)]::ey I4 n.Φ::cS gm cC n.mp n.Β::ey H6 n.Β::cS D5 bL n.mr (J6 n.sh)::L)) ak ?_;refine GO.ca (tF bx n.mb n.Φ D) ?_;rintro _ _⟨O2,O3,ks,rfl,a4,rfl⟩;have b0:ks.length=n.Φ.length:=by rw[a4.length_eq,al]
 refine Nd ?_;intros;refine GO.ef (Ef.g9 rfl) ae ?_;rintro _ _⟨r,rfl,rfl⟩;refine Nd ?_;intros;refine Α.loop (α:=List (Int×J5)×OA×Nat) (λg=>g.1.length<=n.Β.length) (λg=>[(0,av nb),(3,ah g.2.1 (ks++(g.1.map (·.1)).filter λk=>decide ((ζ n.m.Φ k).isNone=true)).length g.2.2),(15,av r)]) (λg=>Ω (dJ .i64) 1 B7 g.2.1 g.2.2 (ks++(g.1.map (·.1)).filter λk=>decide ((ζ n.m.Φ k).isNone=true))::fY gm cC n.mp n.Β r g.1::cS gm cy n.mb n.Φ::obj nb C4 [av lb,J d,J G,J n.μ,J n.U,.map (some n.mb),.map (some n.mp),.map (some n.mr)]::ey I4 n.Φ::ey H6 n.Β::cS D5 bL n.mr (J6 n.sh)::L) (λg=>n.Β.length - g.1.length) ([],O2,O3) (aC _) ?_ ?_ ?_
 .dsimp only;rw[bz,List.filter_nil,aI];exact aD
 .dsimp only;rw[bz,List.filter_nil,aI];exact ak
 rintro⟨z,M,B⟩ hz;dsimp only at hz ⊢
 have b5:(ks++(z.map (·.1)).filter λk=>decide ((ζ n.m.Φ k).isNone=true)).length<=200000:=by
  have:=fx (λk=>decide ((ζ n.m.Φ k).isNone=true)) (z.map (·.1))
  rw[al] at this;rw[ay];omega
 refine Nd ?_;intros;refine GO.ef (Ef.j6 rfl) ae ?_;rintro _ _ (⟨rfl,rfl,b1⟩|⟨p,rfl,rfl,b3,b4,b2⟩)
 .have a3:nK (ks++(z.map (·.1)).filter λk=>decide ((ζ n.m.Φ k).isNone=true))=ed n.m:=by
   unfold ed;refine AG ?_;rw[a6,a9];exact a4.append ((b1.map _).filter _)
  have a7:(ed n.m).length=(ks++(z.map (·.1)).filter λk=>decide ((ζ n.m.Φ k).isNone=true)).length:=by rw[<-a3,(jj _).length_eq]
  generalize (ks++(z.map (·.1)).filter λk=>decide ((ζ n.m.Φ k).isNone=true))=zs at *;refine Nd ?_;intros;refine GO.cL (F.at (Ο:=Ω (dJ .i64) 1 B7 M B zs) (F.refl _)) ?_;refine GO.cr (DA M B zs D) ?_;rw[a3];refine Nd ?_;intros;refine KX.a8 aF ?_ ⟨M,B,by rw[a7];rfl,rfl⟩;refine(F.at (Ο:=fY gm cC n.mp n.Β r z) F.j8).trans ?_;exact ak
 refine Nd ?_;intros;refine GO.ev (Ev.j6 (done:=z) rfl rfl) ae ?_;refine Nd ?_;intros;refine GO.ev (Ev.j5 rfl rfl) ae ?_;cases hg:List.lookup p.1 n.Φ with
 | some x =>
  have U:ζ n.m.Φ p.1=some x.m:=by rw[fW,hg];rfl
  have hf:((z++[p]).map (·.1)).filter (λk=>decide ((ζ n.m.Φ k).isNone=true))=(z.map (·.1)).filter λk=>decide ((ζ n.m.Φ k).isNone=true):=by
   rw[aQ,List.filter_append];simp[U]
  dsimp only[Option.map,Option.getD,cy];refine Nd ?_;intros;refine⟨(z++[p],M,B),by simp;omega,by simp;omega,?_,?_⟩
  .dsimp only;rw[hf];exact aD
  .dsimp only;rw[hf];exact ak
 | none =>
  have U:ζ n.m.Φ p.1=none:=by rw[fW,hg];rfl
  have hf:ks++((z++[p]).map (·.1)).filter (λk=>decide ((ζ n.m.Φ k).isNone=true))=(ks++(z.map (·.1)).filter λk=>decide ((ζ n.m.Φ k).isNone=true))++[p.1]:=by
   rw[aQ,List.filter_append,aH];simp[U]
  dsimp only[Option.map,Option.getD];refine Nd ?_;intros;refine GO.ef (Ef.a8 (Ε:=dJ .i64) (e:=p.1) rfl rfl rfl rfl rfl bh (io _ _) D D) ae ?_;rintro _ _⟨a5,a2,rfl,rfl⟩;rw[<-hf];refine Nd ?_;intros;refine⟨(z++[p],a5,a2),by simp;omega,by simp;omega,aD,by exact ak⟩
end
section
open Go.V
attribute [local irreducible] Α GO GP δ ms Ev Ef C0 F CB GB V.Enters
def Au(g:FuncId)(cap:τ)(p:Int->Prop)[DecidablePred p](C:HP):Prop:=∀(n:Int) (L:Η),Τ Tryz.prog g (([]++[Value.int .i64 n]++cap:τ)).toArray (C::L) (F3 (.bool (dB (p n))) (C::L))
def BR{L:Η}(g:FuncId)(cap:τ)(p:Int->Prop)[DecidablePred p](C:HP)(hg:Au g cap p C)(ad:OA)(c:Nat)(I:List Int)[hr:F2 (C::L) ad Int (dJ .i64) 1 I](U:I.length<=1000000) :
  Τ Tryz.prog 123 #[ah ad I.length c,.func (.func g) #[] cap.toArray] (C::L) (λv Γ=>∃i:Int,v=J i/\((i = -1/\∀k,k<I.length->¬p I[k]!)\/∃k:Nat,i=k/\k<I.length/\p I[k]!/\∀j,j<k->¬p I[j]!)/\Γ = C::L):=by
 refine Τ.bd ?_;refine Nd ?_;intros;refine Α.loop (α:=Nat) (λi=>i<=I.length/\∀j,j<i->¬p I[j]!) (λi=>[(0,ah ad I.length c),(1,.func (.func g) #[] cap.toArray),(7,J (I.length:Int)),(8,J (i:Int))]) (λ_=>C::L) (λi=>I.length - i) 0 ⟨aC _,λj hj=>D⟩ aD (F.refl _) ?_;rintro i ⟨hi,hb⟩;by_cases M:i<I.length
 case neg =>
  obtain rfl:i=I.length:=D;refine Nd ?_;intros;exact KX.en ⟨-1,rfl,.inl ⟨rfl,hb⟩,rfl⟩
 have B:(i:Int).toNat=i:=D;refine Nd ?_;intros;rw[B];refine GO.ef (Ef.f5 rfl rfl (hg I[i]! _)) ae ?_;rintro _ _⟨rfl,rfl⟩;by_cases hp:p I[i]!
 .rw[bN hp];refine Nd ?_;intros;exact KX.en ⟨i,rfl,.inr ⟨i,rfl,M,hp,hb⟩,rfl⟩
 .rw[bB hp];refine Nd ?_;intros;refine⟨i+1,⟨D,?_⟩,D,?_,F.refl _⟩
  .intro j hj;rcases Nat.lt_or_ge j i with h|h
   .exact hb j h
   .obtain rfl:j=i:=D;exact hp
  .rw[bC i];exact aD
def kw(p:Int->Prop)[DecidablePred p](I:List Int):List Int:=I.filter λx=>!dB (p x)
def wv{p:Int->Prop}[DecidablePred p]{I:List Int}(h:∀k,k<I.length->¬p I[k]!):kw p I=I:=by
 unfold kw;rw[List.filter_eq_self];intro a ha;obtain⟨k,hk,rfl⟩:=List.mem_iff_getElem.1 ha;have:=h k hk
 rw[D7 hk] at this;rw[bB this];rfl
def lm{p:Int->Prop}[DecidablePred p]{I:List Int}{j:Nat}(h:j<I.length):kw p (I.take (j+1))=kw p (I.take j)++(if p I[j]! then[] else[I[j]!]):=by
 unfold kw;rw[aB h,List.filter_append,<-D7 h];congr 1;generalize I[j]! = v;by_cases hp:p v
 .rw[Χ hp];simp[bN hp]
 .rw[Ν hp];simp[bB hp]
def Aa{L:Η}(g:FuncId)(cap:τ)(p:Int->Prop)[DecidablePred p](C:HP)(hg:Au g cap p C)(ad:OA)(c:Nat)(I:List Int)(U:I.length<=1000000) :
  Τ Tryz.prog 63 #[ah ad I.length c,.func (.func g) #[] cap.toArray] (C::Ω (dJ .i64) 1 B7 ad c I::L) (F3 (ah ad (kw p I).length c) (C::Ω (dJ .i64) 1 B7 ad c (kw p I)::L)):=by
 refine Τ.bd ?_;refine Α.c8 (mW (ad:=ad)) ?_;rintro⟨b2,_⟩;refine Nd ?_;intros;refine GO.ca (BR g cap p C hg ad c I U) ?_;rintro _ _⟨z,rfl,(⟨rfl,hz⟩|⟨i0,rfl,a2,b0,a3⟩),rfl⟩
 .rw[wv hz];refine Nd ?_;intros;exact KX.en ⟨rfl,rfl⟩
 have a7:kw p (I.take i0)=I.take i0:=wv (λk hk=>by
  have a6 : k<i0:=by rw[aP] at hk;omega
  rw[D7 hk,List.getElem_take,<-D7 D];exact a3 k a6)
 refine Nd ?_;intros;refine Α.loop (α:=Nat×Nat×List Int) (λz=>z.1<z.2.1/\z.2.1<=I.length/\z.2.2.length=I.length/\z.2.2.take z.1=kw p (I.take z.2.1)/\z.2.2.drop z.2.1=I.drop z.2.1) (λz=>[(0,ah ad I.length c),(1,.func (.func g) #[] cap.toArray),(5,J (z.1:Int)),(6,J (z.2.1:Int))]) (λz=>C::Ω (dJ .i64) 1 B7 ad c z.2.2::L) (λz=>I.length - z.2.1) (i0,i0+1,I) ⟨Nat.lt_succ_self _,a2,rfl,by rw[lm a2,Χ b0,a7,aI],rfl⟩ aD (F.refl _) ?_;rintro⟨i,j,ys⟩ ⟨K,T,h3,h4,h5⟩;dsimp only at K T h3 h4 h5 ⊢;by_cases B:j<I.length
 case neg =>
  obtain rfl:j=I.length:=D;rw[cz] at h4;have a9:(kw p I).length=i:=by rw[<-h4,aP];omega
  refine Nd ?_;intros;refine GO.NH (Ef.l8 (i:=i) (I:=ys) rfl D (by simp[Value.oneCell'])) ?_;rintro _ _⟨rfl,rfl⟩;rw[h4];refine Nd ?_;intros;exact KX.a8 aF ak ⟨by rw[a9];show Value.slice ad (i:Int).toNat c=_;rw[bD],rfl⟩
 have a5:(j:Int).toNat=j:=D
 have b1:ys[j]! = I[j]!:=by
  have e:=congrArg (λl=>l[0]?) h5;simp only[List.getElem?_drop,dx] at e;rw[List.getElem?_eq_getElem D,List.getElem?_eq_getElem B] at e;rw[D7 D,D7 B];simpa using e
 refine Nd ?_;intros;rw[a5,b1];refine GO.ef (Ef.f5 rfl rfl (hg I[j]! _)) ae ?_;rintro _ _⟨rfl,rfl⟩
 have M:∀zs:List Int,zs.drop j=I.drop j->zs.drop (j+1)=I.drop (j+1):=λzs h=>by
  have:=congrArg (List.drop 1) h
  simpa [List.drop_drop] using this
 by_cases hp:p I[j]!
 .rw[bN hp];refine Nd ?_;intros;refine⟨(i,j+1,ys),⟨by dsimp only;omega,by dsimp only;omega,h3,?_,M ys h5⟩,by dsimp only;omega,?_,F.refl _⟩
  .dsimp only;rw[lm B,Χ hp,aI];exact h4
  .dsimp only;rw[bC j];exact aD
 .rw[bB hp];have a4:(i:Int).toNat=i:=D;refine Nd ?_;intros;rw[a4];refine⟨(i+1,j+1,ys.set i I[j]!),⟨by dsimp only;omega,by dsimp only;omega,by dsimp only;rw[bT];exact h3,?_,?_⟩,by dsimp only;omega,?_,by exact ak⟩
  .dsimp only;rw[lm B,Ν hp,<-h4,aB (by rw[bT];omega),List.getElem_set_self,List.take_set_of_le (an _)]
  .dsimp only;rw[List.drop_set_of_lt D];exact M ys h5
  .dsimp only;rw[bC j,bC i];exact aD
end
section
open Go.V
abbrev RC:Nat:=62
noncomputable def lh(N:υ):List Int:=(ed N).filter (gd N)
attribute [local irreducible] Α GO GP δ ms GF GE Ev Ef C0 F CB GB V.Enters bJ L9
def Gn(nb lb:Nat)(d G:Int)(n:G0)(b1:Nat)(M:∀p∈n.Β,p.2.Z.length<=1000):Au 65 [av b1] (λk=>gd n.m k=false) (cx (obj b1 RC [av nb]::eu nb lb d G n [])):=λk L=>by
 refine Τ.bd (args:=[J k,av b1]) ?_;refine Α.cL F.Tl ?_;rw[show obj b1 RC [av nb]::eu nb lb d G n []++L=obj b1 RC [av nb]::eu nb lb d G n L from rfl];refine Nd ?_;intros;refine GO.cL (Γ:=eu nb lb d G n (obj b1 RC [av nb]::L)) (by simp only[eu,gL];exact ak) ?_;refine GO.cr (BQ nb lb d G n k M) ?_
 have B:F (eu nb lb d G n (obj b1 RC [av nb]::L)) (cx (obj b1 RC [av nb]::eu nb lb d G n [])::L):=by
  refine F.trans (fG:=(obj b1 RC [av nb]::eu nb lb d G n [])++L) ?_ F.f7;show F _ (obj b1 RC [av nb]::eu nb lb d G n L);simp only[eu,gL];exact ak
 cases hb:gd n.m k with
 | true =>
  refine Nd ?_;intros;refine KX.a8 aF B ⟨?_,rfl⟩;exact congrArg Value.bool (bB (p:=gd n.m k=false) (by rw[hb];decide)).symm
 | false =>
  refine Nd ?_;intros;refine KX.a8 aF B ⟨?_,rfl⟩;exact congrArg Value.bool (bN (p:=gd n.m k=false) hb).symm
def wm{L:Η}(nb lb:Nat)(d G:Int)(n:G0)(hb:n.Φ.length<=100000)(hp:n.Β.length<=100000)(M:∀p∈n.Β,p.2.Z.length<=1000) :
  Τ Tryz.prog 24 #[av nb] (eu nb lb d G n L) (λv Γ=>∃ad cap,v=ah ad (lh n.m).length cap/\Γ = Ω (dJ .i64) 1 B7 ad cap (lh n.m)::eu nb lb d G n L):=by
 have a4:=pM n.m;have a3:n.m.Φ.length=n.Φ.length:=al _;have a2:n.m.Β.length=n.Β.length:=al _;refine Τ.bd ?_;refine Nd ?_;intros;rename_i b1;refine GO.cL (Γ:=eu nb lb d G n (obj b1 RC [av nb]::L)) (by simp only[eu,gL];exact ak) ?_;refine GO.ca (ux nb lb d G n hb hp) ?_;rintro _ _⟨O2,O3,rfl,rfl⟩;refine Nd ?_;intros;refine GO.cL (Γ:=cx (obj b1 RC [av nb]::eu nb lb d G n [])::Ω (dJ .i64) 1 B7 O2 O3 (ed n.m)::L) ?_ ?_
 .refine F.trans (fG:=(obj b1 RC [av nb]::eu nb lb d G n [])++(Ω (dJ .i64) 1 B7 O2 O3 (ed n.m)::L)) ?_ F.f7;show F _ (obj b1 RC [av nb]::eu nb lb d G n (Ω (dJ .i64) 1 B7 O2 O3 (ed n.m)::L));simp only[eu,gL];exact ak
 refine GO.ca (Aa _ [av b1] (λk=>gd n.m k=false) _ (Gn nb lb d G n b1 M) O2 O3 (ed n.m) D) ?_
 have B:kw (λk=>gd n.m k=false) (ed n.m)=lh n.m:=by
  unfold kw lh;refine List.filter_congr λk _=>?_;show(!dB (gd n.m k=false))=gd n.m k;by_cases h:gd n.m k=false
  .rw[bN h,h];rfl
  .rw[bB h];cases O:gd n.m k with
   | true=>rfl
   | false=>exact hD O h
 rw[B];rintro _ _⟨rfl,rfl⟩;refine Nd ?_;intros;refine KX.a8 aF ?_ ⟨O2,O3,rfl,rfl⟩;refine F.Tl.trans ?_;rw[show(obj b1 RC [av nb]::eu nb lb d G n [])++(Ω (dJ .i64) 1 B7 O2 O3 (lh n.m)::L)=obj b1 RC [av nb]::eu nb lb d G n (Ω (dJ .i64) 1 B7 O2 O3 (lh n.m)::L) from rfl];simp only[eu,gL];exact ak
end
section
open Go.V
def QJ(G A:Int):Prop:=(0<=A / 4294967296/\A / 4294967296<G)/\A % 4294967296<64
def QJ.i64{G A:Int}(h:QJ G A)(hs:G<=12):vi A:=by
 obtain⟨⟨K,T⟩,h3⟩:=h;unfold vi;omega
theorem yT{G:Int}{l:List Int}(hn:l.Nodup)(h:∀A∈l,QJ G A):l.length<=64*G.toNat:=by
 have K:=jo (m:=(List.range (64*G.toNat)).map λ (k:Nat)=>((k / 64:Nat):Int)*4294967296+((k % 64:Nat):Int)) hn λA B=>by
  obtain⟨⟨q1,q2⟩,q3⟩:=h A B;have q4:0<=A % 4294967296:=D;refine List.mem_map.2 ⟨(A / 4294967296).toNat*64+(A % 4294967296).toNat,List.mem_range.2 D,?_⟩;omega
 grind
def R6(G:Int)(l:lu):Prop:=0<=l.ts/\l.ts<G
structure Q9 (G:Int) (y:eU):Prop where
 kd:1<=y.ct.Δ
 A:QJ G y.ct.A
 ts:∀l∈y.ct.Z,R6 G l
 am:NN y.ct.Z<=12
 Λ:0<=y.Λ/\y.Λ<G
 to:0<=y.to/\y.to<G
structure ZF (G A:Int) (x:K6):Prop where
 ok:WM x
 A:QJ G A
 ts:∀l∈x.Z,R6 G l
 am:NN x.Z<=12
 gv:∀g∈x.iM,0<=g/\g<G
structure XP (G A:Int) (p:NF):Prop where
 A:QJ G A
 ts:∀o∈p.Z,R6 G o.Υ/\o.Υ.am.length<=12
structure QL (d G:Int) (N:υ):Prop where
 μ:0<=N.μ
 nb:(N.Φ.map (·.1)).Nodup
 np:(N.Β.map (·.1)).Nodup
 ex:∀p∈N.Φ,ZF G p.1 p.2
 pt:∀p∈N.Β,XP G p.1 p.2
 fr:∀p∈N.Φ,p.1<d*4294967296+N.μ
structure HX (d G:Int) (N:υ) (r:L8):Prop where
 nd:QL d G r.2.1
 Q:∀y∈r.1,Q9 G y
 μ:r.2.1.μ=N.μ
theorem HX.same{d G:Int}{N:υ}{S:Ρ}(h:QL d G N):HX d G N ([],N,S):=⟨h,aj,rfl⟩
theorem QL.J1{d G A:Int}{N:υ}(h:QL d G N){x y:K6}(hg:ζ N.Φ A=some x)(K:y.Z=x.Z)(T:y.iM=x.iM)(h3:y.C6=x.C6):QL d G { N with Φ:=cZ N.Φ A y }:=by
 have O:=h.ex _ (bQ hg);refine⟨h.μ,iD h.nb,h.np,λp hp=>?_,h.pt,λp hp=>?_⟩
 .rcases jT hp with rfl|hp
  .refine⟨⟨?_,?_,?_,?_,?_⟩,O.A,?_,?_,?_⟩
   .rw[K];exact O.ok.Z
   .rw[K];exact O.ok.lg
   .rw[T];exact O.ok.gl
   .rw[T];exact O.ok.gv
   .rw[h3];exact O.ok.un
   .rw[K];exact O.ts
   .rw[K];exact O.am
   .rw[T];exact O.gv
  .exact h.ex p hp
 .rcases jT hp with rfl|hp
  .have q:=h.fr _ (bQ hg);exact q
  .exact h.fr p hp
theorem QL.K7{d G A:Int}{N:υ}(h:QL d G N){p:NF}(hp:XP G A p)(k:Int):QL d G { N with U:=k,Β:=cZ N.Β A p } :=
 ⟨h.μ,h.nb,iD h.np,h.ex,λq hq=>by
  rcases jT hq with rfl|hq
  .exact hp
  .exact h.pt q hq,h.fr⟩
theorem TX{d G to Δ A ω:Int}{yes:Bool}(h0:1<=Δ)(K:QJ G A)(T:0<=d/\d<G)(h3:0<=to/\to<G):Q9 G ⟨d,to,C9 Δ A ω yes⟩ :=
 ⟨h0,K,λl h=>hD h aG,aC _,T,h3⟩
theorem pj{d G:Int}{gs W:List Int}{ct:G3}(h0:1<=ct.Δ)(K:QJ G ct.A)(T:0<=d/\d<G)(h3:∀g∈gs,0<=g/\g<G)(h4:∀l∈ct.Z,R6 G l)(h5:NN ct.Z<=12):∀y∈ck d gs W ct,Q9 G y:=λy Y=>by
 unfold ck at Y;obtain⟨g,hg,rfl⟩:=H9 Y;exact⟨h0,K,h4,h5,T,aj⟩
theorem WR{d A bI Ι E:Int}{o:hy}{S:Ρ}:(bV d A bI Ι E o S).2.1.Υ=o.Υ/\∀y∈(bV d A bI Ι E o S).1,y.Λ=d/\y.to=o.Υ.ts/\y.ct.A=A/\y.ct.Z=[o.Υ]/\y.ct.Δ=5:=by
 by_cases h0:o.state=0
 .by_cases hB:bI=1/\o.Υ.ts≠d
  .rw[kD h0 hB];split
   .refine⟨rfl,λy Y=>?_⟩;obtain rfl:=F6 Y;exact⟨rfl,rfl,rfl,rfl,rfl⟩
   grind
  .obtain⟨to,ht⟩:∃to,to=if bI=2 then o.Υ.fr else o.Υ.to:=⟨_,rfl⟩;rw[jb h0 hB ht];grind
 grind [jU]
theorem WS{d G A:Int}{o:hy}{y:eU}(hi:QJ G A)(hs:0<=d/\d<G)(ho:R6 G o.Υ/\o.Υ.am.length<=12)(h:y.Λ=d/\y.to=o.Υ.ts/\y.ct.A=A/\y.ct.Z=[o.Υ]/\y.ct.Δ=5):Q9 G y:=by
 obtain⟨K,T,h3,h4,h5⟩:=h;refine⟨D,aj,λl U=>?_,?_,D,by rw[T];exact ho.1⟩
 .grind
 .rw[h4];show o.Υ.am.length+0<=12;exact ho.2
theorem Cg{d G A bI Ι E:Int}(hi:QJ G A)(hs:0<=d/\d<G):∀{os:List hy} {S:Ρ},(∀o∈os,R6 G o.Υ/\o.Υ.am.length<=12)->(∀o∈(cG d A bI Ι E os S).2.1,R6 G o.Υ/\o.Υ.am.length<=12)/\∀y∈(cG d A bI Ι E os S).1,Q9 G y
 | [],S,_=>⟨λo h=>hD h aG,λy h=>hD h aG⟩
 | o::os,S,ho=>by
  obtain⟨K,T⟩:=WR (d:=d) (A:=A) (bI:=bI) (Ι:=Ι) (E:=E) (o:=o) (S:=S);obtain⟨h3,h4⟩:=Cg (bI:=bI) (Ι:=Ι) (E:=E) hi hs (os:=os) (S:=(bV d A bI Ι E o S).2.2) aj;grind [cG,WS]
def Gl{d G:Int}:∀{k:Int} {ls:List lu},(∀l∈ls,R6 G l/\l.am.length<=12)->∀o∈B3 d k ls,R6 G o.Υ/\o.Υ.am.length<=12
 | _,[],_,o,h=>hD h aG
 | k,l::ls,U,o,h=>by
  have ih:=Gl (d:=d) (k:=k+1) (ls:=ls) (λx O=>U x (az _ O)) o;have e1:B3 d k (l::ls)=if l.d=d then⟨l,k,0,[]⟩::B3 d (k+1) ls else B3 d (k+1) ls:=rfl;rw[e1] at h;split at h
  .rcases Nj h with rfl|h
   .exact U l aA
   .exact ih h
  .exact ih h
theorem CO{d G E0 E:Int}{m:G3}{N:υ}{S:Ρ}(hs:0<=d/\d<G)(hN:QL d G N)(hi:QJ G m.A)(ht:∀l∈m.Z,R6 G l)(ha:NN m.Z<=12)(hf:0<=E0/\E0<G):HX d G N (be d E0 m E N S):=by
 have B:0<=bZ m.A/\bZ m.A<G:=hi.1;unfold be;split
 .unfold eN;cases U:ζ N.Β m.A with
  | some p=>exact⟨hN,by grind [TX],rfl⟩
  | none =>
   dsimp only;split
   .refine⟨hN.K7 ⟨hi,Gl λl U=>⟨ht l U,aO (vM U) ha⟩⟩ _,by grind [TX],rfl⟩
   .exact⟨hN.K7 ⟨hi,aj⟩ _,by grind [TX],rfl⟩
 split
 .unfold em;cases U:ζ N.Φ m.A with
  | none=>exact HX.same hN
  | some x =>
   have O:=hN.ex _ (bQ U);have tl:∀b:Bool,∀y∈ck d x.iM [] (C9 3 m.A 0 b),Q9 G y:=λb=>pj (show(1:Int)<=3 by decide) hi hs O.gv (λl h=>hD h aG) (aC _);dsimp only;split
   .exact HX.same hN
   .split
    .exact⟨hN.J1 U rfl rfl rfl,tl _,rfl⟩
    .split
     .exact⟨hN.J1 U rfl rfl rfl,aj,rfl⟩
     .exact⟨hN.J1 U rfl rfl rfl,tl _,rfl⟩
 split
 .unfold dt;cases U:ζ N.Β m.A with
  | none=>exact⟨hN.K7 ⟨hi,aj⟩ _,by grind [TX],rfl⟩
  | some p =>
   have hp:=hN.pt _ (bQ U);dsimp only;split
   .obtain⟨w1,w2⟩:=Cg (bI:=if m.yes=true then 1 else 2) (Ι:=p.Ι) (E:=E) hi hs (os:=p.Z) (S:=S) hp.ts;refine⟨hN.K7 ⟨hi,w1⟩ _,λy Y=>?_,rfl⟩;grind [TX]
   .exact⟨hN,by grind [TX],rfl⟩
 split
 .unfold gc υ.J1;cases U:ζ N.Φ m.A with
  | none=>exact HX.same hN
  | some x=>exact⟨hN.J1 U rfl rfl rfl,aj,rfl⟩
 split
 .unfold dU;split
  .exact⟨hN,by grind [TX],rfl⟩
  .split
   .split
    .exact⟨⟨hN.μ,hN.nb,hN.np,hN.ex,hN.pt,hN.fr⟩,by grind [TX],rfl⟩
    .exact HX.same hN
   .exact HX.same hN
 split
 .unfold O4 υ.K7;cases U:ζ N.Β m.A with
  | none=>exact HX.same hN
  | some p =>
   have hp:=hN.pt _ (bQ U);refine⟨hN.K7 ⟨hi,λo ho=>?_⟩ _,aj,rfl⟩;obtain⟨q,hq,rfl⟩:=H9 ho;have M:=hp.ts q hq;grind [eY]
 exact HX.same hN
def zO{d G:Int}{f:eU->υ->Ρ->L8}(hf:∀m N S,Q9 G m->QL d G N->HX d G N (f m N S)):∀(l:List eU) (N:υ) (S:Ρ),(∀m∈l,Q9 G m)->QL d G N->HX d G N (bS f l N S)
 | [],N,S,_,hN=>HX.same hN
 | m::l,N,S,hP,hN=>by
  have K:=hf m N S (hP m aA) hN;have T:=zO hf l _ (f m N S).2.2 (λx O=>hP x (az _ O)) K.nd;simp only[bS];refine⟨T.nd,λy Y=>?_,T.μ.trans K.μ⟩;rcases J8 Y with Y|Y
  .exact K.Q y Y
  .exact T.Q y Y
def Cw{d G E:Int}(hs:0<=d/\d<G):∀(Μ:Nat) (m:eU) (N:υ) (S:Ρ),Q9 G m->QL d G N->HX d G N (bJ d E Μ m N S)
 | 0,m,N,S,_,hN=>HX.same hN
 | Μ+1,m,N,S,hm,hN=>by
  unfold bJ;by_cases ht:m.to=d
  .rw[Ν (λq=>q ht)];have K:=CO (E:=E) (S:=S) hs hN hm.A hm.ts hm.am hm.Λ;have T:=zO (f:=bJ d E Μ) (λy N' S' Y B=>Cw (E:=E) hs Μ y N' S' Y B) _ _ (be d m.Λ m.ct E N S).2.2 K.Q K.nd;exact⟨T.nd,T.Q,T.μ.trans K.μ⟩
  .rw[Χ ht];refine⟨hN,λy Y=>?_,rfl⟩;obtain rfl:=F6 Y;exact hm
def Ht{d G E:Int}{l:List eU}{N:υ}{S:Ρ}(hs:0<=d/\d<G)(U:∀m∈l,Q9 G m)(hN:QL d G N):HX d G N (L9 d E l N S):=zO (λm N' S' hm B=>Cw hs 7 m N' S' hm B) l N S U hN
def Kz{d G E:Int}{x:eU}{N:υ}{S:Ρ}(hs:0<=d/\d<G)(O:Q9 G x)(hN:QL d G N):HX d G N (dO d G x E N S):=by
 unfold dO;split
 .have K:=CO (E:=E) (S:=S) hs hN O.A O.ts O.am O.Λ;have T:=Ht (E:=E) (S:=(be d x.Λ x.ct E N S).2.2) hs K.Q K.nd;exact⟨T.nd,T.Q,T.μ.trans K.μ⟩
 .exact HX.same hN
