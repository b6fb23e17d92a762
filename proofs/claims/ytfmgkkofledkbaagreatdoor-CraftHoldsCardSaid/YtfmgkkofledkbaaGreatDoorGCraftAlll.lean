/- Lemmas and contracts of functions, in the order: V25, P1, H1, P4, D0, D1, H3. -/
import Derived.Test.YtfmgkkofledkbaaGreatDoorGCraftAlld
import Derived.Test.YtfmgkkofledkbaaGreatDoorGCraftAllb
import Derived.Test.YtfmgkkofledkbaaGreatDoorGCraftAllf
set_option linter.all false
set_option maxHeartbeats 1000000
namespace Go.V
section fv
variable {P:Program} {N:Nat} {env:Env} {L:List HP} {K:Post} {ty:TypeId}
def EE (P:Program) (gf:FuncId) (cap:List Value) (vals:List (List Value)) (Lg Ln:List HP) (Lx:Nat→List HP):Prop :=
 ∀ (l:Nat) (J Jx:Nat→HP),(∀ k (hk:k<vals.length),YTri P l vals[k] [J k] (fun v L'=>(v=.bool true∧L' = [J (k+1)])∨(v=.bool false∧L' = [Jx k]))) →
  Tri P gf (.func (.yield l) #[] #[]::cap).toArray (J 0::Lg) (fun _ L'=>L' = J vals.length::Ln∨∃ k,L' = Jx k::Lx k)
theorem G.d9 {g:Operand} {ps:Array Tmp} {assign body:Code} {gf:FuncId} {cap:List Value} {vals:List (List Value)} {Lg Ln:List HP} {Lx:Nat→List HP} (it:EE P gf cap vals Lg Ln Lx) (hg:evE env g=some (.func (.func gf) #[] cap.toArray))
  (hen:Enters P gf) (hps:∀ p∈ps,p<N) (hlen:∀ vs∈vals,vs.length=ps.size) (I:Nat→List HP) (hl:Ent L (I 0++Lg))
  (hbody:∀ k (hk:k<vals.length),G P N assign (penv env (ps.toList.zip vals[k])) (I k) (Post.seq (fun env' L'=>G P N body env' L' (oC K env (Lx k) (I (k+1)))) (fun _ _ _=>False)))
  (hdone:K .normal env (I vals.length++Ln)):G P N (.rangeFunc g ps assign body) env L K:=by
 intro r θ Y a w hr i
 obtain ⟨M,ea,hm,s⟩:=i
 have s0:Sat θ (I 0++Lg++(mkH M++Y)) w:=hl θ _ w s
 -- what is the same in both cases
 have main:∀ (fn:FuncId) (l D:Nat) (mark:List Nat) (w₁:World),(Instr.enterLoop fn a.tmps ps assign body r).run P w=.ok (l,mkD mark) w₁ →
   Sat θ (own l (.loop { state:=.ready,pending:=none,fn,tmps:=a.tmps,params:=ps,assign,body,defers:=D })::(mkH mark++(I 0++Lg++(mkH M++Y)))) w₁ →
   ∃ (l:Nat) (mark:List Deferred) (w₁:World) (d:Deferred) (w₁' : World) (f:FuncId) (args:Array Value) (w₂:World),
   (Instr.enterLoop fn a.tmps ps assign body (FW r).round).run P w=.ok (l,mark) w₁ ∧
   (resolve a.eval (rangeCall g l) 0).run P w₁=.ok d w₁' ∧
   (∀ f',Target.leads P w₁' d.target d.args=some f'→(FW r).fn f') ∧
   (invoke d.target d.args).run P w₁' = .ok (.enter f args) w₂ ∧
   ((FW r).depth.isSome=true→1≤0) ∧
   CallsIn (FW r) (0 - 1) P f args w₂ (rangePost (FW r) 0 P l (QK θ Y N K) { a with defers:=mark++a.defers }):=by
  intro fn l D mark w₁ he s1
  obtain ⟨rec,hrec⟩:∃ rec:Loop,rec={ state:=.ready,pending:=none,fn,tmps:=a.tmps,params:=ps,assign,body,defers:=D }:=⟨_,rfl⟩
  rw [← hrec] at s1
  have hst:rec.state=.ready:=by rw [hrec]
  have hpe:rec.pending=none:=by rw [hrec]
  have hy:∀ k (hk:k<vals.length),YTri P l vals[k] [aX (own l (.loop rec)::I k)] (fun v L'=>(v=.bool true∧L' = [aX (own l (.loop rec)::I (k+1))])∨(v=.bool false∧L' = [hex fun x:Code×List HP=>aX (bK (eN K env (Lx k) x.1 x.2)::own l (.loop { rec with state:=.done,pending:=some x.1 })::x.2)])):=by
   intro k hk
   refine mf hst hpe (by rw [hrec];exact hlen _ (List.getElem_mem _)) (by rw [hrec];exact hps) (env:=env) ?_ ?_
   ·rw [hrec];exact ⟨ea.size,ea.at_⟩
   ·rw [hrec];exact hbody k hk
  have ht:=it l (fun k=>aX (own l (.loop rec)::I k)) (fun k=>hex fun x:Code×List HP=>aX (bK (eN K env (Lx k) x.1 x.2)::own l (.loop { rec with state:=.done,pending:=some x.1 })::x.2)) hy
  have hga:a.eval g=.func (.func gf) #[] cap.toArray:=ao ea.agr hg
  refine ⟨l,mkD mark,w₁,{ target:=.fn (.func gf) cap.toArray,args:=#[.func (.yield l) #[] #[]] },w₁,gf,(.func (.yield l) #[] #[]::cap).toArray,w₁,he,?_,fun _ _=>trivial,?_,(fun h=>by cases h),ki ?_⟩
  ·simp only [resolve,Deferred.ofValue,hga]
   simp [Act.eval]
  ·have:=hen (.func (.yield l) #[] #[]::cap).toArray w₁
   simpa [invoke] using this
  have s2:Sat θ (aX (own l (.loop rec)::I 0)::Lg++(mkH mark++(mkH M++Y))) w₁:=by
   refine Sat.a6 (A:=own l (.loop rec)::I 0) (s1.perm ?_)
   simp only [List.cons_append]
   refine List.Perm.cons _ ?_
   rw [List.append_assoc]
   refine perm_front.trans ?_
   refine List.Perm.append_left _ ?_
   exact perm_front
  refine (ht.calls θ _ w₁ s2).mono ?_
  rintro e w₂ ⟨v,L',rfl,hL',s3⟩
  rcases hL' with rfl|⟨k,rfl⟩
  ·have s4:Sat θ (own l (.loop rec)::(I vals.length++(Ln++(mkH mark++(mkH M++Y))))) w₂:=Sat.ofStars (A:=own l (.loop rec)::I vals.length) s3
   have hh:=s4.own_heap
   refine ⟨none,_,(by rw [← hpe];exact gx hh (by rw [hst];simp)),?_⟩
   have s5:=(Sat.a7 (rec':={ rec with state:=.exhausted }) s4).tail
   refine ⟨env,I vals.length++Ln,⟨mark++M,⟨ea.size,ea.at_⟩,by simp [mkD,hm],?_⟩,hdone⟩
   have e:mkH (mark++M)++Y=mkH mark++(mkH M++Y):=by simp [mkH]
   rw [e,List.append_assoc]
   exact s5
  ·obtain ⟨⟨c,L₂⟩,s4⟩:=Sat.ofHex (L:=Lx k++(mkH mark++(mkH M++Y))) s3
   have s5:Sat θ (bK (eN K env (Lx k) c L₂)::(own l (.loop { rec with state:=.done,pending:=some c })::(L₂++(Lx k++(mkH mark++(mkH M++Y)))))) w₂:=Sat.ofStars (A:=bK (eN K env (Lx k) c L₂)::own l (.loop { rec with state:=.done,pending:=some c })::L₂) s4
   have hj:=s5.ofPure
   have s6:=s5.tail
   have hh:=s6.own_heap
   have s7:=(Sat.a7 (rec':={ ({ rec with state:=.done,pending:=some c }:Loop) with state:=.exhausted }) s6).tail
   refine ⟨some c,_,gx hh (by simp),?_⟩
   have hat:At N env (L₂++Lx k) θ Y { a with defers:=mkD mark++a.defers } { w₂ with heap:=w₂.heap.setIfInBounds l (.loop { ({ rec with state:=.done,pending:=some c }:Loop) with state:=.exhausted }) }:=by
    refine ⟨mark++M,⟨ea.size,ea.at_⟩,by simp [mkD,hm],?_⟩
    have e:mkH (mark++M)++Y=mkH mark++(mkH M++Y):=by simp [mkH]
    rw [e,List.append_assoc]
    exact s7
   cases c with
   | ret=>exact wpIn_ret ⟨env,_,hat,hj⟩
   | exit id=>exact wpIn_exit ⟨env,_,hat,hj⟩
   | _=>exact hj.elim
 refine wpIn_rangeFunc fun fn _=>?_
 cases r with
 | none =>
  have s1:=s0.alloc (o:=.deferred (some []))
  have s2:=s1.alloc (o:=.loop { state:=.ready,pending:=none,fn,tmps:=a.tmps,params:=ps,assign,body,defers:=w.heap.size })
  refine main fn (w.heap.size+1) w.heap.size [w.heap.size] _ gI ?_
  rw [World.size_alloc] at s2
  exact s2
 | some l =>
  obtain ⟨rec,Y',hY⟩:=hr l rfl
  have hl0:w.heap[l]? = some (.loop rec):=by
   have s1:Sat θ (own l (.loop rec)::(I 0++Lg++(mkH M++Y'))) w:=s0.perm (by
    have h1:(I 0++Lg++(mkH M++Y)).Perm (I 0++Lg++(mkH M++(own l (.loop rec)::Y'))):=(hY.append_left _).append_left _
    refine h1.trans ?_
    rw [← List.append_assoc,← List.append_assoc (I 0++Lg)]
    exact List.perm_middle)
   exact s1.own_heap
  exact main fn w.heap.size rec.defers [] _ (gH hl0) s0.alloc
end fv
end Go.V
namespace Go.Proofs.YtfmgkkofledkbaaGreatDoor
open Go.V
def fac:Nat:=11400714819323198485
def mixN (s w:Nat):Nat:=((s ^^^ w)*fac % 18446744073709551616) ^^^ ((s ^^^ w)*fac % 18446744073709551616 / 4294967296)
theorem pj {a b:Nat} (ha:a<18446744073709551616) (hb:b<18446744073709551616):a ^^^ b<18446744073709551616:=Nat.xor_lt_two_pow (n:=64) ab ab
theorem ji (s w:Nat):mixN s w<18446744073709551616:=pj (Nat.mod_lt _ ac) (by have:=Nat.mod_lt ((s ^^^ w)*fac) (show 0<18446744073709551616 by decide);omega)
def dC:List Int→Nat
 | []=>0
 | b::t=>b.toNat+256*dC t
abbrev dy (l:List Int):Prop:=∀ x∈l,0≤x∧x≤255
theorem kK:∀ {l:List Int},dy l→dC l<256 ^ l.length
 | [],_=>by simp [dC]
 | b::t,h=>by
  have h1:=h b (by simp)
  have h2:=kK (fun x hx=>h x (List.mem_cons_of_mem _ hx):dy t)
  simp only [dC,List.length_cons,Nat.pow_succ]
  omega
theorem oK:∀ (l:List Int) (c:Int),dC (l++[c])=dC l+c.toNat*256 ^ l.length
 | [],c=>by simp [dC]
 | b::t,c=>by
  simp only [List.cons_append,dC,oK t c,List.length_cons,Nat.pow_succ]
  rw [Nat.mul_add,Nat.add_assoc]
  congr 2
  rw [Nat.mul_comm 256 (c.toNat*256 ^ t.length),Nat.mul_assoc]
def cM (b:List Int) (k:Nat):List Int:=(b.drop (8*k)).take 8
def eV (n:Nat):Nat:=(n+7) / 8
def aZ (b:List Int):List Nat:=(List.range (eV b.length)).map fun k=>dC (cM b k)
theorem fA (b:List Int):(aZ b).length=eV b.length:=by simp [aZ]
theorem lR (b:List Int) {k:Nat} (h:k<eV b.length):(aZ b)[k]'(by rw [fA];exact h)=dC (cM b k):=by simp [aZ]
theorem mP {b:List Int} (h:dy b) (k:Nat):dy (cM b k):=fun x hx=>h x (List.mem_of_mem_drop (List.mem_of_mem_take hx))
theorem nZ (b:List Int) (k:Nat):(cM b k).length=min 8 (b.length - 8*k):=by simp [cM]
theorem oL {l:List Int} (h:dy l) (hl:l.length≤8):dC l<18446744073709551616:=by
 have h1:=kK h
 have h2:256 ^ l.length≤256 ^ 8:=Nat.pow_le_pow_right ac hl
 have h3:(256:Nat) ^ 8=18446744073709551616:=by decide
 omega
theorem iB {b:List Int} (h:dy b):∀ w∈aZ b,w<18446744073709551616:=by
 intro w hw
 simp only [aZ,List.mem_map] at hw
 obtain ⟨k,_,rfl⟩:=hw
 exact oL (mP h k) (by rw [nZ];omega)
def sumN (label:List Int) (l:List Nat):Nat:=mixN (l.foldl mixN (mixN (mixN ((aZ label).foldl mixN 0) label.length) l.length)) 0
def bS (label b:List Int):Nat:=sumN label (aZ b++[b.length])
theorem EW {a c i:Nat} (ha:a<256 ^ i) (hc:c≤255) (hi:i<8):a ||| (c*2 ^ (8*i) % 18446744073709551616)=a+c*256 ^ i:=by
 have e:(2:Nat) ^ (8*i)=256 ^ i:=by rw [Nat.pow_mul]
 have hlt:c*256 ^ i<18446744073709551616:=by
  have h1:(256:Nat) ^ i≤256 ^ 7:=Nat.pow_le_pow_right ac ab
  have h2:(256:Nat) ^ 7=72057594037927936:=by decide
  have h3:c*256 ^ i≤255*256 ^ i:=Nat.mul_le_mul_right _ hc
  omega
 rw [e,Nat.mod_eq_of_lt hlt,Nat.or_comm,nat_join (8*i) (c*256 ^ i) a (by rw [e];exact Nat.mul_mod_left _ _) (by rw [e];exact ha),Nat.add_comm]
theorem eu (l:List Nat) {s:Nat} (h:s<18446744073709551616):l.foldl mixN s<18446744073709551616:=by
 induction l generalizing s with
 | nil=>exact h
 | cons x l ih=>exact ih (ji _ _)
end Go.Proofs.YtfmgkkofledkbaaGreatDoor
namespace Go.Proofs.YtfmgkkofledkbaaGreatDoor
open Go.V
attribute [local irreducible] G GO GP GPW GPK Ev Ef EfR Ent CB GB
section
theorem kw (s w:Nat) (hs:s<18446744073709551616) (hw:w<18446744073709551616) :
  Tri Tryz.prog 160 #[.int .u64 s,.int .u64 w] [] (fun v L=>v=.int .u64 (mixN s w)∧L=[]):=by
 refine Tri.body (args:=[.int .u64 (s:Int),.int .u64 (w:Int)]) 14 IF Tryz.func160 rfl rfl rfl (by simp) ?_
 repeat first|refine run ?_|intro _
 refine GO.ev (Ev.l8 rfl rfl ab ab ab ab) ac ?_
 rw [Int.toNat_natCast,Int.toNat_natCast]
 have hx:=pj hs hw
 have e1:IntKind.u64.wrap (((s ^^^ w:Nat):Int)*11400714819323198485)=(((s ^^^ w)*fac % 18446744073709551616:Nat):Int):=by
  rw [IntKind.wrap_u64]
  simp [fac]
 refine GO.ev (Ev.o6 rfl rfl) ac ?_
 rw [e1]
 have hm:=Nat.mod_lt ((s ^^^ w)*fac) (show 0<18446744073709551616 by decide)
 obtain ⟨m,hmm⟩:∃ m:Nat,(s ^^^ w)*fac % 18446744073709551616=m:=⟨_,rfl⟩
 rw [hmm] at hm ⊢
 repeat first|refine run ?_|intro _
 refine GO.ev (Ev.shr rfl rfl ac) ac ?_
 have e2:((m:Nat):Int).fdiv (2 ^ min ((32:Int).toNat) IntKind.u64.bits)=((m / 4294967296:Nat):Int):=by
  rw [Int.fdiv_eq_ediv_of_nonneg _ ac]
  simp [IntKind.bits]
 rw [e2]
 refine GO.ev (Ev.l8 rfl rfl ab ab ab ab) ac ?_
 rw [Int.toNat_natCast,Int.toNat_natCast]
 repeat first|refine run ?_|intro _
 exact KX.a6 ai (Ent.refl _) ⟨by simp only [resV,mixN,hmm],rfl⟩
theorem pQ {L0:List HP} (bx:Nat) (ad:Option Addr) (c:Nat) (b:List Int) [hrd:Rds L0 ad Int (encZ .u8) 1 b] (hb:dy b) (hc:b.length≤c) (hm:b.length≤1000000000) :
  Iter Tryz.prog 159 [.pointer (some ⟨bx,0,none⟩)] ((aZ b).map fun w:Nat=>[.int .u64 (w:Int)]) (obj bx 48 [.slice ad b.length c]::L0):=by
 intro l J Jx hy
 have hy' : ∀ k,k<eV b.length→YTri Tryz.prog l [.int .u64 (dC (cM b k):Int)] [J k] (fun v L'=>(v=.bool true∧L' = [J (k+1)])∨(v=.bool false∧L' = [Jx k])):=by
  intro k hk
  have h:=hy k (by rw [List.length_map,fA];exact hk)
  simp only [List.getElem_map] at h
  rw [lR b hk] at h
  exact h
 rw [List.length_map,fA]
 clear hy
 refine Tri.body (args:=[.func (.yield l) #[] #[],.pointer (some ⟨bx,0,none⟩)]) 39 Bg Tryz.func159 rfl rfl rfl (by simp) ?_
 repeat first|refine run ?_|intro _
 refine G.loop (α:=Nat) (fun k=>k≤eV b.length) (fun k=>[(0,.func (.yield l) #[] #[]),(1,.pointer (some ⟨bx,0,none⟩)),(3,.int .i64 ((8*k:Nat):Int))]) (fun k=>J k::obj bx 48 [.slice ad b.length c]::L0) (fun k=>eV b.length - k) 0 (Nat.zero_le _) aj (Ent.refl _) ?_
 intro k hk
 have hnw:eV b.length=(b.length+7) / 8:=rfl
 by_cases hlt:8*k<b.length
 case neg =>
  have hkn:k=eV b.length:=ab
  repeat first|refine run ?_|intro _
  refine KX.a8 ai (Ent.refl _) (.inl ?_)
  rw [hkn]
 have hk2:k<eV b.length:=ab
 have hcl:=nZ b k
 have hcb:=mP hb k
 have hrd2:Rds L0 (advA ad c 1 (8*k)) Int (encZ .u8) 1 (b.drop (8*k)):=Rds.drop hrd hc (8*k)
 repeat first|((fail_if_success (with_reducible refine G.c7 4 ?_));(with_reducible apply G.seq))|refine runS ?_|intro _
 refine G.a8 (α:=Unit) (fun _=>True) (fun _=>[(0,.func (.yield l) #[] #[]),(1,.pointer (some ⟨bx,0,none⟩)),(3,.int .i64 ((8*k:Nat):Int)),(4,.int .u64 (dC (cM b k):Int))]) (fun _=>J k::obj bx 48 [.slice ad b.length c]::L0) ?_ ?_
 ·repeat first|refine run ?_|intro _
  have hm2:(min (((8*k:Nat):Int)+8) (b.length:Int)).toNat - 8*k=(cM b k).length:=ab
  rw [Int.toNat_natCast,hm2]
  refine G.loop (α:=Nat) (fun i=>i≤(cM b k).length) (fun i=>[(0,.func (.yield l) #[] #[]),(1,.pointer (some ⟨bx,0,none⟩)),(3,.int .i64 ((8*k:Nat):Int)),(4,.int .u64 (dC ((cM b k).take i):Int)),(20,.slice (advA ad c 1 (8*k)) (cM b k).length (c - 8*k)),(21,.int .i64 (cM b k).length),(22,.int .i64 (i:Int))])
   (fun _=>J k::obj bx 48 [.slice ad b.length c]::L0) (fun i=>(cM b k).length - i) 0 (Nat.zero_le _) aj (Ent.refl _) ?_
  intro i hi
  by_cases hi2:i<(cM b k).length
  case neg =>
   have:i=(cM b k).length:=ab
   subst this
   repeat first|refine run ?_|intro _
   rw [List.take_length]
   exact ⟨(),trivial,aj,Ent.refl _⟩
  have hdl:(b.drop (8*k)).length=b.length - 8*k:=by simp
  have hbv:(b.drop (8*k))[i]! = (cM b k)[i]:=by
   simp only [cM,List.getElem_take]
   rw [List.getElem!_eq_getElem?_getD,List.getElem?_eq_getElem ab]
   rfl
  have hbb:=hcb _ (List.getElem_mem hi2)
  have hwl:=kK (fun x hx=>hcb x (List.mem_of_mem_take hx):dy ((cM b k).take i))
  rw [List.length_take,Nat.min_eq_left ab] at hwl
  have hw64:dC ((cM b k).take i)<18446744073709551616:=oL (fun x hx=>hcb x (List.mem_of_mem_take hx)) (by simp;omega)
  repeat first|refine run ?_|intro _
  rw [Int.toNat_natCast,hbv]
  obtain ⟨cN,hcN⟩:∃ cN:Nat,(cM b k)[i]=(cN:Int):=⟨((cM b k)[i]).toNat,ab⟩
  have hcN2:cN≤255:=ab
  have hword:dC ((cM b k).take (i+1))=dC ((cM b k).take i)+cN*256 ^ i:=by
   rw [List.take_succ_eq_append_getElem hi2,oK,hcN,List.length_take,Nat.min_eq_left ab]
   rfl
  rw [hcN,IntWalk.u64_in (cN:Int) ab]
  refine GO.ev (Ev.shl rfl rfl ab) ac ?_
  have e1:IntKind.u64.wrap ((cN:Int)*2 ^ min (8*(i:Int)).toNat IntKind.u64.bits)=((cN*2 ^ (8*i) % 18446744073709551616:Nat):Int):=by
   rw [IntKind.wrap_u64,show min (8*(i:Int)).toNat IntKind.u64.bits=8*i by simp [IntKind.bits];omega]
   simp
  have hml:=Nat.mod_lt (cN*2 ^ (8*i)) (show 0<18446744073709551616 by decide)
  rw [e1]
  refine GO.ev (Ev.x8 rfl rfl ab ab ab ab) ac ?_
  rw [Int.toNat_natCast,Int.toNat_natCast,EW hwl hcN2 ab,← hword]
  repeat first|refine run ?_|intro _
  refine ⟨i+1,ab,ab,?_,Ent.refl _⟩
  rw [show (((i+1:Nat)):Int)=(i:Int)+1 by omega]
  exact aj
 rintro _ _
 repeat first|refine run ?_|intro _
 ((with_reducible apply GO.a6);refine GO.efR (EfR.yield (hy' k hk2) rfl rfl (by repeat (first|exact Ent.refl _|apply Ent.take))) ac ?_)
 rintro _ _ ⟨_,(⟨rfl,rfl⟩|⟨rfl,rfl⟩),hL⟩
 ·simp only [List.cons_append,List.nil_append] at hL;subst hL
  repeat first|refine run ?_|intro _
  refine ⟨k+1,ab,ab,?_,Ent.refl _⟩
  rw [show (((8*(k+1):Nat)):Int)=((8*k:Nat):Int)+8 by omega]
  exact aj
 ·simp only [List.cons_append,List.nil_append] at hL;subst hL
  repeat first|refine run ?_|intro _
  exact KX.a6 ai (Ent.refl _) (.inr ⟨k,rfl⟩)
theorem nk {L:List HP} (ad:Option Addr) (n c:Nat) :
  Tri Tryz.prog 107 #[.slice ad n c] L (fun v L'=>∃ bx,v=.func (.func 159) #[] #[.pointer (some ⟨bx,0,none⟩)]∧L' = obj bx 48 [.slice ad n c]::L):=by
 refine Tri.body (args:=[.slice ad n c]) 4 Jz Tryz.func107 rfl rfl rfl (by simp) ?_
 repeat first|refine run ?_|intro _
 exact KX.a6 ai (Ent.refl _) ⟨_,rfl,rfl⟩
theorem gC (f:Nat→Nat→Nat) (a:Nat) (l:List Nat) {k:Nat} (h:k<l.length):(l.take (k+1)).foldl f a=f ((l.take k).foldl f a) l[k]:=by
 rw [List.take_succ_eq_append_getElem h,List.foldl_append]
 rfl
theorem ud {L:List HP} (label:ByteArray) (ad:Option Addr) (n c:Nat) (l:List Int) [hrd:Rds L ad Int (encZ .i64) 1 l] (hn:n=l.length) (hls:label.size≤1000000) (hll:l.length≤1000000000) :
  Tri Tryz.prog 108 #[.string label,.slice ad n c] L (fun v L'=>v=.int .u64 (sumN (aD label) (l.map fun x=>(IntKind.u64.wrap x).toNat))∧L' = L):=by
 have hlb:dy (aD label):=by
  intro x hx
  simp only [aD,List.mem_map] at hx
  obtain ⟨y,_,rfl⟩:=hx
  have:=y.toNat_lt
  omega
 have hlen:=iU label
 refine Tri.body (args:=[.string label,.slice ad n c]) 39 Jy Tryz.func108 rfl rfl rfl (by simp) ?_
 repeat first|refine run ?_|intro _
 refine GO.ef (Ef.j6 rfl) ac ?_
 rintro _ _ ⟨lb,lc,rfl,hlc,rfl⟩
 rename_i cst
 refine GO.ef (Ef.a6 (nk (some ⟨lb,0,none⟩) label.size lc) rfl) ac ?_
 rintro _ _ ⟨bx,rfl,rfl⟩
 rw [← hlen] at hlc ⊢
 repeat first|refine run ?_|intro _
 refine G.rangeFunc (pQ (L0:=isl (encZ .u8) 1 (some ⟨lb,0,none⟩) (aD label)::L) bx (some ⟨lb,0,none⟩) lc (aD label) hlb hlc ab) rfl Bg ac (by simp) (fun k=>[obj cst 125 [.int .u64 (((aZ (aD label)).take k).foldl mixN 0:Nat)]]) ?_ ?_ ?_
 ·simp only [List.take_zero,List.foldl_nil,List.cons_append,List.nil_append]
  exact ae
 ·intro k hk
  rw [List.length_map] at hk
  have hwk:=iB hlb _ (List.getElem_mem hk)
  have hst:((aZ (aD label)).take k).foldl mixN 0<18446744073709551616:=eu _ ac
  simp only [List.getElem_map]
  show G _ _ _ ((12,.int .u64 ((aZ (aD label))[k]:Int))::_) _ _
  repeat first|refine run ?_|intro _
  (first|refine GO.ef (Ef.call (kw (((aZ (aD label)).take k).foldl mixN 0) (aZ (aD label))[k] hst hwk) rfl (by repeat (first|exact Ent.refl _|apply Ent.take))) ac ?_)
  rintro _ _ ⟨_,⟨rfl,rfl⟩,hL⟩
  simp only [List.cons_append,List.nil_append] at hL;subst hL
  repeat first|refine run ?_|intro _
  refine KX.round ?_
  have e:=gC mixN 0 (aZ (aD label)) hk
  show Ent _ [obj cst 125 [.int .u64 (((aZ (aD label)).take (k+1)).foldl mixN 0:Nat)]]
  rw [e]
  exact Ent.refl _
 rw [List.length_map,List.take_length]
 obtain ⟨s0,hs0⟩:∃ s0,(aZ (aD label)).foldl mixN 0=s0:=⟨_,rfl⟩
 have hs0' : s0<18446744073709551616:=by rw [← hs0];exact eu _ ac
 rw [hs0]
 simp only [List.cons_append,List.nil_append]
 repeat first|refine run ?_|intro _
 rw [← hlen]
 (first|refine GO.ef (Ef.call (kw s0 (aD label).length hs0' ab) rfl (by repeat (first|exact Ent.refl _|apply Ent.take))) ac ?_)
 rintro _ _ ⟨_,⟨rfl,rfl⟩,hL⟩
 simp only [List.cons_append,List.nil_append] at hL;subst hL
 obtain ⟨s1,hs1⟩:∃ s1,mixN s0 (aD label).length=s1:=⟨_,rfl⟩
 have hs1' : s1<18446744073709551616:=by rw [← hs1];exact ji _ _
 rw [hs1]
 repeat first|refine run ?_|intro _
 (first|refine GO.ef (Ef.call (kw s1 n hs1' ab) rfl (by repeat (first|exact Ent.refl _|apply Ent.take))) ac ?_)
 rintro _ _ ⟨_,⟨rfl,rfl⟩,hL⟩
 simp only [List.cons_append,List.nil_append] at hL;subst hL
 obtain ⟨s2,hs2⟩:∃ s2,mixN s1 n=s2:=⟨_,rfl⟩
 have hs2' : s2<18446744073709551616:=by rw [← hs2];exact ji _ _
 rw [hs2]
 repeat first|refine run ?_|intro _
 obtain ⟨ws,hws⟩:∃ ws,ws=l.map fun x=>(IntKind.u64.wrap x).toNat:=⟨_,rfl⟩
 have hwl:ws.length=l.length:=by rw [hws];simp
 refine G.loop (α:=Nat) (fun i=>i≤n) (fun i=>[(5,.pointer (some ⟨cst,0,none⟩)),(26,.slice ad n c),(27,.int .i64 n),(28,.int .i64 (i:Int))]) (fun i=>obj cst 125 [.int .u64 ((ws.take i).foldl mixN s2:Nat)]::L) (fun i=>n - i) 0 (Nat.zero_le _) aj ?_ ?_
 ·simp only [List.take_zero,List.foldl_nil]
  exact Ent.a6 (Ent.trans Ent.drop Ent.drop)
 intro i hi
 by_cases hlt:i<n
 case neg =>
  have:i=n:=ab
  subst this
  repeat first|refine run ?_|intro _
  (first|refine GO.ef (Ef.call (kw ((ws.take i).foldl mixN s2) 0 (eu _ hs2') ac) rfl (by repeat (first|exact Ent.refl _|apply Ent.take))) ac ?_)
  rintro _ _ ⟨_,⟨rfl,rfl⟩,hL⟩
  simp only [List.cons_append,List.nil_append] at hL;subst hL
  repeat first|refine run ?_|intro _
  refine KX.a6 ai Ent.drop ⟨?_,rfl⟩
  simp only [resV]
  rw [hn,← hwl,List.take_length,sumN,← hws,hs0,hs1,hwl,← hn,hs2]
 have hw:IntKind.u64.wrap (l[i]!)=((ws[i]'(by omega):Nat):Int):=by
  subst hws
  have h0:=wrap_u64_nonneg (l[i]!)
  rw [List.getElem_map,List.getElem!_eq_getElem?_getD,List.getElem?_eq_getElem ab] at *
  simp only [Option.getD_some] at *
  omega
 have hwb:ws[i]'(by omega)<18446744073709551616:=by
  have:=IntKind.wrap_u64 (l[i]!)
  omega
 repeat first|refine run ?_|intro _
 rw [Int.toNat_natCast]
 rw [hw]
 (first|refine GO.ef (Ef.call (kw ((ws.take i).foldl mixN s2) (ws[i]'(by omega)) (eu _ hs2') hwb) rfl (by repeat (first|exact Ent.refl _|apply Ent.take))) ac ?_)
 rintro _ _ ⟨_,⟨rfl,rfl⟩,hL⟩
 simp only [List.cons_append,List.nil_append] at hL;subst hL
 repeat first|refine run ?_|intro _
 refine ⟨i+1,ab,ab,?_,?_⟩
 ·rw [show (((i+1:Nat)):Int)=(i:Int)+1 by omega]
  exact aj
 ·rw [gC mixN s2 ws ab]
  exact Ent.refl _
def i64s (l:List Nat):List Int:=l.map fun w:Nat=>IntKind.i64.wrap (w:Int)
theorem nJ {l:List Nat} (h:∀ w∈l,w<18446744073709551616):((i64s l).map fun x=>(IntKind.u64.wrap x).toNat)=l:=by
 unfold i64s
 rw [List.map_map]
 conv=>rhs;rw [← List.map_id l]
 refine List.map_congr_left ?_
 intro w hw
 have:=h w hw
 simp only [Function.comp_apply,id_eq]
 rw [IntKind.wrap_u64,IntKind.wrap_i64]
 omega
theorem mE (l:List Nat):(i64s l).length=l.length:=by simp [i64s]
theorem sL (l:List Nat) (w:Nat):i64s (l++[w])=i64s l++[IntKind.i64.wrap (w:Int)]:=by simp [i64s]
abbrev pV (cx:Nat) (ws:List Nat) (x:SlV):List HP:=[obj cx 34 [.slice x.ad (i64s ws).length x.cap],osl (encZ .i64) 1 3 x.ad x.cap (i64s ws)]
theorem Bv {L:List HP} (label:ByteArray) (ad:Option Addr) (n c:Nat) (b:List Int) [hrd:Rds L ad Int (encZ .u8) 1 b] (hb:dy b) (hn:n=b.length) (hc:n≤c) (hls:label.size≤1000000) (hm:n≤100000000) :
  Tri Tryz.prog 54 #[.string label,.slice ad n c] L (fun v L'=>v=.int .u64 (bS (aD label) b)∧L' = L):=by
 subst hn
 refine Tri.body (args:=[.string label,.slice ad b.length c]) 27 en54 Tryz.func54 rfl rfl rfl (by simp) ?_
 repeat first|refine run ?_|intro _
 refine GO.ef (Ef.k8 (encZ .i64) rfl rfl ab ab ab) ac ?_
 rintro _ _ ⟨mb,rfl,rfl⟩
 repeat first|refine run ?_|intro _
 rename_i cx
 refine GO.ef (Ef.a6 (nk ad b.length c) rfl) ac ?_
 rintro _ _ ⟨bx,rfl,rfl⟩
 repeat first|refine run ?_|intro _
 refine G.rangeFunc (pQ (L0:=L) bx ad c b hb hc ab) rfl Bg ac (by simp) (fun k=>[hex fun x:SlV=>aX (pV cx ((aZ b).take k) x)]) ?_ ?_ ?_
 ·refine Ent.e9 (f:=pV cx ((aZ b).take 0)) ⟨some ⟨mb,0,none⟩,0,(((b.length:Int) / 8+2)).toNat⟩ ?_
  simp only [List.take_zero,i64s,List.map_nil,List.length_nil,List.cons_append,List.nil_append]
  exact ae
 ·intro k hk
  rw [List.length_map] at hk
  have hwk:=iB hb _ (List.getElem_mem hk)
  have hwn:=fA b
  have hnw:eV b.length=(b.length+7) / 8:=rfl
  have hil:=mE ((aZ b).take k)
  rw [List.length_take] at hil
  simp only [List.getElem_map]
  show G _ _ _ ((14,.int .u64 ((aZ b)[k]:Int))::_) _ _
  refine G.c6 (f:=pV cx ((aZ b).take k)) ?_
  intro x
  simp only [List.cons_append,List.nil_append]
  repeat first|refine run ?_|intro _
  refine GO.ef (Ef.a7 (e:=IntKind.i64.wrap (((aZ b)[k]:Nat):Int)) rfl rfl rfl rfl rfl (by rfl) (eS _ _) ab ab) ac ?_
  rintro _ _ ⟨ad2,cap2,rfl,rfl⟩
  repeat first|refine run ?_|intro _
  refine KX.round ?_
  refine Ent.e9 (f:=pV cx ((aZ b).take (k+1))) ⟨ad2,0,cap2⟩ ?_
  simp only [List.cons_append,List.nil_append]
  rw [List.take_succ_eq_append_getElem hk,sL]
  exact ae
 rw [List.length_map,List.take_length]
 simp only [List.cons_append,List.nil_append]
 repeat first|refine run ?_|intro _
 refine GO.c7 (f:=pV cx (aZ b)) ?_
 intro x
 have hwn:=fA b
 have hnw:eV b.length=(b.length+7) / 8:=rfl
 have hil:=mE (aZ b)
 have hbk:(((i64s (aZ b))++[(b.length:Int)]).map fun x=>(IntKind.u64.wrap x).toNat)=aZ b++[b.length]:=by
  rw [List.map_append,nJ (iB hb)]
  simp only [List.map_cons,List.map_nil]
  rw [IntWalk.u64_in _ ab]
  simp
 simp only [List.cons_append,List.nil_append]
 repeat first|refine run ?_|intro _
 refine GO.ef (Ef.a7 (e:=((b.length:Nat):Int)) rfl rfl rfl rfl rfl (by rfl) (eS _ _) ab ab) ac ?_
 rintro _ _ ⟨ad2,cap2,rfl,rfl⟩
 refine GO.ef (Ef.a6 (ud label ad2 _ cap2 (i64s (aZ b)++[(b.length:Int)]) rfl hls (by simp;omega)) rfl) ac ?_
 rintro _ _ ⟨rfl,rfl⟩
 rw [hbk]
 repeat first|refine run ?_|intro _
 refine KX.a6 ai ?_ ⟨rfl,rfl⟩
 refine Ent.trans Ent.drop (Ent.trans Ent.drop ?_)
 exact ae
end
end Go.Proofs.YtfmgkkofledkbaaGreatDoor
namespace Go.Proofs.YtfmgkkofledkbaaGreatDoor
open Go.V
end Go.Proofs.YtfmgkkofledkbaaGreatDoor
namespace Go.Proofs.YtfmgkkofledkbaaGreatDoor
open Go.V
def gD (label:List Int) (key at_:Nat):Nat:=sumN label [key,at_]
theorem Ea (label:List Int) (key a:Nat):gD label key a<18446744073709551616:=ji _ _
def accW (w n:Nat):Prop:=w / n*n+n≤18446744073709551616
instance (w n:Nat):Decidable (accW w n):=by unfold accW;infer_instance
def gB (label:List Int) (key n:Nat):Nat→Nat→Int×Int×Nat
 | 0,a=>(0,4,a)
 | f+1,a=>if accW (gD label key a) n then (((gD label key a % n:Nat):Int),0,a+1) else gB label key n f (a+1)
theorem mg {label:List Int} {key n:Nat} (hn:0<n):∀ (f a:Nat),0≤(gB label key n f a).1∧(gB label key n f a).1<n∧a≤(gB label key n f a).2.2∧(gB label key n f a).2.2≤a+f∧((gB label key n f a).2.1=0∨(gB label key n f a).2.1=4)
 | 0,a=>by
  show 0≤(0:Int)∧(0:Int)<(n:Int)∧a≤a∧a≤a+0∧((4:Int)=0∨(4:Int)=4)
  omega
 | f+1,a=>by
  unfold gB
  split
  ·have:=Nat.mod_lt (gD label key a) hn
   dsimp only
   omega
  ·have:=mg (label:=label) (key:=key) hn f (a+1)
   omega
theorem Dh {w n:Nat} (hn:0<n) (h:w<18446744073709551616 - 18446744073709551616 % n):accW w n:=by
 unfold accW
 have h1:=Nat.div_add_mod 18446744073709551616 n
 have h2:w / n<18446744073709551616 / n:=by
  rw [Nat.div_lt_iff_lt_mul hn,Nat.mul_comm]
  omega
 have h3:(w / n+1)*n≤18446744073709551616 / n*n:=Nat.mul_le_mul_right _ h2
 rw [Nat.add_mul,Nat.one_mul,Nat.mul_comm (18446744073709551616 / n) n] at h3
 omega
theorem Eo {w n:Nat} (hn:0<n) (hw:w<18446744073709551616):accW w n↔¬(0<(18446744073709551615 % n+1) % n∧18446744073709551616 - (18446744073709551615 % n+1) % n≤w):=by
 have e:(18446744073709551615 % n+1) % n=18446744073709551616 % n:=by
  rw [Nat.mod_add_mod]
 rw [e]
 constructor
 ·rintro h ⟨h1,h2⟩
  unfold accW at h
  have h3:=Nat.div_add_mod 18446744073709551616 n
  have h4:(w / n+1)*n≤18446744073709551616:=by rw [Nat.add_mul];omega
  have h5:w / n+1≤18446744073709551616 / n:=(Nat.le_div_iff_mul_le hn).2 h4
  have h6:w<(w / n+1)*n:=by
   have:=Nat.lt_div_mul_add (a:=w) hn
   rw [Nat.add_mul];omega
  have h7:(w / n+1)*n≤18446744073709551616 / n*n:=Nat.mul_le_mul_right _ h5
  rw [Nat.mul_comm (18446744073709551616 / n) n] at h7
  omega
 ·intro h
  by_cases h0:18446744073709551616 % n=0
  ·exact Dh hn ab
  ·refine Dh hn ?_
   have hm:18446744073709551616 % n≤18446744073709551616:=Nat.mod_le _ _
   omega
theorem Di {w n:Nat} (hn:0<n) (hw:w<18446744073709551616):accW w n↔¬(18446744073709551615 - w<n - 1 - w % n):=by
 unfold accW
 have h1:=Nat.div_add_mod w n
 have h2:=Nat.mod_lt w hn
 rw [Nat.mul_comm] at h1
 omega
end Go.Proofs.YtfmgkkofledkbaaGreatDoor
namespace Go.V
theorem Ev.z8 {P:Program} {env:Env} {L:List HP} {ty t:TypeId} {x:Operand} {a:Nat} (hx:evE env x=some (.int .u64 (a:Int))) (h0:0<a) (h1:a<18446744073709551616):Ev P L env (.unOp .neg t x) ty (.int .u64 ((18446744073709551616 - a:Nat):Int)) :=
 Ev.mk (fun _ _ _ w ea _ _ _ _ _=>by
  have hw:IntKind.u64.wrap (0 - (a:Int))=((18446744073709551616 - a:Nat):Int):=by rw [IntKind.wrap_u64];omega
  simp [execOp,ao ea hx,Op.unary,Op.intArith] at hw ⊢
  exact hw)
end Go.V
namespace Go.Proofs.YtfmgkkofledkbaaGreatDoor
open Go.V
attribute [local irreducible] G GO GP GPW GPK Ev Ef EfR Ent CB GB Enters
section
abbrev tY:ByteArray:={ data:=#[119,111,114,100] }
def jt:List Int:=[119,111,114,100]
theorem tX:aD tY=jt:=by decide
def dw (key at_:Nat):Nat:=gD jt key at_
theorem EA (key a:Nat):dw key a<18446744073709551616:=Ea _ _ _
theorem pR {key at_:Nat} (hk:key<18446744073709551616) (ha:at_<18446744073709551616):([IntKind.i64.wrap (key:Int),(at_:Int)].map fun x=>(IntKind.u64.wrap x).toNat)=[key,at_]:=by
 have h1:=nJ (l:=[key]) (by simpa using hk)
 simp only [i64s,List.map_cons,List.map_nil] at h1 ⊢
 have h2:(IntKind.u64.wrap (IntKind.i64.wrap (key:Int))).toNat=key:=by simpa using h1
 rw [h2,IntWalk.u64_in (at_:Int) ab,Int.toNat_natCast]
theorem vX {L:List HP} (key at_:Nat) (hk:key<18446744073709551616) (ha:at_<4611686018427387904) :
  Tri Tryz.prog 162 #[.int .u64 (key:Int),.int .i64 (at_:Int)] L (fun v L'=>v=.int .u64 (dw key at_:Int)∧L' = L):=by
 refine Tri.body (args:=[.int .u64 (key:Int),.int .i64 (at_:Int)]) 10 IE Tryz.func162 rfl rfl rfl (by simp) ?_
 repeat first|refine aa ?_|intro _
 rename_i b
 refine GO.ent (Ent.c6 (enc:=encZ .i64) (sz:=1) (xs:=[IntKind.i64.wrap (key:Int),(at_:Int)]) rfl rfl (fun _ _=>rfl) (by simp)) ?_
 refine GO.ef (Ef.a6 (ud tY (some ⟨b,0,none⟩) 2 2 [IntKind.i64.wrap (key:Int),(at_:Int)] rfl ac (by simp)) rfl) ac ?_
 rintro _ _ ⟨rfl,rfl⟩
 rw [pR hk ab,tX]
 repeat first|refine aa ?_|intro _
 exact KX.a6 ai Ent.drop ⟨rfl,rfl⟩
theorem wu {L:List HP} (w n:Nat) (hw:w<18446744073709551616) (h1:1≤n) (h2:n≤4611686018427387904) :
  Tri Tryz.prog 110 #[.int .u64 (w:Int),.int .i64 (n:Int)] L (fun v L'=>v=.tuple #[.int .i64 (if accW w n then ((w % n:Nat):Int) else 0),.bool (dB (accW w n))]∧L' = L):=by
 have hm1:=Nat.mod_lt 18446744073709551615 (show 0<n by omega)
 have hm2:=Nat.mod_lt (18446744073709551615 % n+1) (show 0<n by omega)
 have hm3:=Nat.mod_lt w (show 0<n by omega)
 have hap:=Eo (n:=n) ab hw
 refine Tri.body (args:=[.int .u64 (w:Int),.int .i64 (n:Int)]) 29 Jw Tryz.func110 rfl rfl rfl (by simp) ?_
 repeat first|refine aa ?_|intro _
 rw [show (18446744073709551615:Int) % (n:Int)=((18446744073709551615 % n:Nat):Int) from rfl]
 generalize 18446744073709551615 % n=r1 at hm1 hm2 hap
 refine GO.ev (Ev.c9 (a:=r1) (b:=1) ab rfl rfl) ac ?_
 repeat first|refine aa ?_|intro _
 rw [show (((r1+1:Nat)):Int) % (n:Int)=(((r1+1) % n:Nat):Int) from rfl]
 generalize (r1+1) % n=r2 at hm2 hap
 by_cases h0:0<r2
 ·repeat first|refine aa ?_|intro _
  refine GO.ev (Ev.z8 rfl h0 ab) ac ?_
  by_cases h3:18446744073709551616 - r2≤w
  ·have hna:¬accW w n:=fun h=>hap.1 h ⟨h0,h3⟩
   rw [if_neg hna,an hna]
   repeat first|refine aa ?_|intro _
   exact KX.a6 ai (Ent.refl _) ⟨rfl,rfl⟩
  ·have ha:accW w n:=hap.2 (fun h=>h3 h.2)
   rw [if_pos ha,aw ha]
   repeat first|refine aa ?_|intro _
   exact KX.a6 ai (Ent.refl _) ⟨rfl,rfl⟩
 ·have ha:accW w n:=hap.2 (fun h=>h0 h.1)
  rw [if_pos ha,aw ha]
  repeat first|refine aa ?_|intro _
  exact KX.a6 ai (Ent.refl _) ⟨rfl,rfl⟩
abbrev FY:Nat:=128
abbrev qd:Nat:=46
abbrev gg (d key at_:Nat):HP:=obj d FY [.int .u64 (key:Int),.int .i64 (at_:Int)]
def ly (key at_:Nat):List (List Value):=(List.range 128).map (fun k=>[.int .u64 (dw key (at_+k):Int)])
theorem jX (key at_:Nat):(ly key at_).length=128:=by simp [ly]
theorem pS {key at_ k:Nat} (h:k<(ly key at_).length):(ly key at_)[k]=[.int .u64 (dw key (at_+k):Int)]:=by simp [ly]
abbrev AJ:List Stp:=[.ev 0,.ev 1,.ev 2,.ev 3,.ev 4,.ev 5,.ev 6,.ev 7,.ef 8,.ev 9]
theorem fV {φ ψ:Prop} (k:ψ) (h:Hid ψ→φ:=by intro k;(with_reducible apply G.a7);first|refine G.a6 (N:=27) (id:=2) AJ mixed ah (Hid.out k)):φ:=h ⟨k⟩
theorem yl (bx d key at_:Nat) (hk:key<18446744073709551616) (ha:at_≤1000000000000) :
  EE Tryz.prog 161 [.pointer (some ⟨bx,0,none⟩)] (ly key at_) [obj bx qd [.pointer (some ⟨d,0,none⟩)],gg d key at_] [obj bx qd [.pointer (some ⟨d,0,none⟩)],gg d key (at_+128)] (fun k=>[obj bx qd [.pointer (some ⟨d,0,none⟩)],gg d key (at_+(k+1))]):=by
 intro l J Jx hy
 rw [jX]
 have hy' : ∀ k,k<128→YTri Tryz.prog l [.int .u64 (dw key (at_+k):Int)] [J k] (fun v L'=>(v=.bool true∧L' = [J (k+1)])∨(v=.bool false∧L' = [Jx k])):=by
  intro k hk
  have h:=hy k (by rw [jX];exact hk)
  rw [pS] at h
  exact h
 clear hy
 refine Tri.body (args:=[.func (.yield l) #[] #[],.pointer (some ⟨bx,0,none⟩)]) 27 Ey Tryz.func161 rfl rfl rfl (by simp) ?_
 repeat first|refine aa ?_|intro _|refine fV ?_
 refine G.loop (α:=Nat) (fun k=>k≤128) (fun k=>[(0,.func (.yield l) #[] #[]),(1,.pointer (some ⟨bx,0,none⟩)),(4,.int .i64 (k:Int))]) (fun k=>[J k,obj bx qd [.pointer (some ⟨d,0,none⟩)],gg d key (at_+k)]) (fun k=>128 - k) 0 ac aj (Ent.refl _) ?_
 intro k hk2
 by_cases hlt:k<128
 case neg =>
  have hkn:k=128:=ab
  subst hkn
  repeat first|refine aa ?_|intro _|refine fV ?_
  exact KX.a8 ai (Ent.refl _) (.inl rfl)
 repeat first|refine aa ?_|intro _|refine fV ?_
 refine GPW.ef (Ef.a6 (vX key (at_+k) hk ab) rfl) ac ?_
 rintro _ _ ⟨rfl,rfl⟩
 repeat first|refine aa ?_|intro _|refine fV ?_
 rw [show ((at_+k:Nat):Int)+1=((at_+(k+1):Nat):Int) by omega]
 ((with_reducible apply GO.a6);refine GO.efR (EfR.yield (hy' k hlt) rfl rfl (by repeat (first|exact Ent.refl _|apply Ent.take))) ac ?_)
 rintro _ _ ⟨_,(⟨rfl,rfl⟩|⟨rfl,rfl⟩),hL⟩
 ·simp only [List.cons_append,List.nil_append] at hL;subst hL
  repeat first|refine aa ?_|intro _|refine fV ?_
  refine ⟨k+1,ab,ab,?_,by exact ae⟩
  rw [show (((k+1:Nat)):Int)=(k:Int)+1 by omega]
  exact aj
 ·simp only [List.cons_append,List.nil_append] at hL;subst hL
  repeat first|refine aa ?_|intro _|refine fV ?_
  refine KX.a6 ai ?_ (.inr ⟨k,rfl⟩)
  exact ae
def bU (key n at_:Nat):Int×Int×Nat:=gB jt key n 128 at_
theorem kc (label:List Int) (key n f a:Nat):gB label key n (f+1) a=if accW (gD label key a) n then (((gD label key a % n:Nat):Int),0,a+1) else gB label key n f (a+1):=rfl
theorem Dq {label:List Int} {key n:Nat} (f:Nat):∀ (a k:Nat),k<f→(∀ i,i<k→¬accW (gD label key (a+i)) n)→accW (gD label key (a+k)) n→gB label key n f a=(((gD label key (a+k) % n:Nat):Int),0,a+(k+1)):=by
 induction f with
 | zero=>intro a k h;omega
 | succ f ih =>
  intro a k h hr hacc
  rw [kc]
  cases k with
  | zero =>
   rw [Nat.add_zero] at hacc
   rw [if_pos hacc]
   rfl
  | succ k =>
   have h0:=hr 0 ab
   rw [Nat.add_zero] at h0
   have e:a+1+k=a+(k+1):=ab
   have h1:=ih (a+1) k ab (fun i hi=>by have:=hr (i+1) ab;rw [show a+1+i=a+(i+1) by omega];exact this) (by rw [e];exact hacc)
   rw [if_neg h0,h1,e,show a+1+(k+1)=a+(k+1+1) by omega]
theorem zv {label:List Int} {key n:Nat} (f:Nat):∀ a:Nat,(∀ i,i<f→¬accW (gD label key (a+i)) n)→gB label key n f a=(0,4,a+f):=by
 induction f with
 | zero=>intro a _;rfl
 | succ f ih =>
  intro a hr
  have h0:=hr 0 ab
  rw [Nat.add_zero] at h0
  rw [kc,if_neg h0,ih (a+1) (fun i hi=>by have:=hr (i+1) ab;rw [show a+1+i=a+(i+1) by omega];exact this),show a+1+f=a+(f+1) by omega]
theorem fU {φ ψ:Prop} (k:ψ) (h:Hid ψ→φ:=by intro k;first|((with_reducible apply GO.a6);refine GO.c6 tT Tryz.func109 rfl rfl rfl rfl (by simp) ac (Hid.out k))|((with_reducible apply GPW.a6);refine GPW.c6 tT Tryz.func109 rfl rfl rfl rfl (by simp) ac (Hid.out k))|((with_reducible apply GO.a6);refine GO.a7 rfl tT Tryz.func109 rfl rfl rfl rfl (by simp) ac (Hid.out k))|((with_reducible apply GPW.a6);refine GPW.a8 rfl tT Tryz.func109 rfl rfl rfl rfl (by simp) ac (Hid.out k))|((with_reducible apply KX.c7);first|refine KX.in0 (.inl rfl) (Hid.out k)|refine KX.in0 (.inr rfl) (Hid.out k)|refine KX.in1 (.inl rfl) rfl (Hid.out k)|refine KX.in2 (.inl rfl) rfl rfl (Hid.out k)|refine KX.in3 (.inl rfl) rfl rfl rfl (Hid.out k)|refine KX.inC (.inl rfl) rfl (by rfl) (Hid.out k)|refine KX.c6 (.inl rfl) rfl (by rfl) rfl (Hid.out k))):φ:=h ⟨k⟩
theorem sr (d key at_ n:Nat) (hk:key<18446744073709551616) (ha:at_≤1000000000000) (h1:1≤n) (h2:n≤4611686018427387904) :
  Tri Tryz.prog 55 #[.pointer (some ⟨d,0,none⟩),.int .i64 (n:Int)] [gg d key at_] (fun v L'=>v=.tuple #[.int .i64 (bU key n at_).1,.int .i64 (bU key n at_).2.1]∧L' = [gg d key (bU key n at_).2.2]):=by
 refine Tri.body (args:=[.pointer (some ⟨d,0,none⟩),.int .i64 (n:Int)]) 22 en55 Tryz.func55 rfl rfl rfl (by simp) ?_
 repeat first|refine aa ?_|intro _|refine fU ?_
 rename_i b3 b4 b5 bx
 refine G.d9 (yl bx d key at_ hk ha) rfl Ey ac ?_ (fun k=>[bK (∀ i,i<k→¬accW (dw key (at_+i)) n),obj b3 3 [.int .i64 (n:Int)],obj b4 3 [.int .i64 0],obj b5 43 [.int .i64 0]]) ?_ ?_ ?_
 ·intro vs hvs
  obtain ⟨k,_,rfl⟩:=List.mem_map.1 hvs
  rfl
 ·refine Ent.pure (fun i hi=>by omega) ?_
  exact ae
 ·intro k hk2
  have hk3:k<128:=by rw [jX] at hk2;exact hk2
  rw [pS]
  show G _ _ _ ((13,.int .u64 (dw key (at_+k):Int))::_) _ _
  refine G.c8 ?_
  intro hr
  repeat first|refine aa ?_|intro _|refine fU ?_
  refine GO.ef (Ef.a6 (wu (dw key (at_+k)) n (EA _ _) h1 h2) rfl) ac ?_
  rintro _ _ ⟨rfl,rfl⟩
  by_cases hacc:accW (dw key (at_+k)) n
  ·rw [if_pos hacc,aw hacc]
   have e:bU key n at_=(((dw key (at_+k) % n:Nat):Int),0,at_+(k+1)):=Dq 128 at_ k hk3 hr hacc
   rw [e]
   repeat first|refine aa ?_|intro _|refine fU ?_
   refine KX.f8 ?_
   simp only [List.cons_append,List.nil_append]
   repeat first|refine aa ?_|intro _|refine fU ?_
   refine KX.a6 (vs:=[.int .i64 ((dw key (at_+k) % n:Nat):Int),.int .i64 0]) (ResOk.a6 rfl (ResOk.a6 rfl ResOk.nil)) ?_ ⟨rfl,rfl⟩
   exact ae
  ·rw [if_neg hacc,an hacc]
   repeat first|refine aa ?_|intro _|refine fU ?_
   refine KX.round ?_
   refine Ent.pure ?_ ae
   intro i hi
   by_cases h:i<k
   ·exact hr i h
   ·obtain rfl:i=k:=ab
    exact hacc
 ·rw [jX]
  simp only [List.cons_append,List.nil_append]
  refine KX.a7 (KX.e9 ?_)
  refine G.c8 ?_
  intro hr
  have e:bU key n at_=(0,4,at_+128):=zv 128 at_ hr
  rw [e]
  repeat first|refine aa ?_|intro _|refine fU ?_
  refine KX.a6 (vs:=[.int .i64 0,.int .i64 4]) (ResOk.a6 rfl (ResOk.a6 rfl ResOk.nil)) ?_ ⟨rfl,rfl⟩
  exact ae
end
end Go.Proofs.YtfmgkkofledkbaaGreatDoor
namespace Go.Proofs.YtfmgkkofledkbaaGreatDoor
open Go.V
theorem vW (l:List Int) {j:Nat} (h:j<l.length):dC (l.drop j)=(l[j]).toNat+256*dC (l.drop (j+1)):=by
 rw [List.drop_eq_getElem_cons h]
 rfl
theorem yZ {l:List Int} (h:dy l) (hl:l.length≤7):dC l<72057594037927936:=by
 have h1:=kK h
 have h2:256 ^ l.length≤256 ^ 7:=Nat.pow_le_pow_right ac hl
 have h3:(256:Nat) ^ 7=72057594037927936:=by decide
 omega
attribute [local irreducible] G GO GP GPW GPK Ev Ef EfR Ent CB GB
theorem nK (s w:Nat) (hs:s<18446744073709551616) (hw:w<18446744073709551616) :
  Tri Tryz.prog 324 #[.int .u64 s,.int .u64 w] [] (fun v L=>v=.int .u64 (mixN s w)∧L=[]):=by
 refine Tri.body (args:=[.int .u64 (s:Int),.int .u64 (w:Int)]) 14 Gy Tryz.func324 rfl rfl rfl (by simp) ?_
 repeat first|refine run ?_|intro _
 refine GO.ev (Ev.l8 rfl rfl ab ab ab ab) ac ?_
 rw [Int.toNat_natCast,Int.toNat_natCast]
 have hx:=pj hs hw
 have e1:IntKind.u64.wrap (((s ^^^ w:Nat):Int)*11400714819323198485)=(((s ^^^ w)*fac % 18446744073709551616:Nat):Int):=by
  rw [IntKind.wrap_u64]
  simp [fac]
 refine GO.ev (Ev.o6 rfl rfl) ac ?_
 rw [e1]
 have hm:=Nat.mod_lt ((s ^^^ w)*fac) (show 0<18446744073709551616 by decide)
 obtain ⟨m,hmm⟩:∃ m:Nat,(s ^^^ w)*fac % 18446744073709551616=m:=⟨_,rfl⟩
 rw [hmm] at hm ⊢
 repeat first|refine run ?_|intro _
 refine GO.ev (Ev.w6 rfl rfl ab ab ac) ac ?_
 rw [show ((m:Nat):Int) / 4294967296=((m / 4294967296:Nat):Int) by omega]
 refine GO.ev (Ev.l8 rfl rfl ab ab ab ab) ac ?_
 rw [Int.toNat_natCast,Int.toNat_natCast]
 repeat first|refine run ?_|intro _
 exact KX.a6 ai (Ent.refl _) ⟨by simp only [resV,mixN,hmm],rfl⟩
def encU (w:Nat):List Value:=[.int .u64 (w:Int)]
theorem DZ (w:Nat):∀ u∈encU w,u.oneCell' = true:=by simp [encU,Value.oneCell']
theorem vo {L:List HP} (ad:Option Addr) (n c:Nat) (b:List Int) [hrd:Rds L ad Int (encZ .u8) 1 b] (hb:dy b) (hn:n=b.length) (hm:n≤1000000000) :
  Tri Tryz.prog 323 #[.slice ad n c] L (fun v L'=>∃ ad' cap',v=.slice ad' (aZ b).length cap'∧L' = osl encU 1 125 ad' cap' (aZ b)::L):=by
 subst hn
 have hwn:=fA b
 have hnw:eV b.length=(b.length+7) / 8:=rfl
 refine Tri.body (args:=[.slice ad b.length c]) 37 Gz Tryz.func323 rfl rfl rfl (by simp) ?_
 repeat first|refine run ?_|intro _
 refine G.loop (α:=Nat×Option Addr×Nat) (fun g=>g.1≤eV b.length) (fun g=>[(0,.slice ad b.length c),(3,.slice g.2.1 ((aZ b).take g.1).length g.2.2),(4,.int .i64 ((8*g.1:Nat):Int))]) (fun g=>osl encU 1 125 g.2.1 g.2.2 ((aZ b).take g.1)::L) (fun g=>eV b.length - g.1) (0,none,0) (Nat.zero_le _) aj (Ent.a7 encU 1 _) ?_
 rintro ⟨k,ad',cap'⟩ hk
 simp only [] at hk ⊢
 by_cases hlt:8*k<b.length
 case neg =>
  have hkn:k=(aZ b).length:=ab
  subst hkn
  rw [List.take_length]
  repeat first|refine run ?_|intro _
  exact KX.a6 ai (Ent.refl _) ⟨ad',cap',rfl,rfl⟩
 have hk2:k<(aZ b).length:=ab
 have hcl:=nZ b k
 have hcb:=mP hb k
 have htl:((aZ b).take k).length=k:=by rw [List.length_take];omega
 repeat first|((fail_if_success (with_reducible refine G.c7 6 ?_));(with_reducible apply G.seq))|refine runS ?_|intro _
 refine G.a8 (α:=Unit) (fun _=>True) (fun _=>[(0,.slice ad b.length c),(3,.slice ad' ((aZ b).take k).length cap'),(4,.int .i64 ((8*k:Nat):Int)),(5,.int .u64 (dC (cM b k):Int))]) (fun _=>osl encU 1 125 ad' cap' ((aZ b).take k)::L) ?_ ?_
 ·repeat first|refine run ?_|intro _
  refine G.loop (α:=Nat) (fun j=>j≤(cM b k).length) (fun j=>[(0,.slice ad b.length c),(3,.slice ad' ((aZ b).take k).length cap'),(4,.int .i64 ((8*k:Nat):Int)),(5,.int .u64 (dC ((cM b k).drop j):Int)),(6,.int .i64 (((8*k+j:Nat):Int) - 1))]) (fun _=>osl encU 1 125 ad' cap' ((aZ b).take k)::L) (fun j=>j) (cM b k).length (Nat.le_refl _) ?_ (Ent.refl _) ?_
  ·rw [List.drop_length,show (((8*k+(cM b k).length:Nat):Int) - 1)=min (((8*k:Nat):Int)+8) (b.length:Int) - 1 by omega]
   exact aj
  intro j hj
  by_cases hj2:0<j
  case neg =>
   have:j=0:=ab
   subst this
   repeat first|refine run ?_|intro _
   rw [List.drop_zero]
   exact ⟨(),trivial,aj,Ent.refl _⟩
  have hbv:b[(((8*k+j:Nat):Int) - 1).toNat]! = (cM b k)[j - 1]:=by
   simp only [cM,List.getElem_take,List.getElem_drop]
   rw [List.getElem!_eq_getElem?_getD,show (((8*k+j:Nat):Int) - 1).toNat=8*k+(j - 1) by omega,List.getElem?_eq_getElem ab]
   rfl
  have hbb:=hcb _ (List.getElem_mem (show j - 1<(cM b k).length by omega))
  obtain ⟨cN,hcN⟩:∃ cN:Nat,(cM b k)[j - 1]=(cN:Int):=⟨((cM b k)[j - 1]).toNat,ab⟩
  have hw7:=yZ (fun x hx=>hcb x (List.mem_of_mem_drop hx):dy ((cM b k).drop j)) (by simp;omega)
  have hwd:=vW (cM b k) (show j - 1<(cM b k).length by omega)
  rw [show j - 1+1=j by omega,hcN,Int.toNat_natCast] at hwd
  rw [hcN] at hbv hbb
  obtain ⟨W,hW⟩:∃ W,dC ((cM b k).drop j)=W:=⟨_,rfl⟩
  rw [hW] at hw7 hwd ⊢
  repeat first|refine run ?_|intro _
  refine GO.ev (Ev.o6 rfl rfl) ac ?_
  rw [IntWalk.u64_in (256*(W:Int)) ab]
  repeat first|refine run ?_|intro _
  refine GO.ev (Ev.o7 rfl rfl) ac ?_
  rw [hbv,IntWalk.u64_in (256*(W:Int)+(cN:Int)) ab]
  repeat first|refine run ?_|intro _
  refine ⟨j - 1,ab,ab,?_,Ent.refl _⟩
  rw [hwd,show (((cN+256*W:Nat)):Int)=256*(W:Int)+(cN:Int) by omega,show (((8*k+(j - 1):Nat):Int) - 1)=((8*k+j:Nat):Int) - 1 - 1 by omega]
  exact aj
 rintro _ _
 repeat first|refine run ?_|intro _
 refine GO.ef (Ef.a7 (e:=dC (cM b k)) rfl rfl rfl rfl rfl (by rfl) (DZ _) ab ab) ac ?_
 rintro _ _ ⟨ad2,cap2,rfl,rfl⟩
 repeat first|refine run ?_|intro _
 refine ⟨(k+1,ad2,cap2),by simp only [];omega,by simp only [];omega,?_,?_⟩
 ·simp only []
  rw [List.take_succ_eq_append_getElem hk2,lR b ab,show (((8*(k+1):Nat)):Int)=((8*k:Nat):Int)+8 by omega]
  exact aj
 ·simp only []
  rw [List.take_succ_eq_append_getElem hk2,lR b ab]
  exact Ent.refl _
theorem CI {L:List HP} (label:ByteArray) (ad:Option Addr) (n c:Nat) (l:List Int) [hrd:Rds L ad Int (encZ .i64) 1 l] (hn:n=l.length) (hls:label.size≤1000000) (hll:l.length≤1000000000) :
  Tri Tryz.prog 302 #[.string label,.slice ad n c] L (fun v L'=>v=.int .u64 (sumN (aD label) (l.map fun x=>(IntKind.u64.wrap x).toNat))∧L' = L):=by
 have hlb:dy (aD label):=by
  intro x hx
  simp only [aD,List.mem_map] at hx
  obtain ⟨y,_,rfl⟩:=hx
  have:=y.toNat_lt
  omega
 have hlen:=iU label
 refine Tri.body (args:=[.string label,.slice ad n c]) 49 GH Tryz.func302 rfl rfl rfl (by simp) ?_
 repeat first|refine run ?_|intro _
 refine GO.ef (Ef.j6 rfl) ac ?_
 rintro _ _ ⟨lb,lc,rfl,hlc,rfl⟩
 refine GO.ef (Ef.a6 (vo (some ⟨lb,0,none⟩) label.size lc (aD label) hlb hlen.symm ab) rfl) ac ?_
 rintro _ _ ⟨wad,wcap,rfl,rfl⟩
 obtain ⟨ww,hww⟩:∃ ww,aZ (aD label)=ww:=⟨_,rfl⟩
 have hwwb:∀ w∈ww,w<18446744073709551616:=by rw [← hww];exact iB hlb
 have hwwl:ww.length≤1000000:=by
  rw [← hww,fA]
  simp only [eV]
  omega
 rw [hww]
 repeat first|((fail_if_success (with_reducible refine G.c7 3 ?_));(with_reducible apply G.seq))|refine runS ?_|intro _
 refine G.a8 (α:=Unit) (fun _=>True) (fun _=>[(0,.string label),(1,.slice ad n c),(5,.int .u64 (ww.foldl mixN 0:Nat))]) (fun _=>L) ?_ ?_
 ·repeat first|refine run ?_|intro _
  refine G.loop (α:=Nat) (fun i=>i≤ww.length) (fun i=>[(0,.string label),(1,.slice ad n c),(5,.int .u64 ((ww.take i).foldl mixN 0:Nat)),(6,.slice wad ww.length wcap),(7,.int .i64 (i:Int))]) (fun _=>osl encU 1 125 wad wcap ww::L) (fun i=>ww.length - i) 0 (Nat.zero_le _) ?_ ae ?_
  ·rw [List.take_zero,List.foldl_nil]
   exact aj
  intro i hi
  by_cases hlt:i<ww.length
  case neg =>
   have:i=ww.length:=ab
   subst this
   rw [List.take_length]
   repeat first|refine run ?_|intro _
   exact ⟨(),trivial,aj,Ent.drop⟩
  have hwb:=hwwb _ (List.getElem_mem hlt)
  have hwe:ww[i]! = ww[i]:=by
   rw [List.getElem!_eq_getElem?_getD,List.getElem?_eq_getElem hlt]
   rfl
  repeat first|refine run ?_|intro _
  rw [Int.toNat_natCast,hwe]
  (first|refine GO.ef (Ef.call (nK ((ww.take i).foldl mixN 0) ww[i] (eu _ ac) hwb) rfl (by repeat (first|exact Ent.refl _|apply Ent.take))) ac ?_)
  rintro _ _ ⟨_,⟨rfl,rfl⟩,hL⟩
  simp only [List.cons_append,List.nil_append] at hL;subst hL
  rw [← gC mixN 0 ww hlt]
  repeat first|refine run ?_|intro _
  refine ⟨i+1,ab,ab,?_,Ent.refl _⟩
  rw [show (((i+1:Nat)):Int)=(i:Int)+1 by omega]
  exact aj
 rintro _ _
 obtain ⟨s0,hs0⟩:∃ s0,ww.foldl mixN 0=s0:=⟨_,rfl⟩
 have hs0' : s0<18446744073709551616:=by rw [← hs0];exact eu _ ac
 rw [hs0]
 repeat first|refine run ?_|intro _
 rw [← hlen]
 (first|refine GO.ef (Ef.call (nK s0 (aD label).length hs0' ab) rfl (by repeat (first|exact Ent.refl _|apply Ent.take))) ac ?_)
 rintro _ _ ⟨_,⟨rfl,rfl⟩,hL⟩
 simp only [List.nil_append] at hL
 rw [hL]
 clear hL
 obtain ⟨s1,hs1⟩:∃ s1,mixN s0 (aD label).length=s1:=⟨_,rfl⟩
 have hs1' : s1<18446744073709551616:=by rw [← hs1];exact ji _ _
 rw [hs1]
 repeat first|refine run ?_|intro _
 (first|refine GO.ef (Ef.call (nK s1 n hs1' ab) rfl (by repeat (first|exact Ent.refl _|apply Ent.take))) ac ?_)
 rintro _ _ ⟨_,⟨rfl,rfl⟩,hL⟩
 simp only [List.nil_append] at hL
 rw [hL]
 clear hL
 obtain ⟨s2,hs2⟩:∃ s2,mixN s1 n=s2:=⟨_,rfl⟩
 have hs2' : s2<18446744073709551616:=by rw [← hs2];exact ji _ _
 rw [hs2]
 repeat first|refine run ?_|intro _
 obtain ⟨ws,hws⟩:∃ ws,ws=l.map fun x=>(IntKind.u64.wrap x).toNat:=⟨_,rfl⟩
 have hwl:ws.length=l.length:=by rw [hws];simp
 refine G.loop (α:=Nat) (fun i=>i≤n) (fun i=>[(1,.slice ad n c),(5,.int .u64 ((ws.take i).foldl mixN s2:Nat)),(8,.int .i64 (i:Int))]) (fun i=>L) (fun i=>n - i) 0 (Nat.zero_le _) ?_ (Ent.refl _) ?_
 ·rw [List.take_zero,List.foldl_nil]
  exact aj
 intro i hi
 by_cases hlt:i<n
 case neg =>
  have:i=n:=ab
  subst this
  repeat first|refine run ?_|intro _
  (first|refine GO.ef (Ef.call (nK ((ws.take i).foldl mixN s2) 0 (eu _ hs2') ac) rfl (by repeat (first|exact Ent.refl _|apply Ent.take))) ac ?_)
  rintro _ _ ⟨_,⟨rfl,rfl⟩,hL⟩
  simp only [List.nil_append] at hL
  rw [hL]
  clear hL
  repeat first|refine run ?_|intro _
  refine KX.a6 ai (Ent.refl _) ⟨?_,rfl⟩
  simp only [resV]
  rw [hn,← hwl,List.take_length,sumN,← hws,hww,hs0,hs1,hwl,← hn,hs2]
 have hw:IntKind.u64.wrap (l[i]!)=((ws[i]'(by omega):Nat):Int):=by
  subst hws
  have h0:=wrap_u64_nonneg (l[i]!)
  rw [List.getElem_map,List.getElem!_eq_getElem?_getD,List.getElem?_eq_getElem ab] at *
  simp only [Option.getD_some] at *
  omega
 have hwb:ws[i]'(by omega)<18446744073709551616:=by
  have:=IntKind.wrap_u64 (l[i]!)
  omega
 repeat first|refine run ?_|intro _
 rw [Int.toNat_natCast,hw]
 (first|refine GO.ef (Ef.call (nK ((ws.take i).foldl mixN s2) (ws[i]'(by omega)) (eu _ hs2') hwb) rfl (by repeat (first|exact Ent.refl _|apply Ent.take))) ac ?_)
 rintro _ _ ⟨_,⟨rfl,rfl⟩,hL⟩
 simp only [List.nil_append] at hL
 rw [hL]
 clear hL
 rw [← gC mixN s2 ws ab]
 repeat first|refine run ?_|intro _
 refine ⟨i+1,ab,ab,?_,Ent.refl _⟩
 rw [show (((i+1:Nat)):Int)=(i:Int)+1 by omega]
 exact aj
theorem DP {L:List HP} (label:ByteArray) (ad:Option Addr) (n c:Nat) (b:List Int) [hrd:Rds L ad Int (encZ .u8) 1 b] (hb:dy b) (hn:n=b.length) (hls:label.size≤1000000) (hm:n≤100000000) :
  Tri Tryz.prog 303 #[.string label,.slice ad n c] L (fun v L'=>v=.int .u64 (bS (aD label) b)∧L' = L):=by
 subst hn
 have hwn:=fA b
 have hnw:eV b.length=(b.length+7) / 8:=rfl
 refine Tri.body (args:=[.string label,.slice ad b.length c]) 31 GG Tryz.func303 rfl rfl rfl (by simp) ?_
 repeat first|refine run ?_|intro _
 refine GO.ef (Ef.a6 (vo ad b.length c b hb rfl ab) rfl) ac ?_
 rintro _ _ ⟨wad,wcap,rfl,rfl⟩
 repeat first|((fail_if_success (with_reducible refine G.c7 3 ?_));(with_reducible apply G.seq))|refine runS ?_|intro _
 refine G.a8 (α:=SlV) (fun _=>True) (fun x=>[(0,.string label),(1,.slice ad b.length c),(6,.slice x.ad (i64s (aZ b)).length x.cap)]) (fun x=>osl (encZ .i64) 1 3 x.ad x.cap (i64s (aZ b))::L) ?_ ?_
 ·repeat first|refine run ?_|intro _
  refine G.loop (α:=Nat×SlV) (fun g=>g.1≤(aZ b).length) (fun g=>[(0,.string label),(1,.slice ad b.length c),(5,.slice wad (aZ b).length wcap),(6,.slice g.2.ad (i64s ((aZ b).take g.1)).length g.2.cap),(7,.int .i64 (g.1:Int))]) (fun g=>osl (encZ .i64) 1 3 g.2.ad g.2.cap (i64s ((aZ b).take g.1))::osl encU 1 125 wad wcap (aZ b)::L) (fun g=>(aZ b).length - g.1) (0,⟨none,0,0⟩) (Nat.zero_le _) aj (Ent.a7 (encZ .i64) 1 _) ?_
  rintro ⟨i,x⟩ hi
  simp only [] at hi ⊢
  have hil:=mE ((aZ b).take i)
  rw [List.length_take] at hil
  by_cases hlt:i<(aZ b).length
  case neg =>
   have:i=(aZ b).length:=ab
   subst this
   rw [List.take_length]
   repeat first|refine run ?_|intro _
   exact ⟨x,trivial,aj,by exact ae⟩
  have hwe:(aZ b)[i]! = (aZ b)[i]:=by
   rw [List.getElem!_eq_getElem?_getD,List.getElem?_eq_getElem hlt]
   rfl
  have hwb:=iB hb _ (List.getElem_mem hlt)
  repeat first|refine run ?_|intro _
  rw [Int.toNat_natCast,hwe]
  refine GO.ef (Ef.a7 (e:=IntKind.i64.wrap (((aZ b)[i]:Nat):Int)) rfl rfl rfl rfl rfl (by rfl) (eS _ _) ab ab) ac ?_
  rintro _ _ ⟨ad2,cap2,rfl,rfl⟩
  rw [← sL,← List.take_succ_eq_append_getElem hlt]
  repeat first|refine run ?_|intro _
  refine ⟨(i+1,⟨ad2,0,cap2⟩),by simp only [];omega,by simp only [];omega,?_,by exact ae⟩
  simp only []
  rw [show (((i+1:Nat)):Int)=(i:Int)+1 by omega]
  exact aj
 rintro x _
 have hil:=mE (aZ b)
 have hbk:(((i64s (aZ b))++[(b.length:Int)]).map fun x=>(IntKind.u64.wrap x).toNat)=aZ b++[b.length]:=by
  rw [List.map_append,nJ (iB hb)]
  simp only [List.map_cons,List.map_nil]
  rw [IntWalk.u64_in _ ab]
  simp
 repeat first|refine run ?_|intro _
 refine GO.ef (Ef.a7 (e:=((b.length:Nat):Int)) rfl rfl rfl rfl rfl (by rfl) (eS _ _) ab ab) ac ?_
 rintro _ _ ⟨ad2,cap2,rfl,rfl⟩
 refine GO.ef (Ef.a6 (CI label ad2 _ cap2 (i64s (aZ b)++[(b.length:Int)]) rfl hls (by simp;omega)) rfl) ac ?_
 rintro _ _ ⟨rfl,rfl⟩
 rw [hbk]
 repeat first|refine run ?_|intro _
 exact KX.a6 ai Ent.drop ⟨rfl,rfl⟩
end Go.Proofs.YtfmgkkofledkbaaGreatDoor
