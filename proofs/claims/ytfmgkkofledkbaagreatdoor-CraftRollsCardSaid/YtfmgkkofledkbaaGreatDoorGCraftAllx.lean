/- Lemmas and contracts of functions, in the order: O6, Z23, O8. -/
import Derived.Test.YtfmgkkofledkbaaGreatDoorGCraftAlls
import Derived.Test.YtfmgkkofledkbaaGreatDoorGCraftAllw
import Derived.Test.YtfmgkkofledkbaaGreatDoorGCraftAllq
import Derived.Test.YtfmgkkofledkbaaGreatDoorGCraftAlly
import Derived.Test.YtfmgkkofledkbaaGreatDoorGCraftAllk
set_option linter.all false
set_option maxHeartbeats 4000000
namespace Go.Proofs.YtfmgkkofledkbaaGreatDoor
open Go.V
attribute [local irreducible] G GO GP GPW GPK Ev Ef EfR Ent CB GB V.Enters
section
def de (rs:List RuM) (seed:List Int) (j:JobM):Prop:=dG rs j.rule false∧j.done=true∧cn j.times∧0≤j.won∧j.won≤j.times∧j.lost=j.times - j.won∧j.won=wonJ rs seed j
open Classical in
noncomputable instance (a b c):Decidable (de a b c):=inferInstance
attribute [local irreducible] bS cB da hitD bU
abbrev Cl:List Stp:=[.ev 0,.ev 1,.ev 2,.ev 3,.ev 4,.ef 5,.ev 6,.ev 7]
theorem dQ {φ ψ:Prop} (k:ψ) (h:Hid ψ→φ:=by intro k;(with_reducible apply G.a7);first|refine G.a6 (N:=58) (id:=4) Cl mixed ah (Hid.out k)):φ:=h ⟨k⟩
theorem Bt {L:List HP} (c:CatV) (hB:c.B) (hg:CatGood c.m) (ad:Option Addr) (cap:Nat) (seed:List Int) [hrd:Rds L ad Int (encZ .u8) 1 seed] (hb:dy seed) (hl:seed.length≤4096) (hcap:seed.length≤cap) (j:JobM) (hid:0≤j.id∧j.id<100) (hj:(-10000≤j.won∧j.won≤10000)∧-10000≤j.lost∧j.lost≤10000) :
  Tri Tryz.prog 28 #[.agg c.cells.toArray,.slice ad seed.length cap,.agg (aq j).toArray] (catP c::L) (fun v L'=>v=.bool (dB (de c.m.rules seed j))∧L' = catP c::L):=by
 have h64:=hg.rules
 refine Tri.body (args:=[.agg c.cells.toArray,.slice ad seed.length cap,.agg (aq j).toArray]) 58 en28 Tryz.func28 rfl rfl rfl (by simp) ?_
 simp only [aq]
 repeat first|refine aa ?_|intro _|refine dQ ?_
 rename_i b3
 refine GO.ent (L':=catP c::obj b3 tJob [.int .i64 j.id,.int .i64 j.acc,.int .i64 j.hold,.int .i64 j.rule,.int .i64 j.times,.int .i64 j.beg,.int .i64 j.fin,.bool j.done,.int .i64 j.won,.int .i64 j.lost]::L) ae ?_
 refine GO.ef (Ef.a6 (gt c hB j.rule false) rfl) ac ?_
 rintro _ _ (⟨hn,rfl,rfl⟩|⟨hr,rfl,rfl⟩)
 ·rw [an (fun h:de _ _ _=>hn h.1)]
  repeat first|refine aa ?_|intro _|refine dQ ?_
  exact KX.a6 ai ae ⟨rfl,rfl⟩
 obtain ⟨r,hrv⟩:∃ r,c.rules[j.rule.toNat]! = r:=⟨_,rfl⟩
 have hrl:c.m.rules.length=c.rules.length:=by simp [CatV.m]
 have hr0:=hr.1
 have hr1:=hr.2.1
 have hru:c.m.rules[j.rule.toNat]! = r.m:=by rw [← hrv];exact fD c.rules ab
 have hrg:=hg.ru _ (ap (show j.rule.toNat<c.m.rules.length by omega))
 rw [hru] at hrg
 obtain ⟨_,_,hof,hch1,hch2⟩:=hrg.num
 rw [hrv]
 cases hd:j.done with
 | false =>
  rw [an (fun h:de _ _ _=>by have:=h.2.1;rw [hd] at this;cases this)]
  repeat first|refine aa ?_|intro _|refine dQ ?_
  exact KX.a6 ai ae ⟨rfl,rfl⟩
 | true =>
 repeat first|refine aa ?_|intro _|refine dQ ?_
 (first|refine GO.ef (Ef.call (lp (L:=[]) j.times) rfl (by repeat (first|exact Ent.refl _|apply Ent.take))) ac ?_)
 rintro _ _ ⟨_,⟨rfl,rfl⟩,hL⟩
 simp only [List.cons_append,List.nil_append] at hL;subst hL
 by_cases h1:cn j.times
 case neg =>
  rw [an (fun h:de _ _ _=>h1 h.2.2.1),an h1]
  repeat first|refine aa ?_|intro _|refine dQ ?_
  exact KX.a6 ai ae ⟨rfl,rfl⟩
 rw [aw h1]
 have ht:0≤j.times∧j.times≤1000:=by unfold cn at h1;omega
 by_cases h2:0≤j.won
 case neg =>
  rw [an (fun h:de _ _ _=>h2 h.2.2.2.1)]
  repeat first|refine aa ?_|intro _|refine dQ ?_
  exact KX.a6 ai ae ⟨rfl,rfl⟩
 by_cases h3:j.won≤j.times
 case neg =>
  rw [an (fun h:de _ _ _=>h3 h.2.2.2.2.1)]
  repeat first|refine aa ?_|intro _|refine dQ ?_
  exact KX.a6 ai ae ⟨rfl,rfl⟩
 by_cases h4:j.lost=j.times - j.won
 case neg =>
  rw [an (fun h:de _ _ _=>h4 h.2.2.2.2.2.1)]
  repeat first|refine aa ?_|intro _|refine dQ ?_
  exact KX.a6 ai ae ⟨rfl,rfl⟩
 have hsucc:=fun (L:List HP) (h:Rds L ad Int (encZ .u8) 1 seed)=>sf (L:=L) ad cap seed hb hl hcap r { j with done:=true } hid ht ⟨hch1,hch2,hof.2⟩
 dsimp only at hsucc
 have hwj:da seed j.id j.times r.chance r.of_=wonJ c.m.rules seed j:=by
  unfold wonJ
  rw [hru]
  rfl
 rw [hwj] at hsucc
 repeat first|refine aa ?_|intro _|refine dQ ?_
 refine GPW.ef (Ef.a6 (hsucc _ inferInstance) rfl) ac ?_
 rintro _ _ ⟨rfl,rfl⟩
 repeat first|refine aa ?_|intro _|refine dQ ?_
 refine KX.a6 ai ae ⟨?_,rfl⟩
 by_cases h5:j.won=wonJ c.m.rules seed j
 ·rw [aw h5,aw (show de c.m.rules seed j from ⟨hr,hd,h1,h2,h3,h4,h5⟩)]
  rfl
 ·rw [an h5,an (fun h:de _ _ _=>h5 h.2.2.2.2.2.2)]
  rfl
end
section
attribute [local irreducible] bS cB da hitD bU
abbrev zM:List Stp:=[.ev 0,.ev 1,.ev 2,.ev 3,.ev 4,.ev 5,.ev 6,.ev 7,.ev 9,.ev 10,.ef 8,.ev 11,.ev 12]
theorem cU {φ ψ:Prop} (k:ψ) (h:Hid ψ→φ:=by intro k;(with_reducible apply G.a7);first|refine G.a6 (N:=79) (id:=5) zM mixed ah (Hid.out k)):φ:=h ⟨k⟩
theorem wx {L:List HP} (c:CatV) (hB:c.B) (hg:CatGood c.m) (ad:Option Addr) (cap:Nat) (seed:List Int) [hrd:Rds L ad Int (encZ .u8) 1 seed] (hb:dy seed) (hl:seed.length≤4096) (j:JobM) (hid:0≤j.id∧j.id<100) (hj:(-10000≤j.won∧j.won≤10000)∧-10000≤j.lost∧j.lost≤10000) :
  Tri Tryz.prog 29 #[.agg c.cells.toArray,.slice ad seed.length cap,.agg (aq j).toArray] (catP c::L) (fun v L'=>v=.bool (dB (de c.m.rules seed j))∧L' = catP c::L):=by
 have h64:=hB.rules
 have hrl:c.m.rules.length=c.rules.length:=by simp [CatV.m]
 refine Tri.body (args:=[.agg c.cells.toArray,.slice ad seed.length cap,.agg (aq j).toArray]) 79 en29 Tryz.func29 rfl rfl rfl (by simp) ?_
 refine G.ent catOpenR ?_
 simp only [CatV.cells,aq]
 by_cases h1:0≤j.rule
 case neg =>
  rw [an (fun h:de _ _ _=>h1 h.1.1)]
  repeat first|refine aa ?_|intro _|refine cU ?_
  exact KX.a6 ai ae ⟨rfl,rfl⟩
 by_cases h2:j.rule<c.rules.length
 case neg =>
  rw [an (fun h:de _ _ _=>h2 (by have:=h.1.2.1;omega))]
  repeat first|refine aa ?_|intro _|refine cU ?_
  exact KX.a6 ai ae ⟨rfl,rfl⟩
 have hil:j.rule.toNat<c.rules.length:=ab
 have hru:c.m.rules[j.rule.toNat]! = c.rules[j.rule.toNat]!.m:=fD c.rules hil
 cases hd:j.done with
 | false =>
  rw [an (fun h:de _ _ _=>by have:=h.2.1;rw [hd] at this;cases this)]
  repeat first|refine aa ?_|intro _|refine cU ?_
  exact KX.a6 ai ae ⟨rfl,rfl⟩
 | true =>
 by_cases h3:1≤j.times
 case neg =>
  rw [an (fun h:de _ _ _=>h3 h.2.2.1.1)]
  repeat first|refine aa ?_|intro _|refine cU ?_
  exact KX.a6 ai ae ⟨rfl,rfl⟩
 by_cases h4:j.times≤1000
 case neg =>
  rw [an (fun h:de _ _ _=>h4 h.2.2.1.2)]
  repeat first|refine aa ?_|intro _|refine cU ?_
  exact KX.a6 ai ae ⟨rfl,rfl⟩
 by_cases h5:0≤j.won
 case neg =>
  rw [an (fun h:de _ _ _=>h5 h.2.2.2.1)]
  repeat first|refine aa ?_|intro _|refine cU ?_
  exact KX.a6 ai ae ⟨rfl,rfl⟩
 by_cases h6:0≤j.lost
 case neg =>
  rw [an (fun h:de _ _ _=>h6 (by have:=h.2.2.2.2.1;have:=h.2.2.2.2.2.1;omega))]
  repeat first|refine aa ?_|intro _|refine cU ?_
  exact KX.a6 ai ae ⟨rfl,rfl⟩
 cases hsp:c.rules[j.rule.toNat]!.spawn with
 | true =>
  rw [an (fun h:de _ _ _=>by have:=h.1.2.2;rw [hru] at this;have e:c.rules[j.rule.toNat]!.m.spawn=c.rules[j.rule.toNat]!.spawn:=rfl;rw [e,hsp] at this;cases this)]
  repeat first|refine aa ?_|intro _|refine cU ?_
  rw [hsp]
  repeat first|refine aa ?_|intro _|refine cU ?_
  exact KX.a6 ai ae ⟨rfl,rfl⟩
 | false =>
 repeat first|refine aa ?_|intro _|refine cU ?_
 rw [hsp]
 by_cases h7:j.won≤j.times
 case neg =>
  rw [an (fun h:de _ _ _=>h7 h.2.2.2.2.1)]
  repeat first|refine aa ?_|intro _|refine cU ?_
  exact KX.a6 ai ae ⟨rfl,rfl⟩
 by_cases h8:j.won+j.lost=j.times
 case neg =>
  rw [an (fun h:de _ _ _=>h8 (by have:=h.2.2.2.2.2.1;omega))]
  repeat first|refine aa ?_|intro _|refine cU ?_
  exact KX.a6 ai ae ⟨rfl,rfl⟩
 obtain ⟨r,hrv⟩:∃ r,c.rules[j.rule.toNat]! = r:=⟨_,rfl⟩
 have hrg:=hg.ru _ (ap (show j.rule.toNat<c.m.rules.length by omega))
 rw [hru,hrv] at hrg
 rw [hrv] at hsp hru
 obtain ⟨_,_,hof,hch1,hch2⟩:=hrg.num
 have hsucc:=fun (L:List HP) (h:Rds L ad Int (encZ .u8) 1 seed)=>qv (L:=L) ad cap seed hb hl r { j with done:=true } hid ⟨by dsimp only;omega,h4⟩ ⟨hch1,hch2,hof.2⟩
 dsimp only at hsucc
 have hwj:da seed j.id j.times r.chance r.of_=wonJ c.m.rules seed j:=by
  unfold wonJ
  rw [hru]
  rfl
 rw [hwj] at hsucc
 repeat first|refine aa ?_|intro _|refine cU ?_
 rw [hrv]
 refine GPW.ef (Ef.a6 (hsucc _ inferInstance) rfl) ac ?_
 rintro _ _ ⟨rfl,rfl⟩
 repeat first|refine aa ?_|intro _|refine cU ?_
 refine KX.a6 ai ae ⟨?_,rfl⟩
 by_cases h9:wonJ c.m.rules seed j=j.won
 ·rw [aw h9,aw (show de c.m.rules seed j from ⟨⟨h1,ab,by rw [hru];exact hsp⟩,hd,⟨h3,h4⟩,h5,h7,ab,h9.symm⟩)]
  rfl
 ·rw [an h9,an (fun h:de _ _ _=>h9 h.2.2.2.2.2.2.symm)]
  rfl
end
section
def badJ (j:JobM) (w:Int):JobM:={ j with won:=w,lost:=j.times - w }
theorem Ga (n:Int):RunR 0 (led0 3 cat16) (bO (aR n)) (bO (aR n)).seed:=⟨rfl,fun k hk=>absurd hk (Nat.not_lt_zero k),fun k hk=>absurd hk (Nat.not_lt_zero k),⟨Int.le_refl 0,by decide⟩,⟨Int.le_refl 0,by show (0:Int)≤90;decide⟩⟩
theorem yz:∀ r∈(led0 3 cat16).cat.rules,r.time≤10:=by
 intro r hr
 have h:(cat16.rules.all fun r=>decide (r.time≤10))=true:=by decide
 exact of_decide_eq_true (List.all_eq_true.1 h r hr)
theorem jH (n:Int):(aR n).length=3:=rfl
theorem ni (b:Bool):(!(b == b))=false:=by cases b<;>rfl
attribute [local irreducible] runS advM aR
abbrev Ck:List Stp:=[.ev 0,.ev 1,.ev 2,.ef 3,.ev 4,.ev 5,.ev 6,.ef 7]
abbrev Cj:List Stp:=[.ev 0,.ev 1,.ev 3,.ev 5,.ev 6,.ev 8,.ef 2,.ef 4,.ef 7,.ef 9,.ef 10,.ev 11,.ev 12,.ev 13,.ev 14,.ev 15,.ev 17,.ev 19,.ev 20,.ev 21,.ev 23,.ef 16,.ef 18,.ef 22,.ef 24,.ef 25,.ev 26,.ev 27]
abbrev Ci:List Stp:=[.ev 0,.ev 1,.ev 2,.ev 3,.ev 4,.ev 5,.ev 6,.ev 7,.ev 8,.ev 9,.ev 10,.ev 11,.ev 12,.ev 13,.ev 14,.ef 15,.ev 16,.ev 17,.ev 18,.ev 19,.ev 20]
abbrev Ch:List Stp:=[.ev 0,.ev 1,.ev 2,.ev 3,.ev 4,.ev 5,.ev 6,.ev 8,.ef 7,.ef 9,.ev 10,.ev 11,.ev 12,.ev 13,.ev 14,.ev 15,.ev 16,.ev 17,.ev 18,.ev 19,.ev 20,.ev 22,.ef 21,.ef 23,.ev 24,.ev 25]
theorem aH {φ ψ:Prop} (k:ψ) (h:Hid ψ→φ:=by intro k;(with_reducible apply G.a7);first|refine G.a6 (N:=181) (id:=15) Ck mixed ah (Hid.out k)|refine G.a6 (N:=181) (id:=17) Cj mixed ah (Hid.out k)|refine G.a6 (N:=181) (id:=27) Ci mixed ah (Hid.out k)|refine G.a6 (N:=181) (id:=30) Ch mixed ah (Hid.out k)):φ:=h ⟨k⟩
theorem rj {L:List HP} (seed:Int) (hs:I64 seed) (ad:Option Addr) (n c:Nat) (xs:List Int) [hrd:Rds L ad Int (encZ .i64) 1 xs] (hn:n=xs.length) (hm:n≤9223372036854775807) (hx:∀ x∈xs,I64 x) (by_:Int) (hby:I64 by_) :
  Tri Tryz.prog 5 #[.int .i64 seed,.slice ad n c,.int .i64 by_] (aP::L) (fun v L'=>v=.bool true∧L' = L):=by
 refine Tri.body (args:=[.int .i64 seed,.slice ad n c,.int .i64 by_]) 181 en5 Tryz.func5 rfl rfl rfl (by simp) ?_
 repeat first|refine aa ?_|intro _|refine aH ?_
 refine GO.ef (Ef.a6 (lZ seed hs ad n c xs hn hx) rfl) ac ?_
 rintro _ _ ⟨yb,lb,ops,rfl,⟨hol,hoo⟩,rfl⟩
 have hI:=fM (run0 seed) (ops:=ops) ab hoo 18 ab
 have hR:=nv (run0 seed) (Ga seed) yz (ops:=ops) ab hoo 18 ab
 have hcat:=gJ (run0 seed) (ops:=ops) ab hoo 18 ab
 obtain ⟨q,hq⟩:∃ q,runS (led0 3 cat16) (bO (aR seed)) ops 18=q:=⟨_,rfl⟩
 rw [hq] at hI hR hcat ⊢
 obtain ⟨S,Y⟩:=q
 dsimp only at hI hR hcat ⊢
 change S.cat=cat16 at hcat
 change RunR 18 S Y (aR seed) at hR
 have hnow:=hR.now.1
 repeat first|refine aa ?_|intro _|refine aH ?_
 (first|refine GO.ef (Ef.call (nC (L:=[]) lb S hI.sok) rfl (by repeat (first|exact Ent.refl _|apply Ent.take))) ac ?_)
 rintro _ _ ⟨_,⟨rfl,rfl⟩,hL⟩
 simp only [List.cons_append,List.nil_append] at hL;subst hL
 repeat first|refine aa ?_|intro _|refine aH ?_
 refine GO.ent (L':=bz yb lb Y::LedR lb S::aP::L) ae ?_
 refine GO.ef (Ef.a6 (vT yb lb Y hI.yok S hI.sok hI.good hI.cok hI.rul (S.now+1000)) rfl) ac ?_
 rintro _ _ ⟨ad9,cap9,rfl,rfl⟩
 obtain ⟨hS,hY,hjl,hsd,hcat2,hrul,hroll,hdone⟩:=De hI hR ab
 have hlen:=hI.len
 obtain ⟨p,hp⟩:∃ p,advM S Y (S.now+1000)=p:=⟨_,rfl⟩
 rw [hp] at hS hY hjl hsd hcat2 hrul hroll hdone ⊢
 obtain ⟨ids,S2,Y2⟩:=p
 dsimp only at hS hY hjl hsd hcat2 hrul hroll hdone ⊢
 rw [hcat] at hroll hcat2
 repeat first|refine aa ?_|intro _|refine aH ?_
 refine GO.ef (Ef.a6 (fh) rfl) ac ?_
 rintro _ _ ⟨ct,rfl,⟨hcm,hcB⟩,rfl⟩
 have hgood:CatGood ct.m:=by rw [hcm];exact cat16_good
 have hcr:ct.rules.map RuV.m=cat16.rules:=by rw [← hcm];rfl
 have hrl:cat16.rules.length=ct.rules.length:=by rw [← hcr,List.length_map]
 have h64:=hcB.rules
 have hch:=fun (sd:Int) (bs:Nat) (j:JobM) (hid:0≤j.id∧j.id<100) (hj:(-10000≤j.won∧j.won≤10000)∧-10000≤j.lost∧j.lost≤10000)=>Bt (L:=[osl (encZ .u8) 1 jZ (some ⟨bs,0,none⟩) 3 (aR sd)]) ct hcB hgood (some ⟨bs,0,none⟩) 3 (aR sd) (kb sd) (by rw [jH];omega) (by rw [jH];omega) j hid hj
 have hrc:=fun (sd:Int) (bs:Nat) (j:JobM) (hid:0≤j.id∧j.id<100) (hj:(-10000≤j.won∧j.won≤10000)∧-10000≤j.lost∧j.lost≤10000)=>wx (L:=[osl (encZ .u8) 1 jZ (some ⟨bs,0,none⟩) 3 (aR sd)]) ct hcB hgood (some ⟨bs,0,none⟩) 3 (aR sd) (kb sd) (by rw [jH];omega) j hid hj
 rw [hcm] at hch hrc
 simp only [CatV.cells,jH] at hch hrc ⊢
 refine GO.ent catOpenR ?_
 repeat first|refine aa ?_|intro _|refine aH ?_
 rename_i b10
 refine G.loop (α:=Nat) (fun a=>a≤20) (fun a=>[(0,.int .i64 seed),(2,.int .i64 by_),(7,.pointer (some ⟨yb,0,none⟩)),(8,.pointer (some ⟨lb,0,none⟩)),(10,.pointer (some ⟨b10,0,none⟩)),(11,.int .i64 (a:Int))]) (fun _=>obj b10 tCat [.slice ct.iad ct.items.length ct.icap,.slice ct.rad ct.rules.length ct.rcap,.slice ct.tad ct.tables.length ct.tcap,.slice ct.xad ct.taxes.length ct.xcap]::isl aA 9 ct.rad ct.rules::catP ct::bz yb lb Y2::LedR lb S2::aP::L) (fun a=>20 - a) 0 (Nat.zero_le _) aj ae ?_
 intro i hi
 by_cases hlt:i<20
 case neg =>
  obtain rfl:i=20:=ab
  repeat first|refine aa ?_|intro _|refine aH ?_
  refine GO.ent (L':=aP::L) ae ?_
  refine GO.ef (Ef.a6 (eI) rfl) ac ?_
  rintro _ _ ⟨rfl,rfl⟩
  repeat first|refine aa ?_|intro _|refine aH ?_
  exact KX.a6 ai (Ent.refl _) ⟨rfl,rfl⟩
 by_cases hk:i<Y2.jobs.length
 case neg =>
  repeat first|refine aa ?_|intro _|refine aH ?_
  (first|refine GO.ef (Ef.call (ln (L:=[]) yb lb Y2 hY i ab ab) rfl (by repeat (first|exact Ent.refl _|apply Ent.take))) ac ?_)
  rintro _ _ ⟨_,⟨rfl,rfl⟩,hL⟩
  simp only [List.cons_append,List.nil_append] at hL;subst hL
  repeat first|refine aa ?_|intro _|refine aH ?_
  refine GO.ent (L':=aP::L) ae ?_
  refine GO.ef (Ef.a6 (eI) rfl) ac ?_
  rintro _ _ ⟨rfl,rfl⟩
  repeat first|refine aa ?_|intro _|refine aH ?_
  exact KX.a6 ai (Ent.refl _) ⟨rfl,rfl⟩
 have hid:=hY.id i hk
 obtain ⟨n1,n2,n3,n4⟩:=hY.num i hk
 have hrk:=hrul i hk
 rw [hcat2] at hrk
 have hr0:=hrk.1
 have hr1:=hrk.2.1
 have hru:cat16.rules[Y2.jobs[i]!.rule.toNat]! = ct.rules[Y2.jobs[i]!.rule.toNat]!.m:=by rw [← hcr];exact fD ct.rules ab
 have hrg:=hgood.ru _ (ap (show Y2.jobs[i]!.rule.toNat<ct.m.rules.length by rw [hcm];omega))
 rw [hcm,hru] at hrg
 have hrl2:=hroll i hk
 have hdn:=hdone i hk
 have hjob:=iw (L:=[]) yb lb Y2 hY i hk
 obtain ⟨j,hj⟩:∃ j,Y2.jobs[i]! = j:=⟨_,rfl⟩
 rw [hj] at hid n1 n2 n3 n4 hrk hr0 hr1 hru hrg hrl2 hdn hjob
 obtain ⟨r,hrv⟩:∃ r,ct.rules[j.rule.toNat]! = r:=⟨_,rfl⟩
 rw [hrv] at hru hrg
 obtain ⟨_,_,hof,hc1,hc2⟩:=hrg.num
 have hof2:=hof.2
 change 1≤r.chance at hc1
 change r.chance≤r.of_ at hc2
 change r.of_≤1000000 at hof2
 have ht1:1≤j.times∧j.times≤1000:=n2
 have hwj:wonJ cat16.rules (aR seed) j=da (aR seed) j.id j.times r.chance r.of_:=by
  unfold wonJ
  rw [hru]
  rfl
 have hwb:=lU (seed:=aR seed) (id:=j.id) (times:=j.times) (show 1≤r.chance∧r.chance≤r.of_ from ⟨hc1,hc2⟩) ab
 rw [← hwj] at hwb
 have hjw:(0≤j.won∧j.won≤j.times)∧(0≤j.lost∧j.lost≤j.times):=by
  have h1:=hrl2.2.1
  have h2:=hrl2.2.2
  constructor
  ·rcases h1 with h1|h1<;>omega
  ·rcases h2 with h2|h2<;>omega
 obtain ⟨hw0,hl0⟩:=hjw
 have hb0:=Int.emod_nonneg by_ (show (3:Int)≠0 by omega)
 have hb3:=Int.emod_lt_of_pos by_ (show (0:Int)<3 by omega)
 have hid0:=hid.1
 obtain ⟨bw,hbw⟩:∃ bw,j.won+by_ % 3 - 1=bw:=⟨_,rfl⟩
 have hbb : -1≤bw∧bw≤1002:=ab
 have hc1j:=fun bs=>hch seed bs j ab ab
 have hc2j:=fun bs=>hrc seed bs j ab ab
 obtain ⟨s1,hs1⟩:∃ s1,IntKind.i64.wrap (seed+1)=s1:=⟨_,rfl⟩
 have hs1b:I64 s1:=by rw [← hs1,IntKind.wrap_i64];unfold I64;omega
 have hb1j:=fun bs=>hch s1 bs (badJ j bw) (show 0≤j.id∧j.id<100 by omega) (show (-10000≤bw∧bw≤10000)∧-10000≤j.times - bw∧j.times - bw≤10000 by omega)
 have hb2j:=fun bs=>hrc s1 bs (badJ j bw) (show 0≤j.id∧j.id<100 by omega) (show (-10000≤bw∧bw≤10000)∧-10000≤j.times - bw∧j.times - bw≤10000 by omega)
 have hb3j:=fun bs=>hch seed bs (badJ j bw) (show 0≤j.id∧j.id<100 by omega) (show (-10000≤bw∧bw≤10000)∧-10000≤j.times - bw∧j.times - bw≤10000 by omega)
 have hall:=fun e=>RollJ.all hrl2 ht1.1 e
 obtain ⟨d1,hd1⟩:∃ d1,dB (de cat16.rules (aR s1) (badJ j bw))=d1:=⟨_,rfl⟩
 rw [hd1] at hb1j hb2j
 have hbad:bw≠wonJ cat16.rules (aR seed) j→¬de cat16.rules (aR seed) (badJ j bw):=fun h q=>h q.2.2.2.2.2.2
 have hgd:j.won=wonJ cat16.rules (aR seed) j→j.won+j.lost=j.times→de cat16.rules (aR seed) j:=fun h1 h2=>⟨hrk,hdn,n2,hw0.1,hw0.2,ab,h1⟩
 obtain ⟨d3,hd3⟩:∃ d3,dB (de cat16.rules (aR seed) (badJ j bw))=d3:=⟨_,rfl⟩
 rw [hd3] at hb3j
 obtain ⟨d0,hd0⟩:∃ d0,dB (de cat16.rules (aR seed) j)=d0:=⟨_,rfl⟩
 rw [hd0] at hc1j hc2j
 have hj18:=mB (L:=[]) j
 have hb18:=mB (L:=[]) (badJ j bw)
 simp only [aq,badJ] at hc1j hc2j hb1j hb2j hb3j hjob hj18 hb18
 rw [hdn] at hc1j hc2j hb1j hb2j hb3j hjob hj18 hb18
 repeat first|refine aa ?_|intro _|refine aH ?_
 (first|refine GO.ef (Ef.call (hjob) rfl (by repeat (first|exact Ent.refl _|apply Ent.take))) ac ?_)
 rintro _ _ ⟨_,⟨rfl,rfl⟩,hL⟩
 simp only [List.cons_append,List.nil_append] at hL;subst hL
 repeat first|refine aa ?_|intro _|refine aH ?_
 rename_i b12 b14
 refine GPW.ef (Ef.a6 (gX by_ 3 hby ac ac) rfl) ac ?_
 rintro _ _ ⟨rfl,rfl⟩
 repeat first|refine aa ?_|intro _|refine aH ?_
 rw [hbw]
 repeat first|refine aa ?_|intro _|refine aH ?_
 refine GPW.ef (Ef.a6 (fb seed hs) rfl) ac ?_
 rintro _ _ ⟨bs1,rfl,rfl⟩
 repeat first|refine aa ?_|intro _|refine aH ?_
 (first|refine GPW.ef (Ef.call (hc1j bs1) rfl (by repeat (first|exact Ent.refl _|apply Ent.take))) ac ?_)
 rintro _ _ ⟨_,⟨rfl,rfl⟩,hL⟩
 simp only [List.cons_append,List.nil_append] at hL;subst hL
 repeat first|refine aa ?_|intro _|refine aH ?_
 refine GPW.ef (Ef.a6 (fb seed hs) rfl) ac ?_
 rintro _ _ ⟨bs2,rfl,rfl⟩
 repeat first|refine aa ?_|intro _|refine aH ?_
 (first|refine GPW.ef (Ef.call (hj18) rfl (by repeat (first|exact Ent.refl _|apply Ent.take))) ac ?_)
 rintro _ _ ⟨_,⟨rfl,rfl⟩,hL⟩
 simp only [List.cons_append,List.nil_append] at hL;subst hL
 repeat first|refine aa ?_|intro _|refine aH ?_
 (first|refine GPW.ef (Ef.call (hc2j bs2) rfl (by repeat (first|exact Ent.refl _|apply Ent.take))) ac ?_)
 rintro _ _ ⟨_,⟨rfl,rfl⟩,hL⟩
 simp only [List.cons_append,List.nil_append] at hL;subst hL
 repeat first|refine aa ?_|intro _|refine aH ?_
 refine GPW.evP (Ev.p9 rfl rfl) ac ?_
 rw [ni]
 repeat first|refine aa ?_|intro _|refine aH ?_
 refine GPW.evP (Ev.o7 rfl rfl) ac ?_
 rw [hs1]
 repeat first|refine aa ?_|intro _|refine aH ?_
 refine GPW.evP (Ev.o7 rfl rfl) ac ?_
 rw [hs1]
 repeat first|refine aa ?_|intro _|refine aH ?_
 refine GPW.ef (Ef.a6 (fb s1 hs1b) rfl) ac ?_
 rintro _ _ ⟨bs3,rfl,rfl⟩
 repeat first|refine aa ?_|intro _|refine aH ?_
 (first|refine GPW.ef (Ef.call (hb1j bs3) rfl (by repeat (first|exact Ent.refl _|apply Ent.take))) ac ?_)
 rintro _ _ ⟨_,⟨rfl,rfl⟩,hL⟩
 simp only [List.cons_append,List.nil_append] at hL;subst hL
 repeat first|refine aa ?_|intro _|refine aH ?_
 refine GPW.ef (Ef.a6 (fb s1 hs1b) rfl) ac ?_
 rintro _ _ ⟨bs4,rfl,rfl⟩
 repeat first|refine aa ?_|intro _|refine aH ?_
 (first|refine GPW.ef (Ef.call (hb18) rfl (by repeat (first|exact Ent.refl _|apply Ent.take))) ac ?_)
 rintro _ _ ⟨_,⟨rfl,rfl⟩,hL⟩
 simp only [List.cons_append,List.nil_append] at hL;subst hL
 repeat first|refine aa ?_|intro _|refine aH ?_
 (first|refine GPW.ef (Ef.call (hb2j bs4) rfl (by repeat (first|exact Ent.refl _|apply Ent.take))) ac ?_)
 rintro _ _ ⟨_,⟨rfl,rfl⟩,hL⟩
 simp only [List.cons_append,List.nil_append] at hL;subst hL
 repeat first|refine aa ?_|intro _|refine aH ?_
 refine GPW.evP (Ev.p9 rfl rfl) ac ?_
 rw [ni]
 repeat first|refine aa ?_|intro _|refine aH ?_
 by_cases he:j.won+j.lost=j.times
 case neg =>
  repeat first|refine aa ?_|intro _|refine aH ?_
  refine ⟨i+1,ab,ab,?_,by exact ae⟩
  rw [show ((i+1:Nat):Int)=(i:Int)+1 by omega]
  exact aj
 have hwon:=hall he
 have hd0t:d0=true:=by rw [← hd0];exact aw (hgd hwon he)
 rw [hd0t] at hc1j
 have hsz:=mO i
 have hadd:craftBA.size+(decS i).size≤1000000000:=by rw [← ByteArray.size_append];omega
 obtain ⟨m,hmt⟩:∃ m:Nat,j.times=(m:Int):=⟨j.times.toNat,ab⟩
 have hsu:j.won=(cB (bS (aD (craftBA++decS i)) (aR seed)) r.chance r.of_ m).2:=by rw [hwon,hwj,hid0,hmt,nq]
 repeat first|refine aa ?_|intro _|refine aH ?_
 refine GO.ef (Ef.a6 (fb seed hs) rfl) ac ?_
 rintro _ _ ⟨bs5,rfl,rfl⟩
 repeat first|refine aa ?_|intro _|refine aH ?_
 refine GO.ef (Ef.a6 (kE i ab) rfl) ac ?_
 rintro _ _ ⟨rfl,rfl⟩
 repeat first|refine aa ?_|intro _|refine aH ?_
 refine GO.ev (Ev.e7 rfl rfl hadd) ac ?_
 repeat first|refine aa ?_|intro _|refine aH ?_
 refine GO.ef (Ef.a6 (kD (craftBA++decS i) (some ⟨bs5,0,none⟩) 3 3 (aR seed) (kb seed) (jH seed).symm ab ab ab) rfl) ac ?_
 rintro _ _ ⟨d,rfl,rfl⟩
 have hkl:=ld (aD (craftBA++decS i)) (aR seed)
 obtain ⟨key,hkey⟩:∃ key,bS (aD (craftBA++decS i)) (aR seed)=key:=⟨_,rfl⟩
 rw [hkey] at hkl hsu ⊢
 clear hkey
 have hb1:=fun k=>jN (key:=key) ⟨hc1,hc2⟩ k
 repeat first|refine aa ?_|intro _|refine aH ?_
 refine G.loop (α:=Nat) (fun k=>k≤m) (fun k=>[(0,.int .i64 seed),(2,.int .i64 by_),(7,.pointer (some ⟨yb,0,none⟩)),(8,.pointer (some ⟨lb,0,none⟩)),(10,.pointer (some ⟨b10,0,none⟩)),(11,.int .i64 (i:Int)),(12,.pointer (some ⟨b12,0,none⟩)),(14,.pointer (some ⟨b14,0,none⟩)),(15,.pointer (some ⟨d,0,none⟩)),(16,.int .i64 (cB key r.chance r.of_ k).2),(17,.int .i64 (k:Int))]) (fun k=>gg d key (cB key r.chance r.of_ k).1::obj b12 tJob [.int .i64 j.id,.int .i64 j.acc,.int .i64 j.hold,.int .i64 j.rule,.int .i64 j.times,.int .i64 j.beg,.int .i64 j.fin,.bool true,.int .i64 j.won,.int .i64 j.lost]::obj b14 tJob [.int .i64 j.id,.int .i64 j.acc,.int .i64 j.hold,.int .i64 j.rule,.int .i64 j.times,.int .i64 j.beg,.int .i64 j.fin,.bool true,.int .i64 bw,.int .i64 (j.times - bw)]::obj b10 tCat [.slice ct.iad ct.items.length ct.icap,.slice ct.rad ct.rules.length ct.rcap,.slice ct.tad ct.tables.length ct.tcap,.slice ct.xad ct.taxes.length ct.xcap]::isl aA 9 ct.rad ct.rules::catP ct::bz yb lb Y2::LedR lb S2::aP::L) (fun k=>m - k) 0 (Nat.zero_le _) (by rw [gu];exact aj) (by rw [gu];exact ae) ?_
 intro k hkm
 obtain ⟨hb2,hb3',hb4⟩:=hb1 k
 by_cases hlt2:k<m
 case neg =>
  obtain rfl:k=m:=ab
  rw [← hsu]
  by_cases hbe:bw=j.won
  ·repeat first|refine aa ?_|intro _|refine aH ?_
   refine GPW.ef (Ef.a6 (fb seed hs) rfl) ac ?_
   rintro _ _ ⟨bs6,rfl,rfl⟩
   repeat first|refine aa ?_|intro _|refine aH ?_
   (first|refine GPW.ef (Ef.call (hc1j bs6) rfl (by repeat (first|exact Ent.refl _|apply Ent.take))) ac ?_)
   rintro _ _ ⟨_,⟨rfl,rfl⟩,hL⟩
   simp only [List.cons_append,List.nil_append] at hL;subst hL
   repeat first|refine aa ?_|intro _|refine aH ?_
   refine ⟨i+1,ab,ab,?_,by exact ae⟩
   rw [show ((i+1:Nat):Int)=(i:Int)+1 by omega]
   exact aj
  ·have hd3f:d3=false:=by rw [← hd3];exact an (hbad (by rw [← hwon];exact hbe))
   rw [hd3f] at hb3j
   repeat first|refine aa ?_|intro _|refine aH ?_
   refine GPW.ef (Ef.a6 (fb seed hs) rfl) ac ?_
   rintro _ _ ⟨bs6,rfl,rfl⟩
   repeat first|refine aa ?_|intro _|refine aH ?_
   (first|refine GPW.ef (Ef.call (hc1j bs6) rfl (by repeat (first|exact Ent.refl _|apply Ent.take))) ac ?_)
   rintro _ _ ⟨_,⟨rfl,rfl⟩,hL⟩
   simp only [List.cons_append,List.nil_append] at hL;subst hL
   repeat first|refine aa ?_|intro _|refine aH ?_
   refine GPW.ef (Ef.a6 (fb seed hs) rfl) ac ?_
   rintro _ _ ⟨bs7,rfl,rfl⟩
   repeat first|refine aa ?_|intro _|refine aH ?_
   (first|refine GPW.ef (Ef.call (hb3j bs7) rfl (by repeat (first|exact Ent.refl _|apply Ent.take))) ac ?_)
   rintro _ _ ⟨_,⟨rfl,rfl⟩,hL⟩
   simp only [List.cons_append,List.nil_append] at hL;subst hL
   repeat first|refine aa ?_|intro _|refine aH ?_
   refine ⟨i+1,ab,ab,?_,by exact ae⟩
   rw [show ((i+1:Nat):Int)=(i:Int)+1 by omega]
   exact aj
 obtain ⟨p,hpp⟩:∃ p,hitD key r.chance r.of_ (cB key r.chance r.of_ k).1=p:=⟨_,rfl⟩
 have hst:=lq hpp
 obtain ⟨_,_,hbe⟩:=rQ ⟨hc1,hc2⟩ hpp
 have hhit:=vp (L:=[]) d key (cB key r.chance r.of_ k).1 r.chance r.of_ hkl ab ab
 rw [hpp] at hhit
 repeat first|refine aa ?_|intro _|refine aH ?_
 rw [hrv]
 (first|refine GPW.ef (Ef.call (hhit) rfl (by repeat (first|exact Ent.refl _|apply Ent.take))) ac ?_)
 rintro _ _ ⟨_,⟨rfl,rfl⟩,hL⟩
 simp only [List.cons_append,List.nil_append] at hL;subst hL
 obtain ⟨p1,p2,p3⟩:=p
 dsimp only at hst hbe ⊢
 cases p1 with
 | true =>
  rw [if_pos rfl] at hst
  have h0:=hbe rfl
  rw [h0]
  repeat first|refine aa ?_|intro _|refine aH ?_
  refine ⟨k+1,ab,ab,?_,?_⟩
  ·rw [hst,show ((k+1:Nat):Int)=(k:Int)+1 by omega]
   exact aj
  ·rw [hst]
   exact ae
 | false =>
  rw [if_neg ac] at hst
  repeat first|refine aa ?_|intro _|refine aH ?_
  refine ⟨k+1,ab,ab,?_,?_⟩
  ·rw [hst,show ((k+1:Nat):Int)=(k:Int)+1 by omega]
   exact aj
  ·rw [hst]
   exact ae
end
end Go.Proofs.YtfmgkkofledkbaaGreatDoor
