/- CraftTimes: the law's loop. -/
import Derived.Test.YtfmgkkofledkbaaGreatDoorGCraftAllv
set_option linter.all false
set_option maxHeartbeats 4000000
namespace Go.Proofs.YtfmgkkofledkbaaGreatDoor
open Go.V
attribute [local irreducible] G GO GP GPW GPK Ev Ef EfR Ent CB GB V.Enters
section
def mA (js:List JobM) (w:List Int) (i:Nat):Int:=if i=0 then 0 else js[w[i - 1]!.toNat]!.fin
theorem qN (js:List JobM) (w:List Int):mA js w 0=0:=rfl
theorem qO (js:List JobM) (w:List Int) (i:Nat):mA js w (i+1)=js[w[i]!.toNat]!.fin:=by
 unfold mA
 rw [if_neg ab,Nat.add_sub_cancel]
theorem FV (n:Int):TimeI (led0 3 cat16).cat.rules (bO (aR n)).jobs:=⟨fun k hk=>absurd hk (Nat.not_lt_zero k),fun i k _ hk=>absurd hk (Nat.not_lt_zero k)⟩
attribute [local irreducible] runS
abbrev Cm:List Stp:=[.ev 0,.ev 1,.ev 2,.ev 3,.ev 4,.ev 5,.ev 6,.ev 7,.ev 8,.ev 9,.ev 10,.ev 11,.ev 12,.ev 13,.ev 14,.ev 15,.ev 16,.ev 17,.ev 18,.ev 19,.ev 20,.ev 21,.ev 22,.ev 23,.ev 24,.ev 25,.ev 26,.ev 27,.ev 28,.ev 29,.ev 30,.ev 31,.ev 32,.ev 33,.ev 34,.ev 35,.ev 36,.ev 37,.ev 38,.ev 39,.ev 40,.ev 41,.ev 42,.ev 43,.ev 44,.ev 45]
theorem dI {φ ψ:Prop} (k:ψ) (h:Hid ψ→φ:=by intro k;(with_reducible apply G.a7);first|refine G.a6 (N:=96) (id:=14) Cm mixed ah (Hid.out k)):φ:=h ⟨k⟩
theorem ri {L:List HP} (seed:Int) (hs:I64 seed) (ad:Option Addr) (n c:Nat) (xs:List Int) [hrd:Rds L ad Int (encZ .i64) 1 xs] (hn:n=xs.length) (hm:n≤9223372036854775807) (hx:∀ x∈xs,I64 x) :
  Tri Tryz.prog 4 #[.int .i64 seed,.slice ad n c] (aP::L) (fun v L'=>v=.bool true∧L' = L):=by
 refine Tri.body (args:=[.int .i64 seed,.slice ad n c]) 96 en4 Tryz.func4 rfl rfl rfl (by simp) ?_
 repeat first|refine aa ?_|intro _|refine dI ?_
 refine GO.ef (Ef.a6 (lZ seed hs ad n c xs hn hx) rfl) ac ?_
 rintro _ _ ⟨yb,lb,ops,rfl,⟨hol,hoo⟩,rfl⟩
 have hI:=fM (run0 seed) (ops:=ops) ab hoo 18 ab
 have hT:=sq (run0 seed) (FV seed) (ops:=ops) ab hoo 18 ab
 have hcat:=gJ (run0 seed) (ops:=ops) ab hoo 18 ab
 obtain ⟨q,hq⟩:∃ q,runS (led0 3 cat16) (bO (aR seed)) ops 18=q:=⟨_,rfl⟩
 rw [hq] at hI hT hcat ⊢
 obtain ⟨S,Y⟩:=q
 dsimp only at hI hT hcat ⊢
 have hY:=hI.yok
 have hjl:=hY.len
 change S.cat=cat16 at hcat
 change TimeI cat16.rules Y.jobs at hT
 repeat first|refine aa ?_|intro _|refine dI ?_
 refine GO.ef (Ef.a6 (fh) rfl) ac ?_
 rintro _ _ ⟨ct,rfl,⟨hcm,hcB⟩,rfl⟩
 simp only [CatV.cells]
 have hcr:ct.rules.map RuV.m=cat16.rules:=by rw [← hcm];rfl
 have hrl:cat16.rules.length=ct.rules.length:=by rw [← hcr,List.length_map]
 have h64:=hcB.rules
 refine GO.ent catOpenR ?_
 repeat first|refine aa ?_|intro _|refine dI ?_
 rename_i b8
 refine G.loop (α:=Nat) (fun a=>1≤a∧a≤4) (fun a=>[(5,.pointer (some ⟨yb,0,none⟩)),(8,.pointer (some ⟨b8,0,none⟩)),(9,.int .i64 (a:Int))]) (fun _=>obj b8 tCat [.slice ct.iad ct.items.length ct.icap,.slice ct.rad ct.rules.length ct.rcap,.slice ct.tad ct.tables.length ct.tcap,.slice ct.xad ct.taxes.length ct.xcap]::isl aA 9 ct.rad ct.rules::bz yb lb Y::aP::L) (fun a=>4 - a) 1 ⟨Nat.le_refl _,ab⟩ aj ae ?_
 rintro a ⟨ha1,ha2⟩
 by_cases hlt:a<4
 case neg =>
  obtain rfl:a=4:=ab
  repeat first|refine aa ?_|intro _|refine dI ?_
  refine GO.ent (L':=aP::L) ae ?_
  refine GO.ef (Ef.a6 (eI) rfl) ac ?_
  rintro _ _ ⟨rfl,rfl⟩
  repeat first|refine aa ?_|intro _|refine dI ?_
  exact KX.a6 ai (Ent.refl _) ⟨rfl,rfl⟩
 repeat first|refine aa ?_|intro _|refine dI ?_
 (first|refine GO.ef (Ef.call (nm (L:=[]) yb lb Y hY (a:Int)) rfl (by repeat (first|exact Ent.refl _|apply Ent.take))) ac ?_)
 rintro _ _ ⟨_,⟨wad,wcap,rfl,rfl⟩,hL⟩
 simp only [List.cons_append,List.nil_append] at hL;subst hL
 obtain ⟨w,hw⟩:∃ w,aG Y.jobs (a:Int)=w:=⟨_,rfl⟩
 have hwlt:=fun i k (h1:i<k) (h2:k<(aG Y.jobs (a:Int)).length)=>AL h1 h2
 have hwm:=fun i (h:i<(aG Y.jobs (a:Int)).length)=>openIds_mem.1 (ap h)
 have hwl:(aG Y.jobs (a:Int)).length≤60:=by
  unfold aG
  rw [List.length_map]
  have:=List.length_filter_le (fun k=>decide (Y.jobs[k]!.acc=(a:Int)) && !Y.jobs[k]!.done) (List.range Y.jobs.length)
  rw [List.length_range] at this
  omega
 rw [hw] at hwlt hwm hwl ⊢
 repeat first|refine aa ?_|intro _|refine dI ?_
 refine G.loop (α:=Nat) (fun i=>i≤w.length) (fun i=>[(5,.pointer (some ⟨yb,0,none⟩)),(8,.pointer (some ⟨b8,0,none⟩)),(9,.int .i64 (a:Int)),(10,.slice wad w.length wcap),(11,.int .i64 (mA Y.jobs w i)),(12,.int .i64 (i:Int))]) (fun _=>osl (encZ .i64) 1 tInt wad wcap w::obj b8 tCat [.slice ct.iad ct.items.length ct.icap,.slice ct.rad ct.rules.length ct.rcap,.slice ct.tad ct.tables.length ct.tcap,.slice ct.xad ct.taxes.length ct.xcap]::isl aA 9 ct.rad ct.rules::bz yb lb Y::aP::L) (fun i=>w.length - i) 0 (Nat.zero_le _) (by rw [qN];exact aj) ae ?_
 intro i hi
 by_cases hlti:i<w.length
 case neg =>
  obtain rfl:i=w.length:=ab
  repeat first|refine aa ?_|intro _|refine dI ?_
  refine ⟨a+1,⟨ab,ab⟩,ab,?_,by exact ae⟩
  rw [show ((a+1:Nat):Int)=(a:Int)+1 by omega]
  exact aj
 have hii:(i:Int).toNat=i:=Int.toNat_natCast i
 have hlti' : (i:Int).toNat<w.length:=ab
 obtain ⟨k,hwk,hk,hka,hkd⟩:=hwm i hlti
 have hwk' : w[(i:Int).toNat]! = (k:Int):=by rw [hii];exact hwk
 have hlast:mA Y.jobs w (i+1)=Y.jobs[k]!.fin:=by rw [qO,hwk,Int.toNat_natCast]
 obtain ⟨n1,n2,n3,n4⟩:=hY.num k hk
 have hle:mA Y.jobs w i≤Y.jobs[k]!.beg:=by
  by_cases h0:i=0
  ·rw [h0,qN]
   exact n3.1
  ·obtain ⟨i',rfl⟩:∃ i',i=i' + 1:=⟨i - 1,ab⟩
   obtain ⟨k',hwk2,hk2,hka2,hkd2⟩:=hwm i' ab
   rw [qO,hwk2,Int.toNat_natCast]
   have h3:=hwlt i' (i' + 1) ab hlti
   rw [hwk,hwk2] at h3
   exact hT.lap k' k ab hk hkd2 hkd (hka2.trans hka.symm)
 have hrk:=hI.rul k hk
 rw [hcat] at hrk
 have hr0:=hrk.1
 have hr1:=hrk.2.1
 have hfin:=hT.fin k hk
 have hru:cat16.rules[Y.jobs[k]!.rule.toNat]! = ct.rules[Y.jobs[k]!.rule.toNat]!.m:=by rw [← hcr];exact fD ct.rules ab
 rw [hru] at hfin
 change Y.jobs[k]!.fin=Y.jobs[k]!.beg+ct.rules[Y.jobs[k]!.rule.toNat]!.time at hfin
 have hjob:=iw (L:=[]) yb lb Y hY k hk
 obtain ⟨j,hj⟩:∃ j,Y.jobs[k]! = j:=⟨_,rfl⟩
 rw [hj] at hka hkd hlast n1 n2 n3 n4 hle hr0 hr1 hfin hjob
 obtain ⟨lst,hlst⟩:∃ l,mA Y.jobs w i=l:=⟨_,rfl⟩
 rw [hlst] at hle ⊢
 repeat first|refine aa ?_|intro _|refine dI ?_
 rw [hwk']
 (first|refine GO.ef (Ef.call (hjob) rfl (by repeat (first|exact Ent.refl _|apply Ent.take))) ac ?_)
 rintro _ _ ⟨_,⟨rfl,rfl⟩,hL⟩
 simp only [List.cons_append,List.nil_append] at hL;subst hL
 simp only [aq]
 rw [hkd]
 repeat first|refine aa ?_|intro _|refine dI ?_
 refine ⟨i+1,ab,ab,?_,by exact ae⟩
 rw [hlast,show ((i+1:Nat):Int)=(i:Int)+1 by omega]
 exact aj
end
end Go.Proofs.YtfmgkkofledkbaaGreatDoor
