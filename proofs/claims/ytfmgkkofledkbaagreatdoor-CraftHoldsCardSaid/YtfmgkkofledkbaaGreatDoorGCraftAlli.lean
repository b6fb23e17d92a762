/- Lemmas and contracts of functions, in the order: R1, R2, R3, R4, R5. -/
import Derived.Test.YtfmgkkofledkbaaGreatDoorGCraftAllj
set_option linter.all false
set_option maxHeartbeats 4000000
namespace Go.Proofs.YtfmgkkofledkbaaGreatDoor
open Go.V
attribute [local irreducible] G GO GP GPW GPK Ev Ef EfR Ent CB GB V.Enters
section
def WdB (c:Int):Prop:=(97≤c∧c≤122)∨(48≤c∧c≤57)∨c=95
noncomputable def clsM (c:Int):Int:=if 97≤c∧c≤122 then 1 else if 48≤c∧c≤57 then 2 else 3
theorem yS (c:Int):1≤clsM c∧clsM c≤3:=by
 unfold clsM
 split
 ·omega
 ·split<;>omega
theorem DM:∀ c,c<128→(kindsL[c]! = 3→97≤c∧c≤122)∧(kindsL[c]! = 4→48≤c∧c≤57)∧(kindsL[c]! = 5→c=95):=by decide +kernel
theorem pG {s:ByteArray} {i:Nat} (hi:i<s.size) (h:dM s i=3∨dM s i=4∨dM s i=5):WdB (aD s)[i]!∧(dM s i=3→clsM (aD s)[i]! = 1):=by
 have hb:=sD s _ (ap (show i<(aD s).length by rw [iU];omega))
 unfold dM at h ⊢
 rw [Int.toNat_natCast] at h ⊢
 by_cases h1:(aD s)[i]! < 128
 case neg =>
  rw [if_neg (fun h=>h1 h.2)] at h
  omega
 rw [if_pos ⟨ab,h1⟩] at h ⊢
 have hk:=DM ((aD s)[i]!).toNat ab
 refine ⟨?_,?_⟩
 ·unfold WdB
  rcases h with h|h|h
  ·have:=hk.1 h;omega
  ·have:=hk.2.1 h;omega
  ·have:=hk.2.2 h;omega
 ·intro h3
  have:=hk.1 h3
  unfold clsM
  rw [if_pos ab]
theorem ia {L:List HP} (c:Int) (h:WdB c):Tri Tryz.prog 281 #[.int .u8 c] L (fun v L'=>v=.int .i64 (clsM c)∧L' = L):=by
 refine Tri.body (args:=[.int .u8 c]) 39 GU Tryz.func281 rfl rfl rfl (by simp) ?_
 by_cases h1:97≤c∧c≤122
 ·have e:clsM c=1:=if_pos h1
  rw [e]
  obtain ⟨h2,h3⟩:=h1
  repeat first|refine aa ?_|intro _
  exact KX.a6 ai (Ent.refl _) ⟨rfl,rfl⟩
 by_cases h4:48≤c∧c≤57
 ·have e:clsM c=2:=by unfold clsM;rw [if_neg h1,if_pos h4]
  rw [e]
  obtain ⟨h2,h3⟩:=h4
  repeat first|refine aa ?_|intro _
  exact KX.a6 ai (Ent.refl _) ⟨rfl,rfl⟩
 have h5:c=95:=by unfold WdB at h;omega
 have e:clsM c=3:=by unfold clsM;rw [if_neg h1,if_neg h4]
 rw [e]
 repeat first|refine aa ?_|intro _
 exact KX.a6 ai (Ent.refl _) ⟨rfl,rfl⟩
theorem qk {L:List HP} (s:ByteArray) (i:Nat) (hs:s.size≤1000) (hk:i<s.size→WdB (aD s)[i]!) :
  Tri Tryz.prog 279 #[.string s,.int .i64 (i:Int)] L (fun v L'=>v=.int .i64 (i:Int)∧L' = L):=by
 refine Tri.body (args:=[.string s,.int .i64 (i:Int)]) 31 GW Tryz.func279 rfl rfl rfl (by simp) ?_
 repeat first|refine aa ?_|intro _
 refine G.d7 1 (GR.step ?_)
 by_cases h1:i<s.size
 case neg =>
  repeat first|refine aa ?_|intro _
  exact KX.a6 ai (Ent.refl _) ⟨rfl,rfl⟩
 have hw:=hk h1
 have hb:=hw
 unfold WdB at hb
 obtain ⟨c,hc⟩:∃ c,(aD s)[i]! = c:=⟨_,rfl⟩
 rw [hc] at hw hb
 have hcb:=yS c
 repeat first|refine aa ?_|intro _
 rw [Int.toNat_natCast,hc]
 repeat first|refine aa ?_|intro _
 rw [Int.toNat_natCast,hc]
 repeat first|refine aa ?_|intro _
 rw [Int.toNat_natCast,hc]
 refine GO.ef (Ef.a6 (ia c hw) rfl) ac ?_
 rintro _ _ ⟨rfl,rfl⟩
 repeat first|refine aa ?_|intro _
 exact KX.a6 ai (Ent.refl _) ⟨rfl,rfl⟩
theorem zb {s:ByteArray} (hw:IsWord s) {i:Nat} (hi:i<s.size):WdB (aD s)[i]!:=(pG hi (hw.rest i hi)).1
theorem CR {L:List HP} (s:ByteArray) (hw:IsWord s):Tri Tryz.prog 280 #[.string s,.int .i64 0] L (fun v L'=>v=.int .i64 (s.size:Int)∧L' = L):=by
 have hsz:=hw.size
 have hc1:clsM (aD s)[0]! = 1:=(pG (i:=0) ab (hw.rest 0 ab)).2 hw.first
 have hc2:=zb hw (i:=0) ab
 refine Tri.body (args:=[.string s,.int .i64 0]) 69 GV Tryz.func280 rfl rfl rfl (by simp) ?_
 repeat first|refine aa ?_|intro _
 rw [Int.toNat_zero]
 refine GO.ef (Ef.a6 (ia _ hc2) rfl) ac ?_
 rintro _ L ⟨rfl,rfl⟩
 rw [hc1]
 repeat first|refine aa ?_|intro _
 refine G.loop (α:=Nat) (fun e=>1≤e∧e≤s.size) (fun e=>[(0,.string s),(1,.int .i64 0),(5,.int .i64 (e:Int))])
  (fun _=>L) (fun e=>s.size - e) 1 ⟨ab,ab⟩ aj (Ent.refl _) ?_
 rintro e ⟨he1,he2⟩
 by_cases hlt:e<s.size
 case neg =>
  have hes:e=s.size:=ab
  subst hes
  repeat first|refine aa ?_|intro _
  exact KX.a6 ai (Ent.refl _) ⟨rfl,rfl⟩
 have hwd:=zb hw hlt
 obtain ⟨c,hc⟩:∃ c,(aD s)[e]! = c:=⟨_,rfl⟩
 rw [hc] at hwd
 have hcb:=yS c
 repeat first|refine aa ?_|intro _
 rw [Int.toNat_natCast,hc]
 refine GO.ef (Ef.a6 (ia c hwd) rfl) ac ?_
 rintro _ L ⟨rfl,rfl⟩
 repeat first|refine aa ?_|intro _
 rw [Int.toNat_natCast,hc]
 refine GO.ef (Ef.a6 (ia c hwd) rfl) ac ?_
 rintro _ L ⟨rfl,rfl⟩
 repeat first|refine aa ?_|intro _
 refine ⟨e+1,⟨ab,ab⟩,ab,?_,Ent.refl _⟩
 rw [show ((e+1:Nat):Int)=(e:Int)+1 by omega]
 exact aj
abbrev Ep:Nat:=311
theorem tZ {L:List HP} (s:ByteArray) (hw:IsWord s):Tri Tryz.prog 243 #[.string s] L (fun v L'=>∃ ad c,v=.tuple #[.slice ad 1 c,.int .i64 0,.int .i64 0]∧L' = osl encT 4 Ep ad c [fu s]::L):=by
 have hsz:=hw.size
 have hc1:clsM (aD s)[0]! = 1:=(pG (i:=0) ab (hw.rest 0 ab)).2 hw.first
 have hc2:=zb hw (i:=0) ab
 refine Tri.body (args:=[.string s]) 70 Hr Tryz.func243 rfl rfl rfl (by simp) ?_
 repeat first|refine aa ?_|intro _
 refine GO.ef (Ef.a6 (qk s 0 ab (fun _=>hc2)) rfl) ac ?_
 rintro _ L ⟨rfl,rfl⟩
 repeat first|refine aa ?_|intro _
 refine G.d7 2 (GR.step ?_)
 rw [Int.natCast_zero]
 repeat first|refine aa ?_|intro _
 refine GO.ef (Ef.a6 (CR s hw) rfl) ac ?_
 rintro _ L ⟨rfl,rfl⟩
 repeat first|refine aa ?_|intro _
 rw [Int.toNat_zero,Int.toNat_natCast,pi]
 rename_i b8
 refine GO.ef (Ef.a6 (ia _ hc2) rfl) ac ?_
 rintro _ _ ⟨rfl,rfl⟩
 rw [hc1]
 repeat first|refine aa ?_|intro _
 rw [Int.toNat_zero]
 refine GO.ef (Ef.a6 (ia _ hc2) rfl) ac ?_
 rintro _ _ ⟨rfl,rfl⟩
 rw [hc1]
 repeat first|refine aa ?_|intro _
 refine GO.ent (Ent.a7 encT 4 Ep) ?_
 refine GO.ef (Ef.a7 (enc:=encT) (xs:=[]) (e:=fu s) rfl rfl rfl rfl rfl (by rfl) (pK _) ac ac) ac ?_
 rintro _ _ ⟨ad2,cap2,rfl,rfl⟩
 simp only [List.nil_append]
 repeat first|refine aa ?_|intro _
 refine GO.ef (Ef.a6 (qk s s.size ab (fun h=>by omega)) rfl) ac ?_
 rintro _ _ ⟨rfl,rfl⟩
 repeat first|refine aa ?_|intro _
 refine GR.step ?_
 repeat first|refine aa ?_|intro _
 exact KX.a6 ai ae ⟨ad2,cap2,rfl,rfl⟩
theorem za {L:List HP} (s:ByteArray) (hw:IsWord s):Tri Tryz.prog 151 #[.string s] L (fun v L'=>v=.bool true∧L' = L):=by
 refine Tri.body (args:=[.string s]) 34 IN Tryz.func151 rfl rfl rfl (by simp) ?_
 repeat first|refine aa ?_|intro _
 refine GO.ef (Ef.a6 (tZ s hw) rfl) ac ?_
 rintro _ _ ⟨ad,c,rfl,rfl⟩
 have hk0:([fu s][Int.toNat 0]!).kind=0:=rfl
 have hk1:([fu s][Int.toNat 0]!).text=s:=rfl
 repeat first|refine aa ?_|intro _
 rw [hk1]
 repeat first|refine aa ?_|intro _
 exact KX.a6 ai ae ⟨by rw [aw rfl];rfl,rfl⟩
end
section
def cC (s:ByteArray):List Value:=[.string s]
theorem kf (s:ByteArray):∀ u∈cC s,u.oneCell' = true:=by simp [cC,Value.oneCell']
theorem DN {L:List HP} (ad:Option Addr) (n c:Nat) (xs:List ByteArray) [hrd:Rds L ad ByteArray cC 1 xs] (hn:n=xs.length) (hl:xs.length≤1000) (s:ByteArray) (h:s∉xs) :
  Tri Tryz.prog 152 #[.slice ad n c,.string s] L (fun v L'=>v=.bool false∧L' = L):=by
 subst hn
 refine Tri.body (args:=[.slice ad xs.length c,.string s]) 18 IM Tryz.func152 rfl rfl rfl (by simp) ?_
 repeat first|refine aa ?_|intro _
 refine G.loop (α:=Nat) (fun i=>i≤xs.length) (fun i=>[(0,.slice ad xs.length c),(1,.string s),(5,.int .i64 (i:Int))]) (fun _=>L) (fun i=>xs.length - i) 0 (Nat.zero_le _) aj (Ent.refl _) ?_
 intro i hi
 by_cases hlt:i<xs.length
 case neg =>
  repeat first|refine aa ?_|intro _
  exact KX.a6 ai (Ent.refl _) ⟨rfl,rfl⟩
 have hne:xs[i]!≠s:=fun e=>h (e▸ap hlt)
 repeat first|refine aa ?_|intro _
 rw [Int.toNat_natCast]
 repeat first|refine aa ?_|intro _
 refine ⟨i+1,ab,ab,?_,Ent.refl _⟩
 rw [show ((i+1:Nat):Int)=(i:Int)+1 by omega]
 exact aj
theorem oM {L:List HP} (m:Nat) (ad:Option Addr) (n c:Nat) (l:List (Int×Int)) [hrd:Rds L ad (Int×Int) aB 2 l] (hn:n=l.length) (hl:l.length≤64) (h:gi m l) (x:Int) :
  Tri Tryz.prog 244 #[.slice ad n c,.int .i64 x] L (fun v L'=>v=.int .i64 (dP l x)∧L' = L):=by
 subst hn
 refine Tri.body (args:=[.slice ad l.length c,.int .i64 x]) 28 Hq Tryz.func244 rfl rfl rfl (by simp) ?_
 repeat first|refine aa ?_|intro _
 refine G.loop (α:=Nat) (fun i=>i≤l.length) (fun i=>[(0,.slice ad l.length c),(1,.int .i64 x),(5,.int .i64 (dP (l.take i) x)),(6,.int .i64 (i:Int))]) (fun _=>L) (fun i=>l.length - i) 0 (Nat.zero_le _) aj (Ent.refl _) ?_
 intro i hi
 by_cases hlt:i<l.length
 case neg =>
  rw [List.take_of_length_le ab]
  repeat first|refine aa ?_|intro _
  exact KX.a6 ai (Ent.refl _) ⟨rfl,rfl⟩
 have hii:(i:Int).toNat=i:=ab
 have hcb:=pO h.1 x i hi
 have hab:=h.1 _ (ap hlt)
 have e:dP (l.take (i+1)) x=if l[i]!.1=x then dP (l.take i) x+l[i]!.2 else dP (l.take i) x:=by
  rw [List.take_succ_eq_append_getElem hlt,mT,getElem!_of hlt]
 by_cases h1:l[i]!.1=x
 ·rw [if_pos h1] at e
  repeat first|refine aa ?_|intro _
  rw [hii]
  repeat first|refine aa ?_|intro _
  rw [hii]
  repeat first|refine aa ?_|intro _
  refine ⟨i+1,ab,ab,?_,Ent.refl _⟩
  rw [show ((i+1:Nat):Int)=(i:Int)+1 by omega,e]
  exact aj
 ·rw [if_neg h1] at e
  repeat first|refine aa ?_|intro _
  rw [hii]
  repeat first|refine aa ?_|intro _
  refine ⟨i+1,ab,ab,?_,Ent.refl _⟩
  rw [show ((i+1:Nat):Int)=(i:Int)+1 by omega,e]
  exact aj
theorem rN {L:List HP} (x:ItG) (h:ItGood x):Tri Tryz.prog 153 #[.agg (aN x).toArray] L (fun v L'=>v=.int .i64 0∧L' = L):=by
 obtain ⟨hw,hf,hn1,hn2,hn3⟩:=h
 refine Tri.body (args:=[.agg (aN x).toArray]) 68 IL Tryz.func153 rfl rfl rfl (by simp) ?_
 simp only [aN]
 by_cases ho:x.obj=true
 ·rw [if_pos ho] at hf
  obtain ⟨f1,f2,f3,f4⟩:=hf
  obtain ⟨n1,n2⟩:=hn1 ho
  rw [ho,f1,f2]
  repeat first|refine aa ?_|intro _
  exact KX.a6 ai ae ⟨rfl,rfl⟩
 ·rw [if_neg ho] at hf
  obtain ⟨f1,f2,f3⟩:=hf
  have ho' : x.obj=false:=by simpa using ho
  rw [ho']
  repeat first|refine aa ?_|intro _
  exact KX.a6 ai ae ⟨rfl,rfl⟩
abbrev Bc (a b c:Bool):Value:=.tuple #[.bool a,.bool b,.bool c]
abbrev Af:List Stp:=[.ev 0,.ev 1,.ev 2,.ev 3,.ev 4,.ev 5,.ev 6,.ev 7,.ev 8,.ev 9,.ev 10,.ev 11]
theorem gO {φ ψ:Prop} (k:ψ) (h:Hid ψ→φ:=by intro k;(with_reducible apply G.a7);first|refine G.a6 (N:=42) (id:=6) Af mixed ah (Hid.out k)):φ:=h ⟨k⟩
theorem pm {L:List HP} (n:Nat) (t:TbV) (h:TbGood n t.m):Tri Tryz.prog 155 #[.agg (aS t).toArray] (isl cI 2 t.ad t.rows::L) (fun v L'=>v=Bc false false false∧L' = isl cI 2 t.ad t.rows::L):=by
 obtain ⟨⟨r1,r2⟩,r3⟩:=iE h
 refine Tri.body (args:=[.agg (aS t).toArray]) 42 IJ Tryz.func155 rfl rfl rfl (by simp) ?_
 simp only [aS]
 repeat first|refine aa ?_|intro _|refine gO ?_
 rename_i b1
 refine G.loop (α:=Nat) (fun i=>i≤t.rows.length) (fun i=>[(1,.pointer (some ⟨b1,0,none⟩)),(5,.bool false),(6,.int .i64 (i:Int))]) (fun _=>obj b1 37 [.string t.name,.slice t.ad t.rows.length t.cap]::isl cI 2 t.ad t.rows::L) (fun i=>t.rows.length - i) 0 (Nat.zero_le _) aj (Ent.refl _) ?_
 intro i hi
 by_cases hlt:i<t.rows.length
 case neg =>
  repeat first|refine aa ?_|intro _|refine gO ?_
  rw [an (show ¬((64:Int)<t.rows.length) by omega),an (show ¬((t.rows.length:Int)=0) by omega)]
  exact KX.a6 ai ae ⟨rfl,rfl⟩
 have hii:(i:Int).toNat=i:=ab
 have hw:=(r3 _ (ap hlt)).num
 change 1≤t.rows[i]!.weight∧t.rows[i]!.weight≤1099511627776 at hw
 repeat first|refine aa ?_|intro _|refine gO ?_
 rw [hii]
 repeat first|refine aa ?_|intro _|refine gO ?_
 rw [hii]
 repeat first|refine aa ?_|intro _|refine gO ?_
 refine ⟨i+1,ab,ab,?_,Ent.refl _⟩
 rw [show ((i+1:Nat):Int)=(i:Int)+1 by omega,an (show ¬(1099511627776<t.rows[i]!.weight) by omega)]
 exact aj
abbrev Ae:List Stp:=[.ev 0,.ev 1,.ev 2,.ev 3,.ev 4,.ev 5,.ev 6,.ev 7,.ev 8,.ev 9,.ev 10,.ev 11,.ev 12,.ev 13,.ev 14,.ev 15,.ev 16,.ev 17,.ev 18,.ev 19,.ev 20,.ev 21,.ev 22,.ev 23,.ev 24,.ev 25,.ev 26]
theorem ft {φ ψ:Prop} (k:ψ) (h:Hid ψ→φ:=by intro k;(with_reducible apply G.a7);first|refine G.a6 (N:=78) (id:=7) Ae mixed ah (Hid.out k)):φ:=h ⟨k⟩
theorem rz {L:List HP} (t:TxV) (h:TxGood t.m):Tri Tryz.prog 156 #[.agg (aU t).toArray] (isl aB 2 t.ad t.brs::L) (fun v L'=>v=Bc false false false∧L' = isl aB 2 t.ad t.brs::L):=by
 obtain ⟨b1,b2⟩:=h.brs
 change 0<t.brs.length at b1
 change t.brs.length≤16 at b2
 have hfirst:t.brs[0]!.1=0:=h.first
 have hsrt:∀ i,i+1<t.brs.length→t.brs[i]!.1<t.brs[i+1]!.1:=h.srt
 refine Tri.body (args:=[.agg (aU t).toArray]) 78 II Tryz.func156 rfl rfl rfl (by simp) ?_
 simp only [aU]
 repeat first|refine aa ?_|intro _|refine ft ?_
 rename_i bb
 rw [an (show ¬((t.brs.length:Int)=0) by omega)]
 refine G.loop (α:=Nat) (fun i=>i≤t.brs.length) (fun i=>[(1,.pointer (some ⟨bb,0,none⟩)),(5,.bool false),(6,.bool false),(7,.int .i64 (i:Int))]) (fun _=>obj bb 115 [.string t.name,.slice t.ad t.brs.length t.cap]::isl aB 2 t.ad t.brs::L) (fun i=>t.brs.length - i) 0 (Nat.zero_le _) aj (Ent.refl _) ?_
 intro i hi
 by_cases hlt:i<t.brs.length
 case neg =>
  repeat first|refine aa ?_|intro _|refine ft ?_
  rw [an (show ¬((16:Int)<t.brs.length) by omega)]
  exact KX.a6 ai ae ⟨rfl,rfl⟩
 have hii:(i:Int).toNat=i:=ab
 have hnum:=h.num _ (ap hlt)
 change (0≤t.brs[i]!.1∧t.brs[i]!.1≤1099511627776)∧0≤t.brs[i]!.2∧t.brs[i]!.2≤10000 at hnum
 repeat first|((fail_if_success (with_reducible refine G.atS 6 ?_));(with_reducible apply G.seq))|refine aL ?_|intro _|refine ft ?_
 repeat first|((fail_if_success (with_reducible refine G.atS 7 ?_));(with_reducible apply G.seq))|refine aL ?_|intro _|refine ft ?_
 rw [hii]
 simp only [aB]
 obtain ⟨x,hx⟩:∃ x,t.brs[i]! = x:=⟨_,rfl⟩
 rw [hx] at hnum ⊢
 obtain ⟨⟨m1,m2⟩,m3,m4⟩:=hnum
 rcases Nat.eq_zero_or_pos i with h0|h0
 ·have hx0:x.1=0:=by rw [← hx,h0];exact hfirst
  repeat first|refine aa ?_|intro _|refine ft ?_
  refine ⟨i+1,ab,ab,?_,by exact ae⟩
  rw [show ((i+1:Nat):Int)=(i:Int)+1 by omega,an (show ¬(10000<x.2) by omega)]
  exact aj
 ·have hpi:((i:Int) - 1).toNat=i - 1:=ab
  have hx1:=hsrt (i - 1) ab
  rw [show i - 1+1=i by omega,hx] at hx1
  repeat first|refine aa ?_|intro _|refine ft ?_
  rw [hpi]
  repeat first|refine aa ?_|intro _|refine ft ?_
  refine ⟨i+1,ab,ab,?_,by exact ae⟩
  rw [show ((i+1:Nat):Int)=(i:Int)+1 by omega,an (show ¬(10000<x.2) by omega),an (show ¬(x.1≤t.brs[i - 1]!.1) by omega)]
  exact aj
abbrev Ag:List Stp:=[.ev 0,.ev 1,.ev 2,.ev 3,.ev 4,.ev 5,.ev 6,.ev 7,.ev 8,.ev 9,.ev 11,.ev 12,.ev 13,.ev 14,.ev 15,.ev 16,.ev 17,.ev 18,.ef 10,.ef 19,.ev 20,.ev 21,.ev 22]
theorem cP {φ ψ:Prop} (k:ψ) (h:Hid ψ→φ:=by intro k;(with_reducible apply G.a7);first|refine G.a6 (N:=151) (id:=9) Ag mixed ah (Hid.out k)):φ:=h ⟨k⟩
theorem qp {L:List HP} (n:Nat) (r:RuV) (h:RuGood n r.m):Tri Tryz.prog 154 #[.agg (aA r).toArray] (isl aB 2 r.take.ad r.take.l::isl aB 2 r.give.ad r.give.l::isl aB 2 r.back.ad r.back.l::L) (fun v L'=>v=Bc false false false∧L' = isl aB 2 r.take.ad r.take.l::isl aB 2 r.give.ad r.give.l::isl aB 2 r.back.ad r.back.l::L):=by
 obtain ⟨hw,⟨hl1,hl2⟩,hgt,hgg,hgb,⟨hf1,hf2⟩,hcont,⟨⟨n1,n2⟩,⟨n3,n4⟩,⟨n5,n6⟩,n7,n8⟩⟩:=h
 change r.take.l.length+r.give.l.length≤64 at hl1
 change r.take.l.length+r.back.l.length≤64 at hl2
 change gi n r.take.l at hgt
 change gi n r.back.l at hgb
 change r.back.l.length=0∨r.chance≠r.of_ at hf1
 change ∀ a∈r.back.l,dP r.back.l a.1≤dP r.take.l a.1 at hcont
 change (if r.spawn=true then r.take.l.length=0∧r.back.l.length=0∧r.level=0∧r.time=0∧r.chance=r.of_ else 0<r.take.l.length∨r.time≠0) at hf2
 change 0≤r.level at n1
 change r.level≤100 at n2
 change 0≤r.time at n3
 change r.time≤1000000 at n4
 change 1≤r.of_ at n5
 change r.of_≤1000000 at n6
 change 1≤r.chance at n7
 change r.chance≤r.of_ at n8
 refine Tri.body (args:=[.agg (aA r).toArray]) 151 IK Tryz.func154 rfl rfl rfl (by simp) ?_
 simp only [aA]
 repeat first|((fail_if_success (with_reducible refine G.atS 1 ?_));(with_reducible apply G.seq))|refine aL ?_|intro _|refine cP ?_
 rename_i bb
 repeat first|((fail_if_success (with_reducible refine G.atS 2 ?_));(with_reducible apply G.seq))|refine aL ?_|intro _|refine cP ?_
 rw [an (show ¬((64:Int)<(r.take.l.length:Int)+r.back.l.length) by omega)]
 refine G.a8 (α:=Unit) (fun _=>True) (fun _=>[(1,.pointer (some ⟨bb,0,none⟩)),(5,.bool false),(6,.bool (dB (r.take.l.length=0∧r.time=0)))]) (fun _=>obj bb 67 [.string r.name,.bool r.spawn,.int .i64 r.level,.int .i64 r.time,.int .i64 r.chance,.int .i64 r.of_,.slice r.take.ad r.take.l.length r.take.cap,.slice r.give.ad r.give.l.length r.give.cap,.slice r.back.ad r.back.l.length r.back.cap]::isl aB 2 r.take.ad r.take.l::isl aB 2 r.give.ad r.give.l::isl aB 2 r.back.ad r.back.l::L) ?_ ?_
 ·by_cases q:r.take.l.length=0
  ·repeat first|refine aa ?_|intro _|refine cP ?_
   rw [show dB (r.time=0)=dB (r.take.l.length=0∧r.time=0) by congr 1;simp [q]]
   exact ⟨(),trivial,aj,Ent.refl _⟩
  ·repeat first|refine aa ?_|intro _|refine cP ?_
   rw [an (show ¬(r.take.l.length=0∧r.time=0) from fun h=>q h.1)]
   exact ⟨(),trivial,aj,Ent.refl _⟩
 rintro _ _
 repeat first|((fail_if_success (with_reducible refine G.c7 3 ?_));(with_reducible apply G.seq))|refine aL ?_|intro _|refine cP ?_
 refine G.a8 (α:=Unit) (fun _=>True) (fun _=>[(1,.pointer (some ⟨bb,0,none⟩)),(5,.bool false),(6,.bool false)]) (fun _=>obj bb 67 [.string r.name,.bool r.spawn,.int .i64 r.level,.int .i64 r.time,.int .i64 r.chance,.int .i64 r.of_,.slice r.take.ad r.take.l.length r.take.cap,.slice r.give.ad r.give.l.length r.give.cap,.slice r.back.ad r.back.l.length r.back.cap]::isl aB 2 r.take.ad r.take.l::isl aB 2 r.give.ad r.give.l::isl aB 2 r.back.ad r.back.l::L) ?_ ?_
 ·by_cases q:r.spawn=true
  ·rw [if_pos q] at hf2
   obtain ⟨q1,q2,q3,q4,q5⟩:=hf2
   rw [q]
   repeat first|refine aa ?_|intro _|refine cP ?_
   rw [an (show ¬(¬r.chance=r.of_) by omega)]
   exact ⟨(),trivial,aj,Ent.refl _⟩
  ·rw [if_neg q] at hf2
   have q' : r.spawn=false:=by simpa using q
   rw [q']
   repeat first|refine aa ?_|intro _|refine cP ?_
   rw [an (show ¬(r.take.l.length=0∧r.time=0) by omega)]
   exact ⟨(),trivial,aj,Ent.refl _⟩
 rintro _ _
 repeat first|((fail_if_success (with_reducible refine G.atS 5 ?_));(with_reducible apply G.seq))|refine aL ?_|intro _|refine cP ?_
 refine G.a8 (α:=Unit) (fun _=>True) (fun _=>[(1,.pointer (some ⟨bb,0,none⟩)),(5,.bool false),(6,.bool false)]) (fun _=>obj bb 67 [.string r.name,.bool r.spawn,.int .i64 r.level,.int .i64 r.time,.int .i64 r.chance,.int .i64 r.of_,.slice r.take.ad r.take.l.length r.take.cap,.slice r.give.ad r.give.l.length r.give.cap,.slice r.back.ad r.back.l.length r.back.cap]::isl aB 2 r.take.ad r.take.l::isl aB 2 r.give.ad r.give.l::isl aB 2 r.back.ad r.back.l::L) ?_ ?_
 ·by_cases q:r.back.l.length=0
  ·repeat first|refine aa ?_|intro _|refine cP ?_
   exact ⟨(),trivial,aj,Ent.refl _⟩
  ·have q2:¬r.chance=r.of_:=ab
   repeat first|refine aa ?_|intro _|refine cP ?_
   rw [an q2]
   exact ⟨(),trivial,aj,Ent.refl _⟩
 rintro _ _
 repeat first|refine aa ?_|intro _|refine cP ?_
 refine G.loop (α:=Nat) (fun i=>i≤r.back.l.length) (fun i=>[(1,.pointer (some ⟨bb,0,none⟩)),(5,.bool false),(6,.bool false),(7,.int .i64 (i:Int))]) (fun _=>obj bb 67 [.string r.name,.bool r.spawn,.int .i64 r.level,.int .i64 r.time,.int .i64 r.chance,.int .i64 r.of_,.slice r.take.ad r.take.l.length r.take.cap,.slice r.give.ad r.give.l.length r.give.cap,.slice r.back.ad r.back.l.length r.back.cap]::isl aB 2 r.take.ad r.take.l::isl aB 2 r.give.ad r.give.l::isl aB 2 r.back.ad r.back.l::L) (fun i=>r.back.l.length - i) 0 (Nat.zero_le _) aj (Ent.refl _) ?_
 intro i hi
 by_cases hlt:i<r.back.l.length
 case neg =>
  repeat first|refine aa ?_|intro _|refine cP ?_
  rw [an (show ¬(r.of_<r.chance) by omega)]
  exact KX.a6 ai ae ⟨rfl,rfl⟩
 have hii:(i:Int).toNat=i:=ab
 have hle:=hcont _ (ap hlt)
 repeat first|refine aa ?_|intro _|refine cP ?_
 refine GPW.ef (Ef.a6 (oM n r.back.ad r.back.l.length r.back.cap r.back.l rfl ab hgb r.back.l[(i:Int).toNat]!.1) rfl) ac ?_
 rintro _ _ ⟨rfl,rfl⟩
 repeat first|refine aa ?_|intro _|refine cP ?_
 refine GPW.ef (Ef.a6 (oM n r.take.ad r.take.l.length r.take.cap r.take.l rfl ab hgt r.back.l[(i:Int).toNat]!.1) rfl) ac ?_
 rintro _ _ ⟨rfl,rfl⟩
 rw [hii]
 repeat first|refine aa ?_|intro _|refine cP ?_
 rw [an (show ¬(dP r.take.l r.back.l[i]!.1<dP r.back.l r.back.l[i]!.1) by omega)]
 refine ⟨i+1,ab,ab,?_,by exact ae⟩
 rw [show ((i+1:Nat):Int)=(i:Int)+1 by omega]
 exact aj
end
section
abbrev tStr:Nat:=9
structure StrS where
 l:List ByteArray
 ad:Option Addr
 cap:Nat
 deriving Inhabited
def kl (a:StrS):List Value:=[.slice a.ad a.l.length a.cap]
def strP (a:StrS):HP:=isl cC 1 a.ad a.l
theorem qg (a:StrS):PersM (strP a):=bB _ _ _ _
def fo (a:AmS):List Value:=[.slice a.ad a.l.length a.cap]
theorem rh (a:AmS):∀ u∈fo a,u.oneCell' = true:=by simp [fo,Value.oneCell']
theorem ij {α β:Type} [Inhabited α] (f:α→β) {xs:List α} {i:Nat} (h:i<xs.length):(xs.take i).map f++[f xs[i]!]=(xs.take (i+1)).map f:=by
 rw [List.take_succ_eq_append_getElem h,List.map_append,getElem!_of h]
 rfl
theorem eG {α β:Type} (f:α→β) {xs:List α} {i:Nat} (h:i≤xs.length):((xs.take i).map f).length=i:=by rw [List.length_map,List.length_take];omega
theorem xS {L:List HP} (c:CatV) (hB:c.B):Tri Tryz.prog 150 #[.agg c.cells.toArray] (catS c L) (fun v L'=>∃ bn NN,v=.slice (some ⟨bn,0,none⟩) 4 4∧(NN.map StrS.l=[c.items.map (·.name),c.rules.map (·.name),c.tables.map (·.name),c.taxes.map (·.name)]∧∀ x∈NN,x.l.length≤x.cap)∧L' = isl kl 1 (some ⟨bn,0,none⟩) NN::allP strP NN::catS c L):=by
 have hb0:=hB.items
 have hb1:=hB.rules
 have hb2:=hB.tables
 have hb3:=hB.taxes
 refine Tri.body (args:=[.agg c.cells.toArray]) 80 IO Tryz.func150 rfl rfl rfl (by simp) ?_
 simp only [CatV.cells,catS]
 repeat first|((fail_if_success (with_reducible refine G.atS 1 ?_));(with_reducible apply G.seq))|refine aL ?_|intro _
 rename_i b1
 repeat first|((fail_if_success (with_reducible refine G.c7 2 ?_));(with_reducible apply G.seq))|refine aL ?_|intro _
 refine G.a8 (α:=Option Addr×Nat) (fun z=>c.items.length≤z.2) (fun z=>[(1,.pointer (some ⟨b1,0,none⟩)),(3,.slice z.1 c.items.length z.2),(4,.slice none 0 0),(5,.slice none 0 0),(6,.slice none 0 0)]) (fun z=>isl cC 1 z.1 (c.items.map (·.name))::obj b1 tCat [.slice c.iad c.items.length c.icap,.slice c.rad c.rules.length c.rcap,.slice c.tad c.tables.length c.tcap,.slice c.xad c.taxes.length c.xcap]::isl aN 7 c.iad c.items::isl aA 9 c.rad c.rules::allP ruP c.rules::isl aS 2 c.tad c.tables::allP tbP c.tables::isl aU 2 c.xad c.taxes::allP txP c.taxes::L) ?_ ?_
 ·repeat first|refine aa ?_|intro _
  refine G.loop (α:=Nat×Option Addr×Nat) (fun z=>z.1≤c.items.length) (fun z=>[(1,.pointer (some ⟨b1,0,none⟩)),(3,.slice z.2.1 z.1 z.2.2),(4,.slice none 0 0),(5,.slice none 0 0),(6,.slice none 0 0),(7,.int .i64 (z.1:Int))]) (fun z=>osl cC 1 tStr z.2.1 z.2.2 ((c.items.take z.1).map (·.name))::obj b1 tCat [.slice c.iad c.items.length c.icap,.slice c.rad c.rules.length c.rcap,.slice c.tad c.tables.length c.tcap,.slice c.xad c.taxes.length c.xcap]::isl aN 7 c.iad c.items::isl aA 9 c.rad c.rules::allP ruP c.rules::isl aS 2 c.tad c.tables::allP tbP c.tables::isl aU 2 c.xad c.taxes::allP txP c.taxes::L) (fun z=>c.items.length - z.1) (0,none,0) (Nat.zero_le _) aj (Ent.a7 cC 1 tStr) ?_
  rintro ⟨i,ad',cap'⟩ hi
  dsimp only at hi ⊢
  have hml:=eG (fun x:ItG=>x.name) hi
  by_cases hlt:i<c.items.length
  case neg =>
   have hin:i=c.items.length:=ab
   refine G.c9 (fe (ad:=ad')) ?_
   rintro ⟨hcp,_⟩
   rw [hml,hin] at hcp
   rw [List.take_of_length_le ab,hin]
   repeat first|refine aa ?_|intro _
   exact ⟨(ad',cap'),hcp,aj,Ent.frz ad'⟩
  have hii:(i:Int).toNat=i:=ab
  have e:=ij (fun x:ItG=>x.name) hlt
  repeat first|refine aa ?_|intro _
  rw [hii]
  repeat first|refine aa ?_|intro _
  refine GO.ef (Ef.a7 (enc:=cC) (e:=c.items[i]!.name) rfl rfl rfl hml.symm rfl (by rfl) (kf _) ab ab) ac ?_
  rintro _ _ ⟨ad2,cap2,rfl,rfl⟩
  rw [e]
  repeat first|refine aa ?_|intro _
  refine ⟨(i+1,ad2,cap2),by dsimp only;omega,by dsimp only;omega,?_,by exact ae⟩
  dsimp only
  rw [show ((i+1:Nat):Int)=(i:Int)+1 by omega]
  rw [eG (fun x:ItG=>x.name) (show i+1≤c.items.length by omega)]
  exact aj
 rintro ⟨a0,c0⟩ hq0
 dsimp only at hq0 ⊢
 repeat first|((fail_if_success (with_reducible refine G.c7 6 ?_));(with_reducible apply G.seq))|refine aL ?_|intro _
 refine G.a8 (α:=Option Addr×Nat) (fun z=>c.rules.length≤z.2) (fun z=>[(1,.pointer (some ⟨b1,0,none⟩)),(3,.slice a0 c.items.length c0),(4,.slice z.1 c.rules.length z.2),(5,.slice none 0 0),(6,.slice none 0 0)]) (fun z=>isl cC 1 z.1 (c.rules.map (·.name))::isl cC 1 a0 (c.items.map (·.name))::obj b1 tCat [.slice c.iad c.items.length c.icap,.slice c.rad c.rules.length c.rcap,.slice c.tad c.tables.length c.tcap,.slice c.xad c.taxes.length c.xcap]::isl aN 7 c.iad c.items::isl aA 9 c.rad c.rules::allP ruP c.rules::isl aS 2 c.tad c.tables::allP tbP c.tables::isl aU 2 c.xad c.taxes::allP txP c.taxes::L) ?_ ?_
 ·repeat first|refine aa ?_|intro _
  refine G.loop (α:=Nat×Option Addr×Nat) (fun z=>z.1≤c.rules.length) (fun z=>[(1,.pointer (some ⟨b1,0,none⟩)),(3,.slice a0 c.items.length c0),(4,.slice z.2.1 z.1 z.2.2),(5,.slice none 0 0),(6,.slice none 0 0),(8,.int .i64 (z.1:Int))]) (fun z=>osl cC 1 tStr z.2.1 z.2.2 ((c.rules.take z.1).map (·.name))::isl cC 1 a0 (c.items.map (·.name))::obj b1 tCat [.slice c.iad c.items.length c.icap,.slice c.rad c.rules.length c.rcap,.slice c.tad c.tables.length c.tcap,.slice c.xad c.taxes.length c.xcap]::isl aN 7 c.iad c.items::isl aA 9 c.rad c.rules::allP ruP c.rules::isl aS 2 c.tad c.tables::allP tbP c.tables::isl aU 2 c.xad c.taxes::allP txP c.taxes::L) (fun z=>c.rules.length - z.1) (0,none,0) (Nat.zero_le _) aj (Ent.a7 cC 1 tStr) ?_
  rintro ⟨i,ad',cap'⟩ hi
  dsimp only at hi ⊢
  have hml:=eG (fun x:RuV=>x.name) hi
  by_cases hlt:i<c.rules.length
  case neg =>
   have hin:i=c.rules.length:=ab
   refine G.c9 (fe (ad:=ad')) ?_
   rintro ⟨hcp,_⟩
   rw [hml,hin] at hcp
   rw [List.take_of_length_le ab,hin]
   repeat first|refine aa ?_|intro _
   exact ⟨(ad',cap'),hcp,aj,Ent.frz ad'⟩
  have hii:(i:Int).toNat=i:=ab
  have e:=ij (fun x:RuV=>x.name) hlt
  repeat first|refine aa ?_|intro _
  rw [hii]
  repeat first|refine aa ?_|intro _
  refine GO.ef (Ef.a7 (enc:=cC) (e:=c.rules[i]!.name) rfl rfl rfl hml.symm rfl (by rfl) (kf _) ab ab) ac ?_
  rintro _ _ ⟨ad2,cap2,rfl,rfl⟩
  rw [e]
  repeat first|refine aa ?_|intro _
  refine ⟨(i+1,ad2,cap2),by dsimp only;omega,by dsimp only;omega,?_,by exact ae⟩
  dsimp only
  rw [show ((i+1:Nat):Int)=(i:Int)+1 by omega]
  rw [eG (fun x:RuV=>x.name) (show i+1≤c.rules.length by omega)]
  exact aj
 rintro ⟨a1,c1⟩ hq1
 dsimp only at hq1 ⊢
 repeat first|((fail_if_success (with_reducible refine G.c7 10 ?_));(with_reducible apply G.seq))|refine aL ?_|intro _
 refine G.a8 (α:=Option Addr×Nat) (fun z=>c.tables.length≤z.2) (fun z=>[(1,.pointer (some ⟨b1,0,none⟩)),(3,.slice a0 c.items.length c0),(4,.slice a1 c.rules.length c1),(5,.slice z.1 c.tables.length z.2),(6,.slice none 0 0)]) (fun z=>isl cC 1 z.1 (c.tables.map (·.name))::isl cC 1 a1 (c.rules.map (·.name))::isl cC 1 a0 (c.items.map (·.name))::obj b1 tCat [.slice c.iad c.items.length c.icap,.slice c.rad c.rules.length c.rcap,.slice c.tad c.tables.length c.tcap,.slice c.xad c.taxes.length c.xcap]::isl aN 7 c.iad c.items::isl aA 9 c.rad c.rules::allP ruP c.rules::isl aS 2 c.tad c.tables::allP tbP c.tables::isl aU 2 c.xad c.taxes::allP txP c.taxes::L) ?_ ?_
 ·repeat first|refine aa ?_|intro _
  refine G.loop (α:=Nat×Option Addr×Nat) (fun z=>z.1≤c.tables.length) (fun z=>[(1,.pointer (some ⟨b1,0,none⟩)),(3,.slice a0 c.items.length c0),(4,.slice a1 c.rules.length c1),(5,.slice z.2.1 z.1 z.2.2),(6,.slice none 0 0),(9,.int .i64 (z.1:Int))]) (fun z=>osl cC 1 tStr z.2.1 z.2.2 ((c.tables.take z.1).map (·.name))::isl cC 1 a1 (c.rules.map (·.name))::isl cC 1 a0 (c.items.map (·.name))::obj b1 tCat [.slice c.iad c.items.length c.icap,.slice c.rad c.rules.length c.rcap,.slice c.tad c.tables.length c.tcap,.slice c.xad c.taxes.length c.xcap]::isl aN 7 c.iad c.items::isl aA 9 c.rad c.rules::allP ruP c.rules::isl aS 2 c.tad c.tables::allP tbP c.tables::isl aU 2 c.xad c.taxes::allP txP c.taxes::L) (fun z=>c.tables.length - z.1) (0,none,0) (Nat.zero_le _) aj (Ent.a7 cC 1 tStr) ?_
  rintro ⟨i,ad',cap'⟩ hi
  dsimp only at hi ⊢
  have hml:=eG (fun x:TbV=>x.name) hi
  by_cases hlt:i<c.tables.length
  case neg =>
   have hin:i=c.tables.length:=ab
   refine G.c9 (fe (ad:=ad')) ?_
   rintro ⟨hcp,_⟩
   rw [hml,hin] at hcp
   rw [List.take_of_length_le ab,hin]
   repeat first|refine aa ?_|intro _
   exact ⟨(ad',cap'),hcp,aj,Ent.frz ad'⟩
  have hii:(i:Int).toNat=i:=ab
  have e:=ij (fun x:TbV=>x.name) hlt
  repeat first|refine aa ?_|intro _
  rw [hii]
  repeat first|refine aa ?_|intro _
  refine GO.ef (Ef.a7 (enc:=cC) (e:=c.tables[i]!.name) rfl rfl rfl hml.symm rfl (by rfl) (kf _) ab ab) ac ?_
  rintro _ _ ⟨ad2,cap2,rfl,rfl⟩
  rw [e]
  repeat first|refine aa ?_|intro _
  refine ⟨(i+1,ad2,cap2),by dsimp only;omega,by dsimp only;omega,?_,by exact ae⟩
  dsimp only
  rw [show ((i+1:Nat):Int)=(i:Int)+1 by omega]
  rw [eG (fun x:TbV=>x.name) (show i+1≤c.tables.length by omega)]
  exact aj
 rintro ⟨a2,c2⟩ hq2
 dsimp only at hq2 ⊢
 repeat first|((fail_if_success (with_reducible refine G.c7 14 ?_));(with_reducible apply G.seq))|refine aL ?_|intro _
 refine G.a8 (α:=Option Addr×Nat) (fun z=>c.taxes.length≤z.2) (fun z=>[(1,.pointer (some ⟨b1,0,none⟩)),(3,.slice a0 c.items.length c0),(4,.slice a1 c.rules.length c1),(5,.slice a2 c.tables.length c2),(6,.slice z.1 c.taxes.length z.2)]) (fun z=>isl cC 1 z.1 (c.taxes.map (·.name))::isl cC 1 a2 (c.tables.map (·.name))::isl cC 1 a1 (c.rules.map (·.name))::isl cC 1 a0 (c.items.map (·.name))::obj b1 tCat [.slice c.iad c.items.length c.icap,.slice c.rad c.rules.length c.rcap,.slice c.tad c.tables.length c.tcap,.slice c.xad c.taxes.length c.xcap]::isl aN 7 c.iad c.items::isl aA 9 c.rad c.rules::allP ruP c.rules::isl aS 2 c.tad c.tables::allP tbP c.tables::isl aU 2 c.xad c.taxes::allP txP c.taxes::L) ?_ ?_
 ·repeat first|refine aa ?_|intro _
  refine G.loop (α:=Nat×Option Addr×Nat) (fun z=>z.1≤c.taxes.length) (fun z=>[(1,.pointer (some ⟨b1,0,none⟩)),(3,.slice a0 c.items.length c0),(4,.slice a1 c.rules.length c1),(5,.slice a2 c.tables.length c2),(6,.slice z.2.1 z.1 z.2.2),(10,.int .i64 (z.1:Int))]) (fun z=>osl cC 1 tStr z.2.1 z.2.2 ((c.taxes.take z.1).map (·.name))::isl cC 1 a2 (c.tables.map (·.name))::isl cC 1 a1 (c.rules.map (·.name))::isl cC 1 a0 (c.items.map (·.name))::obj b1 tCat [.slice c.iad c.items.length c.icap,.slice c.rad c.rules.length c.rcap,.slice c.tad c.tables.length c.tcap,.slice c.xad c.taxes.length c.xcap]::isl aN 7 c.iad c.items::isl aA 9 c.rad c.rules::allP ruP c.rules::isl aS 2 c.tad c.tables::allP tbP c.tables::isl aU 2 c.xad c.taxes::allP txP c.taxes::L) (fun z=>c.taxes.length - z.1) (0,none,0) (Nat.zero_le _) aj (Ent.a7 cC 1 tStr) ?_
  rintro ⟨i,ad',cap'⟩ hi
  dsimp only at hi ⊢
  have hml:=eG (fun x:TxV=>x.name) hi
  by_cases hlt:i<c.taxes.length
  case neg =>
   have hin:i=c.taxes.length:=ab
   refine G.c9 (fe (ad:=ad')) ?_
   rintro ⟨hcp,_⟩
   rw [hml,hin] at hcp
   rw [List.take_of_length_le ab,hin]
   repeat first|refine aa ?_|intro _
   exact ⟨(ad',cap'),hcp,aj,Ent.frz ad'⟩
  have hii:(i:Int).toNat=i:=ab
  have e:=ij (fun x:TxV=>x.name) hlt
  repeat first|refine aa ?_|intro _
  rw [hii]
  repeat first|refine aa ?_|intro _
  refine GO.ef (Ef.a7 (enc:=cC) (e:=c.taxes[i]!.name) rfl rfl rfl hml.symm rfl (by rfl) (kf _) ab ab) ac ?_
  rintro _ _ ⟨ad2,cap2,rfl,rfl⟩
  rw [e]
  repeat first|refine aa ?_|intro _
  refine ⟨(i+1,ad2,cap2),by dsimp only;omega,by dsimp only;omega,?_,by exact ae⟩
  dsimp only
  rw [show ((i+1:Nat):Int)=(i:Int)+1 by omega]
  rw [eG (fun x:TxV=>x.name) (show i+1≤c.taxes.length by omega)]
  exact aj
 rintro ⟨a3,c3⟩ hq3
 dsimp only at hq3 ⊢
 repeat first|refine aa ?_|intro _
 rename_i bn
 obtain ⟨NN,hNN⟩:∃ NN:List StrS,NN=[⟨c.items.map (·.name),a0,c0⟩,⟨c.rules.map (·.name),a1,c1⟩,⟨c.tables.map (·.name),a2,c2⟩,⟨c.taxes.map (·.name),a3,c3⟩]:=⟨_,rfl⟩
 refine KX.a6 ai ?_ ⟨bn,NN,rfl,⟨by rw [hNN];rfl,?_⟩,rfl⟩
 ·refine (Ent.d7 (enc:=kl) (sz:=1) (b:=bn) NN (by rw [hNN];simp [kl]) (fun x _=>rfl) (by rw [hNN];exact Nat.le_of_ble_eq_true rfl)).trans ?_
  refine Ent.trans (B:=strP ⟨c.items.map (·.name),a0,c0⟩::strP ⟨c.rules.map (·.name),a1,c1⟩::strP ⟨c.tables.map (·.name),a2,c2⟩::strP ⟨c.taxes.map (·.name),a3,c3⟩::allP strP []::isl kl 1 (some ⟨bn,0,none⟩) NN::catS c L) ?_ ?_
  ·refine (Ent.c7 strP).trans ?_
   simp only [strP,catS]
   exact ae
  ·refine (Ent.a6 (Ent.a6 (Ent.a6 (Ent.c9 qg)))).trans ((Ent.a6 (Ent.a6 (Ent.c9 qg))).trans ((Ent.a6 (Ent.c9 qg)).trans ((Ent.c9 qg).trans ?_)))
   rw [← hNN]
   exact Ent.perm (List.Perm.swap _ _ _)
 ·rw [hNN]
  intro x hx
  simp only [List.mem_cons,List.not_mem_nil,or_false] at hx
  rcases hx with rfl|rfl|rfl|rfl<;>(dsimp only;rw [List.length_map];assumption)
def lsR (rs:List RuV):List AmS:=rs.flatMap fun r=>[r.take,r.give,r.back]
def lsW (t:TbV):List AmS:=t.rows.map (·.give)
def lsT (ts:List TbV):List AmS:=ts.flatMap lsW
theorem DF {rs:List RuV} {i:Nat} (h:i<rs.length):lsR (rs.take i)++[rs[i]!.take,rs[i]!.give,rs[i]!.back]=lsR (rs.take (i+1)):=by
 unfold lsR
 rw [List.take_succ_eq_append_getElem h,List.flatMap_append,getElem!_of h]
 simp
theorem DE {ts:List TbV} {i:Nat} (h:i<ts.length):lsT (ts.take i)++lsW ts[i]! = lsT (ts.take (i+1)):=by
 unfold lsT
 rw [List.take_succ_eq_append_getElem h,List.flatMap_append,getElem!_of h]
 simp
theorem rL (rs:List RuV):(lsR rs).length=3*rs.length:=by
 unfold lsR
 induction rs with
 | nil=>rfl
 | cons r rs ih=>rw [List.flatMap_cons,List.length_append,ih];simp only [List.length_cons,List.length_nil];omega
theorem yH {ts:List TbV} (h:∀ t∈ts,t.rows.length≤64):(lsT ts).length≤64*ts.length:=by
 unfold lsT
 induction ts with
 | nil=>exact Nat.le_refl _
 | cons t ts ih =>
  have h1:=ih (fun t ht=>h t (List.mem_cons_of_mem _ ht))
  have h2:=h t (List.mem_cons_self)
  rw [List.flatMap_cons,List.length_append]
  simp only [lsW,List.length_map,List.length_cons]
  omega
abbrev qe:Nat:=38
abbrev Ad:List Stp:=[.ev 0,.ev 1,.ev 2,.ev 3,.ev 4,.ev 5,.ev 6,.ev 7,.ev 8,.ev 9,.ev 10,.ev 11,.ev 12,.ev 13,.ev 14,.ev 15,.ev 16,.ev 17,.ev 18,.ef 19,.ef 20,.ev 21]
theorem cF {φ ψ:Prop} (k:ψ) (h:Hid ψ→φ:=by intro k;(with_reducible apply G.a7);first|refine G.a6 (N:=67) (id:=5) Ad mixed ah (Hid.out k)):φ:=h ⟨k⟩
theorem xW {L:List HP} (c:CatV) (hB:c.B):Tri Tryz.prog 157 #[.agg c.cells.toArray] (catS c L) (fun v L'=>∃ ad cap,v=.slice ad (lsR c.rules++lsT c.tables).length cap∧L' = isl fo 1 ad (lsR c.rules++lsT c.tables)::catS c L):=by
 have hb1:=hB.rules
 have hb2:=hB.tables
 refine Tri.body (args:=[.agg c.cells.toArray]) 67 IH Tryz.func157 rfl rfl rfl (by simp) ?_
 simp only [CatV.cells,catS]
 repeat first|((fail_if_success (with_reducible refine G.atS 1 ?_));(with_reducible apply G.seq))|refine aL ?_|intro _|refine cF ?_
 rename_i b1
 repeat first|((fail_if_success (with_reducible refine G.c7 2 ?_));(with_reducible apply G.seq))|refine aL ?_|intro _|refine cF ?_
 refine G.a8 (α:=Option Addr×Nat) (fun _=>True) (fun z=>[(1,.pointer (some ⟨b1,0,none⟩)),(3,.slice z.1 (lsR c.rules).length z.2)]) (fun z=>osl fo 1 qe z.1 z.2 (lsR c.rules)::obj b1 tCat [.slice c.iad c.items.length c.icap,.slice c.rad c.rules.length c.rcap,.slice c.tad c.tables.length c.tcap,.slice c.xad c.taxes.length c.xcap]::isl aN 7 c.iad c.items::isl aA 9 c.rad c.rules::allP ruP c.rules::isl aS 2 c.tad c.tables::allP tbP c.tables::isl aU 2 c.xad c.taxes::allP txP c.taxes::L) ?_ ?_
 ·repeat first|refine aa ?_|intro _|refine cF ?_
  refine G.loop (α:=Nat×Option Addr×Nat) (fun z=>z.1≤c.rules.length) (fun z=>[(1,.pointer (some ⟨b1,0,none⟩)),(3,.slice z.2.1 (lsR (c.rules.take z.1)).length z.2.2),(4,.int .i64 (z.1:Int))]) (fun z=>osl fo 1 qe z.2.1 z.2.2 (lsR (c.rules.take z.1))::obj b1 tCat [.slice c.iad c.items.length c.icap,.slice c.rad c.rules.length c.rcap,.slice c.tad c.tables.length c.tcap,.slice c.xad c.taxes.length c.xcap]::isl aN 7 c.iad c.items::isl aA 9 c.rad c.rules::allP ruP c.rules::isl aS 2 c.tad c.tables::allP tbP c.tables::isl aU 2 c.xad c.taxes::allP txP c.taxes::L) (fun z=>c.rules.length - z.1) (0,none,0) (Nat.zero_le _) aj (Ent.a7 fo 1 qe) ?_
  rintro ⟨i,ad',cap'⟩ hi
  dsimp only at hi ⊢
  by_cases hlt:i<c.rules.length
  case neg =>
   rw [List.take_of_length_le ab]
   repeat first|refine aa ?_|intro _|refine cF ?_
   exact ⟨(ad',cap'),trivial,aj,Ent.refl _⟩
  have hii:(i:Int).toNat=i:=ab
  have e:=DF hlt
  have hll:=rL (c.rules.take i)
  have htl:(c.rules.take i).length=i:=by rw [List.length_take];omega
  repeat first|refine aa ?_|intro _|refine cF ?_
  rename_i bs
  refine GPW.ent (Ent.d7 (enc:=fo) (sz:=1) (b:=bs) [c.rules[(i:Int).toNat]!.take,c.rules[(i:Int).toNat]!.give,c.rules[(i:Int).toNat]!.back] (by simp [fo]) (fun x _=>rfl) (Nat.le_of_ble_eq_true rfl)) ?_
  have h3:([c.rules[(i:Int).toNat]!.take,c.rules[(i:Int).toNat]!.give,c.rules[(i:Int).toNat]!.back]).length=3:=rfl
  refine GPW.ef (Ef.c6 (enc:=fo) rfl rfl rfl rfl h3.symm (fun e _=>rh e) ab ab) ac ?_
  rintro _ _ ⟨ad2,cap2,rfl,rfl⟩
  rw [hii,e]
  repeat first|refine aa ?_|intro _|refine cF ?_
  refine ⟨(i+1,ad2,cap2),by dsimp only;omega,by dsimp only;omega,?_,by exact ae⟩
  dsimp only
  rw [show ((i+1:Nat):Int)=(i:Int)+1 by omega]
  exact aj
 rintro ⟨a0,c0⟩ _
 dsimp only
 have hlr:=rL c.rules
 repeat first|refine aa ?_|intro _|refine cF ?_
 refine G.loop (α:=Nat×Option Addr×Nat) (fun z=>z.1≤c.tables.length) (fun z=>[(1,.pointer (some ⟨b1,0,none⟩)),(3,.slice z.2.1 (lsR c.rules++lsT (c.tables.take z.1)).length z.2.2),(5,.int .i64 (z.1:Int))]) (fun z=>osl fo 1 qe z.2.1 z.2.2 (lsR c.rules++lsT (c.tables.take z.1))::obj b1 tCat [.slice c.iad c.items.length c.icap,.slice c.rad c.rules.length c.rcap,.slice c.tad c.tables.length c.tcap,.slice c.xad c.taxes.length c.xcap]::isl aN 7 c.iad c.items::isl aA 9 c.rad c.rules::allP ruP c.rules::isl aS 2 c.tad c.tables::allP tbP c.tables::isl aU 2 c.xad c.taxes::allP txP c.taxes::L) (fun z=>c.tables.length - z.1) (0,a0,c0) (Nat.zero_le _) ?_ ?_ ?_
 ·dsimp only
  rw [show lsT (c.tables.take 0)=[] from rfl,List.append_nil]
  exact aj
 ·dsimp only
  rw [show lsT (c.tables.take 0)=[] from rfl,List.append_nil]
  exact Ent.refl _
 rintro ⟨i,ad',cap'⟩ hi
 dsimp only at hi ⊢
 by_cases hlt:i<c.tables.length
 case neg =>
  rw [List.take_of_length_le ab]
  repeat first|refine aa ?_|intro _|refine cF ?_
  exact KX.a6 ai ((Ent.frz ad').trans ae) ⟨ad',cap',rfl,rfl⟩
 have hii:(i:Int).toNat=i:=ab
 have hmem:=ap hlt
 have htl:(c.tables.take i).length=i:=by rw [List.length_take];omega
 have hlt2:=yH (ts:=c.tables.take i) (fun t ht=>(hB.tb t (List.mem_of_mem_take ht)).1)
 obtain ⟨t,ht⟩:∃ t,c.tables[i]! = t:=⟨_,rfl⟩
 have e:=DE hlt
 rw [ht] at hmem e
 have htB:t.rows.length≤64:=(hB.tb t hmem).1
 have hwl:(lsW t).length=t.rows.length:=by unfold lsW;simp
 refine G.ent (Ent.at (A:=allP tbP c.tables) ((Ent.a8 (f:=tbP) hmem).trans Ent.andE)) ?_
 repeat first|refine aa ?_|intro _|refine cF ?_
 refine G.loop (α:=Nat×Option Addr×Nat) (fun z=>z.1≤t.rows.length) (fun z=>[(1,.pointer (some ⟨b1,0,none⟩)),(3,.slice z.2.1 (lsR c.rules++lsT (c.tables.take i)++(lsW t).take z.1).length z.2.2),(5,.int .i64 (i:Int)),(6,.int .i64 (z.1:Int))]) (fun z=>osl fo 1 qe z.2.1 z.2.2 (lsR c.rules++lsT (c.tables.take i)++(lsW t).take z.1)::isl cI 2 t.ad t.rows::allP rwP t.rows::obj b1 tCat [.slice c.iad c.items.length c.icap,.slice c.rad c.rules.length c.rcap,.slice c.tad c.tables.length c.tcap,.slice c.xad c.taxes.length c.xcap]::isl aN 7 c.iad c.items::isl aA 9 c.rad c.rules::allP ruP c.rules::isl aS 2 c.tad c.tables::allP tbP c.tables::isl aU 2 c.xad c.taxes::allP txP c.taxes::L) (fun z=>t.rows.length - z.1) (0,ad',cap') (Nat.zero_le _) ?_ ?_ ?_
 ·dsimp only
  rw [List.take_zero,List.append_nil]
  exact aj
 ·dsimp only
  rw [List.take_zero,List.append_nil]
  exact ae
 rintro ⟨k,ad1,cap1⟩ hk
 dsimp only at hk ⊢
 by_cases hlk:k<t.rows.length
 case neg =>
  have e3:(lsW t).take k=lsW t:=List.take_of_length_le ab
  rw [e3,List.append_assoc,e]
  repeat first|refine aa ?_|intro _|refine cF ?_
  rw [hii,ht]
  repeat first|refine aa ?_|intro _|refine cF ?_
  refine ⟨(i+1,ad1,cap1),by dsimp only;omega,by dsimp only;omega,?_,by exact ae⟩
  dsimp only
  rw [show ((i+1:Nat):Int)=(i:Int)+1 by omega]
  exact aj
 have hkk:(k:Int).toNat=k:=ab
 have e2:(lsW t).take k++[t.rows[k]!.give]=(lsW t).take (k+1):=by
  rw [List.take_succ_eq_append_getElem ab,getElem!_of hlk]
  simp [lsW]
 have hkl:((lsW t).take k).length=k:=by rw [List.length_take];omega
 have hal:(lsR c.rules++lsT (c.tables.take i)++(lsW t).take k).length=(lsR c.rules).length+(lsT (c.tables.take i)).length+k:=by rw [List.length_append,List.length_append,hkl]
 repeat first|refine aa ?_|intro _|refine cF ?_
 rw [hii,ht]
 repeat first|refine aa ?_|intro _|refine cF ?_
 rw [hii,ht]
 repeat first|refine aa ?_|intro _|refine cF ?_
 rw [hkk]
 repeat first|refine aa ?_|intro _|refine cF ?_
 refine GO.ef (Ef.a7 (enc:=fo) t.rows[k]!.give rfl rfl rfl rfl rfl (by rfl) (rh _) ab ab) ac ?_
 rintro _ _ ⟨ad2,cap2,rfl,rfl⟩
 rw [List.append_assoc,e2]
 repeat first|refine aa ?_|intro _|refine cF ?_
 refine ⟨(k+1,ad2,cap2),by dsimp only;omega,by dsimp only;omega,?_,by exact ae⟩
 dsimp only
 rw [show ((k+1:Nat):Int)=(k:Int)+1 by omega]
 exact aj
end
section
structure NmOk (x:StrS):Prop where
 len:x.l.length≤64
 cap:x.l.length≤x.cap
 word:∀ s∈x.l,IsWord s
 nd:x.l.Nodup
theorem Gc {c:CatV} (h:CatGood c.m) {NN:List StrS} (hN:NN.map StrS.l=[c.items.map (·.name),c.rules.map (·.name),c.tables.map (·.name),c.taxes.map (·.name)]∧∀ x∈NN,x.l.length≤x.cap):NN.length=4∧∀ x∈NN,NmOk x:=by
 obtain ⟨h1,h2⟩:=hN
 obtain ⟨l1,l2,l3,l4⟩:=lens h
 refine ⟨by have:=congrArg List.length h1;simpa using this,?_⟩
 intro x hx
 have hm:x.l∈NN.map StrS.l:=List.mem_map_of_mem hx
 rw [h1] at hm
 simp only [List.mem_cons,List.not_mem_nil,or_false] at hm
 have hr:(c.m.rules.map (·.name))=c.rules.map (·.name):=by simp only [CatV.m,List.map_map];rfl
 have ht:(c.m.tables.map (·.name))=c.tables.map (·.name):=by simp only [CatV.m,List.map_map];rfl
 have hx' : (c.m.taxes.map (·.name))=c.taxes.map (·.name):=by simp only [CatV.m,List.map_map];rfl
 refine ⟨?_,h2 x hx,?_,?_⟩
 ·rcases hm with e|e|e|e<;>rw [e,List.length_map]<;>omega
 ·intro s hs
  rcases hm with e|e|e|e<;>rw [e] at hs<;>obtain ⟨y,hy,rfl⟩:=List.mem_map.1 hs
  ·exact (h.it y hy).word
  ·exact (iA h y hy).word
  ·exact (iz h y hy).word
  ·exact (jr h y hy).word
 ·rcases hm with e|e|e|e<;>rw [e]
  ·exact h.di
  ·rw [← hr];exact h.dr
  ·rw [← ht];exact h.dt
  ·rw [← hx'];exact h.dx
theorem Fa {xs:List ByteArray} (h:xs.Nodup) {k:Nat} (hk:k<xs.length):xs[k]!∉xs.take k:=by
 intro hm
 rw [getElem!_of hk] at hm
 obtain ⟨j,hj,e⟩:=List.getElem_of_mem hm
 rw [List.length_take] at hj
 rw [List.getElem_take] at e
 have hj2:j<xs.length:=ab
 have:=List.pairwise_iff_getElem.1 h j k hj2 hk ab
 exact this e
theorem Fc {c:CatV} (hB:c.B) (h:CatGood c.m):∀ a∈lsR c.rules++lsT c.tables,gi c.items.length a.l∧a.l.length≤64:=by
 intro a ha
 rcases List.mem_append.1 ha with ha|ha
 ·obtain ⟨r,hr,ha⟩:=List.mem_flatMap.1 ha
  have hg:=iA h r hr
  have hl:=hg.lim
  change r.take.l.length+r.give.l.length≤64∧r.take.l.length+r.back.l.length≤64 at hl
  simp only [List.mem_cons,List.not_mem_nil,or_false] at ha
  rcases ha with rfl|rfl|rfl
  ·exact ⟨hg.take,ab⟩
  ·exact ⟨hg.give,ab⟩
  ·exact ⟨hg.back,ab⟩
 ·obtain ⟨t,ht,ha⟩:=List.mem_flatMap.1 ha
  obtain ⟨w,hw,rfl⟩:=List.mem_map.1 ha
  exact ⟨((iz h t ht).good _ (List.mem_map_of_mem hw)).give,(hB.tb t ht).2 w hw⟩
theorem FK {c:CatV} {a:AmS} (h:a∈lsR c.rules++lsT c.tables) {L:List HP}:Ent (allP ruP c.rules::allP tbP c.tables::L) (amS a::allP ruP c.rules::allP tbP c.tables::L):=by
 rcases List.mem_append.1 h with h|h
 ·obtain ⟨r,hr,ha⟩:=List.mem_flatMap.1 h
  refine (Ent.a8 (f:=ruP) hr).trans (Ent.andE.trans ((Ent.a6 Ent.andE).trans ?_))
  simp only [List.mem_cons,List.not_mem_nil,or_false] at ha
  rcases ha with rfl|rfl|rfl
  ·exact ae
  ·exact ae
  ·exact ae
 ·obtain ⟨t,ht,ha⟩:=List.mem_flatMap.1 h
  obtain ⟨w,hw,rfl⟩:=List.mem_map.1 ha
  refine (Ent.at (A:=allP tbP c.tables) ((Ent.a8 (f:=tbP) ht).trans (Ent.andE.trans (Ent.a6 (Ent.a8 (f:=rwP) hw))))).trans ?_
  exact ae
theorem Cy {c:CatV} {L:List HP}:∀ l:List AmS,(∀ a∈l,a∈lsR c.rules++lsT c.tables)→Ent (allP ruP c.rules::allP tbP c.tables::L) (allP amS l::allP ruP c.rules::allP tbP c.tables::L)
 | [],_=>Ent.c7 amS
 | a::l,h=>by
  have h1:=FK (L:=allP amS l::L) (h a List.mem_cons_self)
  have h2:=Cy (c:=c) (L:=L) l (fun x hx=>h x (List.mem_cons_of_mem _ hx))
  refine h2.trans (Ent.trans (B:=allP ruP c.rules::allP tbP c.tables::allP amS l::L) ae (h1.trans (Ent.trans (B:=amS a::allP amS l::allP ruP c.rules::allP tbP c.tables::L) ae (Ent.c9 gh))))
def Be (b:Bool):List Value:=[.bool b]
def no5:List Bool:=[false,false,false,false,false]
theorem FF {i:Nat} (h:i<5):no5[i]! = false:=by
 have:i=0∨i=1∨i=2∨i=3∨i=4:=ab
 rcases this with rfl|rfl|rfl|rfl|rfl<;>rfl
theorem EZ:no5.length=5:=rfl
abbrev xm:List Stp:=[.ev 0,.ev 1,.ev 2,.ev 3,.ev 4,.ev 5,.ev 6,.ev 7,.ev 8,.ev 9,.ev 10,.ev 11,.ev 12,.ev 13,.ev 14,.ef 15,.ev 16,.ev 17]
abbrev xl:List Stp:=[.ev 0,.ev 1,.ev 2,.ev 3,.ev 4,.ev 5,.ev 6,.ev 7,.ev 8,.ev 9,.ev 10,.ev 11,.ev 12,.ev 13,.ev 14,.ev 15,.ev 16,.ev 17,.ev 18,.ev 19,.ev 20,.ev 21,.ev 22,.ev 23,.ev 24,.ev 25,.ev 26,.ev 27,.ev 28,.ev 29,.ev 30,.ev 31,.ev 32]
theorem aF {φ ψ:Prop} (k:ψ) (h:Hid ψ→φ:=by intro k;(with_reducible apply G.a7);first|refine G.a6 (N:=316) (id:=14) xm mixed ah (Hid.out k)|refine G.a6 (N:=316) (id:=51) xl mixed ah (Hid.out k)):φ:=h ⟨k⟩
theorem BB {L:List HP} (c:CatV) (hB:c.B) (h:CatGood c.m):Tri Tryz.prog 105 #[.agg c.cells.toArray] (catS c L) (fun v L'=>v=.int .i64 0∧L' = catS c L):=by
 obtain ⟨l1,l2,l3,l4⟩:=lens h
 refine Tri.body (args:=[.agg c.cells.toArray]) 316 JB Tryz.func105 rfl rfl rfl (by simp) ?_
 simp only [CatV.cells,catS]
 repeat first|((fail_if_success (with_reducible refine G.atS 1 ?_));(with_reducible apply G.seq))|refine aL ?_|intro _|refine aF ?_
 rename_i b1
 repeat first|refine aa ?_|intro _|refine aF ?_
 rw [an (show ¬((32:Int)<(c.taxes.length:Int)) by omega)]
 refine GO.ent (L':=catS c (obj b1 tCat [.slice c.iad c.items.length c.icap,.slice c.rad c.rules.length c.rcap,.slice c.tad c.tables.length c.tcap,.slice c.xad c.taxes.length c.xcap]::L)) (by simp only [catS];exact ae) ?_
 refine GO.ef (Ef.a6 (xS c hB) rfl) ac ?_
 rintro _ _ ⟨bn,NN,rfl,hNN,rfl⟩
 obtain ⟨hnl,hnm⟩:=Gc h hNN
 simp only [catS]
 repeat first|((fail_if_success (with_reducible refine G.c7 7 ?_));(with_reducible apply G.seq))|refine aL ?_|intro _|refine aF ?_
 refine G.a8 (α:=Unit) (fun _=>True) (fun _=>[(1,.pointer (some ⟨b1,0,none⟩)),(3,.bool false),(4,.bool false),(5,.bool false),(6,.bool false),(7,.bool false)]) (fun _=>obj b1 tCat [.slice c.iad c.items.length c.icap,.slice c.rad c.rules.length c.rcap,.slice c.tad c.tables.length c.tcap,.slice c.xad c.taxes.length c.xcap]::isl aN 7 c.iad c.items::isl aA 9 c.rad c.rules::allP ruP c.rules::isl aS 2 c.tad c.tables::allP tbP c.tables::isl aU 2 c.xad c.taxes::allP txP c.taxes::L) ?_ ?_
 ·repeat first|refine aa ?_|intro _|refine aF ?_
  refine G.loop (α:=Nat) (fun i=>i≤4) (fun i=>[(1,.pointer (some ⟨b1,0,none⟩)),(3,.bool false),(4,.bool false),(5,.bool false),(6,.bool false),(7,.bool false),(8,.slice (some ⟨bn,0,none⟩) 4 4),(9,.int .i64 (i:Int))]) (fun _=>isl kl 1 (some ⟨bn,0,none⟩) NN::allP strP NN::obj b1 tCat [.slice c.iad c.items.length c.icap,.slice c.rad c.rules.length c.rcap,.slice c.tad c.tables.length c.tcap,.slice c.xad c.taxes.length c.xcap]::isl aN 7 c.iad c.items::isl aA 9 c.rad c.rules::allP ruP c.rules::isl aS 2 c.tad c.tables::allP tbP c.tables::isl aU 2 c.xad c.taxes::allP txP c.taxes::L) (fun i=>4 - i) 0 (Nat.zero_le _) aj ae ?_
  intro i hi
  by_cases hlt:i<4
  case neg =>
   repeat first|refine aa ?_|intro _|refine aF ?_
   exact ⟨(),trivial,aj,by exact ae⟩
  have hii:(i:Int).toNat=i:=ab
  have hmem:NN[(i:Int).toNat]!∈NN:=ap ab
  obtain ⟨x1,x2,x3,x4⟩:=hnm _ hmem
  refine G.ent (Ent.at (A:=allP strP NN) (Ent.a8 (f:=strP) hmem)) ?_
  repeat first|refine aa ?_|intro _|refine aF ?_
  refine G.loop (α:=Nat) (fun k=>k≤NN[(i:Int).toNat]!.l.length) (fun k=>[(1,.pointer (some ⟨b1,0,none⟩)),(3,.bool false),(4,.bool false),(5,.bool false),(6,.bool false),(7,.bool false),(8,.slice (some ⟨bn,0,none⟩) 4 4),(9,.int .i64 (i:Int)),(10,.int .i64 (k:Int))]) (fun _=>isl cC 1 NN[(i:Int).toNat]!.ad NN[(i:Int).toNat]!.l::isl kl 1 (some ⟨bn,0,none⟩) NN::allP strP NN::obj b1 tCat [.slice c.iad c.items.length c.icap,.slice c.rad c.rules.length c.rcap,.slice c.tad c.tables.length c.tcap,.slice c.xad c.taxes.length c.xcap]::isl aN 7 c.iad c.items::isl aA 9 c.rad c.rules::allP ruP c.rules::isl aS 2 c.tad c.tables::allP tbP c.tables::isl aU 2 c.xad c.taxes::allP txP c.taxes::L) (fun k=>NN[(i:Int).toNat]!.l.length - k) 0 (Nat.zero_le _) aj (by unfold strP;exact ae) ?_
  intro k hk
  by_cases hlk:k<NN[(i:Int).toNat]!.l.length
  case neg =>
   repeat first|refine aa ?_|intro _|refine aF ?_
   refine ⟨i+1,ab,ab,?_,by exact ae⟩
   rw [show ((i+1:Nat):Int)=(i:Int)+1 by omega]
   exact aj
  have hkk:(k:Int).toNat=k:=ab
  have hwd:IsWord NN[(i:Int).toNat]!.l[(k:Int).toNat]!:=by rw [hkk];exact x3 _ (ap hlk)
  have hni:NN[(i:Int).toNat]!.l[(k:Int).toNat]!∉NN[(i:Int).toNat]!.l.take k:=by rw [hkk];exact Fa x4 hlk
  have htk:(NN[(i:Int).toNat]!.l.take k).length=k:=by rw [List.length_take];omega
  repeat first|refine aa ?_|intro _|refine aF ?_
  refine GO.ef (Ef.a6 (za _ hwd) rfl) ac ?_
  rintro _ _ ⟨rfl,rfl⟩
  repeat first|refine aa ?_|intro _|refine aF ?_
  refine GPW.ef (Ef.a6 (DN (hrd:=Rds.take (xs:=NN[(i:Int).toNat]!.l) inferInstance k) NN[(i:Int).toNat]!.ad (k:Int).toNat NN[(i:Int).toNat]!.cap (NN[(i:Int).toNat]!.l.take k) ab ab NN[(i:Int).toNat]!.l[(k:Int).toNat]! hni) rfl) ac ?_
  rintro _ _ ⟨rfl,rfl⟩
  repeat first|refine aa ?_|intro _|refine aF ?_
  refine ⟨k+1,ab,ab,?_,by exact ae⟩
  rw [show ((k+1:Nat):Int)=(k:Int)+1 by omega]
  exact aj
 rintro _ _
 repeat first|((fail_if_success (with_reducible refine G.c7 15 ?_));(with_reducible apply G.seq))|refine aL ?_|intro _|refine aF ?_
 refine G.a8 (α:=Unit) (fun _=>True) (fun _=>[(1,.pointer (some ⟨b1,0,none⟩)),(3,.bool false),(4,.bool false),(5,.bool false),(6,.bool false),(7,.bool false)]) (fun _=>obj b1 tCat [.slice c.iad c.items.length c.icap,.slice c.rad c.rules.length c.rcap,.slice c.tad c.tables.length c.tcap,.slice c.xad c.taxes.length c.xcap]::isl aN 7 c.iad c.items::isl aA 9 c.rad c.rules::allP ruP c.rules::isl aS 2 c.tad c.tables::allP tbP c.tables::isl aU 2 c.xad c.taxes::allP txP c.taxes::L) ?_ ?_
 ·repeat first|refine aa ?_|intro _|refine aF ?_
  refine G.loop (α:=Nat) (fun i=>i≤c.items.length) (fun i=>[(1,.pointer (some ⟨b1,0,none⟩)),(3,.bool false),(4,.bool false),(5,.bool false),(6,.bool false),(7,.bool false),(11,.int .i64 (i:Int))]) (fun _=>obj b1 tCat [.slice c.iad c.items.length c.icap,.slice c.rad c.rules.length c.rcap,.slice c.tad c.tables.length c.tcap,.slice c.xad c.taxes.length c.xcap]::isl aN 7 c.iad c.items::isl aA 9 c.rad c.rules::allP ruP c.rules::isl aS 2 c.tad c.tables::allP tbP c.tables::isl aU 2 c.xad c.taxes::allP txP c.taxes::L) (fun i=>c.items.length - i) 0 (Nat.zero_le _) aj (Ent.refl _) ?_
  intro i hi
  by_cases hlt:i<c.items.length
  case neg =>
   repeat first|refine aa ?_|intro _|refine aF ?_
   exact ⟨(),trivial,aj,Ent.refl _⟩
  have hii:(i:Int).toNat=i:=ab
  have hit:=h.it _ (ap hlt)
  repeat first|((fail_if_success (with_reducible refine G.atS 18 ?_));(with_reducible apply G.seq))|refine aL ?_|intro _|refine aF ?_
  repeat first|((fail_if_success (with_reducible refine G.atS 19 ?_));(with_reducible apply G.seq))|refine aL ?_|intro _|refine aF ?_
  rw [hii]
  obtain ⟨x,hx⟩:∃ x,c.items[i]! = x:=⟨_,rfl⟩
  change ItGood c.items[i]! at hit
  rw [hx] at hit ⊢
  repeat first|refine aa ?_|intro _|refine aF ?_
  refine GO.ef (Ef.a6 (rN x hit) rfl) ac ?_
  rintro _ _ ⟨rfl,rfl⟩
  obtain ⟨_,_,hn1,hn2,hn3⟩:=hit
  simp only [aN]
  by_cases ho:x.obj=true
  ·obtain ⟨hw1,hw2⟩:=hn1 ho
   rw [ho]
   repeat first|refine aa ?_|intro _|refine aF ?_
   refine ⟨i+1,ab,ab,?_,by exact ae⟩
   rw [show ((i+1:Nat):Int)=(i:Int)+1 by omega,an (show ¬((0:Int)=1) by decide),an (show ¬(1048576<x.wear) by omega)]
   exact aj
  ·have ho' : x.obj=false:=by simpa using ho
   rw [ho']
   repeat first|refine aa ?_|intro _|refine aF ?_
   refine ⟨i+1,ab,ab,?_,by exact ae⟩
   rw [show ((i+1:Nat):Int)=(i:Int)+1 by omega,an (show ¬((0:Int)=1) by decide)]
   exact aj
 rintro _ _
 repeat first|((fail_if_success (with_reducible refine G.c7 22 ?_));(with_reducible apply G.seq))|refine aL ?_|intro _|refine aF ?_
 refine G.a8 (α:=Unit) (fun _=>True) (fun _=>[(1,.pointer (some ⟨b1,0,none⟩)),(3,.bool false),(4,.bool false),(5,.bool false),(6,.bool false),(7,.bool false)]) (fun _=>obj b1 tCat [.slice c.iad c.items.length c.icap,.slice c.rad c.rules.length c.rcap,.slice c.tad c.tables.length c.tcap,.slice c.xad c.taxes.length c.xcap]::isl aN 7 c.iad c.items::isl aA 9 c.rad c.rules::allP ruP c.rules::isl aS 2 c.tad c.tables::allP tbP c.tables::isl aU 2 c.xad c.taxes::allP txP c.taxes::L) ?_ ?_
 ·repeat first|refine aa ?_|intro _|refine aF ?_
  refine G.loop (α:=Nat) (fun i=>i≤c.rules.length) (fun i=>[(1,.pointer (some ⟨b1,0,none⟩)),(3,.bool false),(4,.bool false),(5,.bool false),(6,.bool false),(7,.bool false),(14,.int .i64 (i:Int))]) (fun _=>obj b1 tCat [.slice c.iad c.items.length c.icap,.slice c.rad c.rules.length c.rcap,.slice c.tad c.tables.length c.tcap,.slice c.xad c.taxes.length c.xcap]::isl aN 7 c.iad c.items::isl aA 9 c.rad c.rules::allP ruP c.rules::isl aS 2 c.tad c.tables::allP tbP c.tables::isl aU 2 c.xad c.taxes::allP txP c.taxes::L) (fun i=>c.rules.length - i) 0 (Nat.zero_le _) aj (Ent.refl _) ?_
  intro i hi
  by_cases hlt:i<c.rules.length
  case neg =>
   repeat first|refine aa ?_|intro _|refine aF ?_
   exact ⟨(),trivial,aj,Ent.refl _⟩
  have hii:(i:Int).toNat=i:=ab
  have hmem:=ap hlt
  have hr:=iA h _ hmem
  refine G.ent (Ent.at (A:=allP ruP c.rules) ((Ent.a8 (f:=ruP) hmem).trans (Ent.andE.trans (Ent.a6 Ent.andE)))) ?_
  repeat first|refine aa ?_|intro _|refine aF ?_
  rw [hii]
  refine GO.ent (L':=isl aB 2 c.rules[i]!.take.ad c.rules[i]!.take.l::isl aB 2 c.rules[i]!.give.ad c.rules[i]!.give.l::isl aB 2 c.rules[i]!.back.ad c.rules[i]!.back.l::obj b1 tCat [.slice c.iad c.items.length c.icap,.slice c.rad c.rules.length c.rcap,.slice c.tad c.tables.length c.tcap,.slice c.xad c.taxes.length c.xcap]::isl aN 7 c.iad c.items::isl aA 9 c.rad c.rules::allP ruP c.rules::isl aS 2 c.tad c.tables::allP tbP c.tables::isl aU 2 c.xad c.taxes::allP txP c.taxes::L) (by simp only [amS];exact ae) ?_
  refine GO.ef (Ef.a6 (qp c.items.length c.rules[i]! hr) rfl) ac ?_
  rintro _ _ ⟨rfl,rfl⟩
  repeat first|refine aa ?_|intro _|refine aF ?_
  refine ⟨i+1,ab,ab,?_,by exact ae⟩
  rw [show ((i+1:Nat):Int)=(i:Int)+1 by omega]
  exact aj
 rintro _ _
 repeat first|((fail_if_success (with_reducible refine G.c7 29 ?_));(with_reducible apply G.seq))|refine aL ?_|intro _|refine aF ?_
 refine G.a8 (α:=Unit) (fun _=>True) (fun _=>[(1,.pointer (some ⟨b1,0,none⟩)),(3,.bool false),(4,.bool false),(5,.bool false),(6,.bool false),(7,.bool false)]) (fun _=>obj b1 tCat [.slice c.iad c.items.length c.icap,.slice c.rad c.rules.length c.rcap,.slice c.tad c.tables.length c.tcap,.slice c.xad c.taxes.length c.xcap]::isl aN 7 c.iad c.items::isl aA 9 c.rad c.rules::allP ruP c.rules::isl aS 2 c.tad c.tables::allP tbP c.tables::isl aU 2 c.xad c.taxes::allP txP c.taxes::L) ?_ ?_
 ·repeat first|refine aa ?_|intro _|refine aF ?_
  refine G.loop (α:=Nat) (fun i=>i≤c.tables.length) (fun i=>[(1,.pointer (some ⟨b1,0,none⟩)),(3,.bool false),(4,.bool false),(5,.bool false),(6,.bool false),(7,.bool false),(18,.int .i64 (i:Int))]) (fun _=>obj b1 tCat [.slice c.iad c.items.length c.icap,.slice c.rad c.rules.length c.rcap,.slice c.tad c.tables.length c.tcap,.slice c.xad c.taxes.length c.xcap]::isl aN 7 c.iad c.items::isl aA 9 c.rad c.rules::allP ruP c.rules::isl aS 2 c.tad c.tables::allP tbP c.tables::isl aU 2 c.xad c.taxes::allP txP c.taxes::L) (fun i=>c.tables.length - i) 0 (Nat.zero_le _) aj (Ent.refl _) ?_
  intro i hi
  by_cases hlt:i<c.tables.length
  case neg =>
   repeat first|refine aa ?_|intro _|refine aF ?_
   exact ⟨(),trivial,aj,Ent.refl _⟩
  have hii:(i:Int).toNat=i:=ab
  have hmem:=ap hlt
  have hr:=iz h _ hmem
  refine G.ent (Ent.at (A:=allP tbP c.tables) ((Ent.a8 (f:=tbP) hmem).trans Ent.andE)) ?_
  repeat first|refine aa ?_|intro _|refine aF ?_
  rw [hii]
  refine GO.ent (L':=isl cI 2 c.tables[i]!.ad c.tables[i]!.rows::obj b1 tCat [.slice c.iad c.items.length c.icap,.slice c.rad c.rules.length c.rcap,.slice c.tad c.tables.length c.tcap,.slice c.xad c.taxes.length c.xcap]::isl aN 7 c.iad c.items::isl aA 9 c.rad c.rules::allP ruP c.rules::isl aS 2 c.tad c.tables::allP tbP c.tables::isl aU 2 c.xad c.taxes::allP txP c.taxes::L) ae ?_
  refine GO.ef (Ef.a6 (pm c.items.length c.tables[i]! hr) rfl) ac ?_
  rintro _ _ ⟨rfl,rfl⟩
  repeat first|refine aa ?_|intro _|refine aF ?_
  refine ⟨i+1,ab,ab,?_,by exact ae⟩
  rw [show ((i+1:Nat):Int)=(i:Int)+1 by omega]
  exact aj
 rintro _ _
 repeat first|((fail_if_success (with_reducible refine G.c7 36 ?_));(with_reducible apply G.seq))|refine aL ?_|intro _|refine aF ?_
 refine G.a8 (α:=Unit) (fun _=>True) (fun _=>[(1,.pointer (some ⟨b1,0,none⟩)),(3,.bool false),(4,.bool false),(5,.bool false),(6,.bool false),(7,.bool false)]) (fun _=>obj b1 tCat [.slice c.iad c.items.length c.icap,.slice c.rad c.rules.length c.rcap,.slice c.tad c.tables.length c.tcap,.slice c.xad c.taxes.length c.xcap]::isl aN 7 c.iad c.items::isl aA 9 c.rad c.rules::allP ruP c.rules::isl aS 2 c.tad c.tables::allP tbP c.tables::isl aU 2 c.xad c.taxes::allP txP c.taxes::L) ?_ ?_
 ·repeat first|refine aa ?_|intro _|refine aF ?_
  refine G.loop (α:=Nat) (fun i=>i≤c.taxes.length) (fun i=>[(1,.pointer (some ⟨b1,0,none⟩)),(3,.bool false),(4,.bool false),(5,.bool false),(6,.bool false),(7,.bool false),(22,.int .i64 (i:Int))]) (fun _=>obj b1 tCat [.slice c.iad c.items.length c.icap,.slice c.rad c.rules.length c.rcap,.slice c.tad c.tables.length c.tcap,.slice c.xad c.taxes.length c.xcap]::isl aN 7 c.iad c.items::isl aA 9 c.rad c.rules::allP ruP c.rules::isl aS 2 c.tad c.tables::allP tbP c.tables::isl aU 2 c.xad c.taxes::allP txP c.taxes::L) (fun i=>c.taxes.length - i) 0 (Nat.zero_le _) aj (Ent.refl _) ?_
  intro i hi
  by_cases hlt:i<c.taxes.length
  case neg =>
   repeat first|refine aa ?_|intro _|refine aF ?_
   exact ⟨(),trivial,aj,Ent.refl _⟩
  have hii:(i:Int).toNat=i:=ab
  have hmem:=ap hlt
  have hr:=jr h _ hmem
  refine G.ent (Ent.at (A:=allP txP c.taxes) (Ent.a8 (f:=txP) hmem)) ?_
  repeat first|refine aa ?_|intro _|refine aF ?_
  rw [hii]
  refine GO.ent (L':=isl aB 2 c.taxes[i]!.ad c.taxes[i]!.brs::obj b1 tCat [.slice c.iad c.items.length c.icap,.slice c.rad c.rules.length c.rcap,.slice c.tad c.tables.length c.tcap,.slice c.xad c.taxes.length c.xcap]::isl aN 7 c.iad c.items::isl aA 9 c.rad c.rules::allP ruP c.rules::isl aS 2 c.tad c.tables::allP tbP c.tables::isl aU 2 c.xad c.taxes::allP txP c.taxes::L) (by unfold txP;exact ae) ?_
  refine GO.ef (Ef.a6 (rz c.taxes[i]! hr) rfl) ac ?_
  rintro _ _ ⟨rfl,rfl⟩
  repeat first|refine aa ?_|intro _|refine aF ?_
  refine ⟨i+1,ab,ab,?_,by exact ae⟩
  rw [show ((i+1:Nat):Int)=(i:Int)+1 by omega]
  exact aj
 rintro _ _
 repeat first|refine aa ?_|intro _|refine aF ?_
 refine GO.ent (L':=catS c (obj b1 tCat [.slice c.iad c.items.length c.icap,.slice c.rad c.rules.length c.rcap,.slice c.tad c.tables.length c.tcap,.slice c.xad c.taxes.length c.xcap]::L)) (by simp only [catS];exact ae) ?_
 refine GO.ef (Ef.a6 (xW c hB) rfl) ac ?_
 rintro _ _ ⟨al,cl,rfl,rfl⟩
 simp only [catS]
 have hlg:=Fc hB h
 have hle:∀ {L:List HP},Ent (allP ruP c.rules::allP tbP c.tables::L) (allP amS (lsR c.rules++lsT c.tables)::allP ruP c.rules::allP tbP c.tables::L):=Cy _ (fun _ h=>h)
 have hll:(lsR c.rules++lsT c.tables).length≤100000:=by
  have q1:=rL c.rules
  have q2:=yH (ts:=c.tables) (fun t ht=>(hB.tb t ht).1)
  rw [List.length_append]
  omega
 generalize lsR c.rules++lsT c.tables=ls at hlg hle hll
 repeat first|((fail_if_success (with_reducible refine G.c7 44 ?_));(with_reducible apply G.seq))|refine aL ?_|intro _|refine aF ?_
 refine G.a8 (α:=Unit) (fun _=>True) (fun _=>[(1,.pointer (some ⟨b1,0,none⟩)),(3,.bool false),(4,.bool false),(5,.bool false),(6,.bool false),(7,.bool false)]) (fun _=>obj b1 tCat [.slice c.iad c.items.length c.icap,.slice c.rad c.rules.length c.rcap,.slice c.tad c.tables.length c.tcap,.slice c.xad c.taxes.length c.xcap]::isl aN 7 c.iad c.items::isl aA 9 c.rad c.rules::allP ruP c.rules::isl aS 2 c.tad c.tables::allP tbP c.tables::isl aU 2 c.xad c.taxes::allP txP c.taxes::L) ?_ ?_
 ·repeat first|refine aa ?_|intro _|refine aF ?_
  refine G.loop (α:=Nat) (fun i=>i≤ls.length) (fun i=>[(1,.pointer (some ⟨b1,0,none⟩)),(3,.bool false),(4,.bool false),(5,.bool false),(6,.bool false),(7,.bool false),(26,.slice al ls.length cl),(27,.int .i64 (i:Int))]) (fun _=>allP amS ls::isl fo 1 al ls::obj b1 tCat [.slice c.iad c.items.length c.icap,.slice c.rad c.rules.length c.rcap,.slice c.tad c.tables.length c.tcap,.slice c.xad c.taxes.length c.xcap]::isl aN 7 c.iad c.items::isl aA 9 c.rad c.rules::allP ruP c.rules::isl aS 2 c.tad c.tables::allP tbP c.tables::isl aU 2 c.xad c.taxes::allP txP c.taxes::L) (fun i=>ls.length - i) 0 (Nat.zero_le _) aj (Ent.trans (B:=allP ruP c.rules::allP tbP c.tables::isl fo 1 al ls::obj b1 tCat [.slice c.iad c.items.length c.icap,.slice c.rad c.rules.length c.rcap,.slice c.tad c.tables.length c.tcap,.slice c.xad c.taxes.length c.xcap]::isl aN 7 c.iad c.items::isl aA 9 c.rad c.rules::isl aS 2 c.tad c.tables::isl aU 2 c.xad c.taxes::allP txP c.taxes::L) ae (hle.trans ae)) ?_
  intro i hi
  by_cases hlt:i<ls.length
  case neg =>
   repeat first|refine aa ?_|intro _|refine aF ?_
   exact ⟨(),trivial,aj,by exact ae⟩
  have hmem:ls[(i:Int).toNat]!∈ls:=ap ab
  obtain ⟨⟨g1,g2⟩,g3⟩:=hlg _ hmem
  refine G.ent (Ent.at (A:=allP amS ls) (Ent.a8 (f:=amS) hmem)) ?_
  repeat first|refine aa ?_|intro _|refine aF ?_
  refine G.loop (α:=Nat) (fun k=>k≤ls[(i:Int).toNat]!.l.length) (fun k=>[(1,.pointer (some ⟨b1,0,none⟩)),(3,.bool false),(4,.bool false),(5,.bool false),(6,.bool false),(7,.bool false),(26,.slice al ls.length cl),(27,.int .i64 (i:Int)),(28,.int .i64 (k:Int))]) (fun _=>isl aB 2 ls[(i:Int).toNat]!.ad ls[(i:Int).toNat]!.l::allP amS ls::isl fo 1 al ls::obj b1 tCat [.slice c.iad c.items.length c.icap,.slice c.rad c.rules.length c.rcap,.slice c.tad c.tables.length c.tcap,.slice c.xad c.taxes.length c.xcap]::isl aN 7 c.iad c.items::isl aA 9 c.rad c.rules::allP ruP c.rules::isl aS 2 c.tad c.tables::allP tbP c.tables::isl aU 2 c.xad c.taxes::allP txP c.taxes::L) (fun k=>ls[(i:Int).toNat]!.l.length - k) 0 (Nat.zero_le _) aj ae ?_
  intro k hk
  by_cases hlk:k<ls[(i:Int).toNat]!.l.length
  case neg =>
   repeat first|refine aa ?_|intro _|refine aF ?_
   refine ⟨i+1,ab,ab,?_,by exact ae⟩
   rw [show ((i+1:Nat):Int)=(i:Int)+1 by omega]
   exact aj
  have hkk:(k:Int).toNat=k:=ab
  have hab:=g1 ls[(i:Int).toNat]!.l[(k:Int).toNat]! (by rw [hkk];exact ap hlk)
  have hsr:0<k→ls[(i:Int).toNat]!.l[((k:Int) - 1).toNat]!.1<ls[(i:Int).toNat]!.l[(k:Int).toNat]!.1:=by
   intro h0
   rw [hkk,show ((k:Int) - 1).toNat=k - 1 by omega,getElem!_of hlk,getElem!_of (show k - 1<ls[(i:Int).toNat]!.l.length by omega)]
   exact List.pairwise_iff_getElem.1 g2 (k - 1) k ab hlk ab
  repeat first|((fail_if_success (with_reducible refine G.atS 50 ?_));(with_reducible apply G.seq))|refine aL ?_|intro _|refine aF ?_
  repeat first|((fail_if_success (with_reducible refine G.atS 51 ?_));(with_reducible apply G.seq))|refine aL ?_|intro _|refine aF ?_
  simp only [aB]
  obtain ⟨y,hy⟩:∃ y,ls[(i:Int).toNat]!.l[(k:Int).toNat]! = y:=⟨_,rfl⟩
  rw [hy] at hab hsr ⊢
  obtain ⟨m1,m2,m3,m4⟩:=hab
  rcases Nat.eq_zero_or_pos k with h0|h0
  ·repeat first|refine aa ?_|intro _|refine aF ?_
   refine ⟨k+1,ab,ab,?_,by exact ae⟩
   rw [show ((k+1:Nat):Int)=(k:Int)+1 by omega,an (show ¬(1099511627776<y.2) by omega)]
   exact aj
  ·have hs1:=hsr h0
   repeat first|refine aa ?_|intro _|refine aF ?_
   refine ⟨k+1,ab,ab,?_,by exact ae⟩
   rw [show ((k+1:Nat):Int)=(k:Int)+1 by omega,an (show ¬(1099511627776<y.2) by omega),an (show ¬(y.1≤ls[(i:Int).toNat]!.l[((k:Int) - 1).toNat]!.1) by omega)]
   exact aj
 rintro _ _
 repeat first|refine aa ?_|intro _|refine aF ?_
 rename_i b30 b31
 refine G.ent (Ent.d7 (enc:=Be) (sz:=1) (b:=b30) no5 (by simp [Be,no5]) (fun x _=>rfl) (Nat.le_of_ble_eq_true rfl)) ?_
 have hn5:=EZ
 refine G.loop (α:=Nat) (fun i=>i≤5) (fun i=>[(30,.slice (some ⟨b30,0,none⟩) 5 5),(32,.int .i64 (i:Int))]) (fun _=>isl Be 1 (some ⟨b30,0,none⟩) no5::isl aN 7 c.iad c.items::isl aA 9 c.rad c.rules::allP ruP c.rules::isl aS 2 c.tad c.tables::allP tbP c.tables::isl aU 2 c.xad c.taxes::allP txP c.taxes::L) (fun i=>5 - i) 0 (Nat.zero_le _) aj ae ?_
 intro i hi
 by_cases hlt:i<5
 case neg =>
  repeat first|refine aa ?_|intro _|refine aF ?_
  exact KX.a6 ai ae ⟨rfl,rfl⟩
 have hii:(i:Int).toNat=i:=ab
 have hf:=FF hlt
 repeat first|refine aa ?_|intro _|refine aF ?_
 rw [hii,hf]
 repeat first|refine aa ?_|intro _|refine aF ?_
 refine ⟨i+1,ab,ab,?_,by exact ae⟩
 rw [show ((i+1:Nat):Int)=(i:Int)+1 by omega]
 exact aj
end
section
abbrev tRL:Nat:=173
abbrev tRY:Nat:=106
abbrev rl0 (sh:Int) (c:CatV):List Value:=[.int .i64 sh,.slice c.iad c.items.length c.icap,.slice c.rad c.rules.length c.rcap,.slice c.tad c.tables.length c.tcap,.slice c.xad c.taxes.length c.xcap,.slice none 0 0,.slice none 0 0,.slice none 0 0]
theorem BQ {L:List HP} (sh:Int) (c:CatV) (hsh:0≤sh∧sh≤11) (hB:c.B) (h:CatGood c.m):Tri Tryz.prog 47 #[.int .i64 sh,.agg c.cells.toArray] (catP c::L) (fun v L'=>∃ b,v=.tuple #[.pointer (some ⟨b,0,none⟩),.int .i64 0]∧L' = obj b tRL (rl0 sh c)::catP c::L):=by
 obtain ⟨h1,h2⟩:=hsh
 refine Tri.body (args:=[.int .i64 sh,.agg c.cells.toArray]) 22 en47 Tryz.func47 rfl rfl rfl (by simp) ?_
 simp only [CatV.cells]
 repeat first|refine aa ?_|intro _
 rename_i b3
 refine GO.ent (L':=catP c::obj b3 tCat [.slice c.iad c.items.length c.icap,.slice c.rad c.rules.length c.rcap,.slice c.tad c.tables.length c.tcap,.slice c.xad c.taxes.length c.xcap]::L) ae ?_
 refine GO.ent catS_open ?_
 refine GO.ef (Ef.a6 (BB c hB h) rfl) ac ?_
 rintro _ _ ⟨rfl,rfl⟩
 simp only [catS]
 repeat first|refine aa ?_|intro _
 rename_i b
 exact KX.a6 ai ae ⟨b,rfl,rfl⟩
theorem th {L:List HP} (n:Int) (h:I64 n):Tri Tryz.prog 10 #[.int .i64 n] (aP::L) (fun v L'=>∃ yb lb mb rb sb c,v=.tuple #[.pointer (some ⟨yb,0,none⟩),.pointer (some ⟨lb,0,none⟩),.pointer (some ⟨mb,0,none⟩),.bool true]∧(c.m=cat16∧c.B)∧L' = bz yb lb (bO (aR n))::LedR lb (led0 3 cat16)::obj mb tRY [.pointer (some ⟨rb,0,none⟩),.slice (some ⟨sb,0,none⟩) 3 3,.slice none 0 0,.int .i64 0,.int .i64 0]::osl (encZ .u8) 1 jZ (some ⟨sb,0,none⟩) 3 (aR n)::obj rb tRL (rl0 3 c)::catP c::aP::L):=by
 refine Tri.body (args:=[.int .i64 n]) 52 en10 Tryz.func10 rfl rfl rfl (by simp) ?_
 repeat first|refine aa ?_|intro _
 refine GO.ef (Ef.a6 (fh) rfl) ac ?_
 rintro _ _ ⟨c1,rfl,⟨hc1,hB1⟩,rfl⟩
 repeat first|refine aa ?_|intro _
 refine GO.ef (Ef.a6 (sI 3 c1 ac hB1 (hc1▸cat16_good)) rfl) ac ?_
 rintro _ _ ⟨lb,rfl,rfl⟩
 rw [hc1]
 repeat first|refine aa ?_|intro _
 refine GO.ef (Ef.a6 (fh) rfl) ac ?_
 rintro _ _ ⟨c2,rfl,⟨hc2,hB2⟩,rfl⟩
 repeat first|refine aa ?_|intro _
 refine GO.ef (Ef.a6 (BQ 3 c2 ac hB2 (hc2▸cat16_good)) rfl) ac ?_
 rintro _ _ ⟨rb,rfl,rfl⟩
 repeat first|refine aa ?_|intro _
 refine GO.ef (Ef.a6 (fb n h) rfl) ac ?_
 rintro _ _ ⟨s1,rfl,rfl⟩
 repeat first|refine aa ?_|intro _
 refine GO.ef (Ef.a6 (nj lb (some ⟨s1,0,none⟩) 3 3 (aR n) rfl ac ac) rfl) ac ?_
 rintro _ _ ⟨yb,rfl,rfl⟩
 repeat first|refine aa ?_|intro _
 refine GO.ef (Ef.a6 (fb n h) rfl) ac ?_
 rintro _ _ ⟨s2,rfl,rfl⟩
 repeat first|refine aa ?_|intro _
 rename_i mb
 rw [aw (show (0:Int)=0 from rfl)]
 refine KX.a6 ai ?_ ⟨yb,lb,mb,rb,s2,c2,rfl,⟨hc2,hB2⟩,rfl⟩
 exact ae
end
end Go.Proofs.YtfmgkkofledkbaaGreatDoor
