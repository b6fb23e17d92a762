/- Lemmas and contracts of functions, in the order: E3, O10. -/
import Derived.Test.YtfmgkkofledkbaaGreatDoorGCraftAllg
import Derived.Test.YtfmgkkofledkbaaGreatDoorGCraftAlly
import Derived.Test.YtfmgkkofledkbaaGreatDoorGCraftAlls
import Derived.Test.YtfmgkkofledkbaaGreatDoorGCraftAllz
import Derived.Test.YtfmgkkofledkbaaGreatDoorGCraftAllk
set_option linter.all false
set_option maxHeartbeats 4000000
namespace Go.Proofs.YtfmgkkofledkbaaGreatDoor
open Go.V
attribute [local irreducible] G GO GP GPW GPK Ev Ef EfR Ent CB GB V.Enters
section
theorem vZ {L R:List HP} (bk:Nat) (x y k:Int) [hp:PickObj L bk tInt [.int .i64 k] R] (h0:0≤y*k) (h:y*k≤1099511627776):Tri Tryz.prog 104 #[.int .i64 x,.int .i64 y,.pointer (some ⟨bk,0,none⟩)] L (fun v L'=>v=.tuple #[.int .i64 (y*k),.int .i64 0]∧L' = L):=by
 refine Tri.body (args:=[.int .i64 x,.int .i64 y,.pointer (some ⟨bk,0,none⟩)]) 13 JC Tryz.func104 rfl rfl rfl (by simp) ?_
 repeat first|refine aa ?_|intro _
 refine GO.ef (Ef.a6 (vi (y*k) h) rfl) ac ?_
 rintro _ L ⟨rfl,rfl⟩
 repeat first|refine aa ?_|intro _
 exact KX.a6 ai (Ent.refl _) ⟨rfl,rfl⟩
def mulL (xs:List Int) (t:Int) (i:Nat):List Int:=(List.range xs.length).map (fun k=>if k<i then xs[k]! * t else xs[k]!)
theorem vc (xs:List Int) (t:Int) (i:Nat):(mulL xs t i).length=xs.length:=by simp [mulL]
theorem Cu (xs:List Int) (t:Int):mulL xs t 0=xs:=by
 apply List.ext_getElem
 ·simp [mulL]
 ·intro i h1 h2;simp [mulL,h2]
theorem DB {xs:List Int} {t:Int} {i:Nat} (h:i<xs.length):(mulL xs t i).set i (xs[i]! * t)=mulL xs t (i+1):=by
 apply List.ext_getElem
 ·simp [mulL]
 ·intro j h1 h2
  rw [List.getElem_set]
  simp only [mulL,List.getElem_map,List.getElem_range]
  by_cases hj:i=j
  ·subst hj;rw [if_pos rfl,if_pos ab]
  ·rw [if_neg hj]
   by_cases h3:j<i
   ·rw [if_pos h3,if_pos ab]
   ·rw [if_neg h3,if_neg ab]
theorem DC {xs:List Int} {t:Int} {k:Nat} (h:k<xs.length):(mulL xs t xs.length)[k]! = xs[k]! * t:=by
 unfold mulL
 rw [dZ h,if_pos h]
theorem oI {L R:List HP} (bk:Nat) (t:Int) [hp:PickObj L bk tInt [.int .i64 t] R] (ad1:Option Addr) (c1:Nat) (xs:List Int) [hr1:Rds L ad1 Int (encZ .i64) 1 xs] (hl:xs.length≤64) (hs:∀ k,k<xs.length→0≤xs[k]! * t∧xs[k]! * t≤1099511627776) :
  Tri Tryz.prog 60 #[.slice ad1 xs.length c1,.slice ad1 xs.length c1,.func (.func 104) #[] #[.pointer (some ⟨bk,0,none⟩)]] L (fun v L'=>∃ ad cap,v=.tuple #[.slice ad xs.length cap,.int .i64 0]∧L' = osl (encZ .i64) 1 tInt ad cap (mulL xs t xs.length)::L):=by
 refine Tri.body (args:=[.slice ad1 xs.length c1,.slice ad1 xs.length c1,.func (.func 104) #[] #[.pointer (some ⟨bk,0,none⟩)]]) 45 en60 Tryz.func60 rfl rfl rfl (by simp) ?_
 repeat first|refine aa ?_|intro _
 refine GO.ef (Ef.makeSlice (encZ .i64) 0 rfl rfl rfl ab ab ab) ac ?_
 rintro _ _ ⟨b,rfl,rfl⟩
 rw [Int.toNat_natCast]
 have hrl:(List.replicate xs.length (0:Int)).length=xs.length:=by simp
 repeat first|refine aa ?_|intro _
 refine GO.ef (Ef.k6 (enc:=encZ .i64) (ys:=xs) rfl rfl hrl.symm rfl hrl.symm (fun e _=>by simp [encZ,Value.oneCell'])) ac ?_
 rintro _ _ ⟨rfl,rfl⟩
 repeat first|refine aa ?_|intro _
 refine G.loop (α:=Nat) (fun i=>i≤xs.length) (fun i=>[(2,.func (.func 104) #[] #[.pointer (some ⟨bk,0,none⟩)]),(8,.slice (some ⟨b,0,none⟩) xs.length xs.length),(19,.slice ad1 xs.length c1),(20,.int .i64 xs.length),(21,.int .i64 (i:Int))]) (fun i=>osl (encZ .i64) 1 tInt (some ⟨b,0,none⟩) xs.length (mulL xs t i)::L) (fun i=>xs.length - i) 0 (Nat.zero_le _) aj (by rw [Cu];exact Ent.refl _) ?_
 intro i hi
 have hal:=vc xs t i
 by_cases hlt:i<xs.length
 case neg =>
  have hin:i=xs.length:=ab
  rw [hin]
  repeat first|refine aa ?_|intro _
  exact KX.a6 ai (Ent.refl _) ⟨_,_,rfl,rfl⟩
 have hii:(i:Int).toNat=i:=ab
 have hst:=DB (t:=t) hlt
 repeat first|refine aa ?_|intro _
 rw [hii]
 refine GO.ef (Ef.a8 rfl rfl (vZ bk _ xs[i]! t (hs i hlt).1 (hs i hlt).2)) ac ?_
 rintro _ _ ⟨rfl,rfl⟩
 repeat first|refine aa ?_|intro _
 rw [hii,hst]
 refine ⟨i+1,ab,ab,?_,by exact ae⟩
 rw [show ((i+1:Nat):Int)=(i:Int)+1 by omega]
 exact aj
theorem tH {L:List HP} (t:Int) (ht:0≤t∧t≤1048576) (ad1:Option Addr) (n c1:Nat) (xs:List Int) [hr1:Rds L ad1 Int (encZ .i64) 1 xs] (hn:n=xs.length) (hl:xs.length≤64) (hx:BagB xs) (hs:∀ k,k<xs.length→0≤xs[k]! * t∧xs[k]! * t≤1099511627776) :
  Tri Tryz.prog 45 #[.slice ad1 n c1,.int .i64 t] L (fun v L'=>∃ ad cap,v=.tuple #[.slice ad n cap,.int .i64 0]∧L' = osl (encZ .i64) 1 tInt ad cap (mulL xs t xs.length)::L):=by
 subst hn
 refine Tri.body (args:=[.slice ad1 xs.length c1,.int .i64 t]) 23 en45 Tryz.func45 rfl rfl rfl (by simp) ?_
 repeat first|refine aa ?_|intro _
 refine GO.ef (Ef.a6 (AX ad1 xs.length c1 xs rfl hl hx) rfl) ac ?_
 rintro _ _ ⟨rfl,rfl⟩
 repeat first|refine aa ?_|intro _
 rename_i bk
 refine GO.ef (Ef.a6 (oI bk t ad1 c1 xs hl hs) rfl) ac ?_
 rintro _ _ ⟨ad,cap,rfl,rfl⟩
 repeat first|refine aa ?_|intro _
 refine KX.a6 ai ?_ ⟨ad,cap,rfl,rfl⟩
 exact ae
end
section
structure BagR (l:List (Int×Int)):Prop where
 am:AmOk 5 l
 bag:∀ i,i≤l.length→BagB (bagL 5 (l.take i))
 mul:∀ k:Nat,k<5→∀ t:Int,(bagL 5 l)[k]! * t=dp l t k
 few:l.length≤64
theorem lM {l:List (Int×Int)} (h1:(l.all fun a=>decide (0≤a.1∧a.1<5∧1≤a.2∧a.2≤1099511627776))=true) (h2:((List.range (l.length+1)).all fun i=>(bagL 5 (l.take i)).all fun x=>decide (0≤x∧x≤1099511627776))=true) (h3:∀ k:Nat,k<5→∀ t:Int,(bagL 5 l)[k]! * t=dp l t k) (h4:l.length≤64):BagR l:=by
 refine ⟨fun a ha=>of_decide_eq_true (List.all_eq_true.1 h1 a ha),fun i hi x hx=>?_,h3,h4⟩
 exact of_decide_eq_true (List.all_eq_true.1 (List.all_eq_true.1 h2 i (List.mem_range.2 ab)) x hx)
theorem Bu:∀ r∈cat16.rules,BagR r.take:=by
 intro r hr
 simp only [cat16,List.mem_cons,List.not_mem_nil,or_false] at hr
 have h5:∀ k:Nat,k<5→k=0∨k=1∨k=2∨k=3∨k=4:=fun k hk=>by omega
 rcases hr with rfl|rfl|rfl|rfl|rfl
 ·refine lM ac ac (fun k hk t=>?_) ac
  rcases h5 k hk with rfl|rfl|rfl|rfl|rfl<;>simp [bagL,dp]
 ·refine lM ac ac (fun k hk t=>?_) ac
  rcases h5 k hk with rfl|rfl|rfl|rfl|rfl<;>simp [bagL,dp]
 ·refine lM ac ac (fun k hk t=>?_) ac
  rcases h5 k hk with rfl|rfl|rfl|rfl|rfl<;>simp [bagL,dp]
 ·refine lM ac ac (fun k hk t=>?_) ac
  rcases h5 k hk with rfl|rfl|rfl|rfl|rfl<;>simp [bagL,dp]
 ·refine lM ac ac (fun k hk t=>?_) ac
  rcases h5 k hk with rfl|rfl|rfl|rfl|rfl<;>simp [bagL,dp]
attribute [local irreducible] runS aR dp bagL
abbrev AF:List Stp:=[.ev 0,.ev 1,.ev 2,.ev 3,.ev 4,.ev 5,.ev 6,.ev 7,.ev 8,.ev 9,.ef 10,.ev 11,.ev 12,.ev 13,.ev 14,.ev 15]
theorem cq {φ ψ:Prop} (k:ψ) (h:Hid ψ→φ:=by intro k;(with_reducible apply G.a7);first|refine G.a6 (N:=100) (id:=13) AF mixed ah (Hid.out k)):φ:=h ⟨k⟩
theorem rk {L:List HP} (seed:Int) (hs:I64 seed) (ad:Option Addr) (n c:Nat) (xs:List Int) [hrd:Rds L ad Int (encZ .i64) 1 xs] (hn:n=xs.length) (hm:n≤9223372036854775807) (hx:∀ x∈xs,I64 x) :
  Tri Tryz.prog 9 #[.int .i64 seed,.slice ad n c] (aP::L) (fun v L'=>v=.bool true∧L' = L):=by
 refine Tri.body (args:=[.int .i64 seed,.slice ad n c]) 100 en9 Tryz.func9 rfl rfl rfl (by simp) ?_
 repeat first|refine aa ?_|intro _|refine cq ?_
 refine GO.ef (Ef.a6 (lZ seed hs ad n c xs hn hx) rfl) ac ?_
 rintro _ _ ⟨yb,lb,ops,rfl,⟨hol,hoo⟩,rfl⟩
 have hI:=fM (run0 seed) (ops:=ops) ab hoo 18 ab
 have hH:=(kM (run0 seed) (Ba seed) rfl cat16_rulesB (ops:=ops) ab hoo 18 ab).1
 have hcat:=gJ (run0 seed) (ops:=ops) ab hoo 18 ab
 obtain ⟨q,hq⟩:∃ q,runS (led0 3 cat16) (bO (aR seed)) ops 18=q:=⟨_,rfl⟩
 rw [hq] at hI hH hcat ⊢
 obtain ⟨S,Y⟩:=q
 dsimp only at hI hH hcat ⊢
 change S.cat=cat16 at hcat
 have hY:=hI.yok
 have hlen:=hI.len
 repeat first|refine aa ?_|intro _|refine cq ?_
 refine GO.ef (Ef.a6 (fh) rfl) ac ?_
 rintro _ _ ⟨ct,rfl,⟨hcm,hcB⟩,rfl⟩
 have hcr:ct.rules.map RuV.m=cat16.rules:=by rw [← hcm];rfl
 have hil:ct.items.length=5:=by
  have h:ct.m.items.length=cat16.items.length:=by rw [hcm]
  exact h
 have hrl:cat16.rules.length=ct.rules.length:=by rw [← hcr,List.length_map]
 have h64:=hcB.rules
 simp only [CatV.cells]
 refine GO.ent catOpenR ?_
 repeat first|refine aa ?_|intro _|refine cq ?_
 rename_i b8
 refine G.loop (α:=Nat) (fun a=>a≤20) (fun a=>[(5,.pointer (some ⟨yb,0,none⟩)),(6,.pointer (some ⟨lb,0,none⟩)),(8,.pointer (some ⟨b8,0,none⟩)),(9,.int .i64 (a:Int))]) (fun _=>obj b8 tCat [.slice ct.iad ct.items.length ct.icap,.slice ct.rad ct.rules.length ct.rcap,.slice ct.tad ct.tables.length ct.tcap,.slice ct.xad ct.taxes.length ct.xcap]::isl aA 9 ct.rad ct.rules::catP ct::bz yb lb Y::LedR lb S::aP::L) (fun a=>20 - a) 0 (Nat.zero_le _) aj ae ?_
 intro i hi
 by_cases hlt:i<20
 case neg =>
  obtain rfl:i=20:=ab
  repeat first|refine aa ?_|intro _|refine cq ?_
  refine GO.ent (L':=aP::L) ae ?_
  refine GO.ef (Ef.a6 (eI) rfl) ac ?_
  rintro _ _ ⟨rfl,rfl⟩
  repeat first|refine aa ?_|intro _|refine cq ?_
  exact KX.a6 ai (Ent.refl _) ⟨rfl,rfl⟩
 by_cases hk:i<Y.jobs.length
 case neg =>
  repeat first|refine aa ?_|intro _|refine cq ?_
  (first|refine GO.ef (Ef.call (ln (L:=[]) yb lb Y hY i ab ab) rfl (by repeat (first|exact Ent.refl _|apply Ent.take))) ac ?_)
  rintro _ _ ⟨_,⟨rfl,rfl⟩,hL⟩
  simp only [List.cons_append,List.nil_append] at hL;subst hL
  repeat first|refine aa ?_|intro _|refine cq ?_
  refine GO.ent (L':=aP::L) ae ?_
  refine GO.ef (Ef.a6 (eI) rfl) ac ?_
  rintro _ _ ⟨rfl,rfl⟩
  repeat first|refine aa ?_|intro _|refine cq ?_
  exact KX.a6 ai (Ent.refl _) ⟨rfl,rfl⟩
 have hid:=hY.id i hk
 obtain ⟨n1,n2,n3,n4⟩:=hY.num i hk
 have hrk:=hI.rul i hk
 rw [hcat] at hrk
 have hr0:=hrk.1
 have hr1:=hrk.2.1
 have hru:cat16.rules[Y.jobs[i]!.rule.toNat]! = ct.rules[Y.jobs[i]!.rule.toNat]!.m:=by rw [← hcr];exact fD ct.rules ab
 have hmem:=ap (show Y.jobs[i]!.rule.toNat<ct.rules.length by omega)
 have hbr:=Bu _ (ap (show Y.jobs[i]!.rule.toNat<cat16.rules.length by omega))
 have hbs:=cat16_rulesB.sum _ (ap (show Y.jobs[i]!.rule.toNat<cat16.rules.length by omega))
 have hhd:=hH.hold i hk
 rw [hcat] at hhd
 unfold my at hhd
 have hjob:=iw (L:=[]) yb lb Y hY i hk
 obtain ⟨j,hj⟩:∃ j,Y.jobs[i]! = j:=⟨_,rfl⟩
 rw [hj] at hid n1 n2 n3 n4 hrk hr0 hr1 hru hmem hbr hbs hhd hjob
 rw [hru] at hbr hbs hhd
 obtain ⟨r,hrv⟩:∃ r,ct.rules[j.rule.toNat]! = r:=⟨_,rfl⟩
 rw [hrv] at hbr hbs hhd hmem
 change BagR r.take.l at hbr
 have ht1:1≤j.times∧j.times≤1000:=n2
 have hbs2:=fun k:Nat=>hbs j.times (k:Int) ab ht1.2
 have hhd2:∀ k:Nat,k<5→lsum (S.stk j.hold (k:Int))=if j.done=true then 0 else dp r.take.l j.times (k:Int):=fun k hk=>by
  rw [hid.2]
  exact hhd (k:Int) ab (show (k:Int)<((5:Nat):Int) by omega)
 obtain ⟨bg,hbg⟩:∃ bg,bagL ct.items.length r.take.l=bg:=⟨_,rfl⟩
 have hbgl:ct.items.length=bg.length:=by rw [← hbg,pN]
 have hbgB:BagB bg:=by
  have:=hbr.bag r.take.l.length (Nat.le_refl _)
  rw [List.take_length] at this
  rw [← hbg,hil]
  exact this
 have hbm:∀ k,k<bg.length→bg[k]! * j.times=dp r.take.l j.times (k:Int):=fun k hk=>by
  rw [← hbg,hil]
  exact hbr.mul k ab j.times
 refine G.ent (L':=isl aB 2 r.take.ad r.take.l::obj b8 tCat [.slice ct.iad ct.items.length ct.icap,.slice ct.rad ct.rules.length ct.rcap,.slice ct.tad ct.tables.length ct.tcap,.slice ct.xad ct.taxes.length ct.xcap]::isl aA 9 ct.rad ct.rules::catP ct::bz yb lb Y::LedR lb S::aP::L) ?_ ?_
 ·refine (Ent.at (A:=catP ct) catOpenR).trans ?_
  refine (Ent.at (A:=allP ruP ct.rules) (Ent.a8 (f:=ruP) hmem)).trans ?_
  refine ruOpen.trans ?_
  exact ae
 simp only [aq] at hjob
 repeat first|refine aa ?_|intro _|refine cq ?_
 (first|refine GO.ef (Ef.call (hjob) rfl (by repeat (first|exact Ent.refl _|apply Ent.take))) ac ?_)
 rintro _ _ ⟨_,⟨rfl,rfl⟩,hL⟩
 simp only [List.cons_append,List.nil_append] at hL;subst hL
 repeat first|refine aa ?_|intro _|refine cq ?_
 rename_i b10
 rw [hrv]
 refine GPW.ef (Ef.a6 (Bx ct.items.length r.take.ad r.take.l.length r.take.cap r.take.l rfl ab hbr.few (by rw [hil];exact hbr.am) (by rw [hil];exact hbr.bag)) rfl) ac ?_
 rintro _ _ ⟨bad,bcap,rfl,rfl⟩
 rw [hbg]
 repeat first|refine aa ?_|intro _|refine cq ?_
 refine GO.ef (Ef.a6 (tH j.times ab bad ct.items.length bcap bg hbgl ab hbgB (fun k hk=>by rw [hbm k hk];exact hbs2 k)) rfl) ac ?_
 rintro _ _ ⟨wad,wcap,rfl,rfl⟩
 obtain ⟨W,hW⟩:∃ W,mulL bg j.times bg.length=W:=⟨_,rfl⟩
 have hWl:W.length=ct.items.length:=by rw [← hW,vc,hbgl]
 have hWm:∀ k:Nat,k<5→W[k]! = dp r.take.l j.times (k:Int):=fun k hk=>by rw [← hW,DC ab,hbm k ab]
 rw [hW]
 repeat first|refine aa ?_|intro _|refine cq ?_
 refine G.loop (α:=Nat) (fun a=>a≤5) (fun a=>[(5,.pointer (some ⟨yb,0,none⟩)),(6,.pointer (some ⟨lb,0,none⟩)),(8,.pointer (some ⟨b8,0,none⟩)),(9,.int .i64 (i:Int)),(10,.pointer (some ⟨b10,0,none⟩)),(14,.slice wad ct.items.length wcap),(16,.int .i64 (a:Int))]) (fun _=>osl (encZ .i64) 1 tInt wad wcap W::obj b10 tJob [.int .i64 j.id,.int .i64 j.acc,.int .i64 j.hold,.int .i64 j.rule,.int .i64 j.times,.int .i64 j.beg,.int .i64 j.fin,.bool j.done,.int .i64 j.won,.int .i64 j.lost]::obj b8 tCat [.slice ct.iad ct.items.length ct.icap,.slice ct.rad ct.rules.length ct.rcap,.slice ct.tad ct.tables.length ct.tcap,.slice ct.xad ct.taxes.length ct.xcap]::isl aA 9 ct.rad ct.rules::catP ct::bz yb lb Y::LedR lb S::aP::L) (fun a=>5 - a) 0 (Nat.zero_le _) aj ae ?_
 intro a ha
 by_cases hla:a<5
 case neg =>
  obtain rfl:a=5:=ab
  repeat first|refine aa ?_|intro _|refine cq ?_
  refine ⟨i+1,ab,ab,?_,by exact ae⟩
  rw [show ((i+1:Nat):Int)=(i:Int)+1 by omega]
  exact aj
 have haa:(a:Int).toNat=a:=Int.toNat_natCast a
 have hbal:=hhd2 a hla
 rw [← hWm a hla] at hbal
 have hWb:W[(a:Int).toNat]! = W[a]!:=by rw [haa]
 rw [← hWb] at hbal
 have hbs:=jQ (L:=[]) lb S hI.sok j.hold (a:Int)
 obtain ⟨bl,hbl⟩:∃ bl,lsum (S.stk j.hold (a:Int))=bl:=⟨_,rfl⟩
 rw [hbl] at hbal hbs
 cases hdn:j.done with
 | true =>
  rw [hdn] at hbal
  rw [if_pos rfl] at hbal
  repeat first|refine aa ?_|intro _|refine cq ?_
  (first|refine GO.ef (Ef.call (hbs) rfl (by repeat (first|exact Ent.refl _|apply Ent.take))) ac ?_)
  rintro _ _ ⟨_,⟨rfl,rfl⟩,hL⟩
  simp only [List.cons_append,List.nil_append] at hL;subst hL
  repeat first|refine aa ?_|intro _|refine cq ?_
  refine ⟨a+1,ab,ab,?_,by exact ae⟩
  rw [show ((a+1:Nat):Int)=(a:Int)+1 by omega]
  exact aj
 | false =>
  rw [hdn] at hbal
  rw [if_neg ac] at hbal
  repeat first|refine aa ?_|intro _|refine cq ?_
  (first|refine GO.ef (Ef.call (hbs) rfl (by repeat (first|exact Ent.refl _|apply Ent.take))) ac ?_)
  rintro _ _ ⟨_,⟨rfl,rfl⟩,hL⟩
  simp only [List.cons_append,List.nil_append] at hL;subst hL
  repeat first|refine aa ?_|intro _|refine cq ?_
  refine ⟨a+1,ab,ab,?_,by exact ae⟩
  rw [show ((a+1:Nat):Int)=(a:Int)+1 by omega]
  exact aj
end
end Go.Proofs.YtfmgkkofledkbaaGreatDoor
