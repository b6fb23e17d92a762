/- Lemmas and contracts of functions, in the order: Z9, Z10, Z11, Z12, Z13, Z14. -/
import Derived.Test.YtfmgkkofledkbaaGreatDoorGCraftAllt
set_option linter.all false
set_option maxHeartbeats 4000000
namespace Go.Proofs.YtfmgkkofledkbaaGreatDoor
open Go.V
attribute [local irreducible] G GO GP GPW GPK Ev Ef EfR Ent CB GB V.Enters
section
def rnow (x:RLX):Int:=(x.steps.getLast?.map (·.tick)).getD 0
abbrev zD:List Stp:=[.ev 0,.ev 1,.ev 2,.ev 3,.ev 4,.ev 5,.ev 6,.ev 7,.ev 8,.ev 9,.ev 10,.ev 11,.ev 12,.ev 13,.ev 14,.ev 15,.ev 16,.ev 17,.ev 18,.ev 19,.ev 20,.ev 21,.ef 22,.ev 23,.ev 24,.ev 25,.ev 26,.ev 27,.ev 28,.ev 29,.ev 30,.ev 31,.ev 32,.ev 33,.ev 34,.ev 35,.ev 36,.ev 37,.ev 38,.ev 39,.ev 40,.ev 41]
abbrev wz:List Stp:=[.ev 0,.ev 1,.ev 2,.ev 3,.ev 4,.ev 5,.ev 6,.ef 7,.ev 8]
theorem bZ {φ ψ:Prop} (k:ψ) (h:Hid ψ→φ:=by intro k;(with_reducible apply G.a7);first|refine G.a6 (N:=166) (id:=1) zD mixed ah (Hid.out k)|refine G.a6 (N:=166) (id:=21) wz mixed ah (Hid.out k)):φ:=h ⟨k⟩
theorem zr {L R:List HP} {b:Nat} {sh:Int} {x:RLX} [hp:PickObj L b tRL (az sh x) R] [hr:Rds L x.tad StV aK 7 x.steps] (s:StV) [hrm:Rds L s.mad MvV aJ 5 s.moves] (hk:cT s.kind) (hg:CatGood x.cat.m) (hc:x.cat.m.Ok) (hB:x.cat.B) (hsl:x.steps.length≤65536) (hn0:0≤rnow x) (hml:s.moves.length≤1000000) (hI:I64 s.rule) :
  Tri Tryz.prog 130 #[.pointer (some ⟨b,0,none⟩),.agg (aK s).toArray] (catP x.cat::L) (fun v L'=>v=.bool (dB (eC x.cat.m (rnow x) s.m))∧L' = L):=by
 have hil:x.cat.m.items.length=x.cat.items.length:=rfl
 have hk':=hk
 unfold cT at hk'
 have hmm:s.m.moves=s.moves.map MvV.m:=rfl
 refine Tri.body (args:=[.pointer (some ⟨b,0,none⟩),.agg (aK s).toArray]) 166 Jh Tryz.func130 rfl rfl rfl (by simp) ?_
 by_cases h1:0≤s.actor
 case neg =>
  repeat first|refine aa ?_|intro _|refine bZ ?_
  exact KX.a6 ai ae ⟨by rw [an (fun h=>h1 h.1.1)];rfl,rfl⟩
 by_cases h2:s.actor≤1073741824
 case neg =>
  repeat first|refine aa ?_|intro _|refine bZ ?_
  exact KX.a6 ai ae ⟨by rw [an (fun h=>h2 h.1.2)];rfl,rfl⟩
 repeat first|refine aa ?_|intro _|refine bZ ?_
 refine GPW.ef (Ef.a6 (zy (b:=b) (sh:=sh) (x:=x) ab) rfl) ac ?_
 rintro _ _ ⟨rfl,rfl⟩
 rw [show (x.steps.getLast?.map (·.tick)).getD 0=rnow x from rfl]
 by_cases h3:rnow x≤s.tick
 case neg =>
  repeat first|refine aa ?_|intro _|refine bZ ?_
  exact KX.a6 ai ae ⟨by rw [an (fun h=>h3 h.2.1.2.2)];rfl,rfl⟩
 by_cases h4:s.tick≤1099511627776
 case neg =>
  repeat first|refine aa ?_|intro _|refine bZ ?_
  exact KX.a6 ai ae ⟨by rw [an (fun h=>h4 h.2.1.2.1)];rfl,rfl⟩
 have hl:s.m.moves.length=s.moves.length:=by rw [hmm,List.length_map]
 by_cases h5:1≤s.moves.length
 case neg =>
  repeat first|refine aa ?_|intro _|refine bZ ?_
  exact KX.a6 ai ae ⟨by rw [an (fun h=>h5 (by have:=h.2.2.1.1;omega))];rfl,rfl⟩
 by_cases h6:s.moves.length≤64
 case neg =>
  repeat first|refine aa ?_|intro _|refine bZ ?_
  exact KX.a6 ai ae ⟨by rw [an (fun h=>h6 (by have:=h.2.2.1.2;omega))];rfl,rfl⟩
 have hfm:∀ {i:Nat},i<s.moves.length→eC x.cat.m (rnow x) s.m→dv x.cat.items.length (eY s.kind) (kTo s.kind) s.moves[i]!.m=true:=fun hi h=>by
  refine h.2.2.2.1 _ ?_
  rw [hmm]
  exact List.mem_map_of_mem (ap hi)
 repeat first|refine aa ?_|intro _|refine bZ ?_
 rename_i b3
 refine GO.ef (Ef.a6 (ul s.kind hk) rfl) ac ?_
 rintro _ _ ⟨rfl,rfl⟩
 repeat first|refine aa ?_|intro _|refine bZ ?_
 refine G.loop (α:=Nat) (fun i=>i≤s.moves.length∧∀ j,j<i→fitR x.cat.items.length s.moves[j]!.m) (fun i=>[(0,.pointer (some ⟨b,0,none⟩)),(3,.pointer (some ⟨b3,0,none⟩)),(5,.bool false),(6,.int .i64 (i:Int))]) (fun _=>obj b3 cy (aK s)::catP x.cat::L) (fun i=>s.moves.length - i) 0 ⟨Nat.zero_le _,fun j hj=>absurd hj (Nat.not_lt_zero j)⟩ aj ae ?_
 rintro i ⟨hi,hfit⟩
 by_cases hlt:i<s.moves.length
 case pos =>
  have hii:(i:Int).toNat=i:=Int.toNat_natCast i
  have hlt' : (i:Int).toNat<s.moves.length:=ab
  repeat first|refine aa ?_|intro _|refine bZ ?_
  rw [hii]
  refine GO.ef (Ef.a6 (zw (b:=b) (sh:=sh) (x:=x) s.moves[i]!) rfl) ac ?_
  rintro _ _ ⟨rfl,rfl⟩
  by_cases hft:fitR x.cat.items.length s.moves[i]!.m
  ·rw [aw hft]
   repeat first|refine aa ?_|intro _|refine bZ ?_
   refine ⟨i+1,⟨ab,fun j hj=>?_⟩,ab,?_,by exact ae⟩
   ·rcases Nat.lt_or_ge j i with h|h
    ·exact hfit j h
    ·obtain rfl:j=i:=ab
     exact hft
   ·rw [show ((i+1:Nat):Int)=(i:Int)+1 by omega]
    exact aj
  ·rw [an hft]
   repeat first|refine aa ?_|intro _|refine bZ ?_
   exact KX.a6 ai ae ⟨by rw [an (fun h=>hft (fits_fitR.1 (hfm hlt h)).1)];rfl,rfl⟩
 obtain rfl:i=s.moves.length:=ab
 have hall:∀ m∈s.moves,fitR x.cat.items.length m.m:=fun m hm=>by
  obtain ⟨j,hj,rfl⟩:=List.mem_iff_getElem.1 hm
  have:=hfit j hj
  rw [getElem!_of hj] at this
  exact this
 have hbase:eC x.cat.m (rnow x) s.m↔(∀ m∈s.moves,eY s.kind m.m.frm=true∧kTo s.kind m.m.to=true)∧eU x.cat.m.rules s.m:=by
  constructor
  ·intro h
   refine ⟨fun m hm=>?_,h.2.2.2.2⟩
   have:=h.2.2.2.1 m.m (by rw [hmm];exact List.mem_map_of_mem hm)
   exact (fits_fitR.1 this).2
  ·rintro ⟨g1,g2⟩
   refine ⟨⟨h1,h2⟩,⟨show 0≤s.tick by omega,h4,h3⟩,⟨ab,ab⟩,?_,g2⟩
   intro m hm
   rw [hmm] at hm
   obtain ⟨u,hu,rfl⟩:=List.mem_map.1 hm
   exact fits_fitR.2 ⟨hall u hu,g1 u hu⟩
 by_cases hk4:s.kind=4
 ·have hkf:∀ m∈s.moves,eY s.kind m.m.frm=true∧kTo s.kind m.m.to=true:=fun m _=>by
   rw [hk4]
   exact ⟨rfl,rfl⟩
  have hw:eU x.cat.m.rules s.m↔dX x.cat.m.rules s.rule s.times (s.moves.map MvV.m):=by
   unfold eU
   rw [if_pos (show s.m.kind=4 from hk4)]
   exact Iff.rfl
  have hfin:eC x.cat.m (rnow x) s.m↔dX x.cat.m.rules s.rule s.times (s.moves.map MvV.m):=by
   rw [hbase,hw]
   exact ⟨fun h=>h.2,fun h=>⟨hkf,h⟩⟩
  repeat first|refine aa ?_|intro _|refine bZ ?_
  refine GO.ent (L':=catP x.cat::L) ae ?_
  refine GO.ef (Ef.a6 (wv (b:=b) (sh:=sh) (x:=x) s hg hc hB ⟨h5,h6⟩ hI hall) rfl) ac ?_
  rintro _ _ ⟨rfl,rfl⟩
  repeat first|refine aa ?_|intro _|refine bZ ?_
  refine KX.a6 ai (Ent.refl _) ⟨?_,rfl⟩
  by_cases q:dX x.cat.m.rules s.rule s.times (s.moves.map MvV.m)
  ·rw [aw q,aw (hfin.2 q)];rfl
  ·rw [an q,an (fun w=>q (hfin.1 w))];rfl
 have hw:eU x.cat.m.rules s.m↔gk s.rule s.times:=by
  unfold eU
  rw [if_neg (show ¬s.m.kind=4 from hk4)]
  exact Iff.rfl
 repeat first|refine aa ?_|intro _|refine bZ ?_
 refine G.loop (α:=Nat) (fun i=>i≤s.moves.length∧∀ j,j<i→jz s.kind s.moves[j]!.m) (fun i=>[(0,.pointer (some ⟨b,0,none⟩)),(3,.pointer (some ⟨b3,0,none⟩)),(10,.int .i64 (i:Int))]) (fun _=>obj b3 cy (aK s)::catP x.cat::L) (fun i=>s.moves.length - i) 0 ⟨Nat.zero_le _,fun j hj=>absurd hj (Nat.not_lt_zero j)⟩ aj ae ?_
 rintro i ⟨hi2,hends⟩
 by_cases hlt2:i<s.moves.length
 case pos =>
  have hii:(i:Int).toNat=i:=Int.toNat_natCast i
  have hlt' : (i:Int).toNat<s.moves.length:=ab
  repeat first|refine aa ?_|intro _|refine bZ ?_
  refine GPW.ef (Ef.a6 (zB s.kind hk hk4 s.moves[(i:Int).toNat]!) rfl) ac ?_
  rintro _ _ ⟨rfl,rfl⟩
  by_cases hft:jz s.kind s.moves[(i:Int).toNat]!.m
  ·rw [aw hft]
   repeat first|refine aa ?_|intro _|refine bZ ?_
   rw [hii] at hft
   refine ⟨i+1,⟨ab,fun j hj=>?_⟩,ab,?_,by exact ae⟩
   ·rcases Nat.lt_or_ge j i with h|h
    ·exact hends j h
    ·obtain rfl:j=i:=ab
     exact hft
   ·rw [show ((i+1:Nat):Int)=(i:Int)+1 by omega]
    exact aj
  ·rw [an hft]
   repeat first|refine aa ?_|intro _|refine bZ ?_
   rw [hii] at hft
   exact KX.a6 ai ae ⟨by rw [an (fun h=>hft ((sX hk hk4 (hfit i hlt2)).2 ((hbase.1 h).1 _ (ap hlt2))))];rfl,rfl⟩
 obtain rfl:i=s.moves.length:=ab
 have hkf:∀ m∈s.moves,eY s.kind m.m.frm=true∧kTo s.kind m.m.to=true:=fun m hm=>by
  obtain ⟨j,hj,rfl⟩:=List.mem_iff_getElem.1 hm
  have:=(sX hk hk4 (hfit j hj)).1 (hends j hj)
  rw [getElem!_of hj] at this
  exact this
 have hfin:eC x.cat.m (rnow x) s.m↔gk s.rule s.times:=by
  rw [hbase,hw]
  exact ⟨fun h=>h.2,fun h=>⟨hkf,h⟩⟩
 by_cases h7:s.rule = -1
 ·repeat first|refine aa ?_|intro _|refine bZ ?_
  refine KX.a6 ai ae ⟨?_,rfl⟩
  by_cases h8:s.times=0
  ·rw [aw h8,aw (hfin.2 ⟨h7,h8⟩)];rfl
  ·rw [an h8,an (fun w=>h8 (hfin.1 w).2)];rfl
 ·repeat first|refine aa ?_|intro _|refine bZ ?_
  exact KX.a6 ai ae ⟨by rw [an (fun w=>h7 (hfin.1 w).1)];rfl,rfl⟩
end
section
def mixR (x:RLX) (i:Int):Bool:=x.cat.items[i.toNat]!.mixed
def ptsR (x:RLX) (m:MvM):List Lot:=if m.frm=0 then [] else fC (mixR x m.item) (bX x.stks m.frm m.item).lots m.n
def gY (l:List RStk):Prop:=(l.map (fun s=>(s.acc,s.item))).Nodup
theorem um {k:Int×Int}:∀ {l:List RStk} {a i:Int} {t:Stk},k∈(rset l a i t).map (fun s=>(s.acc,s.item))→k=(a,i)∨k∈l.map (fun s=>(s.acc,s.item))
 | [],_,_,_,h=>.inl (List.mem_singleton.1 h)
 | s::l,a,i,t,h=>by
  unfold rset at h
  split at h
  ·exact .inr h
  ·rw [List.map_cons] at h ⊢
   rcases List.mem_cons.1 h with h|h
   ·exact .inr (h▸List.mem_cons_self)
   ·exact (um h).imp id (List.mem_cons_of_mem _)
theorem nx:∀ {l:List RStk} {a i:Int} {t:Stk},gY l→gY (rset l a i t)
 | [],_,_,_,_=>by
  unfold gY rset
  simp
 | s::l,a,i,t,h=>by
  unfold gY at h ⊢
  rw [List.map_cons,List.nodup_cons] at h
  unfold rset
  split
  ·rw [List.map_cons,List.nodup_cons]
   exact h
  ·rename_i hn
   rw [List.map_cons,List.nodup_cons]
   refine ⟨fun q=>?_,nx h.2⟩
   rcases um q with e|e
   ·simp only [Prod.mk.injEq] at e
    exact hn e
   ·exact h.1 e
structure TkF (x:RLX) (m:MvM) (st:List RStk):Prop where
 lots:∀ a i,(bX st a i).lots=if m.frm=0 then (bX x.stks a i).lots else upd2 (fun a i=>(bX x.stks a i).lots) m.frm m.item (eX (mixR x m.item) (bX x.stks m.frm m.item).lots m.n) a i
 sum:∀ i,rsum st i=rsum x.stks i - (if m.frm≠0∧i=m.item then m.n else 0)
 ok:rOk st
 len:st.length≤x.stks.length+1
 dist:gY x.stks→gY st
abbrev xf:List Stp:=[.ev 0,.ev 1,.ev 2,.ev 3,.ev 4,.ev 5,.ev 6,.ev 7,.ef 8,.ef 9]
abbrev xe:List Stp:=[.ev 0,.ev 1,.ev 2,.ev 3,.ev 4,.ev 5,.ev 6,.ev 7,.ev 8,.ev 9,.ev 10,.ev 11,.ev 12,.ef 13,.ev 14,.ev 15,.ev 16,.ev 17,.ev 18,.ev 19,.ev 20]
abbrev uF:List Stp:=[.ev 0,.ev 1,.ev 2,.ev 3,.ev 4,.ef 5,.ev 6,.ev 7]
abbrev uD:List Stp:=[.ev 0,.ev 1,.ev 2,.ev 3,.ef 4,.ev 5,.ev 6]
theorem fR {φ ψ:Prop} (k:ψ) (h:Hid ψ→φ:=by intro k;(with_reducible apply G.a7);first|refine G.a6 (N:=88) (id:=7) xf mixed ah (Hid.out k)|refine G.a6 (N:=88) (id:=9) xe mixed ah (Hid.out k)|refine G.a6 (N:=88) (id:=15) uF mixed ah (Hid.out k)|refine G.a6 (N:=88) (id:=17) uD mixed ah (Hid.out k)):φ:=h ⟨k⟩
theorem wq {L:List HP} (b:Nat) (sh:Int) (x:RLX) (k:Int) (m:MvV) (hk:cT k) (hB:x.cat.B) (hO:rOk x.stks) (hl:x.stks.length≤9000000) (hi:0≤m.m.item∧m.m.item<x.cat.items.length) (hn:1≤m.m.n∧m.m.n≤1099511627776) (hf:accP m.m.frm) (hp:m.m.parts.length=0) :
  Tri Tryz.prog 192 #[.pointer (some ⟨b,0,none⟩),.int .i64 k,.agg (aJ m).toArray] (rlL b sh x L) (fun v L' =>
   ((m.m.frm≠0∧lsum (bX x.stks m.m.frm m.m.item).lots<m.m.n)∧v=.tuple #[.slice none 0 0,.int .i64 10]∧L' = rlL b sh x L) ∨
   (¬(m.m.frm≠0∧lsum (bX x.stks m.m.frm m.m.item).lots<m.m.n)∧∃ pad pcap st ad' cap',v=.tuple #[.slice pad (ptsR x m.m).length pcap,.int .i64 0]∧TkF x m.m st ∧
    L' = isl av 3 pad (ptsR x m.m)::rlL b sh { x with stks:=st,sad:=ad',scap:=cap' } L)):=by
 have hk5:k≠5:=by unfold cT at hk;omega
 have hk9:k≠9:=by unfold cT at hk;omega
 have hil:=hB.items
 obtain ⟨hi1,hi2⟩:=hi
 obtain ⟨hn1,hn2⟩:=hn
 obtain ⟨hf1,hf2⟩:=hf
 obtain ⟨o1,o2⟩:=ur hO m.m.frm m.m.item
 refine Tri.body (args:=[.pointer (some ⟨b,0,none⟩),.int .i64 k,.agg (aJ m).toArray]) 88 Ir Tryz.func192 rfl rfl rfl (by simp) ?_
 by_cases h0:m.m.frm=0
 ·simp only [rlL]
  repeat first|refine aa ?_|intro _|refine fR ?_
  refine KX.a6 ai ?_ (.inr ⟨fun h=>h.1 h0,none,0,x.stks,x.sad,x.scap,?_,⟨?_,?_,hO,ab,fun h=>h⟩,rfl⟩)
  ·rw [show ptsR x m.m=[] by unfold ptsR;rw [if_pos h0]]
   refine Ent.trans ?_ (Ent.c8 av 3 none)
   exact ae
  ·rw [show ptsR x m.m=[] by unfold ptsR;rw [if_pos h0]]
   rfl
  ·intro a i
   rw [if_pos h0]
  ·intro i
   rw [if_neg (fun q=>q.1 h0),Int.sub_zero]
 have h0' : 0<m.m.frm:=ab
 have ep:ptsR x m.m=fC (mixR x m.m.item) (bX x.stks m.m.frm m.m.item).lots m.m.n:=by unfold ptsR;rw [if_neg h0]
 rw [ep]
 refine G.ent (L':=stkP (bX x.stks m.m.frm m.m.item)::isl aN 7 x.cat.iad x.cat.items::rlL b sh x L) ?_ ?_
 ·simp only [rlL]
  refine (Ent.at (A:=catP x.cat) vP).trans ?_
  refine (Ent.at (A:=allP rsP x.stks) (nz m.m.frm m.m.item)).trans ?_
  exact ae
 simp only [rlL]
 repeat first|refine aa ?_|intro _|refine fR ?_
 refine GO.ef (Ef.a6 (li (b:=b) (sh:=sh) (x:=x) m.m.frm m.m.item ab) rfl) ac ?_
 rintro _ _ ⟨rfl,rfl⟩
 generalize hsk:bX x.stks m.m.frm m.m.item=sk at *
 repeat first|refine aa ?_|intro _|refine fR ?_
 refine GPW.ent (Ent.at (A:=stkP sk) (Ent.refl _)) ?_
 refine GPW.ef (Ef.a6 (zp sk.ad sk.cap sk.lots m.m.n (mixR x m.m.item) o1 o2 ab hn2) rfl) ac ?_
 rintro _ _ (⟨h1,rfl,rfl⟩|⟨h1,ad1,c1,ad2,c2,rfl,rfl⟩)
 ·repeat first|refine aa ?_|intro _|refine fR ?_
  exact KX.a6 ai ae (.inl ⟨⟨h0,h1⟩,rfl,rfl⟩)
 ·repeat first|refine aa ?_|intro _|refine fR ?_
  rename_i b3
  refine GO.ent (L':=rlL b sh x (stkP ⟨ad2,c2,eX (mixR x m.m.item) sk.lots m.m.n⟩::isl av 3 ad1 (fC (mixR x m.m.item) sk.lots m.m.n)::obj b3 tMv (aJ m)::L)) (by
   refine (Ent.frz ad1).trans ((Ent.frz ad2).trans ?_)
   simp only [rlL]
   exact ae) ?_
  refine GO.ef (Ef.a6 (qz b sh x m.m.frm m.m.item ⟨ad2,c2,eX (mixR x m.m.item) sk.lots m.m.n⟩ ab) rfl) ac ?_
  rintro _ _ ⟨ad',cap',rfl⟩
  simp only [rlL]
  repeat first|refine aa ?_|intro _|refine fR ?_
  refine KX.a6 ai ?_ (.inr ⟨ab,ad1,c1,rset x.stks m.m.frm m.m.item ⟨ad2,c2,eX (mixR x m.m.item) sk.lots m.m.n⟩,ad',cap',rfl,⟨?_,?_,?_,pq _ _ _ _,nx⟩,rfl⟩)
  ·exact ae
  ·intro a i
   rw [if_neg h0,mh]
   unfold upd2
   dsimp only
   split
   ·rw [hsk]
   ·rfl
  ·intro i
   rw [nw,hsk]
   dsimp only
   by_cases hq:i=m.m.item
   ·rw [if_pos hq,if_pos ⟨h0,hq⟩,sH o2 ab h1]
    omega
   ·rw [if_neg hq,if_neg (fun q=>hq q.2)]
    omega
  ·intro s hs
   rcases pp hs with h|h
   ·exact hO s h
   ·rw [h]
    exact ⟨Nat.le_trans (hZ _ _ _).2 o1,(vF o2 (ua _ _ _ o2 ab h1)).2⟩
end
section
theorem AP {l:List Lot} {f n:Int} (h:∀ x∈l,LotOk x) (hn:1≤n):bR l (f,0,n)=l++[(f,0,n)]:=by
 unfold bR
 rw [if_neg (by dsimp only;omega),if_neg]
 rintro ⟨h1,h2⟩
 rw [lcont_iff] at h2
 have:=h _ (ap (show l.length - 1<l.length by omega))
 unfold LotOk at this
 dsimp only at h2
 omega
def tL (sid:Int) (f:FlV):Bool:=dB (f.m.step=sid∧f.m.to=0)
def fw (sid:Int) (l:List FlV):List Int:=(l.filter (tL sid)).map (fun f=>f.m.id)
theorem qf (sid:Int) (l:List FlV) (f:FlV):fw sid (l++[f])=if f.m.step=sid∧f.m.to=0 then fw sid l++[f.m.id] else fw sid l:=by
 unfold fw
 rw [List.filter_append]
 by_cases h:f.m.step=sid∧f.m.to=0
 ·rw [if_pos h,List.filter_cons,if_pos (by unfold tL;rw [aw h]),List.map_append]
  rfl
 ·rw [if_neg h,List.filter_cons,if_neg (by unfold tL;rw [an h];decide),List.map_append]
  simp
theorem BH (sid:Int) (l:List FlV):(fw sid l).length≤l.length:=by
 unfold fw
 rw [List.length_map]
 exact List.length_filter_le _ _
theorem zi (sid:Int) (l:List FlV) {i:Nat} (h:i<l.length):fw sid (l.take (i+1))=if l[i]!.m.step=sid∧l[i]!.m.to=0 then fw sid (l.take i)++[l[i]!.m.id] else fw sid (l.take i):=by
 rw [← qf]
 congr 1
 rw [List.take_add_one,List.getElem?_eq_getElem h,getElem!_of h]
 rfl
structure RW (S:LedM) (y:RLX) (W:Wk):Prop where
 cat:y.cat.m=S.cat
 catB:y.cat.B
 steps:y.steps.map StV.m=S.steps
 flows:y.flows.map FlV.m=S.flows++W.flows
 lots:∀ a i,(bX y.stks a i).lots=W.stk a i
 sum:∀ i,rsum y.stks i=W.tot i
 ok:rOk y.stks
 len:y.stks.length≤2*y.flows.length
 dist:gY y.stks
 sunk:fw (aC S) y.flows=W.sunk
structure MvFitR (k:Nat) (m:MvM):Prop where
 item:0≤m.item∧m.item<k
 n:1≤m.n∧m.n≤1099511627776
 frm:accP m.frm
 to:accP m.to
 ne:m.frm≠m.to
 parts:m.parts.length=0
abbrev xd:List Stp:=[.ev 0,.ev 1,.ev 2,.ev 3,.ev 4,.ev 5,.ev 6,.ev 7,.ev 8,.ev 9,.ev 10,.ev 11,.ev 12,.ev 13,.ev 14,.ev 15,.ev 16,.ev 17,.ev 18,.ev 19,.ev 20,.ev 21,.ev 22,.ev 23,.ev 24,.ev 25,.ev 26,.ev 27,.ev 28,.ev 29,.ev 30,.ev 31,.ev 32,.ev 33,.ev 34,.ev 35,.ev 36,.ef 37,.ef 38]
abbrev xc:List Stp:=[.ev 0,.ev 1,.ev 2,.ev 3,.ev 4,.ev 5,.ev 6,.ev 7,.ev 8,.ev 9,.ev 10,.ev 11,.ev 12,.ev 13,.ev 14,.ev 15,.ev 16,.ev 17,.ev 18,.ev 19,.ev 20,.ev 21]
abbrev uC:List Stp:=[.ev 0,.ev 1,.ev 2,.ev 3,.ev 4,.ev 5,.ev 6,.ev 7,.ev 8,.ev 9,.ef 10,.ef 11,.ev 12,.ef 13]
abbrev uB:List Stp:=[.ev 0,.ev 1,.ev 2,.ev 3,.ev 4,.ev 5,.ev 6,.ev 8,.ev 9,.ef 7,.ev 10,.ev 11,.ev 12]
abbrev uA:List Stp:=[.ev 0,.ev 1,.ev 2,.ev 3,.ev 4,.ev 6,.ev 7,.ev 8,.ev 9,.ev 10,.ef 5,.ef 11,.ev 12]
abbrev uz:List Stp:=[.ev 0,.ev 1,.ev 2,.ev 3,.ev 4,.ev 5,.ef 6,.ef 7,.ev 8,.ev 9,.ef 10]
theorem bD {φ ψ:Prop} (k:ψ) (h:Hid ψ→φ:=by intro k;(with_reducible apply G.a7);first|refine G.a6 (N:=169) (id:=1) xd mixed ah (Hid.out k)|refine G.a6 (N:=169) (id:=9) xc mixed ah (Hid.out k)|refine G.a6 (N:=169) (id:=10) uC mixed ah (Hid.out k)|refine G.a6 (N:=169) (id:=11) uB mixed ah (Hid.out k)|refine G.a6 (N:=169) (id:=14) uA mixed ah (Hid.out k)|refine G.a6 (N:=169) (id:=18) uz mixed ah (Hid.out k)):φ:=h ⟨k⟩
theorem zu {L:List HP} (b:Nat) (S:LedM) (hS:S.Ok) (y:RLX) (W:Wk) (s:StV) (m:MvV) (hR:RW S y W) (hO:W.Ok S.flows.length) (hWf:W.flows.length<64) (h:MvFitR y.cat.items.length m.m) (hk:cT s.kind) :
  Tri Tryz.prog 132 #[.pointer (some ⟨b,0,none⟩),.agg (aK s).toArray,.agg (aJ m).toArray] (rlL b S.shard y L) (fun v L'=>∃ y',v=.int .i64 (bh S.shard S.flows.length (bP S.cat) (s.m.at (aC S)) W m.m).1 ∧
   ((y'.cat=y.cat∧y'.steps=y.steps∧y'.tad=y.tad∧y'.tcap=y.tcap)∧((bh S.shard S.flows.length (bP S.cat) (s.m.at (aC S)) W m.m).1=0→RW S y' (bh S.shard S.flows.length (bP S.cat) (s.m.at (aC S)) W m.m).2))∧L' = rlL b S.shard y' L):=by
 obtain ⟨hs1,hs2⟩:=hS.shard
 have hsf:=hS.flows
 have hss:=hS.steps
 obtain ⟨hn1,hn2⟩:=h.n
 have hne:=h.ne
 obtain ⟨hf1,hf2⟩:=h.frm
 obtain ⟨hto1,hto2⟩:=h.to
 have hyf:y.flows.length=S.flows.length+W.flows.length:=by
  have:=congrArg List.length hR.flows
  rwa [List.length_map,List.length_append] at this
 have hys:y.steps.length=S.steps.length:=by rw [← hR.steps];simp
 have hyl:=hR.len
 have hsid:S.shard*4294967296+(y.steps.length:Int)=aC S:=by unfold aC;rw [hys]
 have hfid:S.shard*4294967296+(y.flows.length:Int)=ee S.shard S.flows.length W:=by unfold ee;rw [hyf];omega
 have hmix:mixR y=bP S.cat:=by funext i;unfold mixR bP;rw [← hR.cat];rfl
 refine Tri.body (args:=[.pointer (some ⟨b,0,none⟩),.agg (aK s).toArray,.agg (aJ m).toArray]) 169 Jf Tryz.func132 rfl rfl rfl (by simp) ?_
 simp only [rlL]
 repeat first|refine aa ?_|intro _|refine bD ?_
 rename_i b4 b5 b7
 refine GO.ent (L':=rlL b S.shard y (obj b7 cz [.int .i64 (S.shard*4294967296+(y.flows.length:Int)),.int .i64 (S.shard*4294967296+(y.steps.length:Int)),.int .i64 s.kind,.int .i64 s.tick,.int .i64 s.actor,.int .i64 m.m.frm,.int .i64 m.m.to,.int .i64 m.m.item,.int .i64 m.m.n,.slice none 0 0,.slice none 0 0]::obj b4 cy (aK s)::obj b5 tMv (aJ m)::L)) (by simp only [rlL];exact ae) ?_
 refine GO.ef (Ef.a6 (wq b S.shard y s.kind m hk hR.catB hR.ok ab h.item h.n h.frm h.parts) rfl) ac ?_
 rw [hR.lots]
 rintro _ _ (⟨h1,rfl,rfl⟩|⟨h1,pad,pcap,st,sad',scap',rfl,hT,rfl⟩)
 ·have e:bh S.shard S.flows.length (bP S.cat) (s.m.at (aC S)) W m.m=(10,W):=by unfold bh;rw [if_pos h1]
  rw [e]
  repeat first|refine aa ?_|intro _|refine bD ?_
  exact KX.a6 ai (by simp only [rlL];exact ae) ⟨y,rfl,⟨⟨rfl,rfl,rfl,rfl⟩,fun q=>absurd (show (10:Int)=0 from q) ab⟩,rfl⟩
 have hmv:bh S.shard S.flows.length (bP S.cat) (s.m.at (aC S)) W m.m=if bY W m.m>1099511627776 then (4,W)
   else if m.m.to=0 then (0,⟨bG (bP S.cat) W m.m,upd W.tot m.m.item (bY W m.m),W.flows++[dK S.shard S.flows.length (bP S.cat) (s.m.at (aC S)) W m.m],W.sunk++[ee S.shard S.flows.length W]⟩)
   else if 4096≤(bG (bP S.cat) W m.m m.m.to m.m.item).length then (4,W)
   else (0,⟨upd2 (bG (bP S.cat) W m.m) m.m.to m.m.item (bR (bG (bP S.cat) W m.m m.m.to m.m.item) (ee S.shard S.flows.length W,0,m.m.n)),upd W.tot m.m.item (bY W m.m),W.flows++[dK S.shard S.flows.length (bP S.cat) (s.m.at (aC S)) W m.m],W.sunk⟩):=by unfold bh;rw [if_neg h1]
 have hpt:ptsR y m.m=ez (bP S.cat) W m.m:=by unfold ptsR ez;rw [hmix,hR.lots]
 have hts:∀ a i,(bX st a i).lots=bG (bP S.cat) W m.m a i:=by
  intro a i
  rw [hT.lots]
  unfold bG
  by_cases h0:m.m.frm=0
  ·rw [if_pos h0,if_pos h0,hR.lots]
  ·rw [if_neg h0,if_neg h0,hmix,hR.lots]
   unfold upd2
   dsimp only
   rw [hR.lots]
 have hsum:∀ i,rsum st i=W.tot i - (if m.m.frm≠0∧i=m.m.item then m.m.n else 0):=fun i=>by rw [hT.sum,hR.sum]
 have hstl:=hT.len
 have hsto:=hT.ok
 have hstd:=hT.dist hR.dist
 clear hT
 rw [hmv]
 generalize hpts:ptsR y m.m=pts at *
 simp only [rlL,az]
 repeat first|((fail_if_success (with_reducible refine G.c7 6 ?_));(with_reducible apply G.seq))|refine aL ?_|intro _|refine bD ?_
 refine G.a8 (α:=Option Addr×Nat) (fun _=>True) (fun _=>[(0,.pointer (some ⟨b,0,none⟩)),(4,.pointer (some ⟨b4,0,none⟩)),(5,.pointer (some ⟨b5,0,none⟩)),(6,.int .i64 0),(7,.pointer (some ⟨b7,0,none⟩))]) (fun g=>obj b7 cz [.int .i64 (S.shard*4294967296+(y.flows.length:Int)),.int .i64 (S.shard*4294967296+(y.steps.length:Int)),.int .i64 s.kind,.int .i64 s.tick,.int .i64 s.actor,.int .i64 m.m.frm,.int .i64 m.m.to,.int .i64 m.m.item,.int .i64 m.m.n,.slice pad pts.length pcap,.slice g.1 (cO (s.m.at (aC S)) W m.m).length g.2]::isl (encZ .i64) 1 g.1 (cO (s.m.at (aC S)) W m.m)::isl av 3 pad pts::rlL b S.shard { y with stks:=st,sad:=sad',scap:=scap' } (obj b4 cy (aK s)::obj b5 tMv (aJ m)::L)) ?_ ?_
 ·by_cases hC:m.m.frm=0∧s.kind=4
  ·obtain ⟨hC1,hC2⟩:=hC
   have e:cO (s.m.at (aC S)) W m.m=fw (aC S) y.flows:=by unfold cO;rw [if_pos ⟨hC1,.inl hC2⟩,hR.sunk]
   rw [e]
   simp only [rlL,az]
   repeat first|refine aa ?_|intro _|refine bD ?_
   refine G.loop (α:=Nat×Option Addr×Nat) (fun g=>g.1≤y.flows.length) (fun g=>[(0,.pointer (some ⟨b,0,none⟩)),(4,.pointer (some ⟨b4,0,none⟩)),(5,.pointer (some ⟨b5,0,none⟩)),(6,.int .i64 0),(7,.pointer (some ⟨b7,0,none⟩)),(10,.int .i64 (g.1:Int))]) (fun g=>obj b7 cz [.int .i64 (S.shard*4294967296+(y.flows.length:Int)),.int .i64 (S.shard*4294967296+(y.steps.length:Int)),.int .i64 s.kind,.int .i64 s.tick,.int .i64 s.actor,.int .i64 m.m.frm,.int .i64 m.m.to,.int .i64 m.m.item,.int .i64 m.m.n,.slice pad pts.length pcap,.slice g.2.1 (fw (aC S) (y.flows.take g.1)).length g.2.2]::osl (encZ .i64) 1 tInt g.2.1 g.2.2 (fw (aC S) (y.flows.take g.1))::isl av 3 pad pts::rlL b S.shard { y with stks:=st,sad:=sad',scap:=scap' } (obj b4 cy (aK s)::obj b5 tMv (aJ m)::L)) (fun g=>y.flows.length - g.1) (0,none,0) (Nat.zero_le _) aj ?_ ?_
   ·have e0:fw (aC S) (y.flows.take 0)=[]:=by simp [fw]
    dsimp only
    rw [e0]
    refine (Ent.a7 (encZ .i64) 1 tInt).trans ?_
    simp only [rlL,az]
    exact ae
   rintro ⟨k,mad,mcap⟩ hk1
   dsimp only at hk1 ⊢
   simp only [rlL,az]
   by_cases hlt:k<y.flows.length
   case neg =>
    obtain rfl:k=y.flows.length:=ab
    rw [List.take_length]
    repeat first|refine aa ?_|intro _|refine bD ?_
    refine ⟨(mad,mcap),trivial,aj,?_⟩
    refine (Ent.frz mad).trans ?_
    simp only [rlL,az]
    exact ae
   have hkk:(k:Int).toNat=k:=Int.toNat_natCast k
   have hlt' : (k:Int).toNat<y.flows.length:=ab
   have hst:=zi (aC S) y.flows hlt
   have hsl:=BH (aC S) (y.flows.take k)
   rw [List.length_take] at hsl
   by_cases g1:y.flows[(k:Int).toNat]!.m.step=S.shard*4294967296+(y.steps.length:Int)
   ·by_cases g2:y.flows[(k:Int).toNat]!.m.to=0
    ·repeat first|refine aa ?_|intro _|refine bD ?_
     refine GPW.ef (Ef.a7 (enc:=encZ .i64) (e:=y.flows[(k:Int).toNat]!.m.id) rfl rfl rfl rfl rfl (by rfl) (by simp [encZ,Value.oneCell']) ab ab) ac ?_
     rintro _ _ ⟨mad2,mcap2,rfl,rfl⟩
     repeat first|refine aa ?_|intro _|refine bD ?_
     rw [hkk] at *
     rw [if_pos ⟨g1.trans hsid,g2⟩] at hst
     refine ⟨(k+1,mad2,mcap2),by dsimp only;omega,by dsimp only;omega,?_,?_⟩
     ·dsimp only
      rw [show ((k+1:Nat):Int)=(k:Int)+1 by omega]
      exact aj
     ·dsimp only
      rw [hst]
      exact ae
    ·repeat first|refine aa ?_|intro _|refine bD ?_
     rw [hkk] at *
     rw [if_neg (fun q=>g2 q.2)] at hst
     refine ⟨(k+1,mad,mcap),by dsimp only;omega,by dsimp only;omega,?_,?_⟩
     ·dsimp only
      rw [show ((k+1:Nat):Int)=(k:Int)+1 by omega]
      exact aj
     ·dsimp only
      rw [hst]
      exact ae
   ·repeat first|refine aa ?_|intro _|refine bD ?_
    rw [hkk] at *
    rw [if_neg (fun q=>g1 (q.1.trans hsid.symm))] at hst
    refine ⟨(k+1,mad,mcap),by dsimp only;omega,by dsimp only;omega,?_,?_⟩
    ·dsimp only
     rw [show ((k+1:Nat):Int)=(k:Int)+1 by omega]
     exact aj
    ·dsimp only
     rw [hst]
     exact ae
  ·have hk10:¬s.kind=10:=by unfold cT at hk;omega
   have e:cO (s.m.at (aC S)) W m.m=[]:=by
    unfold cO
    exact if_neg (fun h=>by
     obtain ⟨h3,h4⟩:=h
     rcases h4 with h4|h4
     ·exact hC ⟨h3,h4⟩
     ·exact hk10 h4)
   rw [e]
   simp only [rlL,az]
   repeat first|refine aa ?_|intro _|refine bD ?_
   refine G.loop (α:=Unit) (fun _=>True) (fun _=>[(0,.pointer (some ⟨b,0,none⟩)),(4,.pointer (some ⟨b4,0,none⟩)),(5,.pointer (some ⟨b5,0,none⟩)),(6,.int .i64 0),(7,.pointer (some ⟨b7,0,none⟩)),(10,.int .i64 0)]) (fun _=>obj b7 cz [.int .i64 (S.shard*4294967296+(y.flows.length:Int)),.int .i64 (S.shard*4294967296+(y.steps.length:Int)),.int .i64 s.kind,.int .i64 s.tick,.int .i64 s.actor,.int .i64 m.m.frm,.int .i64 m.m.to,.int .i64 m.m.item,.int .i64 m.m.n,.slice pad pts.length pcap,.slice none 0 0]::isl av 3 pad pts::rlL b S.shard { y with stks:=st,sad:=sad',scap:=scap' } (obj b4 cy (aK s)::obj b5 tMv (aJ m)::L)) (fun _=>0) () trivial aj ?_ ?_
   ·simp only [rlL,az]
    exact ae
   rintro _ _
   simp only [rlL,az]
   by_cases hlt:(0:Int)<(y.flows.length:Int)
   ·by_cases h0:m.m.frm=0
    ·have h04:¬s.kind=4:=fun h=>hC ⟨h0,h⟩
     repeat first|refine aa ?_|intro _|refine bD ?_
     refine ⟨(none,0),trivial,aj,?_⟩
     refine Ent.trans ?_ (Ent.a6 (Ent.c8 (encZ .i64) 1 none))
     simp only [rlL,az]
     exact ae
    ·repeat first|refine aa ?_|intro _|refine bD ?_
     refine ⟨(none,0),trivial,aj,?_⟩
     refine Ent.trans ?_ (Ent.a6 (Ent.c8 (encZ .i64) 1 none))
     simp only [rlL,az]
     exact ae
   ·repeat first|refine aa ?_|intro _|refine bD ?_
    refine ⟨(none,0),trivial,aj,?_⟩
    refine Ent.trans ?_ (Ent.a6 (Ent.c8 (encZ .i64) 1 none))
    simp only [rlL,az]
    exact ae
 rintro ⟨mad,mcap⟩ _
 dsimp only
 have hot:=hO.tot m.m.item
 have hstk:=qc (mix:=bP S.cat) hO dF hn1 h1
 refine G.a8 (α:=Unit) (fun _=>¬bY W m.m>1099511627776) (fun _=>[(0,.pointer (some ⟨b,0,none⟩)),(4,.pointer (some ⟨b4,0,none⟩)),(5,.pointer (some ⟨b5,0,none⟩)),(6,.int .i64 0),(7,.pointer (some ⟨b7,0,none⟩))]) (fun _=>rlL b S.shard { y with stks:=st,sad:=sad',scap:=scap' } (obj b7 cz [.int .i64 (S.shard*4294967296+(y.flows.length:Int)),.int .i64 (S.shard*4294967296+(y.steps.length:Int)),.int .i64 s.kind,.int .i64 s.tick,.int .i64 s.actor,.int .i64 m.m.frm,.int .i64 m.m.to,.int .i64 m.m.item,.int .i64 m.m.n,.slice pad pts.length pcap,.slice mad (cO (s.m.at (aC S)) W m.m).length mcap]::isl (encZ .i64) 1 mad (cO (s.m.at (aC S)) W m.m)::isl av 3 pad pts::obj b4 cy (aK s)::obj b5 tMv (aJ m)::L)) ?_ ?_
 ·by_cases h0:m.m.frm=0
  ·have hrs:=hsum m.m.item
   rw [if_neg (fun q=>q.1 h0),Int.sub_zero] at hrs
   have hnt:bY W m.m=rsum st m.m.item+m.m.n:=by unfold bY;rw [if_pos h0,if_neg (fun q=>hne (h0.trans q.symm)),hrs];omega
   simp only [rlL,az]
   repeat first|refine aa ?_|intro _|refine bD ?_
   refine GPW.ent (L':=rlL b S.shard { y with stks:=st,sad:=sad',scap:=scap' } (obj b7 cz [.int .i64 (S.shard*4294967296+(y.flows.length:Int)),.int .i64 (S.shard*4294967296+(y.steps.length:Int)),.int .i64 s.kind,.int .i64 s.tick,.int .i64 s.actor,.int .i64 m.m.frm,.int .i64 m.m.to,.int .i64 m.m.item,.int .i64 m.m.n,.slice pad pts.length pcap,.slice mad (cO (s.m.at (aC S)) W m.m).length mcap]::isl (encZ .i64) 1 mad (cO (s.m.at (aC S)) W m.m)::isl av 3 pad pts::obj b4 cy (aK s)::obj b5 tMv (aJ m)::L)) (by simp only [rlL,az];exact ae) ?_
   refine GPW.ef (Ef.a6 (BP b S.shard { y with stks:=st,sad:=sad',scap:=scap' } m.m.item (by dsimp only;omega) hsto (by dsimp only;omega)) rfl) ac ?_
   rintro _ _ ⟨rfl,rfl⟩
   simp only [rlL,az]
   rw [hnt]
   by_cases hbig:rsum st m.m.item+m.m.n>1099511627776
   ·rw [if_pos hbig]
    repeat first|refine aa ?_|intro _|refine bD ?_
    exact KX.a6 ai ae ⟨{ y with stks:=st,sad:=sad',scap:=scap' },rfl,⟨⟨rfl,rfl,rfl,rfl⟩,fun q=>absurd (show (4:Int)=0 from q) ab⟩,rfl⟩
   ·repeat first|refine aa ?_|intro _|refine bD ?_
    exact ⟨(),hbig,aj,by exact ae⟩
  ·simp only [rlL,az]
   repeat first|refine aa ?_|intro _|refine bD ?_
   refine ⟨(),?_,aj,by exact ae⟩
   unfold bY
   rw [if_neg h0]
   split<;>omega
 rintro _ hbig
 rw [if_neg hbig]
 refine G.a8 (α:=List RStk×Option Addr×Nat) (fun g=>¬(m.m.to≠0∧4096≤(bG (bP S.cat) W m.m m.m.to m.m.item).length)∧(∀ a i,(bX g.1 a i).lots=if m.m.to≠0 then upd2 (bG (bP S.cat) W m.m) m.m.to m.m.item (bR (bG (bP S.cat) W m.m m.m.to m.m.item) (ee S.shard S.flows.length W,0,m.m.n)) a i else bG (bP S.cat) W m.m a i)∧(∀ i,rsum g.1 i=rsum st i+(if m.m.to≠0∧i=m.m.item then m.m.n else 0))∧rOk g.1∧g.1.length≤st.length+1∧gY g.1) (fun _=>[(0,.pointer (some ⟨b,0,none⟩)),(4,.pointer (some ⟨b4,0,none⟩)),(5,.pointer (some ⟨b5,0,none⟩)),(6,.int .i64 0),(7,.pointer (some ⟨b7,0,none⟩))]) (fun g=>rlL b S.shard { y with stks:=g.1,sad:=g.2.1,scap:=g.2.2 } (obj b7 cz [.int .i64 (S.shard*4294967296+(y.flows.length:Int)),.int .i64 (S.shard*4294967296+(y.steps.length:Int)),.int .i64 s.kind,.int .i64 s.tick,.int .i64 s.actor,.int .i64 m.m.frm,.int .i64 m.m.to,.int .i64 m.m.item,.int .i64 m.m.n,.slice pad pts.length pcap,.slice mad (cO (s.m.at (aC S)) W m.m).length mcap]::isl (encZ .i64) 1 mad (cO (s.m.at (aC S)) W m.m)::isl av 3 pad pts::obj b4 cy (aK s)::obj b5 tMv (aJ m)::L)) ?_ ?_
 ·by_cases h0:m.m.to=0
  ·simp only [rlL,az]
   repeat first|refine aa ?_|intro _|refine bD ?_
   refine ⟨(st,sad',scap'),⟨fun q=>q.1 h0,?_,?_,hsto,by dsimp only;omega,hstd⟩,aj,by exact ae⟩
   ·intro a i
    rw [if_neg (fun q=>q h0)]
    exact hts a i
   ·intro i
    rw [if_neg (fun q=>q.1 h0),Int.add_zero]
  have h0' : 0<m.m.to:=ab
  obtain ⟨o1,o2⟩:=hstk m.m.to m.m.item
  have hcl:=hts m.m.to m.m.item
  rw [if_neg h0]
  refine G.ent (L':=stkP (bX st m.m.to m.m.item)::rlL b S.shard { y with stks:=st,sad:=sad',scap:=scap' } (obj b7 cz [.int .i64 (S.shard*4294967296+(y.flows.length:Int)),.int .i64 (S.shard*4294967296+(y.steps.length:Int)),.int .i64 s.kind,.int .i64 s.tick,.int .i64 s.actor,.int .i64 m.m.frm,.int .i64 m.m.to,.int .i64 m.m.item,.int .i64 m.m.n,.slice pad pts.length pcap,.slice mad (cO (s.m.at (aC S)) W m.m).length mcap]::isl (encZ .i64) 1 mad (cO (s.m.at (aC S)) W m.m)::isl av 3 pad pts::obj b4 cy (aK s)::obj b5 tMv (aJ m)::L)) ?_ ?_
  ·simp only [rlL,az]
   refine (Ent.at (A:=allP rsP st) (nz m.m.to m.m.item)).trans ?_
   exact ae
  simp only [rlL,az]
  repeat first|refine aa ?_|intro _|refine bD ?_
  refine GPW.ef (Ef.a6 (li (b:=b) (sh:=S.shard) (x:={ y with stks:=st,sad:=sad',scap:=scap' }) m.m.to m.m.item (by dsimp only;omega)) rfl) ac ?_
  rintro _ _ ⟨rfl,rfl⟩
  dsimp only
  rw [← hcl] at o1 o2 ⊢
  generalize hsk:bX st m.m.to m.m.item=sk at *
  have hlot:LotOk (S.shard*4294967296+(y.flows.length:Int),0,m.m.n):=by
   unfold LotOk
   dsimp only
   omega
  have hpl:=AP (f:=S.shard*4294967296+(y.flows.length:Int)) (n:=m.m.n) o2 hn1
  have hpll:(bR sk.lots (S.shard*4294967296+(y.flows.length:Int),0,m.m.n)).length=sk.lots.length+1:=by rw [hpl];simp
  repeat first|refine aa ?_|intro _|refine bD ?_
  refine GPW.ent (Ent.at (A:=stkP sk) (Ent.refl _)) ?_
  refine GPW.ef (Ef.a6 (lj sk.ad sk.lots.length sk.cap sk.lots (S.shard*4294967296+(y.flows.length:Int),0,m.m.n) rfl ab (fun q hq=>(o2 q hq).w) hlot.w) rfl) ac ?_
  rintro _ _ ⟨ad2,c2,rfl,rfl⟩
  by_cases hbl:4096≤sk.lots.length
  ·rw [if_pos hbl]
   repeat first|refine aa ?_|intro _|refine bD ?_
   exact KX.a6 ai ae ⟨{ y with stks:=st,sad:=sad',scap:=scap' },rfl,⟨⟨rfl,rfl,rfl,rfl⟩,fun q=>absurd (show (4:Int)=0 from q) ab⟩,rfl⟩
  repeat first|refine aa ?_|intro _|refine bD ?_
  refine GO.ent (L':=rlL b S.shard { y with stks:=st,sad:=sad',scap:=scap' } (stkP ⟨ad2,c2,bR sk.lots (S.shard*4294967296+(y.flows.length:Int),0,m.m.n)⟩::obj b7 cz [.int .i64 (S.shard*4294967296+(y.flows.length:Int)),.int .i64 (S.shard*4294967296+(y.steps.length:Int)),.int .i64 s.kind,.int .i64 s.tick,.int .i64 s.actor,.int .i64 m.m.frm,.int .i64 m.m.to,.int .i64 m.m.item,.int .i64 m.m.n,.slice pad pts.length pcap,.slice mad (cO (s.m.at (aC S)) W m.m).length mcap]::isl (encZ .i64) 1 mad (cO (s.m.at (aC S)) W m.m)::isl av 3 pad pts::obj b4 cy (aK s)::obj b5 tMv (aJ m)::L)) (by
   refine (Ent.frz ad2).trans ?_
   simp only [rlL,az]
   exact ae) ?_
  refine GO.ef (Ef.a6 (qz b S.shard { y with stks:=st,sad:=sad',scap:=scap' } m.m.to m.m.item ⟨ad2,c2,bR sk.lots (S.shard*4294967296+(y.flows.length:Int),0,m.m.n)⟩ (by dsimp only;omega)) rfl) ac ?_
  rintro _ _ ⟨ad',cap',rfl⟩
  simp only [rlL,az]
  repeat first|refine aa ?_|intro _|refine bD ?_
  refine ⟨(rset st m.m.to m.m.item ⟨ad2,c2,bR sk.lots (S.shard*4294967296+(y.flows.length:Int),0,m.m.n)⟩,ad',cap'),⟨fun q=>hbl q.2,?_,?_,?_,pq _ _ _ _,nx hstd⟩,aj,by exact ae⟩
  ·intro a i
   dsimp only
   rw [if_pos h0,mh]
   unfold upd2
   rw [← hfid]
   split
   ·rfl
   ·exact hts a i
  ·intro i
   dsimp only
   rw [nw,hsk]
   by_cases hq:i=m.m.item
   ·rw [if_pos hq,if_pos ⟨h0,hq⟩]
    dsimp only
    rw [mz]
    dsimp only
    omega
   ·rw [if_neg hq,if_neg (fun q=>hq q.2)]
  ·intro u hu
   rcases pp hu with h|h
   ·exact hsto u h
   ·rw [h]
    dsimp only
    exact ⟨ab,pD o2 hlot.w⟩
 rintro ⟨st2,sad2,scap2⟩ ⟨hnl,hts2,hsum2,hok2,hlen2,hdist2⟩
 dsimp only at hnl hts2 hsum2 hok2 hlen2 hdist2 ⊢
 have hnf:dK S.shard S.flows.length (bP S.cat) (s.m.at (aC S)) W m.m=⟨ee S.shard S.flows.length W,aC S,s.kind,s.tick,s.actor,m.m.frm,m.m.to,m.m.item,m.m.n,pts,cO (s.m.at (aC S)) W m.m⟩:=by unfold dK;rw [← hpt];rfl
 generalize dK S.shard S.flows.length (bP S.cat) (s.m.at (aC S)) W m.m=fl at *
 have hcell:bH (flV fl pad pcap mad mcap)=[.int .i64 (S.shard*4294967296+(y.flows.length:Int)),.int .i64 (S.shard*4294967296+(y.steps.length:Int)),.int .i64 s.kind,.int .i64 s.tick,.int .i64 s.actor,.int .i64 m.m.frm,.int .i64 m.m.to,.int .i64 m.m.item,.int .i64 m.m.n,.slice pad pts.length pcap,.slice mad (cO (s.m.at (aC S)) W m.m).length mcap]:=by
  rw [hnf,hfid,hsid]
  rfl
 have hflm:fl.made=cO (s.m.at (aC S)) W m.m:=by rw [hnf]
 have hflp:fl.parts=pts:=by rw [hnf]
 have hfls:fl.step=aC S:=by rw [hnf]
 have hflt:fl.to=m.m.to:=by rw [hnf]
 have hfli:fl.id=ee S.shard S.flows.length W:=by rw [hnf]
 have hsnk:=qf (aC S) y.flows (flV fl pad pcap mad mcap)
 rw [← hcell,← hflm,← hflp]
 simp only [rlL,az]
 repeat first|refine aa ?_|intro _|refine bD ?_
 refine GPW.ef (Ef.a7 (enc:=bH) (e:=flV fl pad pcap mad mcap) rfl rfl rfl rfl rfl (by rfl) (iL _) ab ab) ac ?_
 rintro _ _ ⟨fad2,fcap2,rfl,rfl⟩
 repeat first|refine aa ?_|intro _|refine bD ?_
 have hy' : RW S { y with stks:=st2,sad:=sad2,scap:=scap2,flows:=y.flows++[flV fl pad pcap mad mcap],fad:=fad2,fcap:=fcap2 } ⟨if m.m.to≠0 then upd2 (bG (bP S.cat) W m.m) m.m.to m.m.item (bR (bG (bP S.cat) W m.m m.m.to m.m.item) (ee S.shard S.flows.length W,0,m.m.n)) else bG (bP S.cat) W m.m,upd W.tot m.m.item (bY W m.m),W.flows++[fl],if m.m.to=0 then W.sunk++[ee S.shard S.flows.length W] else W.sunk⟩:=by
  refine ⟨hR.cat,hR.catB,hR.steps,?_,?_,?_,hok2,?_,hdist2,?_⟩
  ·dsimp only
   rw [List.map_append,hR.flows,List.append_assoc]
   rfl
  ·intro a i
   dsimp only
   rw [hts2]
   split<;>rfl
  ·intro i
   dsimp only
   rw [hsum2,hsum]
   unfold upd bY
   by_cases hq:i=m.m.item
   ·subst hq
    rw [if_pos rfl]
    by_cases q1:m.m.frm=0
    ·have q2:m.m.to≠0:=fun q=>hne (q1.trans q.symm)
     rw [if_neg (fun q=>q.1 q1),if_pos ⟨q2,rfl⟩,if_pos q1,if_neg q2]
     omega
    ·by_cases q2:m.m.to=0
     ·rw [if_pos ⟨q1,rfl⟩,if_neg (fun q=>q.1 q2),if_neg q1,if_pos q2]
      omega
     ·rw [if_pos ⟨q1,rfl⟩,if_pos ⟨q2,rfl⟩,if_neg q1,if_neg q2]
      omega
   ·rw [if_neg hq,if_neg (fun q=>hq q.2),if_neg (fun q=>hq q.2)]
    omega
  ·simp only [List.length_append,List.length_cons,List.length_nil]
   omega
  ·dsimp only
   rw [hsnk]
   dsimp only [flV]
   rw [hfls,hflt,hfli,hR.sunk]
   by_cases q:m.m.to=0
   ·rw [if_pos ⟨rfl,q⟩,if_pos q]
   ·rw [if_neg (fun x=>q x.2),if_neg q]
 have hent:Ent (isl (encZ .i64) 1 mad fl.made::isl av 3 pad fl.parts::obj b tRL (az S.shard { y with stks:=st2,sad:=sad2,scap:=scap2,flows:=y.flows++[flV fl pad pcap mad mcap],fad:=fad2,fcap:=fcap2 })::osl eZ 3 tRS sad2 scap2 st2::osl bH 11 cz fad2 fcap2 (y.flows++[flV fl pad pcap mad mcap])::osl aK 7 cy y.tad y.tcap y.steps::catP y.cat::allP rsP st2::allP flP y.flows::allP fx y.steps::L) (rlL b S.shard { y with stks:=st2,sad:=sad2,scap:=scap2,flows:=y.flows++[flV fl pad pcap mad mcap],fad:=fad2,fcap:=fcap2 } L):=by
  refine (Ent.at (A:=isl av 3 pad fl.parts) (Ent.refl _)).trans ?_
  refine (Ent.at (A:=isl (encZ .i64) 1 mad fl.made) (Ent.refl _)).trans ?_
  refine Ent.trans (B:=isl av 3 pad fl.parts::isl (encZ .i64) 1 mad fl.made::allP flP y.flows::obj b tRL (az S.shard { y with stks:=st2,sad:=sad2,scap:=scap2,flows:=y.flows++[flV fl pad pcap mad mcap],fad:=fad2,fcap:=fcap2 })::osl eZ 3 tRS sad2 scap2 st2::osl bH 11 cz fad2 fcap2 (y.flows++[flV fl pad pcap mad mcap])::osl aK 7 cy y.tad y.tcap y.steps::catP y.cat::allP rsP st2::allP fx y.steps::L) ae ?_
  refine (Ent.d8 (bB _ _ _ _) (bB _ _ _ _)).trans ?_
  refine (og (f:=flP) (e:=flV fl pad pcap mad mcap) mJ).trans ?_
  simp only [rlL]
  exact ae
 by_cases h0:m.m.to=0
 ·rw [if_pos h0]
  rw [if_neg (fun q=>q h0),if_pos h0] at hy'
  exact KX.a6 ai (Ent.trans ae hent) ⟨{ y with stks:=st2,sad:=sad2,scap:=scap2,flows:=y.flows++[flV fl pad pcap mad mcap],fad:=fad2,fcap:=fcap2 },rfl,⟨⟨rfl,rfl,rfl,rfl⟩,fun _=>hy'⟩,rfl⟩
 ·rw [if_neg h0,if_neg (fun q=>hnl ⟨h0,q⟩)]
  rw [if_pos h0,if_neg h0] at hy'
  exact KX.a6 ai (Ent.trans ae hent) ⟨{ y with stks:=st2,sad:=sad2,scap:=scap2,flows:=y.flows++[flV fl pad pcap mad mcap],fad:=fad2,fcap:=fcap2 },rfl,⟨⟨rfl,rfl,rfl,rfl⟩,fun _=>hy'⟩,rfl⟩
end
section
structure RF (S:LedM) (x:RLX):Prop where
 cat:x.cat.m=S.cat
 catB:x.cat.B
 steps:x.steps.map StV.m=S.steps
 flows:x.flows.map FlV.m=S.flows
 lots:∀ a i,(bX x.stks a i).lots=S.stk a i
 sum:∀ i,rsum x.stks i=S.tot i
 ok:rOk x.stks
 len:x.stks.length≤2*x.flows.length
 dist:gY x.stks
 fstep:∀ f∈S.flows,f.step<aC S
 now:0≤S.now
def eQ (b:Nat) (S:LedM) (x:RLX):List HP:=bK (RF S x)::rlL b S.shard x []
def aW (b:Nat) (S:LedM):HP:=hex fun x=>aX (eQ b S x)
theorem df {b:Nat} {S:LedM} {L:List HP} (x:RLX) (h:RF S x):Ent (rlL b S.shard x L) (aW b S::L) :=
 Ent.e9 (f:=eQ b S) x (Ent.pure h (Ent.refl _))
theorem yD {S:LedM} {x:RLX} (h:RF S x):rnow x=S.now:=by
 unfold LedM.now rnow
 rw [← h.steps,List.getLast?_map,Option.map_map]
 rfl
theorem BG {sid:Int} {l:List FlV} (h:∀ f∈l,f.m.step<sid):fw sid l=[]:=by
 unfold fw
 rw [List.filter_eq_nil_iff.2,List.map_nil]
 intro f hf
 unfold tL
 rw [an (fun q=>by have:=h f hf;omega)]
 decide
theorem oW {sh:Int} {nf:Nat} {mix:Int→Bool} {s:StM}:∀ (ms:List MvM) (W:Wk),(∀ f∈W.flows,f.step=s.id)→∀ f∈(bL sh nf mix s W ms).2.flows,f.step=s.id
 | [],_,h=>h
 | m::ms,W,h=>by
  have e:bL sh nf mix s W (m::ms)=if (bh sh nf mix s W m).1=0 then bL sh nf mix s (bh sh nf mix s W m).2 ms else ((bh sh nf mix s W m).1,W):=rfl
  rw [e]
  split
  ·refine oW ms _ ?_
   have hn:∀ f∈W.flows++[dK sh nf mix s W m],f.step=s.id:=fun f hf=>by
    rcases List.mem_append.1 hf with h1|h1
    ·exact h f h1
    ·rw [List.mem_singleton.1 h1];rfl
   unfold bh
   split
   ·exact h
   ·split
    ·exact h
    ·split
     ·exact hn
     ·split
      ·exact h
      ·exact hn
  ·exact h
theorem BD {S:LedM} {s:StM}:∀ f∈(tryM S s).2.flows,f.step=aC S:=by
 unfold tryM
 split
 ·intro f hf;cases hf
 ·split
  ·intro f hf;cases hf
  ·exact oW (s:=s.at (aC S)) s.moves (wk0 S) (fun f hf=>by cases hf)
theorem we {S:LedM} {s:StM} (he:(tryM S s).1=0):aC (ei S s)=aC S+1:=by
 unfold aC ei
 simp only [List.length_append,List.length_cons,List.length_nil]
 omega
theorem DA {S:LedM} {s:StM} (he:(tryM S s).1=0) (hp:eC S.cat S.now s) (h0:0≤S.now):0≤(ei S s).now:=by
 unfold LedM.now ei
 simp only [List.getLast?_append,List.getLast?_singleton]
 have:=hp.2.1.2.2
 show 0≤s.tick
 omega
abbrev xb:List Stp:=[.ev 0,.ev 1,.ev 2,.ev 3,.ev 4,.ev 5,.ev 6,.ef 7,.ev 8]
abbrev xa:List Stp:=[.ev 0,.ev 1,.ev 2,.ev 3,.ev 4,.ev 5,.ev 6,.ev 7,.ev 8,.ev 9,.ev 10,.ev 11,.ef 12]
abbrev wZ:List Stp:=[.ev 0,.ev 1,.ev 2,.ev 3,.ev 4,.ev 5,.ef 6,.ef 7,.ev 8,.ev 9,.ef 10]
theorem dR {φ ψ:Prop} (k:ψ) (h:Hid ψ→φ:=by intro k;(with_reducible apply G.a7);first|refine G.a6 (N:=79) (id:=10) xb mixed ah (Hid.out k)|refine G.a6 (N:=79) (id:=15) xa mixed ah (Hid.out k)|refine G.a6 (N:=79) (id:=16) wZ mixed ah (Hid.out k)):φ:=h ⟨k⟩
theorem zq {L:List HP} (b:Nat) (S:LedM) (hS:S.Ok) (hc:S.cat.Ok) (hg:CatGood S.cat) (s:StV) (hs:StIn s) :
  Tri Tryz.prog 88 #[.pointer (some ⟨b,0,none⟩),.agg (aK s).toArray] (aW b S::stM s::stP s::L) (fun v L'=>v=.tuple #[.int .i64 (cL S s.m),.int .i64 (tryM S s.m).1]∧L' = aW b (aI S s.m)::stM s::stP s::L):=by
 obtain ⟨hsh1,hsh2⟩:=hS.shard
 have hsl:=hS.steps
 have hfl:=hS.flows
 have hml:=hs.len
 refine Tri.body (args:=[.pointer (some ⟨b,0,none⟩),.agg (aK s).toArray]) 79 en88 Tryz.func88 rfl rfl rfl (by simp) ?_
 refine G.c6 (f:=eQ b S) ?_
 intro x
 simp only [eQ,rlL,List.cons_append,List.nil_append]
 refine G.c8 ?_
 intro hF
 have hxs:x.steps.length=S.steps.length:=by rw [← hF.steps];simp
 have hxf:x.flows.length=S.flows.length:=by rw [← hF.flows];simp
 have hxl:=hF.len
 have hcm:=hF.cat
 have hnow:=yD hF
 have hn0:=hF.now
 have hid:S.shard*4294967296+(x.steps.length:Int)=aC S:=by unfold aC;rw [hxs]
 by_cases h1:65536≤S.steps.length
 ·have e:tryM S s.m=(4,wk0 S):=by unfold tryM;rw [if_pos h1]
  have e1:aI S s.m=S:=if_neg (by rw [e];dsimp only;omega)
  have e2:cL S s.m=0:=if_neg (by rw [e];dsimp only;omega)
  rw [e1,e2,e]
  repeat first|refine aa ?_|intro _|refine dR ?_
  exact KX.a6 ai (Ent.trans ae (df x hF)) ⟨rfl,rfl⟩
 repeat first|refine aa ?_|intro _|refine dR ?_
 rename_i b3
 refine GO.ent (L':=catP x.cat::rlL b S.shard x (obj b3 cy (aK s)::stM s::stP s::L)) ?_ ?_
 ·refine (Ent.at (A:=catP x.cat) (Ent.dup (lL x.cat).1)).trans ?_
  simp only [rlL]
  exact ae
 simp only [rlL]
 refine GO.ef (Ef.a6 (zr (b:=b) (sh:=S.shard) (x:=x) s hs.kind (hcm▸hg) (hcm▸hc) hF.catB ab ab hml hs.rule) rfl) ac ?_
 rintro _ _ ⟨rfl,rfl⟩
 rw [hcm,hnow]
 by_cases h2:eC S.cat S.now s.m
 case neg =>
  have e:tryM S s.m=(1,wk0 S):=by unfold tryM;rw [if_neg h1,if_pos h2]
  have e1:aI S s.m=S:=if_neg (by rw [e];dsimp only;omega)
  have e2:cL S s.m=0:=if_neg (by rw [e];dsimp only;omega)
  rw [e1,e2,e,an h2]
  repeat first|refine aa ?_|intro _|refine dR ?_
  exact KX.a6 ai (Ent.trans (by simp only [rlL];exact ae) (df x hF)) ⟨rfl,rfl⟩
 have e:tryM S s.m=bL S.shard S.flows.length (bP S.cat) (s.m.at (aC S)) (wk0 S) s.m.moves:=by unfold tryM;rw [if_neg h1,if_neg (fun h=>h h2)]
 rw [aw h2]
 have hl64:s.moves.length≤64:=by have:=h2.2.2.1.2;simpa [StV.m] using this
 repeat first|refine aa ?_|intro _|refine dR ?_
 refine GO.ent (L':=rlL b S.shard x (obj b3 cy (aK s)::stM s::stP s::L)) (by simp only [rlL];exact ae) ?_
 refine GO.ef (Ef.a6 (wt b S.shard x ab ab ab) rfl) ac ?_
 rintro _ _ ⟨bw,xw,rfl,⟨w1,w2,w3,w4⟩,rfl⟩
 rw [w2,w3]
 have hsunk0:fw (aC S) x.flows=[]:=BG (fun f hf=>hF.fstep _ (by rw [← hF.flows];exact List.mem_map_of_mem hf))
 have hR0:RW S x (wk0 S):=⟨hF.cat,hF.catB,hF.steps,by rw [hF.flows];exact (List.append_nil _).symm,hF.lots,hF.sum,hF.ok,hF.len,hF.dist,hsunk0⟩
 simp only [rlL,az]
 repeat first|refine aa ?_|intro _|refine dR ?_
 refine G.loop (α:=Nat×RLX×Wk) (fun g=>g.1≤s.moves.length∧RW S g.2.1 g.2.2∧g.2.2.Ok S.flows.length∧g.2.2.flows.length=g.1∧(g.2.1.cat=x.cat∧g.2.1.steps=x.steps∧g.2.1.tad=x.tad∧g.2.1.tcap=x.tcap)∧bL S.shard S.flows.length (bP S.cat) (s.m.at (aC S)) (wk0 S) s.m.moves=bL S.shard S.flows.length (bP S.cat) (s.m.at (aC S)) g.2.2 (s.m.moves.drop g.1))
  (fun g=>[(0,.pointer (some ⟨b,0,none⟩)),(3,.pointer (some ⟨b3,0,none⟩)),(4,.int .i64 0),(5,.int .i64 0),(7,.pointer (some ⟨bw,0,none⟩)),(8,.int .i64 (g.1:Int))])
  (fun g=>obj bw tRL (az S.shard xw)::osl eZ 3 tRS xw.sad xw.scap x.stks::osl bH 11 cz xw.fad xw.fcap x.flows::allP rsP x.stks::allP flP x.flows::rlL b S.shard g.2.1 (obj b3 cy (aK s)::stM s::stP s::L)) (fun g=>s.moves.length - g.1) (0,x,wk0 S) ⟨Nat.zero_le _,hR0,km hS,rfl,⟨rfl,rfl,rfl,rfl⟩,rfl⟩ aj ?_ ?_
 ·refine (Ent.at (A:=allP rsP x.stks) (Ent.dup (oh _ _))).trans ?_
  refine (Ent.at (A:=allP flP x.flows) (Ent.dup (oh _ _))).trans ?_
  simp only [rlL,az]
  exact ae
 rintro ⟨i,y,W⟩ ⟨hi,hR,hO,hWl,⟨y1,y2,y3,y4⟩,hmv⟩
 dsimp only at hi hR hO hWl y1 y2 y3 y4 hmv ⊢
 have hyf:y.flows.length=S.flows.length+W.flows.length:=by
  have:=congrArg List.length hR.flows
  rwa [List.length_map,List.length_append] at this
 have hys:y.steps.length=S.steps.length:=by rw [y2];exact hxs
 by_cases hlt:i<s.moves.length
 case neg =>
  have hdr:s.m.moves.drop i=[]:=List.drop_of_length_le (by show (s.moves.map MvV.m).length≤i;rw [List.length_map];omega)
  rw [hdr] at hmv
  have e3:tryM S s.m=(0,W):=by rw [e,hmv];rfl
  have he:(tryM S s.m).1=0:=by rw [e3]
  have e1:aI S s.m=ei S s.m:=if_pos he
  have e2:cL S s.m=aC S:=if_pos he
  have hid2:S.shard*4294967296+(y.steps.length:Int)=aC S:=by rw [y2];exact hid
  have hp2:(ei S s.m).flows=S.flows++W.flows:=by unfold ei;rw [e3]
  rw [e1,e2,he]
  have henc:([.int .i64 (S.shard*4294967296+(y.steps.length:Int)),.int .i64 s.kind,.int .i64 s.actor,.int .i64 s.tick,.int .i64 s.rule,.int .i64 s.times,.slice s.mad s.moves.length s.mcap]:List Value)=aK (s.at (aC S)):=by rw [← hid2];rfl
  simp only [rlL,az]
  repeat first|refine aa ?_|intro _|refine dR ?_
  refine GPW.ef (Ef.a7 (enc:=aK) (e:=s.at (aC S)) rfl rfl henc rfl rfl (by rfl) (henc▸mL _) ab ab) ac ?_
  rintro _ _ ⟨tad2,tcap2,rfl,rfl⟩
  repeat first|refine aa ?_|intro _|refine dR ?_
  rw [hid2]
  refine KX.a6 ai ?_ ⟨rfl,rfl⟩
  refine Ent.trans (B:=rlL b S.shard { y with steps:=y.steps++[s.at (aC S)],tad:=tad2,tcap:=tcap2 } (stM s::stP s::L)) ?_ (df (S:=ei S s.m) { y with steps:=y.steps++[s.at (aC S)],tad:=tad2,tcap:=tcap2 } ⟨hR.cat,hR.catB,?_,?_,?_,?_,hR.ok,hR.len,hR.dist,?_,DA he h2 hn0⟩)
  ·refine (Ent.at (A:=stM s) (Ent.dup (tM s).1)).trans ?_
   refine (Ent.a6 (Ent.at (A:=stP s) (Ent.dup (oh _ _)))).trans ?_
   refine Ent.trans (B:=stM s::stP s::allP fx y.steps::obj b tRL (az S.shard { y with steps:=y.steps++[s.at (aC S)],tad:=tad2,tcap:=tcap2 })::osl eZ 3 tRS y.sad y.scap y.stks::osl bH 11 cz y.fad y.fcap y.flows::osl aK 7 cy tad2 tcap2 (y.steps++[s.at (aC S)])::catP y.cat::allP rsP y.stks::allP flP y.flows::stM s::stP s::L) ae ?_
   refine (Ent.d8 (tM s) (cj kd)).trans ?_
   refine (og (f:=fx) (e:=s.at (aC S)) rB).trans ?_
   simp only [rlL]
   exact ae
  ·show (y.steps++[s.at (aC S)]).map StV.m=S.steps++[s.m.at (aC S)]
   rw [List.map_append,hR.steps]
   rfl
  ·show y.flows.map FlV.m=(ei S s.m).flows
   rw [hp2,hR.flows]
  ·intro a i
   show (bX y.stks a i).lots=(tryM S s.m).2.stk a i
   rw [e3]
   exact hR.lots a i
  ·intro i
   show rsum y.stks i=(tryM S s.m).2.tot i
   rw [e3]
   exact hR.sum i
  ·intro f hf
   rw [we he]
   rcases List.mem_append.1 (show f∈S.flows++(tryM S s.m).2.flows from hf) with h3|h3
   ·have:=hF.fstep f h3
    omega
   ·have:=BD f h3
    omega
 have hii:(i:Int).toNat=i:=Int.toNat_natCast i
 have hlt' : (i:Int).toNat<s.moves.length:=ab
 have hgm:s.moves[i]!.m=s.m.moves[i]!:=(ek MvV.m hlt).symm
 have hlm:i<s.m.moves.length:=by show i<(s.moves.map MvV.m).length;rw [List.length_map];exact hlt
 have hdr:s.m.moves.drop i=s.moves[i]!.m::s.m.moves.drop (i+1):=by rw [hgm];exact kg hlm
 have hfit:=h2.2.2.2.1 s.moves[i]!.m (by rw [hgm];exact ap hlm)
 have hfit2:MvFitR y.cat.items.length s.moves[i]!.m:=by
  unfold dv at hfit
  rw [cu] at hfit
  have h3:=of_decide_eq_true hfit
  exact ⟨⟨h3.1.1,by have h4:=h3.1.2;rw [← hcm] at h4;rw [y1];exact h4⟩,h3.2.1,h3.2.2.1,h3.2.2.2.1,h3.2.2.2.2.1,h3.2.2.2.2.2.2.2⟩
 rw [hdr] at hmv
 have hmv2:bL S.shard S.flows.length (bP S.cat) (s.m.at (aC S)) W (s.moves[i]!.m::s.m.moves.drop (i+1))=if (bh S.shard S.flows.length (bP S.cat) (s.m.at (aC S)) W s.moves[i]!.m).1=0 then bL S.shard S.flows.length (bP S.cat) (s.m.at (aC S)) (bh S.shard S.flows.length (bP S.cat) (s.m.at (aC S)) W s.moves[i]!.m).2 (s.m.moves.drop (i+1)) else ((bh S.shard S.flows.length (bP S.cat) (s.m.at (aC S)) W s.moves[i]!.m).1,W):=rfl
 rw [hmv2] at hmv
 have hmo:=iv (sh:=S.shard) (mix:=bP S.cat) (s:=s.m.at (aC S)) (m:=s.moves[i]!.m) hO dF hfit2.n hsh1
 have hspec:=zu (L:=obj bw tRL (az S.shard xw)::osl eZ 3 tRS xw.sad xw.scap x.stks::osl bH 11 cz xw.fad xw.fcap x.flows::allP rsP x.stks::allP flP x.flows::obj b3 cy (aK s)::stM s::stP s::L) b S hS y W s s.moves[i]! hR hO ab hfit2 hs.kind
 generalize bh S.shard S.flows.length (bP S.cat) (s.m.at (aC S)) W s.moves[i]!.m=r at *
 simp only [rlL,az]
 repeat first|refine aa ?_|intro _|refine dR ?_
 rw [hii]
 refine GPW.ent (L':=rlL b S.shard y (obj bw tRL (az S.shard xw)::osl eZ 3 tRS xw.sad xw.scap x.stks::osl bH 11 cz xw.fad xw.fcap x.flows::allP rsP x.stks::allP flP x.flows::obj b3 cy (aK s)::stM s::stP s::L)) (by simp only [rlL,az];exact ae) ?_
 refine GPW.ef (Ef.a6 (hspec) rfl) ac ?_
 rintro _ _ ⟨y',rfl,⟨⟨z1,z2,z3,z4⟩,hz⟩,rfl⟩
 by_cases hr:r.1=0
 ·rw [if_pos hr] at hmv
  simp only [rlL,az]
  repeat first|refine aa ?_|intro _|refine dR ?_
  refine ⟨(i+1,y',r.2),⟨by dsimp only;omega,hz hr,(hmo hr).1,by dsimp only;rw [(hmo hr).2,hWl],⟨z1.trans y1,z2.trans y2,z3.trans y3,z4.trans y4⟩,hmv⟩,by dsimp only;omega,?_,?_⟩
  ·dsimp only
   rw [show ((i+1:Nat):Int)=(i:Int)+1 by omega]
   exact aj
  ·simp only [rlL,az]
   exact ae
 ·rw [if_neg hr] at hmv
  have e3:tryM S s.m=(r.1,W):=by rw [e,hmv]
  have hne:¬(tryM S s.m).1=0:=by rw [e3];exact hr
  have e1:aI S s.m=S:=if_neg hne
  have e2:cL S s.m=0:=if_neg hne
  rw [e1,e2,e3]
  dsimp only
  simp only [rlL,az]
  repeat first|refine aa ?_|intro _|refine dR ?_
  refine KX.a6 ai ?_ ⟨rfl,rfl⟩
  refine Ent.trans (B:=rlL b S.shard { y' with stks:=x.stks,sad:=xw.sad,scap:=xw.scap,flows:=x.flows,fad:=xw.fad,fcap:=xw.fcap } (stM s::stP s::L)) ?_ (df { y' with stks:=x.stks,sad:=xw.sad,scap:=xw.scap,flows:=x.flows,fad:=xw.fad,fcap:=xw.fcap } ⟨?_,?_,?_,hF.flows,hF.lots,hF.sum,hF.ok,hF.len,hF.dist,hF.fstep,hF.now⟩)
  ·simp only [rlL,az]
   rw [show x.stks.length=xw.stks.length by rw [w2],show x.flows.length=xw.flows.length by rw [w3]]
   exact ae
  ·show y'.cat.m=_
   rw [z1,y1]
   exact hF.cat
  ·show y'.cat.B
   rw [z1,y1]
   exact hF.catB
  ·show y'.steps.map StV.m=_
   rw [z2,y2]
   exact hF.steps
end
section
abbrev tRJ:Nat:=72
structure RYX where
 sad:Option Addr
 scap:Nat
 jad:Option Addr
 jcap:Nat
abbrev aT (lb:Nat) (Y:YardM) (x:RYX):List Value:=[.pointer (some ⟨lb,0,none⟩),.slice x.sad Y.seed.length x.scap,.slice x.jad Y.jobs.length x.jcap,.int .i64 Y.tick,.int .i64 Y.loots]
abbrev ryL (yb lb:Nat) (Y:YardM) (x:RYX) (L:List HP):List HP:=obj yb tRY (aT lb Y x)::isl (encZ .u8) 1 x.sad Y.seed::osl aq 10 tRJ x.jad x.jcap Y.jobs::L
def ryA (yb lb:Nat) (Y:YardM) (x:RYX):List HP:=ryL yb lb Y x []
def cZ (yb lb:Nat) (Y:YardM):HP:=hex fun x=>aX (ryA yb lb Y x)
theorem ed {yb lb:Nat} {Y:YardM} {L:List HP} (x:RYX):Ent (ryL yb lb Y x L) (cZ yb lb Y::L):=Ent.e9 (f:=ryA yb lb Y) x (Ent.refl _)
abbrev wX:List Stp:=[.ev 0,.ev 1,.ev 2,.ev 3,.ev 4,.ev 5,.ev 6,.ev 7,.ev 8,.ev 9,.ev 10,.ev 11,.ev 12,.ev 13]
theorem nW {φ ψ:Prop} (k:ψ) (h:Hid ψ→φ:=by intro k;(with_reducible apply G.a7);first|refine G.a6 (N:=22) (id:=3) wX mixed ah (Hid.out k)):φ:=h ⟨k⟩
theorem qy {L:List HP} (b:Nat) (S:LedM) (hS:S.Ok) :
  Tri Tryz.prog 127 #[.pointer (some ⟨b,0,none⟩)] (aW b S::L) (fun v L'=>v=.int .i64 S.now∧L' = aW b S::L):=by
 have hsl:=hS.steps
 refine Tri.body (args:=[.pointer (some ⟨b,0,none⟩)]) 22 Ez Tryz.func127 rfl rfl rfl (by simp) ?_
 refine G.c6 (f:=eQ b S) ?_
 intro x
 simp only [eQ,rlL,az,List.cons_append,List.nil_append]
 refine G.c8 ?_
 intro hF
 have hxs:x.steps.length=S.steps.length:=by rw [← hF.steps];simp
 rw [← yD hF]
 unfold rnow
 by_cases h0:x.steps.length=0
 ·repeat first|refine aa ?_|intro _|refine nW ?_
  refine KX.a6 ai ?_ ⟨by rw [List.eq_nil_of_length_eq_zero h0];rfl,rfl⟩
  exact df x hF
 ·repeat first|refine aa ?_|intro _|refine nW ?_
  refine KX.a6 ai ?_ ⟨?_,rfl⟩
  ·exact df x hF
  ·have e:x.steps.getLast? = some x.steps[((x.steps.length:Int) - 1).toNat]!:=by
    rw [show ((x.steps.length:Int) - 1).toNat=x.steps.length - 1 by omega,List.getLast?_eq_getElem?,getElem!_of ab,List.getElem?_eq_getElem]
   rw [e]
   rfl
theorem iQ {L:List HP} (yb lb:Nat) (Y:YardM) (x:RYX) (S:LedM) (hS:S.Ok) (acc tick:Int) :
  Tri Tryz.prog 123 #[.pointer (some ⟨yb,0,none⟩),.int .i64 acc,.int .i64 tick] (aW lb S::obj yb tRY (aT lb Y x)::L) (fun v L'=>v=.bool (dB (aM acc∧aV Y.tick S.now tick))∧L' = aW lb S::obj yb tRY (aT lb Y x)::L):=by
 refine Tri.body (args:=[.pointer (some ⟨yb,0,none⟩),.int .i64 acc,.int .i64 tick]) 34 Jn Tryz.func123 rfl rfl rfl (by simp) ?_
 by_cases h1:1≤acc
 case neg =>
  repeat first|refine aa ?_|intro _
  exact KX.a6 ai (Ent.refl _) ⟨by rw [an (fun h=>h1 (by have:=h.1;unfold aM at this;omega))];rfl,rfl⟩
 by_cases h2:acc<1048576
 case neg =>
  repeat first|refine aa ?_|intro _
  exact KX.a6 ai (Ent.refl _) ⟨by rw [an (fun h=>h2 (by have:=h.1;unfold aM at this;omega))];rfl,rfl⟩
 by_cases h3:Y.tick≤tick
 case neg =>
  repeat first|refine aa ?_|intro _
  exact KX.a6 ai (Ent.refl _) ⟨by rw [an (fun h=>h3 h.2.1)];rfl,rfl⟩
 repeat first|refine aa ?_|intro _
 refine GO.ef (Ef.a6 (qy lb S hS) rfl) ac ?_
 rintro _ _ ⟨rfl,rfl⟩
 by_cases h4:S.now≤tick
 case neg =>
  repeat first|refine aa ?_|intro _
  exact KX.a6 ai (Ent.refl _) ⟨by rw [an (fun h=>h4 h.2.2.1)];rfl,rfl⟩
 repeat first|refine aa ?_|intro _
 refine KX.a6 ai (Ent.refl _) ⟨?_,rfl⟩
 by_cases h5:tick≤1099511627776
 ·rw [aw h5,aw (show aM acc∧aV Y.tick S.now tick from ⟨by unfold aM;omega,h3,h4,h5⟩)];rfl
 ·rw [an h5,an (fun h=>h5 h.2.2.2)];rfl
abbrev wY:List Stp:=[.ev 0,.ev 1,.ev 2,.ev 3,.ev 4,.ev 5,.ev 6,.ev 7,.ev 8,.ev 9,.ev 10,.ev 11,.ev 12,.ev 13,.ev 14,.ev 15,.ef 16,.ef 17,.ev 18]
theorem iY {φ ψ:Prop} (k:ψ) (h:Hid ψ→φ:=by intro k;(with_reducible apply G.a7);first|refine G.a6 (N:=36) (id:=5) wY mixed ah (Hid.out k)):φ:=h ⟨k⟩
theorem fN {L:List HP} (ad:Option Addr) (n c:Nat) (l:List (Int×Int)) (times frm to:Int) [hr:Rds L ad (Int×Int) aB 2 l] (hn:n=l.length) (hl:l.length≤64) (ha:AmB l) (ht:0≤times∧times≤1048576) :
  Tri Tryz.prog 125 #[.slice ad n c,.int .i64 times,.int .i64 frm,.int .i64 to] L (fun v L'=>∃ ad' cap',v=.slice ad' l.length cap'∧L' = osl aJ 5 tMv ad' cap' (l.map (bV times frm to))::L):=by
 subst hn
 obtain ⟨ht1,ht2⟩:=ht
 refine Tri.body (args:=[.slice ad l.length c,.int .i64 times,.int .i64 frm,.int .i64 to]) 36 Jl Tryz.func125 rfl rfl rfl (by simp) ?_
 repeat first|refine aa ?_|intro _|refine iY ?_
 refine G.loop (α:=Nat×Option Addr×Nat) (fun g=>g.1≤l.length) (fun g=>[(0,.slice ad l.length c),(1,.int .i64 times),(2,.int .i64 frm),(3,.int .i64 to),(9,.slice g.2.1 ((l.take g.1).map (bV times frm to)).length g.2.2),(10,.int .i64 (g.1:Int))]) (fun g=>osl aJ 5 tMv g.2.1 g.2.2 ((l.take g.1).map (bV times frm to))::L) (fun g=>l.length - g.1) (0,none,0) (Nat.zero_le _) aj (Ent.a7 aJ 5 tMv) ?_
 rintro ⟨i,ad',cap'⟩ hi
 dsimp only at hi ⊢
 by_cases hlt:i<l.length
 case neg =>
  have hin:i=l.length:=ab
  subst hin
  rw [List.take_length]
  have hll:(l.map (bV times frm to)).length=l.length:=by simp
  rw [hll]
  repeat first|refine aa ?_|intro _|refine iY ?_
  exact KX.a6 ai (Ent.refl _) ⟨ad',cap',rfl,rfl⟩
 have hii:(i:Int).toNat=i:=Int.toNat_natCast i
 have hab:=ha _ (ap hlt)
 have hm0:0≤l[i]!.2*times:=Int.mul_nonneg hab.1 ht1
 have hm1:l[i]!.2*times≤1099511627776*1048576:=Int.mul_le_mul hab.2 ht2 ht1 ac
 have htl:((l.take i).map (bV times frm to)).length=i:=by rw [List.length_map,List.length_take];omega
 rw [← hii] at hm0 hm1
 have hlt' : (i:Int).toNat<l.length:=ab
 repeat first|refine aa ?_|intro _|refine iY ?_
 rw [hii]
 refine GPW.ef (Ef.a7 (enc:=aJ) (e:=bV times frm to l[i]!) rfl rfl rfl rfl rfl (by rfl) (ge _) ab ab) ac ?_
 rintro _ _ ⟨ad2,cap2,rfl,rfl⟩
 repeat first|refine aa ?_|intro _|refine iY ?_
 have e:(l.take i).map (bV times frm to)++[bV times frm to l[i]!]=(l.take (i+1)).map (bV times frm to):=by
  rw [List.take_succ_eq_append_getElem hlt,List.map_append,getElem!_of hlt]
  rfl
 rw [e]
 refine ⟨(i+1,ad2,cap2),by dsimp only;omega,by dsimp only;omega,?_,by exact ae⟩
 dsimp only
 rw [show ((i+1:Nat):Int)=(i:Int)+1 by omega]
 exact aj
end
end Go.Proofs.YtfmgkkofledkbaaGreatDoor
namespace Go.V
theorem Ev.y9 {P:Program} {L:List HP} {env:Env} {ty:TypeId} {t yt:TypeId} {x y:Operand} {a b:Bool} [ht:TyBool P t] (hx:evE env x=some (.bool a)) (hy:evE env y=some (.bool b)):Ev P L env (.binOp .eql t x y yt) ty (.bool (a == b)):=by
 have h:=Ev.r6 (P:=P) (L:=L) (ty:=ty) (t:=t) (yt:=yt) (φ:=a=true) (ψ:=b=true) (x:=x) (y:=y) (env:=env) (by rw [hx,cu];cases a<;>rfl) (by rw [hy,cu];cases b<;>rfl)
 have e:dB (a=true↔b=true)=(a == b):=by rw [cu];cases a<;>cases b<;>rfl
 rw [e] at h
 exact h
end Go.V
namespace Go.Proofs.YtfmgkkofledkbaaGreatDoor
open Go.V
attribute [local irreducible] G GO GP GPW GPK Ev Ef EfR Ent CB GB V.Enters
section
abbrev wW:List Stp:=[.ev 0,.ev 1,.ev 2,.ev 3,.ev 4,.ev 5,.ev 6,.ev 7,.ev 8,.ev 9,.ev 10,.ev 11,.ev 12,.ev 13,.ev 14,.ev 15,.ev 16,.ev 17,.ev 18,.ev 19,.ev 20,.ev 21,.ev 22,.ev 23,.ev 24,.ev 25,.ev 26,.ev 27,.ev 28,.ev 29,.ev 30,.ev 31,.ev 32,.ev 33,.ev 34,.ev 35,.ev 36,.ev 37,.ev 38,.ev 39,.ev 40,.ev 41,.ev 42,.ev 43]
theorem iX {φ ψ:Prop} (k:ψ) (h:Hid ψ→φ:=by intro k;(with_reducible apply G.a7);first|refine G.a6 (N:=50) (id:=1) wW mixed ah (Hid.out k)):φ:=h ⟨k⟩
theorem me {L R R2:List HP} {yb lb:Nat} {sh:Int} {Y:YardM} {y:RYX} {x:RLX} [hp:PickObj L yb tRY (aT lb Y y) R] [hp2:PickObj L lb tRL (az sh x) R2] [hr:Rds L x.cat.rad RuV aA 9 x.cat.rules] (hB:x.cat.B) (i:Int) (spawn:Bool) :
  Tri Tryz.prog 124 #[.pointer (some ⟨yb,0,none⟩),.int .i64 i,.bool spawn] L (fun v L'=>v=.bool (dB (dG x.cat.m.rules i spawn))∧L' = L):=by
 have hrl:x.cat.m.rules.length=x.cat.rules.length:=by simp [CatV.m]
 have h64:=hB.rules
 refine Tri.body (args:=[.pointer (some ⟨yb,0,none⟩),.int .i64 i,.bool spawn]) 50 Jm Tryz.func124 rfl rfl rfl (by simp) ?_
 by_cases h1:0≤i
 case neg =>
  repeat first|refine aa ?_|intro _|refine iX ?_
  exact KX.a6 ai (Ent.refl _) ⟨by rw [an (fun h:dG _ _ _=>h1 h.1)];rfl,rfl⟩
 by_cases h2:i<x.cat.rules.length
 case neg =>
  repeat first|refine aa ?_|intro _|refine iX ?_
  exact KX.a6 ai (Ent.refl _) ⟨by rw [an (fun h:dG _ _ _=>h2 (by have:=h.2.1;omega))];rfl,rfl⟩
 have hil:i.toNat<x.cat.rules.length:=ab
 have hru:=fD x.cat.rules hil
 have hmm:min (max i 0) ((x.cat.rules.length:Int) - 1)=i:=ab
 repeat first|refine aa ?_|intro _|refine iX ?_
 refine GPW.evP (Ev.y9 rfl rfl) ac ?_
 rw [hmm]
 repeat first|refine aa ?_|intro _|refine iX ?_
 refine KX.a6 ai (Ent.refl _) ⟨?_,rfl⟩
 have hq:(x.cat.m.rules[i.toNat]!).spawn=x.cat.rules[i.toNat]!.spawn:=by
  show ((x.cat.rules.map RuV.m)[i.toNat]!).spawn=_
  rw [hru]
  rfl
 by_cases h3:x.cat.rules[i.toNat]!.spawn=spawn
 ·rw [aw (show dG x.cat.m.rules i spawn from ⟨h1,ab,hq.trans h3⟩),h3,beq_self_eq_true]
  rfl
 ·rw [an (fun h:dG _ _ _=>h3 (hq.symm.trans h.2.2)),beq_eq_false_iff_ne.2 h3]
  rfl
end
end Go.Proofs.YtfmgkkofledkbaaGreatDoor
