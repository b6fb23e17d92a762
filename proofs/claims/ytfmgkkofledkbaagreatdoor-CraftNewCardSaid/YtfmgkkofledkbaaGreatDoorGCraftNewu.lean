/- Lemmas and contracts of functions. -/
import Derived.Test.YtfmgkkofledkbaaGreatDoorGCraftNewt
set_option linter.all false
set_option maxHeartbeats 4000000
namespace Go.Proofs.YtfmgkkofledkbaaGreatDoor
section
open Go.V
attribute [local irreducible] G GO GP GPW GPK Ev Ef EfR Ent CB GB V.Enters
def rnow (x:RLX):Int:=(x.steps.getLast?.map (·.tick)).getD 0
abbrev Ab:List Stp:=[.ev 0,.ev 1,.ev 2,.ev 3,.ev 4,.ev 5,.ev 6,.ev 7,.ev 8,.ev 9,.ev 10,.ev 11,.ev 12,.ev 13,.ev 14,.ev 15,.ev 16,.ev 17,.ev 18,.ev 19,.ev 20,.ev 21,.ef 22,.ev 23,.ev 24,.ev 25,.ev 26,.ev 27,.ev 28,.ev 29,.ev 30,.ev 31,.ev 32,.ev 33,.ev 34,.ev 35,.ev 36,.ev 37,.ev 38,.ev 39,.ev 40,.ev 41]
abbrev wX:List Stp:=[.ev 0,.ev 1,.ev 2,.ev 3,.ev 4,.ev 5,.ev 6,.ef 7,.ev 8]
theorem cT {φ ψ:Prop} (k:ψ) (h:Hid ψ→φ:=by intro k;(with_reducible apply G.a7);first|refine G.a6 (N:=166) (id:=1) Ab mixed aj (Hid.out k)|refine G.a6 (N:=166) (id:=21) wX mixed aj (Hid.out k)):φ:=h ⟨k⟩
theorem zR {L R:List HP} {b:Nat} {sh:Int} {x:RLX} [hp:PickObj L b tRL (aT sh x) R] [hr:Rds L x.tad StV be 7 x.steps] (s:StV) [hrm:Rds L s.mad MvV bh 5 s.moves] (hk:em s.kind) (hg:CatGood x.cat.m) (hc:x.cat.m.Ok) (hB:x.cat.B) (hsl:x.steps.length≤65536) (hn0:0≤rnow x) (hml:s.moves.length≤1000000) (hI:I64 s.rule) :
  Tri Tryz.prog 130 #[.pointer (some ⟨b,0,none⟩),.agg (be s).toArray] (catP x.cat::L) (fun v L'=>v=.bool (dB (hG x.cat.m (rnow x) s.m))∧L' = L):=by
 have hil:x.cat.m.items.length=x.cat.items.length:=rfl
 have hk':=hk
 unfold em at hk'
 have hmm:s.m.moves=s.moves.map MvV.m:=rfl
 refine Tri.body (args:=[.pointer (some ⟨b,0,none⟩),.agg (be s).toArray]) 166 Jt Tryz.func130 rfl rfl rfl (by simp) ?_
 by_cases h1:0≤s.actor
 case neg =>
  repeat first|refine aa ?_|intro _|refine cT ?_
  exact KX.a6 am ai ⟨by rw [ay (fun h=>h1 h.1.1)];rfl,rfl⟩
 by_cases h2:s.actor≤1073741824
 case neg =>
  repeat first|refine aa ?_|intro _|refine cT ?_
  exact KX.a6 am ai ⟨by rw [ay (fun h=>h2 h.1.2)];rfl,rfl⟩
 repeat first|refine aa ?_|intro _|refine cT ?_
 refine GPW.ef (Ef.a6 (zX (b:=b) (sh:=sh) (x:=x) ab) rfl) ac ?_
 rintro _ _ ⟨rfl,rfl⟩
 rw [show (x.steps.getLast?.map (·.tick)).getD 0=rnow x from rfl]
 by_cases h3:rnow x≤s.tick
 case neg =>
  repeat first|refine aa ?_|intro _|refine cT ?_
  exact KX.a6 am ai ⟨by rw [ay (fun h=>h3 h.2.1.2.2)];rfl,rfl⟩
 by_cases h4:s.tick≤1099511627776
 case neg =>
  repeat first|refine aa ?_|intro _|refine cT ?_
  exact KX.a6 am ai ⟨by rw [ay (fun h=>h4 h.2.1.2.1)];rfl,rfl⟩
 have hl:s.m.moves.length=s.moves.length:=by rw [hmm,av]
 by_cases h5:1≤s.moves.length
 case neg =>
  repeat first|refine aa ?_|intro _|refine cT ?_
  exact KX.a6 am ai ⟨by rw [ay (fun h=>h5 (by have:=h.2.2.1.1;omega))];rfl,rfl⟩
 by_cases h6:s.moves.length≤64
 case neg =>
  repeat first|refine aa ?_|intro _|refine cT ?_
  exact KX.a6 am ai ⟨by rw [ay (fun h=>h6 (by have:=h.2.2.1.2;omega))];rfl,rfl⟩
 have hfm:∀ {i:Nat},i<s.moves.length→hG x.cat.m (rnow x) s.m→fr x.cat.items.length (gM s.kind) (kTo s.kind) s.moves[i]!.m=true:=fun hi h=>by
  refine h.2.2.2.1 _ ?_
  rw [hmm]
  exact alStd0List_mem_map_of_mem (aB hi)
 repeat first|refine aa ?_|intro _|refine cT ?_
 rename_i b3
 refine GO.ef (Ef.a6 (uQ s.kind hk) rfl) ac ?_
 rintro _ _ ⟨rfl,rfl⟩
 repeat first|refine aa ?_|intro _|refine cT ?_
 refine G.loop (α:=Nat) (fun i=>i≤s.moves.length∧∀ j,j<i→fitR x.cat.items.length s.moves[j]!.m) (fun i=>[(0,.pointer (some ⟨b,0,none⟩)),(3,.pointer (some ⟨b3,0,none⟩)),(5,.bool false),(6,.int .i64 (i:Int))]) (fun _=>obj b3 dd (be s)::catP x.cat::L) (fun i=>s.moves.length - i) 0 ⟨ap _,fun j hj=>absurd hj (cX j)⟩ ao ai ?_
 rintro i ⟨hi,hfit⟩
 by_cases hlt:i<s.moves.length
 case pos =>
  have hii:(i:Int).toNat=i:=aq i
  have hlt' : (i:Int).toNat<s.moves.length:=ab
  repeat first|refine aa ?_|intro _|refine cT ?_
  rw [hii]
  refine GO.ef (Ef.a6 (zV (b:=b) (sh:=sh) (x:=x) s.moves[i]!) rfl) ac ?_
  rintro _ _ ⟨rfl,rfl⟩
  by_cases hft:fitR x.cat.items.length s.moves[i]!.m
  ·rw [aO hft]
   repeat first|refine aa ?_|intro _|refine cT ?_
   refine ⟨i+1,⟨ab,fun j hj=>?_⟩,ab,?_,by exact ai⟩
   ·rcases bP j i with h|h
    ·exact hfit j h
    ·obtain rfl:j=i:=ab
     exact hft
   ·rw [aF i]
    exact ao
  ·rw [ay hft]
   repeat first|refine aa ?_|intro _|refine cT ?_
   exact KX.a6 am ai ⟨by rw [ay (fun h=>hft (fits_fitR.1 (hfm hlt h)).1)];rfl,rfl⟩
 obtain rfl:i=s.moves.length:=ab
 have hall:∀ m∈s.moves,fitR x.cat.items.length m.m:=fun m hm=>by
  obtain ⟨j,hj,rfl⟩:=List.mem_iff_getElem.1 hm
  have:=hfit j hj
  rw [getElem!_of hj] at this
  exact this
 have hbase:hG x.cat.m (rnow x) s.m↔(∀ m∈s.moves,gM s.kind m.m.frm=true∧kTo s.kind m.m.to=true)∧gH x.cat.m.rules s.m:=by
  constructor
  ·intro h
   refine ⟨fun m hm=>?_,h.2.2.2.2⟩
   have:=h.2.2.2.1 m.m (by rw [hmm];exact alStd0List_mem_map_of_mem hm)
   exact (fits_fitR.1 this).2
  ·rintro ⟨g1,g2⟩
   refine ⟨⟨h1,h2⟩,⟨show 0≤s.tick by omega,h4,h3⟩,⟨ab,ab⟩,?_,g2⟩
   intro m hm
   rw [hmm] at hm
   obtain ⟨u,hu,rfl⟩:=List.mem_map.1 hm
   exact fits_fitR.2 ⟨hall u hu,g1 u hu⟩
 by_cases hk4:s.kind=4
 ·have hkf:∀ m∈s.moves,gM s.kind m.m.frm=true∧kTo s.kind m.m.to=true:=fun m _=>by
   rw [hk4]
   exact ⟨rfl,rfl⟩
  have hw:gH x.cat.m.rules s.m↔fK x.cat.m.rules s.rule s.times (s.moves.map MvV.m):=by
   unfold gH
   rw [if_pos (show s.m.kind=4 from hk4)]
   exact Iff.rfl
  have hfin:hG x.cat.m (rnow x) s.m↔fK x.cat.m.rules s.rule s.times (s.moves.map MvV.m):=by
   rw [hbase,hw]
   exact ⟨fun h=>h.2,fun h=>⟨hkf,h⟩⟩
  repeat first|refine aa ?_|intro _|refine cT ?_
  refine GO.ent (L':=catP x.cat::L) ai ?_
  refine GO.ef (Ef.a6 (wV (b:=b) (sh:=sh) (x:=x) s hg hc hB ⟨h5,h6⟩ hI hall) rfl) ac ?_
  rintro _ _ ⟨rfl,rfl⟩
  repeat first|refine aa ?_|intro _|refine cT ?_
  refine KX.a6 am (Ent.refl _) ⟨?_,rfl⟩
  by_cases q:fK x.cat.m.rules s.rule s.times (s.moves.map MvV.m)
  ·rw [aO q,aO (hfin.2 q)];rfl
  ·rw [ay q,ay (fun w=>q (hfin.1 w))];rfl
 have hw:gH x.cat.m.rules s.m↔iH s.rule s.times:=by
  unfold gH
  rw [if_neg (show ¬s.m.kind=4 from hk4)]
  exact Iff.rfl
 repeat first|refine aa ?_|intro _|refine cT ?_
 refine G.loop (α:=Nat) (fun i=>i≤s.moves.length∧∀ j,j<i→kQ s.kind s.moves[j]!.m) (fun i=>[(0,.pointer (some ⟨b,0,none⟩)),(3,.pointer (some ⟨b3,0,none⟩)),(10,.int .i64 (i:Int))]) (fun _=>obj b3 dd (be s)::catP x.cat::L) (fun i=>s.moves.length - i) 0 ⟨ap _,fun j hj=>absurd hj (cX j)⟩ ao ai ?_
 rintro i ⟨hi2,hends⟩
 by_cases hlt2:i<s.moves.length
 case pos =>
  have hii:(i:Int).toNat=i:=aq i
  have hlt' : (i:Int).toNat<s.moves.length:=ab
  repeat first|refine aa ?_|intro _|refine cT ?_
  refine GPW.ef (Ef.a6 (zZ s.kind hk hk4 s.moves[(i:Int).toNat]!) rfl) ac ?_
  rintro _ _ ⟨rfl,rfl⟩
  by_cases hft:kQ s.kind s.moves[(i:Int).toNat]!.m
  ·rw [aO hft]
   repeat first|refine aa ?_|intro _|refine cT ?_
   rw [hii] at hft
   refine ⟨i+1,⟨ab,fun j hj=>?_⟩,ab,?_,by exact ai⟩
   ·rcases bP j i with h|h
    ·exact hends j h
    ·obtain rfl:j=i:=ab
     exact hft
   ·rw [aF i]
    exact ao
  ·rw [ay hft]
   repeat first|refine aa ?_|intro _|refine cT ?_
   rw [hii] at hft
   exact KX.a6 am ai ⟨by rw [ay (fun h=>hft ((tF hk hk4 (hfit i hlt2)).2 ((hbase.1 h).1 _ (aB hlt2))))];rfl,rfl⟩
 obtain rfl:i=s.moves.length:=ab
 have hkf:∀ m∈s.moves,gM s.kind m.m.frm=true∧kTo s.kind m.m.to=true:=fun m hm=>by
  obtain ⟨j,hj,rfl⟩:=List.mem_iff_getElem.1 hm
  have:=(tF hk hk4 (hfit j hj)).1 (hends j hj)
  rw [getElem!_of hj] at this
  exact this
 have hfin:hG x.cat.m (rnow x) s.m↔iH s.rule s.times:=by
  rw [hbase,hw]
  exact ⟨fun h=>h.2,fun h=>⟨hkf,h⟩⟩
 by_cases h7:s.rule = -1
 ·repeat first|refine aa ?_|intro _|refine cT ?_
  refine KX.a6 am ai ⟨?_,rfl⟩
  by_cases h8:s.times=0
  ·rw [aO h8,aO (hfin.2 ⟨h7,h8⟩)];rfl
  ·rw [ay h8,ay (fun w=>h8 (hfin.1 w).2)];rfl
 ·repeat first|refine aa ?_|intro _|refine cT ?_
  exact KX.a6 am ai ⟨by rw [ay (fun w=>h7 (hfin.1 w).1)];rfl,rfl⟩
end
section
open Go.V
attribute [local irreducible] G GO GP GPW GPK Ev Ef EfR Ent CB GB V.Enters
def mixR (x:RLX) (i:Int):Bool:=x.cat.items[i.toNat]!.mixed
def ptsR (x:RLX) (m:MvM):List Lot:=if m.frm=0 then [] else hE (mixR x m.item) (cR x.stks m.frm m.item).lots m.n
def jm (l:List RStk):Prop:=(l.map (fun s=>(s.acc,s.item))).Nodup
theorem uR {k:Int×Int}:∀ {l:List RStk} {a i:Int} {t:Stk},k∈(rset l a i t).map (fun s=>(s.acc,s.item))→k=(a,i)∨k∈l.map (fun s=>(s.acc,s.item))
 | [],_,_,_,h=>.inl (List.mem_singleton.1 h)
 | s::l,a,i,t,h=>by
  unfold rset at h
  split at h
  ·exact .inr h
  ·rw [aU] at h ⊢
   rcases List.mem_cons.1 h with h|h
   ·exact .inr (h▸aA)
   ·exact (uR h).imp id (az _)
theorem oy:∀ {l:List RStk} {a i:Int} {t:Stk},jm l→jm (rset l a i t)
 | [],_,_,_,_=>by
  unfold jm rset
  simp
 | s::l,a,i,t,h=>by
  unfold jm at h ⊢
  rw [aU,dq] at h
  unfold rset
  split
  ·rw [aU,dq]
   exact h
  ·rename_i hn
   rw [aU,dq]
   refine ⟨fun q=>?_,oy h.2⟩
   rcases uR q with e|e
   ·simp only [Prod.mk.injEq] at e
    exact hn e
   ·exact h.1 e
structure TkF (x:RLX) (m:MvM) (st:List RStk):Prop where
 lots:∀ a i,(cR st a i).lots=if m.frm=0 then (cR x.stks a i).lots else upd2 (fun a i=>(cR x.stks a i).lots) m.frm m.item (gL (mixR x m.item) (cR x.stks m.frm m.item).lots m.n) a i
 sum:∀ i,rsum st i=rsum x.stks i - (if m.frm≠0∧i=m.item then m.n else 0)
 ok:rOk st
 len:st.length≤x.stks.length+1
 dist:jm x.stks→jm st
abbrev xF:List Stp:=[.ev 0,.ev 1,.ev 2,.ev 3,.ev 4,.ev 5,.ev 6,.ev 7,.ef 8,.ef 9]
abbrev xE:List Stp:=[.ev 0,.ev 1,.ev 2,.ev 3,.ev 4,.ev 5,.ev 6,.ev 7,.ev 8,.ev 9,.ev 10,.ev 11,.ev 12,.ef 13,.ev 14,.ev 15,.ev 16,.ev 17,.ev 18,.ev 19,.ev 20]
abbrev vi:List Stp:=[.ev 0,.ev 1,.ev 2,.ev 3,.ev 4,.ef 5,.ev 6,.ev 7]
abbrev vh:List Stp:=[.ev 0,.ev 1,.ev 2,.ev 3,.ef 4,.ev 5,.ev 6]
theorem im {φ ψ:Prop} (k:ψ) (h:Hid ψ→φ:=by intro k;(with_reducible apply G.a7);first|refine G.a6 (N:=88) (id:=7) xF mixed aj (Hid.out k)|refine G.a6 (N:=88) (id:=9) xE mixed aj (Hid.out k)|refine G.a6 (N:=88) (id:=15) vi mixed aj (Hid.out k)|refine G.a6 (N:=88) (id:=17) vh mixed aj (Hid.out k)):φ:=h ⟨k⟩
theorem wR {L:List HP} (b:Nat) (sh:Int) (x:RLX) (k:Int) (m:MvV) (hk:em k) (hB:x.cat.B) (hO:rOk x.stks) (hl:x.stks.length≤9000000) (hi:0≤m.m.item∧m.m.item<x.cat.items.length) (hn:1≤m.m.n∧m.m.n≤1099511627776) (hf:accP m.m.frm) (hp:m.m.parts.length=0) :
  Tri Tryz.prog 192 #[.pointer (some ⟨b,0,none⟩),.int .i64 k,.agg (bh m).toArray] (rlL b sh x L) (fun v L' =>
   ((m.m.frm≠0∧lsum (cR x.stks m.m.frm m.m.item).lots<m.m.n)∧v=.tuple #[.slice none 0 0,.int .i64 10]∧L' = rlL b sh x L) ∨
   (¬(m.m.frm≠0∧lsum (cR x.stks m.m.frm m.m.item).lots<m.m.n)∧∃ pad pcap st ad' cap',v=.tuple #[.slice pad (ptsR x m.m).length pcap,.int .i64 0]∧TkF x m.m st ∧
    L' = isl aI 3 pad (ptsR x m.m)::rlL b sh { x with stks:=st,sad:=ad',scap:=cap' } L)):=by
 have hk5:k≠5:=by unfold em at hk;omega
 have hk9:k≠9:=by unfold em at hk;omega
 have hil:=hB.items
 obtain ⟨hi1,hi2⟩:=hi
 obtain ⟨hn1,hn2⟩:=hn
 obtain ⟨hf1,hf2⟩:=hf
 obtain ⟨o1,o2⟩:=uV hO m.m.frm m.m.item
 refine Tri.body (args:=[.pointer (some ⟨b,0,none⟩),.int .i64 k,.agg (bh m).toArray]) 88 ID Tryz.func192 rfl rfl rfl (by simp) ?_
 by_cases h0:m.m.frm=0
 ·simp only [rlL]
  repeat first|refine aa ?_|intro _|refine im ?_
  refine KX.a6 am ?_ (.inr ⟨fun h=>h.1 h0,none,0,x.stks,x.sad,x.scap,?_,⟨?_,?_,hO,ab,fun h=>h⟩,rfl⟩)
  ·rw [show ptsR x m.m=[] by unfold ptsR;rw [if_pos h0]]
   refine Ent.trans ?_ (Ent.c8 aI 3 none)
   exact ai
  ·rw [show ptsR x m.m=[] by unfold ptsR;rw [if_pos h0]]
   rfl
  ·intro a i
   rw [if_pos h0]
  ·intro i
   rw [if_neg (fun q=>q.1 h0),Int.sub_zero]
 have h0' : 0<m.m.frm:=ab
 have ep:ptsR x m.m=hE (mixR x m.m.item) (cR x.stks m.m.frm m.m.item).lots m.m.n:=by unfold ptsR;rw [if_neg h0]
 rw [ep]
 refine G.ent (L':=stkP (cR x.stks m.m.frm m.m.item)::isl bC 7 x.cat.iad x.cat.items::rlL b sh x L) ?_ ?_
 ·simp only [rlL]
  refine (Ent.at (A:=catP x.cat) wr).trans ?_
  refine (Ent.at (A:=allP rsP x.stks) (oA m.m.frm m.m.item)).trans ?_
  exact ai
 simp only [rlL]
 repeat first|refine aa ?_|intro _|refine im ?_
 refine GO.ef (Ef.a6 (mD (b:=b) (sh:=sh) (x:=x) m.m.frm m.m.item ab) rfl) ac ?_
 rintro _ _ ⟨rfl,rfl⟩
 generalize hsk:cR x.stks m.m.frm m.m.item=sk at *
 repeat first|refine aa ?_|intro _|refine im ?_
 refine GPW.ent (Ent.at (A:=stkP sk) (Ent.refl _)) ?_
 refine GPW.ef (Ef.a6 (zO sk.ad sk.cap sk.lots m.m.n (mixR x m.m.item) o1 o2 ab hn2) rfl) ac ?_
 rintro _ _ (⟨h1,rfl,rfl⟩|⟨h1,ad1,c1,ad2,c2,rfl,rfl⟩)
 ·repeat first|refine aa ?_|intro _|refine im ?_
  exact KX.a6 am ai (.inl ⟨⟨h0,h1⟩,rfl,rfl⟩)
 ·repeat first|refine aa ?_|intro _|refine im ?_
  rename_i b3
  refine GO.ent (L':=rlL b sh x (stkP ⟨ad2,c2,gL (mixR x m.m.item) sk.lots m.m.n⟩::isl aI 3 ad1 (hE (mixR x m.m.item) sk.lots m.m.n)::obj b3 tMv (bh m)::L)) (by
   refine (Ent.frz ad1).trans ((Ent.frz ad2).trans ?_)
   simp only [rlL]
   exact ai) ?_
  refine GO.ef (Ef.a6 (rn b sh x m.m.frm m.m.item ⟨ad2,c2,gL (mixR x m.m.item) sk.lots m.m.n⟩ ab) rfl) ac ?_
  rintro _ _ ⟨ad',cap',rfl⟩
  simp only [rlL]
  repeat first|refine aa ?_|intro _|refine im ?_
  refine KX.a6 am ?_ (.inr ⟨ab,ad1,c1,rset x.stks m.m.frm m.m.item ⟨ad2,c2,gL (mixR x m.m.item) sk.lots m.m.n⟩,ad',cap',rfl,⟨?_,?_,?_,ql _ _ _ _,oy⟩,rfl⟩)
  ·exact ai
  ·intro a i
   rw [if_neg h0,nt]
   unfold upd2
   dsimp only
   split
   ·rw [hsk]
   ·rfl
  ·intro i
   rw [ox,hsk]
   dsimp only
   by_cases hq:i=m.m.item
   ·rw [if_pos hq,if_pos ⟨h0,hq⟩,th o2 ab h1]
    omega
   ·rw [if_neg hq,if_neg (fun q=>hq q.2)]
    omega
  ·intro s hs
   rcases qk hs with h|h
   ·exact hO s h
   ·rw [h]
    exact ⟨cM (jq _ _ _).2 o1,(wg o2 (uB _ _ _ o2 ab h1)).2⟩
end
section
open Go.V
attribute [local irreducible] G GO GP GPW GPK Ev Ef EfR Ent CB GB V.Enters
theorem Bk {l:List Lot} {f n:Int} (h:∀ x∈l,LotOk x) (hn:1≤n):cK l (f,0,n)=l++[(f,0,n)]:=by
 unfold cK
 rw [if_neg (by dsimp only;omega),if_neg]
 rintro ⟨h1,h2⟩
 rw [lcont_iff] at h2
 have:=h _ (aB (show l.length - 1<l.length by omega))
 unfold LotOk at this
 dsimp only at h2
 omega
def ui (sid:Int) (f:FlV):Bool:=dB (f.m.step=sid∧f.m.to=0)
def gW (sid:Int) (l:List FlV):List Int:=(l.filter (ui sid)).map (fun f=>f.m.id)
theorem qT (sid:Int) (l:List FlV) (f:FlV):gW sid (l++[f])=if f.m.step=sid∧f.m.to=0 then gW sid l++[f.m.id] else gW sid l:=by
 unfold gW
 rw [cB]
 by_cases h:f.m.step=sid∧f.m.to=0
 ·rw [if_pos h,fL,if_pos (by unfold ui;rw [aO h]),aK]
  rfl
 ·rw [if_neg h,fL,if_neg (by unfold ui;rw [ay h];decide),aK]
  simp
theorem BZ (sid:Int) (l:List FlV):(gW sid l).length≤l.length:=by
 unfold gW
 rw [av]
 exact cO _ _
theorem zF (sid:Int) (l:List FlV) {i:Nat} (h:i<l.length):gW sid (l.take (i+1))=if l[i]!.m.step=sid∧l[i]!.m.to=0 then gW sid (l.take i)++[l[i]!.m.id] else gW sid (l.take i):=by
 rw [← qT]
 congr 1
 rw [List.take_add_one,List.getElem?_eq_getElem h,getElem!_of h]
 rfl
structure RW (S:LedM) (y:RLX) (W:Wk):Prop where
 cat:y.cat.m=S.cat
 catB:y.cat.B
 steps:y.steps.map StV.m=S.steps
 flows:y.flows.map FlV.m=S.flows++W.flows
 lots:∀ a i,(cR y.stks a i).lots=W.stk a i
 sum:∀ i,rsum y.stks i=W.tot i
 ok:rOk y.stks
 len:y.stks.length≤2*y.flows.length
 dist:jm y.stks
 sunk:gW (aW S) y.flows=W.sunk
structure MvFitR (k:Nat) (m:MvM):Prop where
 item:0≤m.item∧m.item<k
 n:1≤m.n∧m.n≤1099511627776
 frm:accP m.frm
 to:accP m.to
 ne:m.frm≠m.to
 parts:m.parts.length=0
abbrev xD:List Stp:=[.ev 0,.ev 1,.ev 2,.ev 3,.ev 4,.ev 5,.ev 6,.ev 7,.ev 8,.ev 9,.ev 10,.ev 11,.ev 12,.ev 13,.ev 14,.ev 15,.ev 16,.ev 17,.ev 18,.ev 19,.ev 20,.ev 21,.ev 22,.ev 23,.ev 24,.ev 25,.ev 26,.ev 27,.ev 28,.ev 29,.ev 30,.ev 31,.ev 32,.ev 33,.ev 34,.ev 35,.ev 36,.ef 37,.ef 38]
abbrev xC:List Stp:=[.ev 0,.ev 1,.ev 2,.ev 3,.ev 4,.ev 5,.ev 6,.ev 7,.ev 8,.ev 9,.ev 10,.ev 11,.ev 12,.ev 13,.ev 14,.ev 15,.ev 16,.ev 17,.ev 18,.ev 19,.ev 20,.ev 21]
abbrev vg:List Stp:=[.ev 0,.ev 1,.ev 2,.ev 3,.ev 4,.ev 5,.ev 6,.ev 7,.ev 8,.ev 9,.ef 10,.ef 11,.ev 12,.ef 13]
abbrev vf:List Stp:=[.ev 0,.ev 1,.ev 2,.ev 3,.ev 4,.ev 5,.ev 6,.ev 8,.ev 9,.ef 7,.ev 10,.ev 11,.ev 12]
abbrev ve:List Stp:=[.ev 0,.ev 1,.ev 2,.ev 3,.ev 4,.ev 6,.ev 7,.ev 8,.ev 9,.ev 10,.ef 5,.ef 11,.ev 12]
abbrev vd:List Stp:=[.ev 0,.ev 1,.ev 2,.ev 3,.ev 4,.ev 5,.ef 6,.ef 7,.ev 8,.ev 9,.ef 10]
theorem cn {φ ψ:Prop} (k:ψ) (h:Hid ψ→φ:=by intro k;(with_reducible apply G.a7);first|refine G.a6 (N:=169) (id:=1) xD mixed aj (Hid.out k)|refine G.a6 (N:=169) (id:=9) xC mixed aj (Hid.out k)|refine G.a6 (N:=169) (id:=10) vg mixed aj (Hid.out k)|refine G.a6 (N:=169) (id:=11) vf mixed aj (Hid.out k)|refine G.a6 (N:=169) (id:=14) ve mixed aj (Hid.out k)|refine G.a6 (N:=169) (id:=18) vd mixed aj (Hid.out k)):φ:=h ⟨k⟩
theorem zT {L:List HP} (b:Nat) (S:LedM) (hS:S.Ok) (y:RLX) (W:Wk) (s:StV) (m:MvV) (hR:RW S y W) (hO:W.Ok S.flows.length) (hWf:W.flows.length<64) (h:MvFitR y.cat.items.length m.m) (hk:em s.kind) :
  Tri Tryz.prog 132 #[.pointer (some ⟨b,0,none⟩),.agg (be s).toArray,.agg (bh m).toArray] (rlL b S.shard y L) (fun v L'=>∃ y',v=.int .i64 (cz S.shard S.flows.length (cP S.cat) (s.m.at (aW S)) W m.m).1 ∧
   ((y'.cat=y.cat∧y'.steps=y.steps∧y'.tad=y.tad∧y'.tcap=y.tcap)∧((cz S.shard S.flows.length (cP S.cat) (s.m.at (aW S)) W m.m).1=0→RW S y' (cz S.shard S.flows.length (cP S.cat) (s.m.at (aW S)) W m.m).2))∧L' = rlL b S.shard y' L):=by
 obtain ⟨hs1,hs2⟩:=hS.shard
 have hsf:=hS.flows
 have hss:=hS.steps
 obtain ⟨hn1,hn2⟩:=h.n
 have hne:=h.ne
 obtain ⟨hf1,hf2⟩:=h.frm
 obtain ⟨hto1,hto2⟩:=h.to
 have hyf:y.flows.length=S.flows.length+W.flows.length:=by
  have:=congrArg List.length hR.flows
  rwa [av,aC] at this
 have hys:y.steps.length=S.steps.length:=by rw [← hR.steps];simp
 have hyl:=hR.len
 have hsid:S.shard*4294967296+(y.steps.length:Int)=aW S:=by unfold aW;rw [hys]
 have hfid:S.shard*4294967296+(y.flows.length:Int)=fS S.shard S.flows.length W:=by unfold fS;rw [hyf];omega
 have hmix:mixR y=cP S.cat:=by funext i;unfold mixR cP;rw [← hR.cat];rfl
 refine Tri.body (args:=[.pointer (some ⟨b,0,none⟩),.agg (be s).toArray,.agg (bh m).toArray]) 169 Jr Tryz.func132 rfl rfl rfl (by simp) ?_
 simp only [rlL]
 repeat first|refine aa ?_|intro _|refine cn ?_
 rename_i b4 b5 b7
 refine GO.ent (L':=rlL b S.shard y (obj b7 de [.int .i64 (S.shard*4294967296+(y.flows.length:Int)),.int .i64 (S.shard*4294967296+(y.steps.length:Int)),.int .i64 s.kind,.int .i64 s.tick,.int .i64 s.actor,.int .i64 m.m.frm,.int .i64 m.m.to,.int .i64 m.m.item,.int .i64 m.m.n,.slice none 0 0,.slice none 0 0]::obj b4 dd (be s)::obj b5 tMv (bh m)::L)) (by simp only [rlL];exact ai) ?_
 refine GO.ef (Ef.a6 (wR b S.shard y s.kind m hk hR.catB hR.ok ab h.item h.n h.frm h.parts) rfl) ac ?_
 rw [hR.lots]
 rintro _ _ (⟨h1,rfl,rfl⟩|⟨h1,pad,pcap,st,sad',scap',rfl,hT,rfl⟩)
 ·have e:cz S.shard S.flows.length (cP S.cat) (s.m.at (aW S)) W m.m=(10,W):=by unfold cz;rw [if_pos h1]
  rw [e]
  repeat first|refine aa ?_|intro _|refine cn ?_
  exact KX.a6 am (by simp only [rlL];exact ai) ⟨y,rfl,⟨⟨rfl,rfl,rfl,rfl⟩,fun q=>absurd (show (10:Int)=0 from q) ab⟩,rfl⟩
 have hmv:cz S.shard S.flows.length (cP S.cat) (s.m.at (aW S)) W m.m=if db W m.m>1099511627776 then (4,W)
   else if m.m.to=0 then (0,⟨cy (cP S.cat) W m.m,upd W.tot m.m.item (db W m.m),W.flows++[fx S.shard S.flows.length (cP S.cat) (s.m.at (aW S)) W m.m],W.sunk++[fS S.shard S.flows.length W]⟩)
   else if 4096≤(cy (cP S.cat) W m.m m.m.to m.m.item).length then (4,W)
   else (0,⟨upd2 (cy (cP S.cat) W m.m) m.m.to m.m.item (cK (cy (cP S.cat) W m.m m.m.to m.m.item) (fS S.shard S.flows.length W,0,m.m.n)),upd W.tot m.m.item (db W m.m),W.flows++[fx S.shard S.flows.length (cP S.cat) (s.m.at (aW S)) W m.m],W.sunk⟩):=by unfold cz;rw [if_neg h1]
 have hpt:ptsR y m.m=gn (cP S.cat) W m.m:=by unfold ptsR gn;rw [hmix,hR.lots]
 have hts:∀ a i,(cR st a i).lots=cy (cP S.cat) W m.m a i:=by
  intro a i
  rw [hT.lots]
  unfold cy
  by_cases h0:m.m.frm=0
  ·rw [if_pos h0,if_pos h0,hR.lots]
  ·rw [if_neg h0,if_neg h0,hmix,hR.lots]
   unfold upd2
   dsimp only
   rw [hR.lots]
 have hsum:∀ i,rsum st i=W.tot i - (if m.m.frm≠0∧i=m.m.item then m.m.n else 0):=fun i=>by rw [hT.sum,hR.sum]
 have hstl:=hT.len
 have hsto:=hT.ok
 have hstd:=hT.dist hR.dist
 clear hT
 rw [hmv]
 generalize hpts:ptsR y m.m=pts at *
 simp only [rlL,aT]
 repeat first|((fail_if_success (with_reducible refine G.c7 6 ?_));(with_reducible apply G.seq))|refine bu ?_|intro _|refine cn ?_
 refine G.a8 (α:=Option Addr×Nat) (fun _=>True) (fun _=>[(0,.pointer (some ⟨b,0,none⟩)),(4,.pointer (some ⟨b4,0,none⟩)),(5,.pointer (some ⟨b5,0,none⟩)),(6,.int .i64 0),(7,.pointer (some ⟨b7,0,none⟩))]) (fun g=>obj b7 de [.int .i64 (S.shard*4294967296+(y.flows.length:Int)),.int .i64 (S.shard*4294967296+(y.steps.length:Int)),.int .i64 s.kind,.int .i64 s.tick,.int .i64 s.actor,.int .i64 m.m.frm,.int .i64 m.m.to,.int .i64 m.m.item,.int .i64 m.m.n,.slice pad pts.length pcap,.slice g.1 (eb (s.m.at (aW S)) W m.m).length g.2]::isl (encZ .i64) 1 g.1 (eb (s.m.at (aW S)) W m.m)::isl aI 3 pad pts::rlL b S.shard { y with stks:=st,sad:=sad',scap:=scap' } (obj b4 dd (be s)::obj b5 tMv (bh m)::L)) ?_ ?_
 ·by_cases hC:m.m.frm=0∧s.kind=4
  ·obtain ⟨hC1,hC2⟩:=hC
   have e:eb (s.m.at (aW S)) W m.m=gW (aW S) y.flows:=by unfold eb;rw [if_pos ⟨hC1,.inl hC2⟩,hR.sunk]
   rw [e]
   simp only [rlL,aT]
   repeat first|refine aa ?_|intro _|refine cn ?_
   refine G.loop (α:=Nat×Option Addr×Nat) (fun g=>g.1≤y.flows.length) (fun g=>[(0,.pointer (some ⟨b,0,none⟩)),(4,.pointer (some ⟨b4,0,none⟩)),(5,.pointer (some ⟨b5,0,none⟩)),(6,.int .i64 0),(7,.pointer (some ⟨b7,0,none⟩)),(10,.int .i64 (g.1:Int))]) (fun g=>obj b7 de [.int .i64 (S.shard*4294967296+(y.flows.length:Int)),.int .i64 (S.shard*4294967296+(y.steps.length:Int)),.int .i64 s.kind,.int .i64 s.tick,.int .i64 s.actor,.int .i64 m.m.frm,.int .i64 m.m.to,.int .i64 m.m.item,.int .i64 m.m.n,.slice pad pts.length pcap,.slice g.2.1 (gW (aW S) (y.flows.take g.1)).length g.2.2]::osl (encZ .i64) 1 tInt g.2.1 g.2.2 (gW (aW S) (y.flows.take g.1))::isl aI 3 pad pts::rlL b S.shard { y with stks:=st,sad:=sad',scap:=scap' } (obj b4 dd (be s)::obj b5 tMv (bh m)::L)) (fun g=>y.flows.length - g.1) (0,none,0) (ap _) ao ?_ ?_
   ·have e0:gW (aW S) (y.flows.take 0)=[]:=by simp [gW]
    dsimp only
    rw [e0]
    refine (Ent.a7 (encZ .i64) 1 tInt).trans ?_
    simp only [rlL,aT]
    exact ai
   rintro ⟨k,mad,mcap⟩ hk1
   dsimp only at hk1 ⊢
   simp only [rlL,aT]
   by_cases hlt:k<y.flows.length
   case neg =>
    obtain rfl:k=y.flows.length:=ab
    rw [bD]
    repeat first|refine aa ?_|intro _|refine cn ?_
    refine ⟨(mad,mcap),trivial,ao,?_⟩
    refine (Ent.frz mad).trans ?_
    simp only [rlL,aT]
    exact ai
   have hkk:(k:Int).toNat=k:=aq k
   have hlt' : (k:Int).toNat<y.flows.length:=ab
   have hst:=zF (aW S) y.flows hlt
   have hsl:=BZ (aW S) (y.flows.take k)
   rw [aQ] at hsl
   by_cases g1:y.flows[(k:Int).toNat]!.m.step=S.shard*4294967296+(y.steps.length:Int)
   ·by_cases g2:y.flows[(k:Int).toNat]!.m.to=0
    ·repeat first|refine aa ?_|intro _|refine cn ?_
     refine GPW.ef (Ef.a7 (enc:=encZ .i64) (e:=y.flows[(k:Int).toNat]!.m.id) rfl rfl rfl rfl rfl (by rfl) (by simp [encZ,Value.oneCell']) ab ab) ac ?_
     rintro _ _ ⟨mad2,mcap2,rfl,rfl⟩
     repeat first|refine aa ?_|intro _|refine cn ?_
     rw [hkk] at *
     rw [if_pos ⟨g1.trans hsid,g2⟩] at hst
     refine ⟨(k+1,mad2,mcap2),by dsimp only;omega,by dsimp only;omega,?_,?_⟩
     ·dsimp only
      rw [aF k]
      exact ao
     ·dsimp only
      rw [hst]
      exact ai
    ·repeat first|refine aa ?_|intro _|refine cn ?_
     rw [hkk] at *
     rw [if_neg (fun q=>g2 q.2)] at hst
     refine ⟨(k+1,mad,mcap),by dsimp only;omega,by dsimp only;omega,?_,?_⟩
     ·dsimp only
      rw [aF k]
      exact ao
     ·dsimp only
      rw [hst]
      exact ai
   ·repeat first|refine aa ?_|intro _|refine cn ?_
    rw [hkk] at *
    rw [if_neg (fun q=>g1 (q.1.trans hsid.symm))] at hst
    refine ⟨(k+1,mad,mcap),by dsimp only;omega,by dsimp only;omega,?_,?_⟩
    ·dsimp only
     rw [aF k]
     exact ao
    ·dsimp only
     rw [hst]
     exact ai
  ·have hk10:¬s.kind=10:=by unfold em at hk;omega
   have e:eb (s.m.at (aW S)) W m.m=[]:=by
    unfold eb
    exact if_neg (fun h=>by
     obtain ⟨h3,h4⟩:=h
     rcases h4 with h4|h4
     ·exact hC ⟨h3,h4⟩
     ·exact hk10 h4)
   rw [e]
   simp only [rlL,aT]
   repeat first|refine aa ?_|intro _|refine cn ?_
   refine G.loop (α:=Unit) (fun _=>True) (fun _=>[(0,.pointer (some ⟨b,0,none⟩)),(4,.pointer (some ⟨b4,0,none⟩)),(5,.pointer (some ⟨b5,0,none⟩)),(6,.int .i64 0),(7,.pointer (some ⟨b7,0,none⟩)),(10,.int .i64 0)]) (fun _=>obj b7 de [.int .i64 (S.shard*4294967296+(y.flows.length:Int)),.int .i64 (S.shard*4294967296+(y.steps.length:Int)),.int .i64 s.kind,.int .i64 s.tick,.int .i64 s.actor,.int .i64 m.m.frm,.int .i64 m.m.to,.int .i64 m.m.item,.int .i64 m.m.n,.slice pad pts.length pcap,.slice none 0 0]::isl aI 3 pad pts::rlL b S.shard { y with stks:=st,sad:=sad',scap:=scap' } (obj b4 dd (be s)::obj b5 tMv (bh m)::L)) (fun _=>0) () trivial ao ?_ ?_
   ·simp only [rlL,aT]
    exact ai
   rintro _ _
   simp only [rlL,aT]
   by_cases hlt:(0:Int)<(y.flows.length:Int)
   ·by_cases h0:m.m.frm=0
    ·have h04:¬s.kind=4:=fun h=>hC ⟨h0,h⟩
     repeat first|refine aa ?_|intro _|refine cn ?_
     refine ⟨(none,0),trivial,ao,?_⟩
     refine Ent.trans ?_ (Ent.a6 (Ent.c8 (encZ .i64) 1 none))
     simp only [rlL,aT]
     exact ai
    ·repeat first|refine aa ?_|intro _|refine cn ?_
     refine ⟨(none,0),trivial,ao,?_⟩
     refine Ent.trans ?_ (Ent.a6 (Ent.c8 (encZ .i64) 1 none))
     simp only [rlL,aT]
     exact ai
   ·repeat first|refine aa ?_|intro _|refine cn ?_
    refine ⟨(none,0),trivial,ao,?_⟩
    refine Ent.trans ?_ (Ent.a6 (Ent.c8 (encZ .i64) 1 none))
    simp only [rlL,aT]
    exact ai
 rintro ⟨mad,mcap⟩ _
 dsimp only
 have hot:=hO.tot m.m.item
 have hstk:=qQ (mix:=cP S.cat) hO fX hn1 h1
 refine G.a8 (α:=Unit) (fun _=>¬db W m.m>1099511627776) (fun _=>[(0,.pointer (some ⟨b,0,none⟩)),(4,.pointer (some ⟨b4,0,none⟩)),(5,.pointer (some ⟨b5,0,none⟩)),(6,.int .i64 0),(7,.pointer (some ⟨b7,0,none⟩))]) (fun _=>rlL b S.shard { y with stks:=st,sad:=sad',scap:=scap' } (obj b7 de [.int .i64 (S.shard*4294967296+(y.flows.length:Int)),.int .i64 (S.shard*4294967296+(y.steps.length:Int)),.int .i64 s.kind,.int .i64 s.tick,.int .i64 s.actor,.int .i64 m.m.frm,.int .i64 m.m.to,.int .i64 m.m.item,.int .i64 m.m.n,.slice pad pts.length pcap,.slice mad (eb (s.m.at (aW S)) W m.m).length mcap]::isl (encZ .i64) 1 mad (eb (s.m.at (aW S)) W m.m)::isl aI 3 pad pts::obj b4 dd (be s)::obj b5 tMv (bh m)::L)) ?_ ?_
 ·by_cases h0:m.m.frm=0
  ·have hrs:=hsum m.m.item
   rw [if_neg (fun q=>q.1 h0),Int.sub_zero] at hrs
   have hnt:db W m.m=rsum st m.m.item+m.m.n:=by unfold db;rw [if_pos h0,if_neg (fun q=>hne (h0.trans q.symm)),hrs];omega
   simp only [rlL,aT]
   repeat first|refine aa ?_|intro _|refine cn ?_
   refine GPW.ent (L':=rlL b S.shard { y with stks:=st,sad:=sad',scap:=scap' } (obj b7 de [.int .i64 (S.shard*4294967296+(y.flows.length:Int)),.int .i64 (S.shard*4294967296+(y.steps.length:Int)),.int .i64 s.kind,.int .i64 s.tick,.int .i64 s.actor,.int .i64 m.m.frm,.int .i64 m.m.to,.int .i64 m.m.item,.int .i64 m.m.n,.slice pad pts.length pcap,.slice mad (eb (s.m.at (aW S)) W m.m).length mcap]::isl (encZ .i64) 1 mad (eb (s.m.at (aW S)) W m.m)::isl aI 3 pad pts::obj b4 dd (be s)::obj b5 tMv (bh m)::L)) (by simp only [rlL,aT];exact ai) ?_
   refine GPW.ef (Ef.a6 (Cj b S.shard { y with stks:=st,sad:=sad',scap:=scap' } m.m.item (by dsimp only;omega) hsto (by dsimp only;omega)) rfl) ac ?_
   rintro _ _ ⟨rfl,rfl⟩
   simp only [rlL,aT]
   rw [hnt]
   by_cases hbig:rsum st m.m.item+m.m.n>1099511627776
   ·rw [if_pos hbig]
    repeat first|refine aa ?_|intro _|refine cn ?_
    exact KX.a6 am ai ⟨{ y with stks:=st,sad:=sad',scap:=scap' },rfl,⟨⟨rfl,rfl,rfl,rfl⟩,fun q=>absurd (show (4:Int)=0 from q) ab⟩,rfl⟩
   ·repeat first|refine aa ?_|intro _|refine cn ?_
    exact ⟨(),hbig,ao,by exact ai⟩
  ·simp only [rlL,aT]
   repeat first|refine aa ?_|intro _|refine cn ?_
   refine ⟨(),?_,ao,by exact ai⟩
   unfold db
   rw [if_neg h0]
   split<;>omega
 rintro _ hbig
 rw [if_neg hbig]
 refine G.a8 (α:=List RStk×Option Addr×Nat) (fun g=>¬(m.m.to≠0∧4096≤(cy (cP S.cat) W m.m m.m.to m.m.item).length)∧(∀ a i,(cR g.1 a i).lots=if m.m.to≠0 then upd2 (cy (cP S.cat) W m.m) m.m.to m.m.item (cK (cy (cP S.cat) W m.m m.m.to m.m.item) (fS S.shard S.flows.length W,0,m.m.n)) a i else cy (cP S.cat) W m.m a i)∧(∀ i,rsum g.1 i=rsum st i+(if m.m.to≠0∧i=m.m.item then m.m.n else 0))∧rOk g.1∧g.1.length≤st.length+1∧jm g.1) (fun _=>[(0,.pointer (some ⟨b,0,none⟩)),(4,.pointer (some ⟨b4,0,none⟩)),(5,.pointer (some ⟨b5,0,none⟩)),(6,.int .i64 0),(7,.pointer (some ⟨b7,0,none⟩))]) (fun g=>rlL b S.shard { y with stks:=g.1,sad:=g.2.1,scap:=g.2.2 } (obj b7 de [.int .i64 (S.shard*4294967296+(y.flows.length:Int)),.int .i64 (S.shard*4294967296+(y.steps.length:Int)),.int .i64 s.kind,.int .i64 s.tick,.int .i64 s.actor,.int .i64 m.m.frm,.int .i64 m.m.to,.int .i64 m.m.item,.int .i64 m.m.n,.slice pad pts.length pcap,.slice mad (eb (s.m.at (aW S)) W m.m).length mcap]::isl (encZ .i64) 1 mad (eb (s.m.at (aW S)) W m.m)::isl aI 3 pad pts::obj b4 dd (be s)::obj b5 tMv (bh m)::L)) ?_ ?_
 ·by_cases h0:m.m.to=0
  ·simp only [rlL,aT]
   repeat first|refine aa ?_|intro _|refine cn ?_
   refine ⟨(st,sad',scap'),⟨fun q=>q.1 h0,?_,?_,hsto,by dsimp only;omega,hstd⟩,ao,by exact ai⟩
   ·intro a i
    rw [if_neg (fun q=>q h0)]
    exact hts a i
   ·intro i
    rw [if_neg (fun q=>q.1 h0),Int.add_zero]
  have h0' : 0<m.m.to:=ab
  obtain ⟨o1,o2⟩:=hstk m.m.to m.m.item
  have hcl:=hts m.m.to m.m.item
  rw [if_neg h0]
  refine G.ent (L':=stkP (cR st m.m.to m.m.item)::rlL b S.shard { y with stks:=st,sad:=sad',scap:=scap' } (obj b7 de [.int .i64 (S.shard*4294967296+(y.flows.length:Int)),.int .i64 (S.shard*4294967296+(y.steps.length:Int)),.int .i64 s.kind,.int .i64 s.tick,.int .i64 s.actor,.int .i64 m.m.frm,.int .i64 m.m.to,.int .i64 m.m.item,.int .i64 m.m.n,.slice pad pts.length pcap,.slice mad (eb (s.m.at (aW S)) W m.m).length mcap]::isl (encZ .i64) 1 mad (eb (s.m.at (aW S)) W m.m)::isl aI 3 pad pts::obj b4 dd (be s)::obj b5 tMv (bh m)::L)) ?_ ?_
  ·simp only [rlL,aT]
   refine (Ent.at (A:=allP rsP st) (oA m.m.to m.m.item)).trans ?_
   exact ai
  simp only [rlL,aT]
  repeat first|refine aa ?_|intro _|refine cn ?_
  refine GPW.ef (Ef.a6 (mD (b:=b) (sh:=S.shard) (x:={ y with stks:=st,sad:=sad',scap:=scap' }) m.m.to m.m.item (by dsimp only;omega)) rfl) ac ?_
  rintro _ _ ⟨rfl,rfl⟩
  dsimp only
  rw [← hcl] at o1 o2 ⊢
  generalize hsk:cR st m.m.to m.m.item=sk at *
  have hlot:LotOk (S.shard*4294967296+(y.flows.length:Int),0,m.m.n):=by
   unfold LotOk
   dsimp only
   omega
  have hpl:=Bk (f:=S.shard*4294967296+(y.flows.length:Int)) (n:=m.m.n) o2 hn1
  have hpll:(cK sk.lots (S.shard*4294967296+(y.flows.length:Int),0,m.m.n)).length=sk.lots.length+1:=by rw [hpl];simp
  repeat first|refine aa ?_|intro _|refine cn ?_
  refine GPW.ent (Ent.at (A:=stkP sk) (Ent.refl _)) ?_
  refine GPW.ef (Ef.a6 (mE sk.ad sk.lots.length sk.cap sk.lots (S.shard*4294967296+(y.flows.length:Int),0,m.m.n) rfl ab (fun q hq=>(o2 q hq).w) hlot.w) rfl) ac ?_
  rintro _ _ ⟨ad2,c2,rfl,rfl⟩
  by_cases hbl:4096≤sk.lots.length
  ·rw [if_pos hbl]
   repeat first|refine aa ?_|intro _|refine cn ?_
   exact KX.a6 am ai ⟨{ y with stks:=st,sad:=sad',scap:=scap' },rfl,⟨⟨rfl,rfl,rfl,rfl⟩,fun q=>absurd (show (4:Int)=0 from q) ab⟩,rfl⟩
  repeat first|refine aa ?_|intro _|refine cn ?_
  refine GO.ent (L':=rlL b S.shard { y with stks:=st,sad:=sad',scap:=scap' } (stkP ⟨ad2,c2,cK sk.lots (S.shard*4294967296+(y.flows.length:Int),0,m.m.n)⟩::obj b7 de [.int .i64 (S.shard*4294967296+(y.flows.length:Int)),.int .i64 (S.shard*4294967296+(y.steps.length:Int)),.int .i64 s.kind,.int .i64 s.tick,.int .i64 s.actor,.int .i64 m.m.frm,.int .i64 m.m.to,.int .i64 m.m.item,.int .i64 m.m.n,.slice pad pts.length pcap,.slice mad (eb (s.m.at (aW S)) W m.m).length mcap]::isl (encZ .i64) 1 mad (eb (s.m.at (aW S)) W m.m)::isl aI 3 pad pts::obj b4 dd (be s)::obj b5 tMv (bh m)::L)) (by
   refine (Ent.frz ad2).trans ?_
   simp only [rlL,aT]
   exact ai) ?_
  refine GO.ef (Ef.a6 (rn b S.shard { y with stks:=st,sad:=sad',scap:=scap' } m.m.to m.m.item ⟨ad2,c2,cK sk.lots (S.shard*4294967296+(y.flows.length:Int),0,m.m.n)⟩ (by dsimp only;omega)) rfl) ac ?_
  rintro _ _ ⟨ad',cap',rfl⟩
  simp only [rlL,aT]
  repeat first|refine aa ?_|intro _|refine cn ?_
  refine ⟨(rset st m.m.to m.m.item ⟨ad2,c2,cK sk.lots (S.shard*4294967296+(y.flows.length:Int),0,m.m.n)⟩,ad',cap'),⟨fun q=>hbl q.2,?_,?_,?_,ql _ _ _ _,oy hstd⟩,ao,by exact ai⟩
  ·intro a i
   dsimp only
   rw [if_pos h0,nt]
   unfold upd2
   rw [← hfid]
   split
   ·rfl
   ·exact hts a i
  ·intro i
   dsimp only
   rw [ox,hsk]
   by_cases hq:i=m.m.item
   ·rw [if_pos hq,if_pos ⟨h0,hq⟩]
    dsimp only
    rw [nC]
    dsimp only
    omega
   ·rw [if_neg hq,if_neg (fun q=>hq q.2)]
  ·intro u hu
   rcases qk hu with h|h
   ·exact hsto u h
   ·rw [h]
    dsimp only
    exact ⟨ab,qs o2 hlot.w⟩
 rintro ⟨st2,sad2,scap2⟩ ⟨hnl,hts2,hsum2,hok2,hlen2,hdist2⟩
 dsimp only at hnl hts2 hsum2 hok2 hlen2 hdist2 ⊢
 have hnf:fx S.shard S.flows.length (cP S.cat) (s.m.at (aW S)) W m.m=⟨fS S.shard S.flows.length W,aW S,s.kind,s.tick,s.actor,m.m.frm,m.m.to,m.m.item,m.m.n,pts,eb (s.m.at (aW S)) W m.m⟩:=by unfold fx;rw [← hpt];rfl
 generalize fx S.shard S.flows.length (cP S.cat) (s.m.at (aW S)) W m.m=fl at *
 have hcell:cq (flV fl pad pcap mad mcap)=[.int .i64 (S.shard*4294967296+(y.flows.length:Int)),.int .i64 (S.shard*4294967296+(y.steps.length:Int)),.int .i64 s.kind,.int .i64 s.tick,.int .i64 s.actor,.int .i64 m.m.frm,.int .i64 m.m.to,.int .i64 m.m.item,.int .i64 m.m.n,.slice pad pts.length pcap,.slice mad (eb (s.m.at (aW S)) W m.m).length mcap]:=by
  rw [hnf,hfid,hsid]
  rfl
 have hflm:fl.made=eb (s.m.at (aW S)) W m.m:=by rw [hnf]
 have hflp:fl.parts=pts:=by rw [hnf]
 have hfls:fl.step=aW S:=by rw [hnf]
 have hflt:fl.to=m.m.to:=by rw [hnf]
 have hfli:fl.id=fS S.shard S.flows.length W:=by rw [hnf]
 have hsnk:=qT (aW S) y.flows (flV fl pad pcap mad mcap)
 rw [← hcell,← hflm,← hflp]
 simp only [rlL,aT]
 repeat first|refine aa ?_|intro _|refine cn ?_
 refine GPW.ef (Ef.a7 (enc:=cq) (e:=flV fl pad pcap mad mcap) rfl rfl rfl rfl rfl (by rfl) (jW _) ab ab) ac ?_
 rintro _ _ ⟨fad2,fcap2,rfl,rfl⟩
 repeat first|refine aa ?_|intro _|refine cn ?_
 have hy' : RW S { y with stks:=st2,sad:=sad2,scap:=scap2,flows:=y.flows++[flV fl pad pcap mad mcap],fad:=fad2,fcap:=fcap2 } ⟨if m.m.to≠0 then upd2 (cy (cP S.cat) W m.m) m.m.to m.m.item (cK (cy (cP S.cat) W m.m m.m.to m.m.item) (fS S.shard S.flows.length W,0,m.m.n)) else cy (cP S.cat) W m.m,upd W.tot m.m.item (db W m.m),W.flows++[fl],if m.m.to=0 then W.sunk++[fS S.shard S.flows.length W] else W.sunk⟩:=by
  refine ⟨hR.cat,hR.catB,hR.steps,?_,?_,?_,hok2,?_,hdist2,?_⟩
  ·dsimp only
   rw [aK,hR.flows,aD]
   rfl
  ·intro a i
   dsimp only
   rw [hts2]
   split<;>rfl
  ·intro i
   dsimp only
   rw [hsum2,hsum]
   unfold upd db
   by_cases hq:i=m.m.item
   ·subst hq
    rw [if_pos rfl]
    by_cases q1:m.m.frm=0
    ·have q2:m.m.to≠0:=fun q=>hne (q1.trans q.symm)
     rw [if_neg (fun q=>q.1 q1),if_pos ⟨q2,rfl⟩,if_pos q1,if_neg q2]
     omega
    ·by_cases q2:m.m.to=0
     ·rw [if_pos ⟨q1,rfl⟩,if_neg (fun q=>q.1 q2),if_neg q1,if_pos q2]
      omega
     ·rw [if_pos ⟨q1,rfl⟩,if_pos ⟨q2,rfl⟩,if_neg q1,if_neg q2]
      omega
   ·rw [if_neg hq,if_neg (fun q=>hq q.2),if_neg (fun q=>hq q.2)]
    omega
  ·simp only [aC,aR,bQ]
   omega
  ·dsimp only
   rw [hsnk]
   dsimp only [flV]
   rw [hfls,hflt,hfli,hR.sunk]
   by_cases q:m.m.to=0
   ·rw [if_pos ⟨rfl,q⟩,if_pos q]
   ·rw [if_neg (fun x=>q x.2),if_neg q]
 have hent:Ent (isl (encZ .i64) 1 mad fl.made::isl aI 3 pad fl.parts::obj b tRL (aT S.shard { y with stks:=st2,sad:=sad2,scap:=scap2,flows:=y.flows++[flV fl pad pcap mad mcap],fad:=fad2,fcap:=fcap2 })::osl gN 3 tRS sad2 scap2 st2::osl cq 11 de fad2 fcap2 (y.flows++[flV fl pad pcap mad mcap])::osl be 7 dd y.tad y.tcap y.steps::catP y.cat::allP rsP st2::allP flP y.flows::allP gj y.steps::L) (rlL b S.shard { y with stks:=st2,sad:=sad2,scap:=scap2,flows:=y.flows++[flV fl pad pcap mad mcap],fad:=fad2,fcap:=fcap2 } L):=by
  refine (Ent.at (A:=isl aI 3 pad fl.parts) (Ent.refl _)).trans ?_
  refine (Ent.at (A:=isl (encZ .i64) 1 mad fl.made) (Ent.refl _)).trans ?_
  refine Ent.trans (B:=isl aI 3 pad fl.parts::isl (encZ .i64) 1 mad fl.made::allP flP y.flows::obj b tRL (aT S.shard { y with stks:=st2,sad:=sad2,scap:=scap2,flows:=y.flows++[flV fl pad pcap mad mcap],fad:=fad2,fcap:=fcap2 })::osl gN 3 tRS sad2 scap2 st2::osl cq 11 de fad2 fcap2 (y.flows++[flV fl pad pcap mad mcap])::osl be 7 dd y.tad y.tcap y.steps::catP y.cat::allP rsP st2::allP gj y.steps::L) ai ?_
  refine (Ent.d8 (cc _ _ _ _) (cc _ _ _ _)).trans ?_
  refine (pm (f:=flP) (e:=flV fl pad pcap mad mcap) nK).trans ?_
  simp only [rlL]
  exact ai
 by_cases h0:m.m.to=0
 ·rw [if_pos h0]
  rw [if_neg (fun q=>q h0),if_pos h0] at hy'
  exact KX.a6 am (Ent.trans ai hent) ⟨{ y with stks:=st2,sad:=sad2,scap:=scap2,flows:=y.flows++[flV fl pad pcap mad mcap],fad:=fad2,fcap:=fcap2 },rfl,⟨⟨rfl,rfl,rfl,rfl⟩,fun _=>hy'⟩,rfl⟩
 ·rw [if_neg h0,if_neg (fun q=>hnl ⟨h0,q⟩)]
  rw [if_pos h0,if_neg h0] at hy'
  exact KX.a6 am (Ent.trans ai hent) ⟨{ y with stks:=st2,sad:=sad2,scap:=scap2,flows:=y.flows++[flV fl pad pcap mad mcap],fad:=fad2,fcap:=fcap2 },rfl,⟨⟨rfl,rfl,rfl,rfl⟩,fun _=>hy'⟩,rfl⟩
end
section
open Go.V
attribute [local irreducible] G GO GP GPW GPK Ev Ef EfR Ent CB GB V.Enters
structure RF (S:LedM) (x:RLX):Prop where
 cat:x.cat.m=S.cat
 catB:x.cat.B
 steps:x.steps.map StV.m=S.steps
 flows:x.flows.map FlV.m=S.flows
 lots:∀ a i,(cR x.stks a i).lots=S.stk a i
 sum:∀ i,rsum x.stks i=S.tot i
 ok:rOk x.stks
 len:x.stks.length≤2*x.flows.length
 dist:jm x.stks
 fstep:∀ f∈S.flows,f.step<aW S
 now:0≤S.now
def gD (b:Nat) (S:LedM) (x:RLX):List HP:=cj (RF S x)::rlL b S.shard x []
def bO (b:Nat) (S:LedM):HP:=hex fun x=>bK (gD b S x)
theorem eH {b:Nat} {S:LedM} {L:List HP} (x:RLX) (h:RF S x):Ent (rlL b S.shard x L) (bO b S::L) :=
 Ent.e9 (f:=gD b S) x (Ent.pure h (Ent.refl _))
theorem za {S:LedM} {x:RLX} (h:RF S x):rnow x=S.now:=by
 unfold LedM.now rnow
 rw [← h.steps,List.getLast?_map,Option.map_map]
 rfl
theorem BY {sid:Int} {l:List FlV} (h:∀ f∈l,f.m.step<sid):gW sid l=[]:=by
 unfold gW
 rw [List.filter_eq_nil_iff.2,dV]
 intro f hf
 unfold ui
 rw [ay (fun q=>by have:=h f hf;omega)]
 decide
theorem pQ {sh:Int} {nf:Nat} {mix:Int→Bool} {s:StM}:∀ (ms:List MvM) (W:Wk),(∀ f∈W.flows,f.step=s.id)→∀ f∈(dy sh nf mix s W ms).2.flows,f.step=s.id
 | [],_,h=>h
 | m::ms,W,h=>by
  have e:dy sh nf mix s W (m::ms)=if (cz sh nf mix s W m).1=0 then dy sh nf mix s (cz sh nf mix s W m).2 ms else ((cz sh nf mix s W m).1,W):=rfl
  rw [e]
  split
  ·refine pQ ms _ ?_
   have hn:∀ f∈W.flows++[fx sh nf mix s W m],f.step=s.id:=fun f hf=>by
    rcases List.mem_append.1 hf with h1|h1
    ·exact h f h1
    ·rw [List.mem_singleton.1 h1];rfl
   unfold cz
   split
   ·exact h
   ·split
    ·exact h
    ·split
     ·exact hn
     ·split
      ·exact h
      ·exact hn
  ·exact h
theorem BV {S:LedM} {s:StM}:∀ f∈(tryM S s).2.flows,f.step=aW S:=by
 unfold tryM
 split
 ·intro f hf;cases hf
 ·split
  ·intro f hf;cases hf
  ·exact pQ (s:=s.at (aW S)) s.moves (wk0 S) (fun f hf=>by cases hf)
theorem wG {S:LedM} {s:StM} (he:(tryM S s).1=0):aW (gr S s)=aW S+1:=by
 unfold aW gr
 simp only [aC,aR,bQ]
 omega
theorem DL {S:LedM} {s:StM} (he:(tryM S s).1=0) (hp:hG S.cat S.now s) (h0:0≤S.now):0≤(gr S s).now:=by
 unfold LedM.now gr
 simp only [List.getLast?_append,List.getLast?_singleton]
 have:=hp.2.1.2.2
 show 0≤s.tick
 omega
abbrev xB:List Stp:=[.ev 0,.ev 1,.ev 2,.ev 3,.ev 4,.ev 5,.ev 6,.ef 7,.ev 8]
abbrev xA:List Stp:=[.ev 0,.ev 1,.ev 2,.ev 3,.ev 4,.ev 5,.ev 6,.ev 7,.ev 8,.ev 9,.ev 10,.ev 11,.ef 12]
abbrev xz:List Stp:=[.ev 0,.ev 1,.ev 2,.ev 3,.ev 4,.ev 5,.ef 6,.ef 7,.ev 8,.ev 9,.ef 10]
theorem fF {φ ψ:Prop} (k:ψ) (h:Hid ψ→φ:=by intro k;(with_reducible apply G.a7);first|refine G.a6 (N:=79) (id:=10) xB mixed aj (Hid.out k)|refine G.a6 (N:=79) (id:=15) xA mixed aj (Hid.out k)|refine G.a6 (N:=79) (id:=16) xz mixed aj (Hid.out k)):φ:=h ⟨k⟩
theorem zQ {L:List HP} (b:Nat) (S:LedM) (hS:S.Ok) (hc:S.cat.Ok) (hg:CatGood S.cat) (s:StV) (hs:StIn s) :
  Tri Tryz.prog 88 #[.pointer (some ⟨b,0,none⟩),.agg (be s).toArray] (bO b S::stM s::stP s::L) (fun v L'=>v=.tuple #[.int .i64 (ej S s.m),.int .i64 (tryM S s.m).1]∧L' = bO b (bz S s.m)::stM s::stP s::L):=by
 obtain ⟨hsh1,hsh2⟩:=hS.shard
 have hsl:=hS.steps
 have hfl:=hS.flows
 have hml:=hs.len
 refine Tri.body (args:=[.pointer (some ⟨b,0,none⟩),.agg (be s).toArray]) 79 en88 Tryz.func88 rfl rfl rfl (by simp) ?_
 refine G.c6 (f:=gD b S) ?_
 intro x
 simp only [gD,rlL,ae,ah]
 refine G.c8 ?_
 intro hF
 have hxs:x.steps.length=S.steps.length:=by rw [← hF.steps];simp
 have hxf:x.flows.length=S.flows.length:=by rw [← hF.flows];simp
 have hxl:=hF.len
 have hcm:=hF.cat
 have hnow:=za hF
 have hn0:=hF.now
 have hid:S.shard*4294967296+(x.steps.length:Int)=aW S:=by unfold aW;rw [hxs]
 by_cases h1:65536≤S.steps.length
 ·have e:tryM S s.m=(4,wk0 S):=by unfold tryM;rw [if_pos h1]
  have e1:bz S s.m=S:=if_neg (by rw [e];dsimp only;omega)
  have e2:ej S s.m=0:=if_neg (by rw [e];dsimp only;omega)
  rw [e1,e2,e]
  repeat first|refine aa ?_|intro _|refine fF ?_
  exact KX.a6 am (Ent.trans ai (eH x hF)) ⟨rfl,rfl⟩
 repeat first|refine aa ?_|intro _|refine fF ?_
 rename_i b3
 refine GO.ent (L':=catP x.cat::rlL b S.shard x (obj b3 dd (be s)::stM s::stP s::L)) ?_ ?_
 ·refine (Ent.at (A:=catP x.cat) (Ent.dup (mZ x.cat).1)).trans ?_
  simp only [rlL]
  exact ai
 simp only [rlL]
 refine GO.ef (Ef.a6 (zR (b:=b) (sh:=S.shard) (x:=x) s hs.kind (hcm▸hg) (hcm▸hc) hF.catB ab ab hml hs.rule) rfl) ac ?_
 rintro _ _ ⟨rfl,rfl⟩
 rw [hcm,hnow]
 by_cases h2:hG S.cat S.now s.m
 case neg =>
  have e:tryM S s.m=(1,wk0 S):=by unfold tryM;rw [if_neg h1,if_pos h2]
  have e1:bz S s.m=S:=if_neg (by rw [e];dsimp only;omega)
  have e2:ej S s.m=0:=if_neg (by rw [e];dsimp only;omega)
  rw [e1,e2,e,ay h2]
  repeat first|refine aa ?_|intro _|refine fF ?_
  exact KX.a6 am (Ent.trans (by simp only [rlL];exact ai) (eH x hF)) ⟨rfl,rfl⟩
 have e:tryM S s.m=dy S.shard S.flows.length (cP S.cat) (s.m.at (aW S)) (wk0 S) s.m.moves:=by unfold tryM;rw [if_neg h1,if_neg (fun h=>h h2)]
 rw [aO h2]
 have hl64:s.moves.length≤64:=by have:=h2.2.2.1.2;simpa [StV.m] using this
 repeat first|refine aa ?_|intro _|refine fF ?_
 refine GO.ent (L':=rlL b S.shard x (obj b3 dd (be s)::stM s::stP s::L)) (by simp only [rlL];exact ai) ?_
 refine GO.ef (Ef.a6 (wT b S.shard x ab ab ab) rfl) ac ?_
 rintro _ _ ⟨bw,xw,rfl,⟨w1,w2,w3,w4⟩,rfl⟩
 rw [w2,w3]
 have hsunk0:gW (aW S) x.flows=[]:=BY (fun f hf=>hF.fstep _ (by rw [← hF.flows];exact alStd0List_mem_map_of_mem hf))
 have hR0:RW S x (wk0 S):=⟨hF.cat,hF.catB,hF.steps,by rw [hF.flows];exact (bR _).symm,hF.lots,hF.sum,hF.ok,hF.len,hF.dist,hsunk0⟩
 simp only [rlL,aT]
 repeat first|refine aa ?_|intro _|refine fF ?_
 refine G.loop (α:=Nat×RLX×Wk) (fun g=>g.1≤s.moves.length∧RW S g.2.1 g.2.2∧g.2.2.Ok S.flows.length∧g.2.2.flows.length=g.1∧(g.2.1.cat=x.cat∧g.2.1.steps=x.steps∧g.2.1.tad=x.tad∧g.2.1.tcap=x.tcap)∧dy S.shard S.flows.length (cP S.cat) (s.m.at (aW S)) (wk0 S) s.m.moves=dy S.shard S.flows.length (cP S.cat) (s.m.at (aW S)) g.2.2 (s.m.moves.drop g.1))
  (fun g=>[(0,.pointer (some ⟨b,0,none⟩)),(3,.pointer (some ⟨b3,0,none⟩)),(4,.int .i64 0),(5,.int .i64 0),(7,.pointer (some ⟨bw,0,none⟩)),(8,.int .i64 (g.1:Int))])
  (fun g=>obj bw tRL (aT S.shard xw)::osl gN 3 tRS xw.sad xw.scap x.stks::osl cq 11 de xw.fad xw.fcap x.flows::allP rsP x.stks::allP flP x.flows::rlL b S.shard g.2.1 (obj b3 dd (be s)::stM s::stP s::L)) (fun g=>s.moves.length - g.1) (0,x,wk0 S) ⟨ap _,hR0,ol hS,rfl,⟨rfl,rfl,rfl,rfl⟩,rfl⟩ ao ?_ ?_
 ·refine (Ent.at (A:=allP rsP x.stks) (Ent.dup (mB _ _))).trans ?_
  refine (Ent.at (A:=allP flP x.flows) (Ent.dup (mB _ _))).trans ?_
  simp only [rlL,aT]
  exact ai
 rintro ⟨i,y,W⟩ ⟨hi,hR,hO,hWl,⟨y1,y2,y3,y4⟩,hmv⟩
 dsimp only at hi hR hO hWl y1 y2 y3 y4 hmv ⊢
 have hyf:y.flows.length=S.flows.length+W.flows.length:=by
  have:=congrArg List.length hR.flows
  rwa [av,aC] at this
 have hys:y.steps.length=S.steps.length:=by rw [y2];exact hxs
 by_cases hlt:i<s.moves.length
 case neg =>
  have hdr:s.m.moves.drop i=[]:=dv (by show (s.moves.map MvV.m).length≤i;rw [av];omega)
  rw [hdr] at hmv
  have e3:tryM S s.m=(0,W):=by rw [e,hmv];rfl
  have he:(tryM S s.m).1=0:=by rw [e3]
  have e1:bz S s.m=gr S s.m:=if_pos he
  have e2:ej S s.m=aW S:=if_pos he
  have hid2:S.shard*4294967296+(y.steps.length:Int)=aW S:=by rw [y2];exact hid
  have hp2:(gr S s.m).flows=S.flows++W.flows:=by unfold gr;rw [e3]
  rw [e1,e2,he]
  have henc:([.int .i64 (S.shard*4294967296+(y.steps.length:Int)),.int .i64 s.kind,.int .i64 s.actor,.int .i64 s.tick,.int .i64 s.rule,.int .i64 s.times,.slice s.mad s.moves.length s.mcap]:List Value)=be (s.at (aW S)):=by rw [← hid2];rfl
  simp only [rlL,aT]
  repeat first|refine aa ?_|intro _|refine fF ?_
  refine GPW.ef (Ef.a7 (enc:=be) (e:=s.at (aW S)) rfl rfl henc rfl rfl (by rfl) (henc▸nM _) ab ab) ac ?_
  rintro _ _ ⟨tad2,tcap2,rfl,rfl⟩
  repeat first|refine aa ?_|intro _|refine fF ?_
  rw [hid2]
  refine KX.a6 am ?_ ⟨rfl,rfl⟩
  refine Ent.trans (B:=rlL b S.shard { y with steps:=y.steps++[s.at (aW S)],tad:=tad2,tcap:=tcap2 } (stM s::stP s::L)) ?_ (eH (S:=gr S s.m) { y with steps:=y.steps++[s.at (aW S)],tad:=tad2,tcap:=tcap2 } ⟨hR.cat,hR.catB,?_,?_,?_,?_,hR.ok,hR.len,hR.dist,?_,DL he h2 hn0⟩)
  ·refine (Ent.at (A:=stM s) (Ent.dup (uj s).1)).trans ?_
   refine (Ent.a6 (Ent.at (A:=stP s) (Ent.dup (mB _ _)))).trans ?_
   refine Ent.trans (B:=stM s::stP s::allP gj y.steps::obj b tRL (aT S.shard { y with steps:=y.steps++[s.at (aW S)],tad:=tad2,tcap:=tcap2 })::osl gN 3 tRS y.sad y.scap y.stks::osl cq 11 de y.fad y.fcap y.flows::osl be 7 dd tad2 tcap2 (y.steps++[s.at (aW S)])::catP y.cat::allP rsP y.stks::allP flP y.flows::stM s::stP s::L) ai ?_
   refine (Ent.d8 (uj s) (dg lv)).trans ?_
   refine (pm (f:=gj) (e:=s.at (aW S)) sm).trans ?_
   simp only [rlL]
   exact ai
  ·show (y.steps++[s.at (aW S)]).map StV.m=S.steps++[s.m.at (aW S)]
   rw [aK,hR.steps]
   rfl
  ·show y.flows.map FlV.m=(gr S s.m).flows
   rw [hp2,hR.flows]
  ·intro a i
   show (cR y.stks a i).lots=(tryM S s.m).2.stk a i
   rw [e3]
   exact hR.lots a i
  ·intro i
   show rsum y.stks i=(tryM S s.m).2.tot i
   rw [e3]
   exact hR.sum i
  ·intro f hf
   rw [wG he]
   rcases List.mem_append.1 (show f∈S.flows++(tryM S s.m).2.flows from hf) with h3|h3
   ·have:=hF.fstep f h3
    omega
   ·have:=BV f h3
    omega
 have hii:(i:Int).toNat=i:=aq i
 have hlt' : (i:Int).toNat<s.moves.length:=ab
 have hgm:s.moves[i]!.m=s.m.moves[i]!:=(fO MvV.m hlt).symm
 have hlm:i<s.m.moves.length:=by show i<(s.moves.map MvV.m).length;rw [av];exact hlt
 have hdr:s.m.moves.drop i=s.moves[i]!.m::s.m.moves.drop (i+1):=by rw [hgm];exact ly hlm
 have hfit:=h2.2.2.2.1 s.moves[i]!.m (by rw [hgm];exact aB hlm)
 have hfit2:MvFitR y.cat.items.length s.moves[i]!.m:=by
  unfold fr at hfit
  rw [dH] at hfit
  have h3:=of_decide_eq_true hfit
  exact ⟨⟨h3.1.1,by have h4:=h3.1.2;rw [← hcm] at h4;rw [y1];exact h4⟩,h3.2.1,h3.2.2.1,h3.2.2.2.1,h3.2.2.2.2.1,h3.2.2.2.2.2.2.2⟩
 rw [hdr] at hmv
 have hmv2:dy S.shard S.flows.length (cP S.cat) (s.m.at (aW S)) W (s.moves[i]!.m::s.m.moves.drop (i+1))=if (cz S.shard S.flows.length (cP S.cat) (s.m.at (aW S)) W s.moves[i]!.m).1=0 then dy S.shard S.flows.length (cP S.cat) (s.m.at (aW S)) (cz S.shard S.flows.length (cP S.cat) (s.m.at (aW S)) W s.moves[i]!.m).2 (s.m.moves.drop (i+1)) else ((cz S.shard S.flows.length (cP S.cat) (s.m.at (aW S)) W s.moves[i]!.m).1,W):=rfl
 rw [hmv2] at hmv
 have hmo:=lL (sh:=S.shard) (mix:=cP S.cat) (s:=s.m.at (aW S)) (m:=s.moves[i]!.m) hO fX hfit2.n hsh1
 have hspec:=zT (L:=obj bw tRL (aT S.shard xw)::osl gN 3 tRS xw.sad xw.scap x.stks::osl cq 11 de xw.fad xw.fcap x.flows::allP rsP x.stks::allP flP x.flows::obj b3 dd (be s)::stM s::stP s::L) b S hS y W s s.moves[i]! hR hO ab hfit2 hs.kind
 generalize cz S.shard S.flows.length (cP S.cat) (s.m.at (aW S)) W s.moves[i]!.m=r at *
 simp only [rlL,aT]
 repeat first|refine aa ?_|intro _|refine fF ?_
 rw [hii]
 refine GPW.ent (L':=rlL b S.shard y (obj bw tRL (aT S.shard xw)::osl gN 3 tRS xw.sad xw.scap x.stks::osl cq 11 de xw.fad xw.fcap x.flows::allP rsP x.stks::allP flP x.flows::obj b3 dd (be s)::stM s::stP s::L)) (by simp only [rlL,aT];exact ai) ?_
 refine GPW.ef (Ef.a6 (hspec) rfl) ac ?_
 rintro _ _ ⟨y',rfl,⟨⟨z1,z2,z3,z4⟩,hz⟩,rfl⟩
 by_cases hr:r.1=0
 ·rw [if_pos hr] at hmv
  simp only [rlL,aT]
  repeat first|refine aa ?_|intro _|refine fF ?_
  refine ⟨(i+1,y',r.2),⟨by dsimp only;omega,hz hr,(hmo hr).1,by dsimp only;rw [(hmo hr).2,hWl],⟨z1.trans y1,z2.trans y2,z3.trans y3,z4.trans y4⟩,hmv⟩,by dsimp only;omega,?_,?_⟩
  ·dsimp only
   rw [aF i]
   exact ao
  ·simp only [rlL,aT]
   exact ai
 ·rw [if_neg hr] at hmv
  have e3:tryM S s.m=(r.1,W):=by rw [e,hmv]
  have hne:¬(tryM S s.m).1=0:=by rw [e3];exact hr
  have e1:bz S s.m=S:=if_neg hne
  have e2:ej S s.m=0:=if_neg hne
  rw [e1,e2,e3]
  dsimp only
  simp only [rlL,aT]
  repeat first|refine aa ?_|intro _|refine fF ?_
  refine KX.a6 am ?_ ⟨rfl,rfl⟩
  refine Ent.trans (B:=rlL b S.shard { y' with stks:=x.stks,sad:=xw.sad,scap:=xw.scap,flows:=x.flows,fad:=xw.fad,fcap:=xw.fcap } (stM s::stP s::L)) ?_ (eH { y' with stks:=x.stks,sad:=xw.sad,scap:=xw.scap,flows:=x.flows,fad:=xw.fad,fcap:=xw.fcap } ⟨?_,?_,?_,hF.flows,hF.lots,hF.sum,hF.ok,hF.len,hF.dist,hF.fstep,hF.now⟩)
  ·simp only [rlL,aT]
   rw [show x.stks.length=xw.stks.length by rw [w2],show x.flows.length=xw.flows.length by rw [w3]]
   exact ai
  ·show y'.cat.m=_
   rw [z1,y1]
   exact hF.cat
  ·show y'.cat.B
   rw [z1,y1]
   exact hF.catB
  ·show y'.steps.map StV.m=_
   rw [z2,y2]
   exact hF.steps
end
section
open Go.V
attribute [local irreducible] G GO GP GPW GPK Ev Ef EfR Ent CB GB V.Enters
abbrev tRJ:Nat:=72
structure RYX where
 sad:Option Addr
 scap:Nat
 jad:Option Addr
 jcap:Nat
abbrev bM (lb:Nat) (Y:YardM) (x:RYX):List Value:=[.pointer (some ⟨lb,0,none⟩),.slice x.sad Y.seed.length x.scap,.slice x.jad Y.jobs.length x.jcap,.int .i64 Y.tick,.int .i64 Y.loots]
abbrev ryL (yb lb:Nat) (Y:YardM) (x:RYX) (L:List HP):List HP:=obj yb tRY (bM lb Y x)::isl (encZ .u8) 1 x.sad Y.seed::osl aH 10 tRJ x.jad x.jcap Y.jobs::L
def ryA (yb lb:Nat) (Y:YardM) (x:RYX):List HP:=ryL yb lb Y x []
def eA (yb lb:Nat) (Y:YardM):HP:=hex fun x=>bK (ryA yb lb Y x)
theorem fR {yb lb:Nat} {Y:YardM} {L:List HP} (x:RYX):Ent (ryL yb lb Y x L) (eA yb lb Y::L):=Ent.e9 (f:=ryA yb lb Y) x (Ent.refl _)
abbrev xv:List Stp:=[.ev 0,.ev 1,.ev 2,.ev 3,.ev 4,.ev 5,.ev 6,.ev 7,.ev 8,.ev 9,.ev 10,.ev 11,.ev 12,.ev 13]
theorem oY {φ ψ:Prop} (k:ψ) (h:Hid ψ→φ:=by intro k;(with_reducible apply G.a7);first|refine G.a6 (N:=22) (id:=3) xv mixed aj (Hid.out k)):φ:=h ⟨k⟩
theorem rl {L:List HP} (b:Nat) (S:LedM) (hS:S.Ok) :
  Tri Tryz.prog 127 #[.pointer (some ⟨b,0,none⟩)] (bO b S::L) (fun v L'=>v=.int .i64 S.now∧L' = bO b S::L):=by
 have hsl:=hS.steps
 refine Tri.body (args:=[.pointer (some ⟨b,0,none⟩)]) 22 EJ Tryz.func127 rfl rfl rfl (by simp) ?_
 refine G.c6 (f:=gD b S) ?_
 intro x
 simp only [gD,rlL,aT,ae,ah]
 refine G.c8 ?_
 intro hF
 have hxs:x.steps.length=S.steps.length:=by rw [← hF.steps];simp
 rw [← za hF]
 unfold rnow
 by_cases h0:x.steps.length=0
 ·repeat first|refine aa ?_|intro _|refine oY ?_
  refine KX.a6 am ?_ ⟨by rw [aP h0];rfl,rfl⟩
  exact eH x hF
 ·repeat first|refine aa ?_|intro _|refine oY ?_
  refine KX.a6 am ?_ ⟨?_,rfl⟩
  ·exact eH x hF
  ·have e:x.steps.getLast? = some x.steps[((x.steps.length:Int) - 1).toNat]!:=by
    rw [show ((x.steps.length:Int) - 1).toNat=x.steps.length - 1 by omega,List.getLast?_eq_getElem?,getElem!_of ab,List.getElem?_eq_getElem]
   rw [e]
   rfl
theorem ke {L:List HP} (yb lb:Nat) (Y:YardM) (x:RYX) (S:LedM) (hS:S.Ok) (acc tick:Int) :
  Tri Tryz.prog 123 #[.pointer (some ⟨yb,0,none⟩),.int .i64 acc,.int .i64 tick] (bO lb S::obj yb tRY (bM lb Y x)::L) (fun v L'=>v=.bool (dB (cg acc∧cp Y.tick S.now tick))∧L' = bO lb S::obj yb tRY (bM lb Y x)::L):=by
 refine Tri.body (args:=[.pointer (some ⟨yb,0,none⟩),.int .i64 acc,.int .i64 tick]) 34 JA Tryz.func123 rfl rfl rfl (by simp) ?_
 by_cases h1:1≤acc
 case neg =>
  repeat first|refine aa ?_|intro
  exact KX.a6 am (Ent.refl _) ⟨by rw [ay (fun h=>h1 (by have:=h.1;unfold cg at this;omega))];rfl,rfl⟩
 by_cases h2:acc<1048576
 case neg =>
  repeat first|refine aa ?_|intro
  exact KX.a6 am (Ent.refl _) ⟨by rw [ay (fun h=>h2 (by have:=h.1;unfold cg at this;omega))];rfl,rfl⟩
 by_cases h3:Y.tick≤tick
 case neg =>
  repeat first|refine aa ?_|intro
  exact KX.a6 am (Ent.refl _) ⟨by rw [ay (fun h=>h3 h.2.1)];rfl,rfl⟩
 repeat first|refine aa ?_|intro
 refine GO.ef (Ef.a6 (rl lb S hS) rfl) ac ?_
 rintro _ _ ⟨rfl,rfl⟩
 by_cases h4:S.now≤tick
 case neg =>
  repeat first|refine aa ?_|intro
  exact KX.a6 am (Ent.refl _) ⟨by rw [ay (fun h=>h4 h.2.2.1)];rfl,rfl⟩
 repeat first|refine aa ?_|intro
 refine KX.a6 am (Ent.refl _) ⟨?_,rfl⟩
 by_cases h5:tick≤1099511627776
 ·rw [aO h5,aO (show cg acc∧cp Y.tick S.now tick from ⟨by unfold cg;omega,h3,h4,h5⟩)];rfl
 ·rw [ay h5,ay (fun h=>h5 h.2.2.2)];rfl
abbrev xx:List Stp:=[.ev 0,.ev 1,.ev 2,.ev 3,.ev 4,.ev 5,.ev 6,.ev 7,.ev 8,.ev 9,.ev 10,.ev 11,.ev 12,.ev 13,.ev 14,.ev 15,.ef 16,.ef 17,.ev 18]
theorem kl {φ ψ:Prop} (k:ψ) (h:Hid ψ→φ:=by intro k;(with_reducible apply G.a7);first|refine G.a6 (N:=36) (id:=5) xx mixed aj (Hid.out k)):φ:=h ⟨k⟩
theorem ie {L:List HP} (ad:Option Addr) (n c:Nat) (l:List (Int×Int)) (times frm to:Int) [hr:Rds L ad (Int×Int) aV 2 l] (hn:n=l.length) (hl:l.length≤64) (ha:AmB l) (ht:0≤times∧times≤1048576) :
  Tri Tryz.prog 125 #[.slice ad n c,.int .i64 times,.int .i64 frm,.int .i64 to] L (fun v L'=>∃ ad' cap',v=.slice ad' l.length cap'∧L' = osl bh 5 tMv ad' cap' (l.map (cQ times frm to))::L):=by
 subst hn
 obtain ⟨ht1,ht2⟩:=ht
 refine Tri.body (args:=[.slice ad l.length c,.int .i64 times,.int .i64 frm,.int .i64 to]) 36 Jy Tryz.func125 rfl rfl rfl (by simp) ?_
 repeat first|refine aa ?_|intro _|refine kl ?_
 refine G.loop (α:=Nat×Option Addr×Nat) (fun g=>g.1≤l.length) (fun g=>[(0,.slice ad l.length c),(1,.int .i64 times),(2,.int .i64 frm),(3,.int .i64 to),(9,.slice g.2.1 ((l.take g.1).map (cQ times frm to)).length g.2.2),(10,.int .i64 (g.1:Int))]) (fun g=>osl bh 5 tMv g.2.1 g.2.2 ((l.take g.1).map (cQ times frm to))::L) (fun g=>l.length - g.1) (0,none,0) (ap _) ao (Ent.a7 bh 5 tMv) ?_
 rintro ⟨i,ad',cap'⟩ hi
 dsimp only at hi ⊢
 by_cases hlt:i<l.length
 case neg =>
  have hin:i=l.length:=ab
  subst hin
  rw [bD]
  have hll:(l.map (cQ times frm to)).length=l.length:=by simp
  rw [hll]
  repeat first|refine aa ?_|intro _|refine kl ?_
  exact KX.a6 am (Ent.refl _) ⟨ad',cap',rfl,rfl⟩
 have hii:(i:Int).toNat=i:=aq i
 have hab:=ha _ (aB hlt)
 have hm0:0≤l[i]!.2*times:=ez hab.1 ht1
 have hm1:l[i]!.2*times≤1099511627776*1048576:=Int.mul_le_mul hab.2 ht2 ht1 ac
 have htl:((l.take i).map (cQ times frm to)).length=i:=by rw [av,aQ];omega
 rw [← hii] at hm0 hm1
 have hlt' : (i:Int).toNat<l.length:=ab
 repeat first|refine aa ?_|intro _|refine kl ?_
 rw [hii]
 refine GPW.ef (Ef.a7 (enc:=bh) (e:=cQ times frm to l[i]!) rfl rfl rfl rfl rfl (by rfl) (iC _) ab ab) ac ?_
 rintro _ _ ⟨ad2,cap2,rfl,rfl⟩
 repeat first|refine aa ?_|intro _|refine kl ?_
 have e:(l.take i).map (cQ times frm to)++[cQ times frm to l[i]!]=(l.take (i+1)).map (cQ times frm to):=by
  rw [au hlt,aK,getElem!_of hlt]
  rfl
 rw [e]
 refine ⟨(i+1,ad2,cap2),by dsimp only;omega,by dsimp only;omega,?_,by exact ai⟩
 dsimp only
 rw [aF i]
 exact ao
end
end Go.Proofs.YtfmgkkofledkbaaGreatDoor
namespace Go.V
theorem Ev.z7 {P:Program} {L:List HP} {env:Env} {ty:TypeId} {t yt:TypeId} {x y:Operand} {a b:Bool} [ht:TyBool P t] (hx:evE env x=some (.bool a)) (hy:evE env y=some (.bool b)):Ev P L env (.binOp .eql t x y yt) ty (.bool (a == b)):=by
 have h:=Ev.r6 (P:=P) (L:=L) (ty:=ty) (t:=t) (yt:=yt) (φ:=a=true) (ψ:=b=true) (x:=x) (y:=y) (env:=env) (by rw [hx,dH];cases a<;>rfl) (by rw [hy,dH];cases b<;>rfl)
 have e:dB (a=true↔b=true)=(a == b):=by rw [dH];cases a<;>cases b<;>rfl
 rw [e] at h
 exact h
end Go.V
namespace Go.Proofs.YtfmgkkofledkbaaGreatDoor
open Go.V
attribute [local irreducible] G GO GP GPW GPK Ev Ef EfR Ent CB GB V.Enters
abbrev xu:List Stp:=[.ev 0,.ev 1,.ev 2,.ev 3,.ev 4,.ev 5,.ev 6,.ev 7,.ev 8,.ev 9,.ev 10,.ev 11,.ev 12,.ev 13,.ev 14,.ev 15,.ev 16,.ev 17,.ev 18,.ev 19,.ev 20,.ev 21,.ev 22,.ev 23,.ev 24,.ev 25,.ev 26,.ev 27,.ev 28,.ev 29,.ev 30,.ev 31,.ev 32,.ev 33,.ev 34,.ev 35,.ev 36,.ev 37,.ev 38,.ev 39,.ev 40,.ev 41,.ev 42,.ev 43]
theorem kj {φ ψ:Prop} (k:ψ) (h:Hid ψ→φ:=by intro k;(with_reducible apply G.a7);first|refine G.a6 (N:=50) (id:=1) xu mixed aj (Hid.out k)):φ:=h ⟨k⟩
theorem nq {L R R2:List HP} {yb lb:Nat} {sh:Int} {Y:YardM} {y:RYX} {x:RLX} [hp:PickObj L yb tRY (bM lb Y y) R] [hp2:PickObj L lb tRL (aT sh x) R2] [hr:Rds L x.cat.rad RuV aY 9 x.cat.rules] (hB:x.cat.B) (i:Int) (spawn:Bool) :
  Tri Tryz.prog 124 #[.pointer (some ⟨yb,0,none⟩),.int .i64 i,.bool spawn] L (fun v L'=>v=.bool (dB (fV x.cat.m.rules i spawn))∧L' = L):=by
 have hrl:x.cat.m.rules.length=x.cat.rules.length:=by simp [CatV.m]
 have h64:=hB.rules
 refine Tri.body (args:=[.pointer (some ⟨yb,0,none⟩),.int .i64 i,.bool spawn]) 50 Jz Tryz.func124 rfl rfl rfl (by simp) ?_
 by_cases h1:0≤i
 case neg =>
  repeat first|refine aa ?_|intro _|refine kj ?_
  exact KX.a6 am (Ent.refl _) ⟨by rw [ay (fun h:fV _ _ _=>h1 h.1)];rfl,rfl⟩
 by_cases h2:i<x.cat.rules.length
 case neg =>
  repeat first|refine aa ?_|intro _|refine kj ?_
  exact KX.a6 am (Ent.refl _) ⟨by rw [ay (fun h:fV _ _ _=>h2 (by have:=h.2.1;omega))];rfl,rfl⟩
 have hil:i.toNat<x.cat.rules.length:=ab
 have hru:=kd x.cat.rules hil
 have hmm:min (max i 0) ((x.cat.rules.length:Int) - 1)=i:=ab
 repeat first|refine aa ?_|intro _|refine kj ?_
 refine GPW.evP (Ev.z7 rfl rfl) ac ?_
 rw [hmm]
 repeat first|refine aa ?_|intro _|refine kj ?_
 refine KX.a6 am (Ent.refl _) ⟨?_,rfl⟩
 have hq:(x.cat.m.rules[i.toNat]!).spawn=x.cat.rules[i.toNat]!.spawn:=by
  show ((x.cat.rules.map RuV.m)[i.toNat]!).spawn=_
  rw [hru]
  rfl
 by_cases h3:x.cat.rules[i.toNat]!.spawn=spawn
 ·rw [aO (show fV x.cat.m.rules i spawn from ⟨h1,ab,hq.trans h3⟩),h3,beq_self_eq_true]
  rfl
 ·rw [ay (fun h:fV _ _ _=>h3 (hq.symm.trans h.2.2)),beq_eq_false_iff_ne.2 h3]
  rfl
end Go.Proofs.YtfmgkkofledkbaaGreatDoor
