/- The model of package ledger in general: performing a move. -/
import Derived.Test.YtommnllbflbdmaaGreatDoorGAuditTotalsbg
set_option linter.all false
set_option maxHeartbeats 4000000
namespace Go.Proofs.YtommnllbflbdmaaGreatDoor
open Go.V
attribute [local irreducible] G GO GP GPW GPK Ev Ef EfR Ent CB GB V.Enters
abbrev Ag:List Stp:=[.ev 0,.ev 1,.ev 2,.ev 3,.ev 4,.ev 5,.ev 6,.ev 7,.ev 8,.ev 9,.ev 10,.ev 11,.ev 12,.ev 13,.ev 14,.ev 15,.ev 16,.ev 17,.ev 18,.ev 19,.ev 20,.ev 21,.ev 22,.ev 23,.ev 24,.ev 25,.ev 26,.ev 27,.ev 28,.ev 29,.ev 30,.ev 31,.ev 32,.ev 33,.ev 34,.ev 35,.ev 36,.ef 37,.ef 38]
abbrev Af:List Stp:=[.ev 0,.ev 1,.ev 2,.ev 3,.ev 4,.ev 5,.ev 6,.ev 7,.ev 8,.ev 9,.ev 10,.ev 11,.ev 12,.ev 13,.ev 14,.ev 15,.ev 16,.ev 17,.ev 18,.ev 19,.ev 20,.ev 21]
abbrev xo:List Stp:=[.ev 0,.ev 1,.ev 2,.ev 3,.ev 4,.ev 5,.ev 6,.ev 7,.ev 8,.ev 9,.ef 10,.ef 11,.ev 12,.ef 13]
abbrev xn:List Stp:=[.ev 0,.ev 1,.ev 2,.ev 3,.ev 4,.ev 5,.ev 6,.ev 8,.ev 9,.ef 7,.ev 10,.ev 11,.ev 12]
abbrev xm:List Stp:=[.ev 0,.ev 1,.ev 2,.ev 3,.ev 4,.ev 6,.ev 7,.ev 8,.ev 9,.ev 10,.ef 5,.ef 11,.ev 12]
abbrev xl:List Stp:=[.ev 0,.ev 1,.ev 2,.ev 3,.ev 4,.ev 5,.ef 6,.ef 7,.ev 8,.ev 9,.ef 10]
theorem bA {φ ψ:Prop} (k:ψ) (h:Hid ψ→φ:=by intro k;(with_reducible apply G.d8);first|refine G.d7 (N:=169) (id:=1) Ag mixed an (Hid.out k)|refine G.d7 (N:=169) (id:=9) Af mixed an (Hid.out k)|refine G.d7 (N:=169) (id:=10) xo mixed an (Hid.out k)|refine G.d7 (N:=169) (id:=11) xn mixed an (Hid.out k)|refine G.d7 (N:=169) (id:=14) xm mixed an (Hid.out k)|refine G.d7 (N:=169) (id:=18) xl mixed an (Hid.out k)):φ:=h ⟨k⟩
theorem wD {L:List HP} (b:Nat) (S:LedM) (hsh:0≤S.shard∧S.shard<12) (hss:S.steps.length≤65536) (hsf:S.flows.length≤4194304) (hFl:FlG S.flows) (y:RLX) (W:Wk) (kb:Nat) (s:StV) (m:MvV) (hR:RW S y W) (hO:WkG S.shard S.flows kb W) (hkb:kb+m.m.parts.length≤2000) (hWf:W.flows.length<64) (h:pj y.cat.items.length m.m) (hm:MvG m.m) (hcap:m.m.parts.length≤m.pcap) (hbp:∀ p∈m.m.parts,p.1≤9223372036854775807) :
  Tri Tryz.prog 94 #[.pointer (some ⟨b,0,none⟩),.agg (aB s).toArray,.agg (aF m).toArray] (rlL b S.shard y (isl ah 3 m.pad m.m.parts::L)) (fun v L'=>∃ y',v=.int .i64 (dw S.shard S.flows (bC S.cat) (s.m.at (aK S)) W m.m).1 ∧
   ((y'.cat=y.cat∧y'.steps=y.steps∧y'.tad=y.tad∧y'.tcap=y.tcap)∧((dw S.shard S.flows (bC S.cat) (s.m.at (aK S)) W m.m).1=0→RW S y' (dw S.shard S.flows (bC S.cat) (s.m.at (aK S)) W m.m).2))∧L' = rlL b S.shard y' L):=by
 obtain ⟨hs1,hs2⟩:=hsh
 obtain ⟨hn1,hn2⟩:=hm.n
 have hne:=hm.ne
 obtain ⟨hitem,_,_,hf1,hto1,hf2,hto2⟩:=h
 have hfl2:y.flows.map FlV.m=S.flows++W.flows:=hR.flows
 have hFlO:FlOk y.flows:=by
  have hlen:=congrArg List.length hfl2
  rw [aD,ax] at hlen
  refine ⟨ab,fun f hf=>?_⟩
  have hf2:f.m∈S.flows++W.flows:=by rw [← hfl2];exact alStd0List_mem_map_of_mem hf
  rcases List.mem_append.1 hf2 with q|q
  ·exact hFl _ q
  ·exact hO.flows _ q
 have hyf:y.flows.length=S.flows.length+W.flows.length:=by
  have:=congrArg List.length hR.flows
  rwa [aD,ax] at this
 have hys:y.steps.length=S.steps.length:=by rw [← hR.steps];simp
 have hyl:=hR.len
 have hsid:S.shard*4294967296+(y.steps.length:Int)=aK S:=by unfold aK;rw [hys]
 have hfid:S.shard*4294967296+(y.flows.length:Int)=cC S.shard S.flows.length W:=by unfold cC;rw [hyf];omega
 have hmix:mixR y=bC S.cat:=by funext i;unfold mixR bC;rw [← hR.cat];rfl
 refine Tri.body (args:=[.pointer (some ⟨b,0,none⟩),.agg (aB s).toArray,.agg (aF m).toArray]) 169 en94 Tryz.func94 rfl rfl rfl (by simp) ?_
 simp only [rlL]
 repeat first|refine aa ?_|intro _|refine bA ?_
 rename_i b4 b5 b7
 refine GO.ent (L':=rlL b S.shard y (isl ah 3 m.pad m.m.parts::obj b7 cq [.int .i64 (S.shard*4294967296+(y.flows.length:Int)),.int .i64 (S.shard*4294967296+(y.steps.length:Int)),.int .i64 s.kind,.int .i64 s.tick,.int .i64 s.actor,.int .i64 m.m.frm,.int .i64 m.m.to,.int .i64 m.m.item,.int .i64 m.m.n,.slice none 0 0,.slice none 0 0]::obj b4 aU (aB s)::obj b5 tMv (aF m)::L)) (by simp only [rlL];exact ae) ?_
 refine GO.ef (Ef.d7 (uJ b S.shard y W (s.m.at (aK S)) m kb (cC S.shard S.flows.length W) hR.catB hR.ok ab hFlO hR.lots hO.stk hkb hitem ⟨hf1,hf2⟩ hm hcap hbp) rfl) ac ?_
 rw [hR.flows]
 rintro _ _ (⟨h1,pd,pn,pc,rfl,rfl⟩|⟨h1,pad,pcap,st,sad',scap',rfl,hT,rfl⟩)
 ·have e:dw S.shard S.flows (bC S.cat) (s.m.at (aK S)) W m.m=(gErr S.shard (S.flows++W.flows) (s.m.at (aK S)) W m.m,W):=by unfold dw;rw [if_pos h1]
  rw [e]
  generalize gErr S.shard (S.flows++W.flows) (s.m.at (aK S)) W m.m=er at *
  repeat first|refine aa ?_|intro _|refine bA ?_
  exact KX.d7 ag (by simp only [rlL];exact ae) ⟨y,rfl,⟨⟨rfl,rfl,rfl,rfl⟩,fun q=>absurd q h1⟩,rfl⟩
 have hmv:dw S.shard S.flows (bC S.cat) (s.m.at (aK S)) W m.m=if cI W m.m>1099511627776 then (4,W)
   else if m.m.to=0 then (0,⟨gStk (bC S.cat) W m.m,upd W.tot m.m.item (cI W m.m),W.flows++[fC S.shard S.flows.length (bC S.cat) (s.m.at (aK S)) W m.m],W.sunk++[cC S.shard S.flows.length W]⟩)
   else if 4096≤(gStk (bC S.cat) W m.m m.m.to m.m.item).length then (4,W)
   else (0,⟨upd2 (gStk (bC S.cat) W m.m) m.m.to m.m.item (aR (gStk (bC S.cat) W m.m m.m.to m.m.item) (cC S.shard S.flows.length W,0,m.m.n)),upd W.tot m.m.item (cI W m.m),W.flows++[fC S.shard S.flows.length (bC S.cat) (s.m.at (aK S)) W m.m],W.sunk⟩):=by unfold dw;rw [if_neg (fun q=>q h1)]
 have hts:∀ a i,(df st a i).lots=gStk (bC S.cat) W m.m a i:=by
  intro a i
  rw [hT.lots,hmix]
 have hsum:∀ i,rsum st i=W.tot i - (if m.m.frm≠0∧i=m.m.item then m.m.n else 0):=fun i=>by rw [hT.sum,hR.sum]
 have hstl:=hT.len
 have hsto:=hT.ok
 have hstd:=hT.dist hR.dist
 clear hT
 rw [hmix]
 rw [hmv]
 generalize hpts:gPts (bC S.cat) (s.m.at (aK S)) W m.m=pts at *
 simp only [rlL,aJ]
 repeat first|((fail_if_success (with_reducible refine G.e7 6 ?_));(with_reducible apply G.seq))|refine bU ?_|intro _|refine bA ?_
 refine G.d9 (α:=Option Addr×Nat) (fun _=>True) (fun _=>[(0,.pointer (some ⟨b,0,none⟩)),(4,.pointer (some ⟨b4,0,none⟩)),(5,.pointer (some ⟨b5,0,none⟩)),(6,.int .i64 0),(7,.pointer (some ⟨b7,0,none⟩))]) (fun g=>obj b7 cq [.int .i64 (S.shard*4294967296+(y.flows.length:Int)),.int .i64 (S.shard*4294967296+(y.steps.length:Int)),.int .i64 s.kind,.int .i64 s.tick,.int .i64 s.actor,.int .i64 m.m.frm,.int .i64 m.m.to,.int .i64 m.m.item,.int .i64 m.m.n,.slice pad pts.length pcap,.slice g.1 (de (s.m.at (aK S)) W m.m).length g.2]::isl (encZ .i64) 1 g.1 (de (s.m.at (aK S)) W m.m)::isl ah 3 pad pts::rlL b S.shard { y with stks:=st,sad:=sad',scap:=scap' } (obj b4 aU (aB s)::obj b5 tMv (aF m)::L)) ?_ ?_
 ·by_cases hCa:m.m.frm=0∧s.kind=4
  case pos =>
   obtain ⟨hC1,hC2⟩:=hCa
   have e:de (s.m.at (aK S)) W m.m=fW (aK S) y.flows:=by unfold de;rw [if_pos ⟨hC1,.inl hC2⟩,hR.sunk]
   rw [e]
   simp only [rlL,aJ]
   repeat first|refine aa ?_|intro _|refine bA ?_
   refine G.loop (α:=Nat×Option Addr×Nat) (fun g=>g.1≤y.flows.length) (fun g=>[(0,.pointer (some ⟨b,0,none⟩)),(4,.pointer (some ⟨b4,0,none⟩)),(5,.pointer (some ⟨b5,0,none⟩)),(6,.int .i64 0),(7,.pointer (some ⟨b7,0,none⟩)),(10,.int .i64 (g.1:Int))]) (fun g=>obj b7 cq [.int .i64 (S.shard*4294967296+(y.flows.length:Int)),.int .i64 (S.shard*4294967296+(y.steps.length:Int)),.int .i64 s.kind,.int .i64 s.tick,.int .i64 s.actor,.int .i64 m.m.frm,.int .i64 m.m.to,.int .i64 m.m.item,.int .i64 m.m.n,.slice pad pts.length pcap,.slice g.2.1 (fW (aK S) (y.flows.take g.1)).length g.2.2]::osl (encZ .i64) 1 tInt g.2.1 g.2.2 (fW (aK S) (y.flows.take g.1))::isl ah 3 pad pts::rlL b S.shard { y with stks:=st,sad:=sad',scap:=scap' } (obj b4 aU (aB s)::obj b5 tMv (aF m)::L)) (fun g=>y.flows.length - g.1) (0,none,0) (al _) ai ?_ ?_
   ·have e0:fW (aK S) (y.flows.take 0)=[]:=by simp [fW]
    dsimp only
    rw [e0]
    refine (Ent.d8 (encZ .i64) 1 tInt).trans ?_
    simp only [rlL,aJ]
    exact ae
   rintro ⟨k,mad,mcap⟩ hk1
   dsimp only at hk1 ⊢
   simp only [rlL,aJ]
   by_cases hlt:k<y.flows.length
   case neg =>
    obtain rfl:k=y.flows.length:=ab
    rw [aZ]
    repeat first|refine aa ?_|intro _|refine bA ?_
    refine ⟨(mad,mcap),trivial,ai,?_⟩
    refine (Ent.frz mad).trans ?_
    simp only [rlL,aJ]
    exact ae
   have hkk:(k:Int).toNat=k:=av k
   have hlt' : (k:Int).toNat<y.flows.length:=ab
   have hst:=qM (aK S) y.flows hlt
   have hsl:=sB (aK S) (y.flows.take k)
   rw [ba] at hsl
   by_cases g1:y.flows[(k:Int).toNat]!.m.step=S.shard*4294967296+(y.steps.length:Int)
   ·by_cases g2:y.flows[(k:Int).toNat]!.m.to=0
    ·repeat first|refine aa ?_|intro _|refine bA ?_
     refine GPW.ef (Ef.d8 (enc:=encZ .i64) (e:=y.flows[(k:Int).toNat]!.m.id) rfl rfl rfl rfl rfl (by rfl) (by simp [encZ,Value.oneCell']) ab ab) ac ?_
     rintro _ _ ⟨mad2,mcap2,rfl,rfl⟩
     repeat first|refine aa ?_|intro _|refine bA ?_
     rw [hkk] at *
     rw [if_pos ⟨g1.trans hsid,g2⟩] at hst
     refine ⟨(k+1,mad2,mcap2),by dsimp only;omega,by dsimp only;omega,?_,?_⟩
     ·dsimp only
      rw [aM k]
      exact ai
     ·dsimp only
      rw [hst]
      exact ae
    ·repeat first|refine aa ?_|intro _|refine bA ?_
     rw [hkk] at *
     rw [if_neg (fun q=>g2 q.2)] at hst
     refine ⟨(k+1,mad,mcap),by dsimp only;omega,by dsimp only;omega,?_,?_⟩
     ·dsimp only
      rw [aM k]
      exact ai
     ·dsimp only
      rw [hst]
      exact ae
   ·repeat first|refine aa ?_|intro _|refine bA ?_
    rw [hkk] at *
    rw [if_neg (fun q=>g1 (q.1.trans hsid.symm))] at hst
    refine ⟨(k+1,mad,mcap),by dsimp only;omega,by dsimp only;omega,?_,?_⟩
    ·dsimp only
     rw [aM k]
     exact ai
    ·dsimp only
     rw [hst]
     exact ae
  by_cases hCb:m.m.frm=0∧s.kind=10
  case pos =>
   obtain ⟨hC1,hC2⟩:=hCb
   have e:de (s.m.at (aK S)) W m.m=fW (aK S) y.flows:=by unfold de;rw [if_pos ⟨hC1,.inr hC2⟩,hR.sunk]
   rw [e]
   simp only [rlL,aJ]
   repeat first|refine aa ?_|intro _|refine bA ?_
   refine G.loop (α:=Nat×Option Addr×Nat) (fun g=>g.1≤y.flows.length) (fun g=>[(0,.pointer (some ⟨b,0,none⟩)),(4,.pointer (some ⟨b4,0,none⟩)),(5,.pointer (some ⟨b5,0,none⟩)),(6,.int .i64 0),(7,.pointer (some ⟨b7,0,none⟩)),(10,.int .i64 (g.1:Int))]) (fun g=>obj b7 cq [.int .i64 (S.shard*4294967296+(y.flows.length:Int)),.int .i64 (S.shard*4294967296+(y.steps.length:Int)),.int .i64 s.kind,.int .i64 s.tick,.int .i64 s.actor,.int .i64 m.m.frm,.int .i64 m.m.to,.int .i64 m.m.item,.int .i64 m.m.n,.slice pad pts.length pcap,.slice g.2.1 (fW (aK S) (y.flows.take g.1)).length g.2.2]::osl (encZ .i64) 1 tInt g.2.1 g.2.2 (fW (aK S) (y.flows.take g.1))::isl ah 3 pad pts::rlL b S.shard { y with stks:=st,sad:=sad',scap:=scap' } (obj b4 aU (aB s)::obj b5 tMv (aF m)::L)) (fun g=>y.flows.length - g.1) (0,none,0) (al _) ai ?_ ?_
   ·have e0:fW (aK S) (y.flows.take 0)=[]:=by simp [fW]
    dsimp only
    rw [e0]
    refine (Ent.d8 (encZ .i64) 1 tInt).trans ?_
    simp only [rlL,aJ]
    exact ae
   rintro ⟨k,mad,mcap⟩ hk1
   dsimp only at hk1 ⊢
   simp only [rlL,aJ]
   by_cases hlt:k<y.flows.length
   case neg =>
    obtain rfl:k=y.flows.length:=ab
    rw [aZ]
    repeat first|refine aa ?_|intro _|refine bA ?_
    refine ⟨(mad,mcap),trivial,ai,?_⟩
    refine (Ent.frz mad).trans ?_
    simp only [rlL,aJ]
    exact ae
   have hkk:(k:Int).toNat=k:=av k
   have hlt' : (k:Int).toNat<y.flows.length:=ab
   have hst:=qM (aK S) y.flows hlt
   have hsl:=sB (aK S) (y.flows.take k)
   rw [ba] at hsl
   by_cases g1:y.flows[(k:Int).toNat]!.m.step=S.shard*4294967296+(y.steps.length:Int)
   ·by_cases g2:y.flows[(k:Int).toNat]!.m.to=0
    ·repeat first|refine aa ?_|intro _|refine bA ?_
     refine GPW.ef (Ef.d8 (enc:=encZ .i64) (e:=y.flows[(k:Int).toNat]!.m.id) rfl rfl rfl rfl rfl (by rfl) (by simp [encZ,Value.oneCell']) ab ab) ac ?_
     rintro _ _ ⟨mad2,mcap2,rfl,rfl⟩
     repeat first|refine aa ?_|intro _|refine bA ?_
     rw [hkk] at *
     rw [if_pos ⟨g1.trans hsid,g2⟩] at hst
     refine ⟨(k+1,mad2,mcap2),by dsimp only;omega,by dsimp only;omega,?_,?_⟩
     ·dsimp only
      rw [aM k]
      exact ai
     ·dsimp only
      rw [hst]
      exact ae
    ·repeat first|refine aa ?_|intro _|refine bA ?_
     rw [hkk] at *
     rw [if_neg (fun q=>g2 q.2)] at hst
     refine ⟨(k+1,mad,mcap),by dsimp only;omega,by dsimp only;omega,?_,?_⟩
     ·dsimp only
      rw [aM k]
      exact ai
     ·dsimp only
      rw [hst]
      exact ae
   ·repeat first|refine aa ?_|intro _|refine bA ?_
    rw [hkk] at *
    rw [if_neg (fun q=>g1 (q.1.trans hsid.symm))] at hst
    refine ⟨(k+1,mad,mcap),by dsimp only;omega,by dsimp only;omega,?_,?_⟩
    ·dsimp only
     rw [aM k]
     exact ai
    ·dsimp only
     rw [hst]
     exact ae
  case neg =>
   have e:de (s.m.at (aK S)) W m.m=[]:=by
    unfold de
    exact if_neg (fun h=>by
     obtain ⟨h3,h4⟩:=h
     rcases h4 with h4|h4
     ·exact hCa ⟨h3,h4⟩
     ·exact hCb ⟨h3,h4⟩)
   rw [e]
   simp only [rlL,aJ]
   repeat first|refine aa ?_|intro _|refine bA ?_
   refine G.loop (α:=Unit) (fun _=>True) (fun _=>[(0,.pointer (some ⟨b,0,none⟩)),(4,.pointer (some ⟨b4,0,none⟩)),(5,.pointer (some ⟨b5,0,none⟩)),(6,.int .i64 0),(7,.pointer (some ⟨b7,0,none⟩)),(10,.int .i64 0)]) (fun _=>obj b7 cq [.int .i64 (S.shard*4294967296+(y.flows.length:Int)),.int .i64 (S.shard*4294967296+(y.steps.length:Int)),.int .i64 s.kind,.int .i64 s.tick,.int .i64 s.actor,.int .i64 m.m.frm,.int .i64 m.m.to,.int .i64 m.m.item,.int .i64 m.m.n,.slice pad pts.length pcap,.slice none 0 0]::isl ah 3 pad pts::rlL b S.shard { y with stks:=st,sad:=sad',scap:=scap' } (obj b4 aU (aB s)::obj b5 tMv (aF m)::L)) (fun _=>0) () trivial ai ?_ ?_
   ·simp only [rlL,aJ]
    exact ae
   rintro _ _
   simp only [rlL,aJ]
   by_cases hlt:(0:Int)<(y.flows.length:Int)
   ·by_cases h0:m.m.frm=0
    ·have h04:¬s.kind=4:=fun h=>hCa ⟨h0,h⟩
     have h10:¬s.kind=10:=fun h=>hCb ⟨h0,h⟩
     repeat first|refine aa ?_|intro _|refine bA ?_
     refine ⟨(none,0),trivial,ai,?_⟩
     refine Ent.trans ?_ (Ent.d7 (Ent.e8 (encZ .i64) 1 none))
     simp only [rlL,aJ]
     exact ae
    ·repeat first|refine aa ?_|intro _|refine bA ?_
     refine ⟨(none,0),trivial,ai,?_⟩
     refine Ent.trans ?_ (Ent.d7 (Ent.e8 (encZ .i64) 1 none))
     simp only [rlL,aJ]
     exact ae
   ·repeat first|refine aa ?_|intro _|refine bA ?_
    refine ⟨(none,0),trivial,ai,?_⟩
    refine Ent.trans ?_ (Ent.d7 (Ent.e8 (encZ .i64) 1 none))
    simp only [rlL,aJ]
    exact ae
 rintro ⟨mad,mcap⟩ _
 dsimp only
 have hot:=hO.tot m.m.item
 have hstk:∀ a i,(gStk (bC S.cat) W m.m a i).length≤4096∧∀ x∈gStk (bC S.cat) W m.m a i,LotOk x:=fun a i=>by
  have g:=vE (mix:=bC S.cat) hO hm ab h1 a i
  have:=g.len
  exact ⟨ab,g.lots⟩
 refine G.d9 (α:=Unit) (fun _=>¬cI W m.m>1099511627776) (fun _=>[(0,.pointer (some ⟨b,0,none⟩)),(4,.pointer (some ⟨b4,0,none⟩)),(5,.pointer (some ⟨b5,0,none⟩)),(6,.int .i64 0),(7,.pointer (some ⟨b7,0,none⟩))]) (fun _=>rlL b S.shard { y with stks:=st,sad:=sad',scap:=scap' } (obj b7 cq [.int .i64 (S.shard*4294967296+(y.flows.length:Int)),.int .i64 (S.shard*4294967296+(y.steps.length:Int)),.int .i64 s.kind,.int .i64 s.tick,.int .i64 s.actor,.int .i64 m.m.frm,.int .i64 m.m.to,.int .i64 m.m.item,.int .i64 m.m.n,.slice pad pts.length pcap,.slice mad (de (s.m.at (aK S)) W m.m).length mcap]::isl (encZ .i64) 1 mad (de (s.m.at (aK S)) W m.m)::isl ah 3 pad pts::obj b4 aU (aB s)::obj b5 tMv (aF m)::L)) ?_ ?_
 ·by_cases h0:m.m.frm=0
  ·have hrs:=hsum m.m.item
   rw [if_neg (fun q=>q.1 h0),eJ] at hrs
   have hnt:cI W m.m=rsum st m.m.item+m.m.n:=by unfold cI;rw [if_pos h0,if_neg (fun q=>hne (h0.trans q.symm)),hrs];omega
   simp only [rlL,aJ]
   repeat first|refine aa ?_|intro _|refine bA ?_
   refine GPW.ent (L':=rlL b S.shard { y with stks:=st,sad:=sad',scap:=scap' } (obj b7 cq [.int .i64 (S.shard*4294967296+(y.flows.length:Int)),.int .i64 (S.shard*4294967296+(y.steps.length:Int)),.int .i64 s.kind,.int .i64 s.tick,.int .i64 s.actor,.int .i64 m.m.frm,.int .i64 m.m.to,.int .i64 m.m.item,.int .i64 m.m.n,.slice pad pts.length pcap,.slice mad (de (s.m.at (aK S)) W m.m).length mcap]::isl (encZ .i64) 1 mad (de (s.m.at (aK S)) W m.m)::isl ah 3 pad pts::obj b4 aU (aB s)::obj b5 tMv (aF m)::L)) (by simp only [rlL,aJ];exact ae) ?_
   refine GPW.ef (Ef.d7 (Bp b S.shard { y with stks:=st,sad:=sad',scap:=scap' } m.m.item (by dsimp only;omega) hsto (by dsimp only;omega)) rfl) ac ?_
   rintro _ _ ⟨rfl,rfl⟩
   simp only [rlL,aJ]
   rw [hnt]
   by_cases hbig:rsum st m.m.item+m.m.n>1099511627776
   ·rw [if_pos hbig]
    repeat first|refine aa ?_|intro _|refine bA ?_
    exact KX.d7 ag ae ⟨{ y with stks:=st,sad:=sad',scap:=scap' },rfl,⟨⟨rfl,rfl,rfl,rfl⟩,fun q=>absurd (show (4:Int)=0 from q) ab⟩,rfl⟩
   ·repeat first|refine aa ?_|intro _|refine bA ?_
    exact ⟨(),hbig,ai,by exact ae⟩
  ·simp only [rlL,aJ]
   repeat first|refine aa ?_|intro _|refine bA ?_
   refine ⟨(),?_,ai,by exact ae⟩
   unfold cI
   rw [if_neg h0]
   split<;>omega
 rintro _ hbig
 rw [if_neg hbig]
 refine G.d9 (α:=List RStk×Option Addr×Nat) (fun g=>¬(m.m.to≠0∧4096≤(gStk (bC S.cat) W m.m m.m.to m.m.item).length)∧(∀ a i,(df g.1 a i).lots=if m.m.to≠0 then upd2 (gStk (bC S.cat) W m.m) m.m.to m.m.item (aR (gStk (bC S.cat) W m.m m.m.to m.m.item) (cC S.shard S.flows.length W,0,m.m.n)) a i else gStk (bC S.cat) W m.m a i)∧(∀ i,rsum g.1 i=rsum st i+(if m.m.to≠0∧i=m.m.item then m.m.n else 0))∧rOk g.1∧g.1.length≤st.length+1∧jn g.1) (fun _=>[(0,.pointer (some ⟨b,0,none⟩)),(4,.pointer (some ⟨b4,0,none⟩)),(5,.pointer (some ⟨b5,0,none⟩)),(6,.int .i64 0),(7,.pointer (some ⟨b7,0,none⟩))]) (fun g=>rlL b S.shard { y with stks:=g.1,sad:=g.2.1,scap:=g.2.2 } (obj b7 cq [.int .i64 (S.shard*4294967296+(y.flows.length:Int)),.int .i64 (S.shard*4294967296+(y.steps.length:Int)),.int .i64 s.kind,.int .i64 s.tick,.int .i64 s.actor,.int .i64 m.m.frm,.int .i64 m.m.to,.int .i64 m.m.item,.int .i64 m.m.n,.slice pad pts.length pcap,.slice mad (de (s.m.at (aK S)) W m.m).length mcap]::isl (encZ .i64) 1 mad (de (s.m.at (aK S)) W m.m)::isl ah 3 pad pts::obj b4 aU (aB s)::obj b5 tMv (aF m)::L)) ?_ ?_
 ·by_cases h0:m.m.to=0
  ·simp only [rlL,aJ]
   repeat first|refine aa ?_|intro _|refine bA ?_
   refine ⟨(st,sad',scap'),⟨fun q=>q.1 h0,?_,?_,hsto,by dsimp only;omega,hstd⟩,ai,by exact ae⟩
   ·intro a i
    rw [if_neg (fun q=>q h0)]
    exact hts a i
   ·intro i
    rw [if_neg (fun q=>q.1 h0),Int.add_zero]
  have h0' : 0<m.m.to:=ab
  obtain ⟨o1,o2⟩:=hstk m.m.to m.m.item
  have hcl:=hts m.m.to m.m.item
  rw [if_neg h0]
  refine G.ent (L':=stkP (df st m.m.to m.m.item)::rlL b S.shard { y with stks:=st,sad:=sad',scap:=scap' } (obj b7 cq [.int .i64 (S.shard*4294967296+(y.flows.length:Int)),.int .i64 (S.shard*4294967296+(y.steps.length:Int)),.int .i64 s.kind,.int .i64 s.tick,.int .i64 s.actor,.int .i64 m.m.frm,.int .i64 m.m.to,.int .i64 m.m.item,.int .i64 m.m.n,.slice pad pts.length pcap,.slice mad (de (s.m.at (aK S)) W m.m).length mcap]::isl (encZ .i64) 1 mad (de (s.m.at (aK S)) W m.m)::isl ah 3 pad pts::obj b4 aU (aB s)::obj b5 tMv (aF m)::L)) ?_ ?_
  ·simp only [rlL,aJ]
   refine (Ent.at (A:=allP rsP st) (oo m.m.to m.m.item)).trans ?_
   exact ae
  simp only [rlL,aJ]
  repeat first|refine aa ?_|intro _|refine bA ?_
  refine GPW.ef (Ef.d7 (mj (b:=b) (sh:=S.shard) (x:={ y with stks:=st,sad:=sad',scap:=scap' }) m.m.to m.m.item (by dsimp only;omega)) rfl) ac ?_
  rintro _ _ ⟨rfl,rfl⟩
  dsimp only
  rw [← hcl] at o1 o2 ⊢
  generalize hsk:df st m.m.to m.m.item=sk at *
  have hlot:LotOk (S.shard*4294967296+(y.flows.length:Int),0,m.m.n):=by
   unfold LotOk
   dsimp only
   omega
  have hpl:=ns (f:=S.shard*4294967296+(y.flows.length:Int)) (n:=m.m.n) o2 hn1
  have hpll:(aR sk.lots (S.shard*4294967296+(y.flows.length:Int),0,m.m.n)).length=sk.lots.length+1:=by rw [hpl];simp
  repeat first|refine aa ?_|intro _|refine bA ?_
  refine GPW.ent (Ent.at (A:=stkP sk) (Ent.refl _)) ?_
  refine GPW.ef (Ef.d7 (kw sk.ad sk.lots.length sk.cap sk.lots (S.shard*4294967296+(y.flows.length:Int),0,m.m.n) rfl ab (fun q hq=>(o2 q hq).w) hlot.w) rfl) ac ?_
  rintro _ _ ⟨ad2,c2,rfl,rfl⟩
  by_cases hbl:4096≤sk.lots.length
  ·rw [if_pos hbl]
   repeat first|refine aa ?_|intro _|refine bA ?_
   exact KX.d7 ag ae ⟨{ y with stks:=st,sad:=sad',scap:=scap' },rfl,⟨⟨rfl,rfl,rfl,rfl⟩,fun q=>absurd (show (4:Int)=0 from q) ab⟩,rfl⟩
  repeat first|refine aa ?_|intro _|refine bA ?_
  refine GO.ent (L':=rlL b S.shard { y with stks:=st,sad:=sad',scap:=scap' } (stkP ⟨ad2,c2,aR sk.lots (S.shard*4294967296+(y.flows.length:Int),0,m.m.n)⟩::obj b7 cq [.int .i64 (S.shard*4294967296+(y.flows.length:Int)),.int .i64 (S.shard*4294967296+(y.steps.length:Int)),.int .i64 s.kind,.int .i64 s.tick,.int .i64 s.actor,.int .i64 m.m.frm,.int .i64 m.m.to,.int .i64 m.m.item,.int .i64 m.m.n,.slice pad pts.length pcap,.slice mad (de (s.m.at (aK S)) W m.m).length mcap]::isl (encZ .i64) 1 mad (de (s.m.at (aK S)) W m.m)::isl ah 3 pad pts::obj b4 aU (aB s)::obj b5 tMv (aF m)::L)) (by
   refine (Ent.frz ad2).trans ?_
   simp only [rlL,aJ]
   exact ae) ?_
  refine GO.ef (Ef.d7 (na b S.shard { y with stks:=st,sad:=sad',scap:=scap' } m.m.to m.m.item ⟨ad2,c2,aR sk.lots (S.shard*4294967296+(y.flows.length:Int),0,m.m.n)⟩ (by dsimp only;omega)) rfl) ac ?_
  rintro _ _ ⟨ad',cap',rfl⟩
  simp only [rlL,aJ]
  repeat first|refine aa ?_|intro _|refine bA ?_
  refine ⟨(rset st m.m.to m.m.item ⟨ad2,c2,aR sk.lots (S.shard*4294967296+(y.flows.length:Int),0,m.m.n)⟩,ad',cap'),⟨fun q=>hbl q.2,?_,?_,?_,pZ _ _ _ _,oh hstd⟩,ai,by exact ae⟩
  ·intro a i
   dsimp only
   rw [if_pos h0,nb]
   unfold upd2
   rw [← hfid]
   split
   ·rfl
   ·exact hts a i
  ·intro i
   dsimp only
   rw [og,hsk]
   by_cases hq:i=m.m.item
   ·rw [if_pos hq,if_pos ⟨h0,hq⟩]
    dsimp only
    rw [nq]
    dsimp only
    omega
   ·rw [if_neg hq,if_neg (fun q=>hq q.2)]
  ·intro u hu
   rcases pY hu with h|h
   ·exact hsto u h
   ·rw [h]
    dsimp only
    exact ⟨ab,nr o2 hlot.w⟩
 rintro ⟨st2,sad2,scap2⟩ ⟨hnl,hts2,hsum2,hok2,hlen2,hdist2⟩
 dsimp only at hnl hts2 hsum2 hok2 hlen2 hdist2 ⊢
 have hnf:fC S.shard S.flows.length (bC S.cat) (s.m.at (aK S)) W m.m=⟨cC S.shard S.flows.length W,aK S,s.kind,s.tick,s.actor,m.m.frm,m.m.to,m.m.item,m.m.n,pts,de (s.m.at (aK S)) W m.m⟩:=by unfold fC;rw [hpts];rfl
 generalize fC S.shard S.flows.length (bC S.cat) (s.m.at (aK S)) W m.m=fl at *
 have hcell:bF (flV fl pad pcap mad mcap)=[.int .i64 (S.shard*4294967296+(y.flows.length:Int)),.int .i64 (S.shard*4294967296+(y.steps.length:Int)),.int .i64 s.kind,.int .i64 s.tick,.int .i64 s.actor,.int .i64 m.m.frm,.int .i64 m.m.to,.int .i64 m.m.item,.int .i64 m.m.n,.slice pad pts.length pcap,.slice mad (de (s.m.at (aK S)) W m.m).length mcap]:=by
  rw [hnf,hfid,hsid]
  rfl
 have hflm:fl.made=de (s.m.at (aK S)) W m.m:=by rw [hnf]
 have hflp:fl.parts=pts:=by rw [hnf]
 have hfls:fl.step=aK S:=by rw [hnf]
 have hflt:fl.to=m.m.to:=by rw [hnf]
 have hfli:fl.id=cC S.shard S.flows.length W:=by rw [hnf]
 have hsnk:=qN (aK S) y.flows (flV fl pad pcap mad mcap)
 rw [← hcell,← hflm,← hflp]
 simp only [rlL,aJ]
 repeat first|refine aa ?_|intro _|refine bA ?_
 refine GPW.ef (Ef.d8 (enc:=bF) (e:=flV fl pad pcap mad mcap) rfl rfl rfl rfl rfl (by rfl) (jj _) ab ab) ac ?_
 rintro _ _ ⟨fad2,fcap2,rfl,rfl⟩
 repeat first|refine aa ?_|intro _|refine bA ?_
 have hy' : RW S { y with stks:=st2,sad:=sad2,scap:=scap2,flows:=y.flows++[flV fl pad pcap mad mcap],fad:=fad2,fcap:=fcap2 } ⟨if m.m.to≠0 then upd2 (gStk (bC S.cat) W m.m) m.m.to m.m.item (aR (gStk (bC S.cat) W m.m m.m.to m.m.item) (cC S.shard S.flows.length W,0,m.m.n)) else gStk (bC S.cat) W m.m,upd W.tot m.m.item (cI W m.m),W.flows++[fl],if m.m.to=0 then W.sunk++[cC S.shard S.flows.length W] else W.sunk⟩:=by
  refine ⟨hR.cat,hR.catB,hR.steps,?_,?_,?_,hok2,?_,hdist2,?_⟩
  ·dsimp only
   rw [aS,hR.flows,az]
   rfl
  ·intro a i
   dsimp only
   rw [hts2]
   split<;>rfl
  ·intro i
   dsimp only
   rw [hsum2,hsum]
   unfold upd cI
   by_cases hq:i=m.m.item
   ·subst hq
    rw [if_pos rfl]
    by_cases q1:m.m.frm=0
    ·have q2:m.m.to≠0:=fun q=>hne (q1.trans q.symm)
     rw [if_neg (fun q=>q.1 q1),if_pos ⟨q2,rfl⟩,if_pos q1,if_neg q2]
     omega
    ·by_cases q2:m.m.to=0
     ·rw [if_pos ⟨q1,rfl⟩,if_neg (fun q=>q.1 q2),if_neg q1,if_pos q2]
      omega
     ·rw [if_pos ⟨q1,rfl⟩,if_pos ⟨q2,rfl⟩,if_neg q1,if_neg q2]
      omega
   ·rw [if_neg hq,if_neg (fun q=>hq q.2),if_neg (fun q=>hq q.2)]
    omega
  ·simp only [ax,bj,bZ]
   omega
  ·dsimp only
   rw [hsnk]
   dsimp only [flV]
   rw [hfls,hflt,hfli,hR.sunk]
   by_cases q:m.m.to=0
   ·rw [if_pos ⟨rfl,q⟩,if_pos q]
   ·rw [if_neg (fun x=>q x.2),if_neg q]
 have hent:Ent (isl (encZ .i64) 1 mad fl.made::isl ah 3 pad fl.parts::obj b tRL (aJ S.shard { y with stks:=st2,sad:=sad2,scap:=scap2,flows:=y.flows++[flV fl pad pcap mad mcap],fad:=fad2,fcap:=fcap2 })::osl fS 3 tRS sad2 scap2 st2::osl bF 11 cq fad2 fcap2 (y.flows++[flV fl pad pcap mad mcap])::osl aB 7 aU y.tad y.tcap y.steps::catP y.cat::allP rsP st2::allP flP y.flows::allP aX y.steps::L) (rlL b S.shard { y with stks:=st2,sad:=sad2,scap:=scap2,flows:=y.flows++[flV fl pad pcap mad mcap],fad:=fad2,fcap:=fcap2 } L):=by
  refine (Ent.at (A:=isl ah 3 pad fl.parts) (Ent.refl _)).trans ?_
  refine (Ent.at (A:=isl (encZ .i64) 1 mad fl.made) (Ent.refl _)).trans ?_
  refine Ent.trans (B:=isl ah 3 pad fl.parts::isl (encZ .i64) 1 mad fl.made::allP flP y.flows::obj b tRL (aJ S.shard { y with stks:=st2,sad:=sad2,scap:=scap2,flows:=y.flows++[flV fl pad pcap mad mcap],fad:=fad2,fcap:=fcap2 })::osl fS 3 tRS sad2 scap2 st2::osl bF 11 cq fad2 fcap2 (y.flows++[flV fl pad pcap mad mcap])::osl aB 7 aU y.tad y.tcap y.steps::catP y.cat::allP rsP st2::allP aX y.steps::L) ae ?_
  refine (Ent.e9 (bJ _ _ _ _) (bJ _ _ _ _)).trans ?_
  refine (mg (f:=flP) (e:=flV fl pad pcap mad mcap) lW).trans ?_
  simp only [rlL]
  exact ae
 by_cases h0:m.m.to=0
 ·rw [if_pos h0]
  rw [if_neg (fun q=>q h0),if_pos h0] at hy'
  exact KX.d7 ag (Ent.trans ae hent) ⟨{ y with stks:=st2,sad:=sad2,scap:=scap2,flows:=y.flows++[flV fl pad pcap mad mcap],fad:=fad2,fcap:=fcap2 },rfl,⟨⟨rfl,rfl,rfl,rfl⟩,fun _=>hy'⟩,rfl⟩
 ·rw [if_neg h0,if_neg (fun q=>hnl ⟨h0,q⟩)]
  rw [if_pos h0,if_neg h0] at hy'
  exact KX.d7 ag (Ent.trans ae hent) ⟨{ y with stks:=st2,sad:=sad2,scap:=scap2,flows:=y.flows++[flV fl pad pcap mad mcap],fad:=fad2,fcap:=fcap2 },rfl,⟨⟨rfl,rfl,rfl,rfl⟩,fun _=>hy'⟩,rfl⟩
end Go.Proofs.YtommnllbflbdmaaGreatDoor
