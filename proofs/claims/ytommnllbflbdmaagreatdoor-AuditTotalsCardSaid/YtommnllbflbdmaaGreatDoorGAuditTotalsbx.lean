/- Lemmas and contracts of functions. -/
import Derived.Test.YtommnllbflbdmaaGreatDoorGAuditTotalsbw
import Derived.Test.YtommnllbflbdmaaGreatDoorGAuditTotalsbd
import Derived.Test.YtommnllbflbdmaaGreatDoorRows
import Derived.Test.YtommnllbflbdmaaGreatDoorGAuditTotalsae
import Derived.Test.YtommnllbflbdmaaGreatDoorGAuditTotalsaw
import Derived.ProofKit
import Derived.LaidMore
import Derived.OpenShut
import Derived.Stop.Joined
set_option linter.all false
set_option maxHeartbeats 16000000
namespace Go.Proofs.YtommnllbflbdmaaGreatDoor
section
open Go.V
theorem vt {sh:Int} {c:CatM} (h:0≤sh∧sh<12):(led0 sh c).Ok:=⟨h,al _,al _,fun _ _=>⟨al _,(fun _ hx=>by cases hx)⟩,fun _=>by show -(((0:Nat):Int)*1099511627776)≤(0:Int)∧(0:Int)≤1099511627776;omega⟩
theorem yP {s:StV} (hk:s.kind=0∨s.kind=2) (hm:∃ u,u.m.parts=[]∧s.moves=[u]) (hc:1≤s.mcap) (hr:s.rule = -1):StIn s:=by
 obtain ⟨u,hu,hm⟩:=hm
 refine ⟨?_,by rw [hm];show 1≤1000000;decide,by rw [hm];exact hc,by rw [hr];unfold I64;decide,fun m h=>?_⟩
 ·rcases hk with h|h
  ·exact .inl h
  ·exact .inr (.inr (.inr (.inl h)))
 ·rw [hm] at h
  rw [List.mem_singleton.1 h,hu]
  decide
theorem exMv_ent {b:Nat} {f t n:Int} {L:List HP}:Ent (obj b tMv [.int .i64 f,.int .i64 t,.int .i64 0,.int .i64 n,.slice none 0 0]::L) (isl aF 5 (some ⟨b,0,none⟩) [(⟨⟨f,t,0,n,[]⟩,none,0⟩:MvV)]::allP mvP [(⟨⟨f,t,0,n,[]⟩,none,0⟩:MvV)]::L) :=
 (Ent.f7 (enc:=aF) (sz:=5) (xs:=[(⟨⟨f,t,0,n,[]⟩,none,0⟩:MvV)]) (n:=1) rfl rfl (fun _ _=>rfl) ac).trans (Ent.freezeSl.trans (Ent.d7 ((Ent.e8 ah 3 none).trans (Ent.f8 (f:=mvP) (x:=(⟨⟨f,t,0,n,[]⟩,none,0⟩:MvV)) gZ))))
attribute [local irreducible] G GO GP GPW GPK GF GE Ev Ef EfR Ent CB GB V.Enters
theorem vq {L:List HP}:Tri Tryz.prog 16 #[] (cu::L) (fun v L'=>v=.bool true∧L' = cu::L):=by
 refine Tri.body (args:=[]) 144 en16 Tryz.func16 rfl rfl rfl (by simp) ?_
 repeat first|refine aa ?_|intro
 refine GO.ef (Ef.d7 (so) rfl) ac ?_
 rintro _ _ ⟨c,rfl,⟨hc,hB⟩,rfl⟩
 have hcg:CatGood c.m:=hc▸AS
 simp only [CatV.cells]
 repeat first|refine aa ?_|intro
 rename_i b1
 refine GO.ent (L':=catP c::cu::obj b1 tCat c.cells::L) (by simp only [CatV.cells];exact ae) ?_
 refine GO.ef (Ef.d7 (Av 0 c ac hB hcg) rfl) ac ?_
 rintro _ _ ⟨lb,rfl,rfl⟩
 rw [hc]
 repeat first|refine aa ?_|intro
 rename_i bm0
 refine GO.ent (L':=LedR lb (led0 0 cat22)::stM (exVS none 0 (some ⟨bm0,0,none⟩) 1)::stP (exVS none 0 (some ⟨bm0,0,none⟩) 1)::catP c::cu::obj b1 tCat c.cells::L) (exMv_ent.trans ae) ?_
 refine GO.ef (Ef.d7 (sH lb (led0 0 cat22) (vt ac) qz (exVS none 0 (some ⟨bm0,0,none⟩) 1) (yP (.inl rfl) ⟨_,rfl,rfl⟩ (aw _) rfl) zh) rfl) ac ?_
 rintro _ _ ⟨rfl,rfl⟩
 rw [show jX (led0 0 cat22) (exVS none 0 (some ⟨bm0,0,none⟩) 1).m=exL1 from yQ]
 refine GO.ent (L':=LedR lb exL1::catP c::cu::obj b1 tCat c.cells::L) ae ?_
 repeat first|refine aa ?_|intro
 rename_i bm1
 refine GO.ent (L':=LedR lb exL1::stM (exVT 3 none 0 (some ⟨bm1,0,none⟩) 1)::stP (exVT 3 none 0 (some ⟨bm1,0,none⟩) 1)::catP c::cu::obj b1 tCat c.cells::L) (exMv_ent.trans ae) ?_
 have hok1:exL1.Ok:=by rw [← yQ];exact Dd (vt ac) zh
 refine GO.ef (Ef.d7 (sH lb exL1 hok1 qz ({ exVT 3 none 0 (some ⟨bm1,0,none⟩) 1 with id:=0 }:StV) (yP (.inr rfl) ⟨_,rfl,rfl⟩ (aw _) rfl) zh) rfl) ac ?_
 rintro _ _ ⟨rfl,rfl⟩
 rw [show jX exL1 ({ exVT 3 none 0 (some ⟨bm1,0,none⟩) 1 with id:=0 }:StV).m=exL2 from EL]
 refine GO.ent (L':=LedR lb exL2::catP c::cu::obj b1 tCat c.cells::L) ae ?_
 repeat first|refine aa ?_|intro
 have hst2:∀ s∈exL2.steps,s.moves.length≤64∧∀ u∈s.moves,u.parts.length≤1000000:=by
  intro s hs
  rcases List.mem_cons.1 hs with rfl|hs
  ·exact ⟨by show 1≤64;decide,fun u hu=>by rw [List.mem_singleton.1 hu];show 0≤1000000;decide⟩
  ·rw [List.mem_singleton.1 hs]
   exact ⟨by show 1≤64;decide,fun u hu=>by rw [List.mem_singleton.1 hu];show 0≤1000000;decide⟩
 have hfl2:∀ f∈exL2.flows,f.parts.length≤1000000∧f.made.length≤1000000:=by
  intro f hf
  rcases List.mem_cons.1 hf with rfl|hf
  ·exact ⟨by show 0≤1000000;decide,by show 0≤1000000;decide⟩
  ·rw [List.mem_singleton.1 hf]
   exact ⟨by show 1≤1000000;decide,by show 0≤1000000;decide⟩
 refine GO.ef (Ef.d7 (wt lb exL2 hst2 (by show 2≤100000;decide)) rfl) ac ?_
 rintro _ _ ⟨sad,scap,ss,rfl,hss,rfl⟩
 have hsl:ss.length=2:=by rw [← aD (f:=StV.m),hss];rfl
 rw [hsl]
 repeat first|refine aa ?_|intro
 refine GO.ent (L':=LedR lb exL2::osl aB 7 aU sad scap ss::bigO stO ss::catP c::cu::obj b1 tCat c.cells::L) ae ?_
 refine GO.ef (Ef.d7 (yi lb exL2 hfl2 (by show 2≤100000;decide)) rfl) ac ?_
 rintro _ _ ⟨fad,fcap,fs,rfl,hfs,rfl⟩
 have hfl:fs.length=2:=by rw [← aD (f:=FlV.m),hfs];rfl
 rw [hfl]
 refine GO.e8 (gG (ad:=fad) (cap:=fcap) (xs:=fs) (enc:=bF) (sz:=11) (E:=cq)) ?_
 rintro ⟨hfc,_⟩
 rw [hfl] at hfc
 obtain ⟨p0,c0,a0,k0,p1,c1,a1,k1,rfl⟩:=Ej hss
 obtain ⟨q0,d0,m0,e0,q1,d1,m1,e1,rfl⟩:=EI hfs
 generalize hs0:exVS p0 c0 a0 k0=s0 at *
 generalize hs1:exVT 3 p1 c1 a1 k1=s1 at *
 generalize hf0:(⟨exF0,q0,d0,m0,e0⟩:FlV)=f0 at *
 generalize hf1:(⟨exF1 0,q1,d1,m1,e1⟩:FlV)=f1 at *
 refine GO.ent (L':=osl aF 5 tMv s0.mad s0.mcap s0.moves::stP s0::osl aF 5 tMv s1.mad s1.mcap s1.moves::stP s1::osl ah 3 tLot f0.pad f0.pcap f0.m.parts::osl (encZ .i64) 1 tInt f0.mad f0.mcap f0.m.made::osl ah 3 tLot f1.pad f1.pcap f1.m.parts::osl (encZ .i64) 1 tInt f1.mad f1.mcap f1.m.made::osl aB 7 aU sad scap [s0,s1]::osl bF 11 cq fad fcap [f0,f1]::catP c::(cu::obj b1 tCat c.cells::L)) ?_ ?_
 ·refine (Ent.at (A:=bigO stO [s0,s1]) AD).trans ?_
  refine (Ent.at (A:=bigO flO [f0,f1]) AE).trans ?_
  exact ae
 refine GO.e8 (gG (ad:=s0.mad) (cap:=s0.mcap) (xs:=s0.moves) (enc:=aF) (sz:=5) (E:=tMv)) ?_
 rintro ⟨hk0,_⟩
 refine GO.e8 (gG (ad:=s1.mad) (cap:=s1.mcap) (xs:=s1.moves) (enc:=aF) (sz:=5) (E:=tMv)) ?_
 rintro ⟨hk1,_⟩
 refine GO.ent Ct ?_
 have hAS:AudS [s0,s1]:=by subst hs0 hs1;exact Cw hk0 hk1
 have hAF:AudFl [f0,f1]:=by subst hf0 hf1;exact yR
 have hpl:f1.m.parts.length=1:=by subst hf1;rfl
 have hml:s1.moves.length=1:=by subst hs1;rfl
 repeat first|refine aa ?_|intro
 have hco:c.m.Ok:=hc▸qz
 have hb2:∀ s∈[s0,s1],s.moves.length≤1000000:=fun s hs=>(hAS.inp s hs).1.len
 refine GO.ef (Ef.d7 (oS c hB hco sad fad scap fcap s0 s1 f0 f1 hAS hAF hfc) rfl) ac ?_
 rintro _ _ ⟨rfl,rfl⟩
 rw [show audF 0 c.m [s0.m,s1.m] [f0.m,f1.m]=(0,0,0) by subst hs0 hs1 hf0 hf1;rw [hc];exact Fo]
 simp only [fL]
 refine GO.f7 rfl rfl ?_
 refine GO.ev (Ev.B8 (off:=0) (fs:=Tryz.prog.fieldsOf tFnd) (fd:=(Tryz.prog.fieldsOf tFnd)[0]!) an an an (fun _=>by kernel_rfl) rfl rfl) ac ?_
 repeat first|refine aa ?_|intro
 refine GO.ef (Ef.d7 (ze 4 c sad fad scap s0 s1 f0 f1 hb2) rfl) ac ?_
 rintro _ _ ⟨⟨tad,tcap⟩,rfl,rfl⟩
 rw [show resT 4 [s0,s1]=(0,[5,0,0,0]) by subst hs0 hs1;exact Fx]
 dsimp only
 repeat first|refine aa ?_|intro
 refine GO.ent (L':=hM c sad fad s0 s1 f0 f1 (osl (encZ .i64) 1 tInt tad tcap [5,0,0,0]::cu::obj b1 tCat c.cells::L)) (by simp only [hM];exact ae) ?_
 refine GO.ef (Ef.d7 (vz 4 c sad fad scap s0 s1 f0 f1 (by subst hs0 hs1;show 2≤100000;decide)) rfl) ac ?_
 rintro _ _ ⟨⟨had,hcap,hs⟩,⟨rfl,_,hh⟩,rfl⟩
 have hH:=@Fz p0 c0 a0 k0 p1 c1 a1 k1
 rw [hs0,hs1] at hH
 rw [if_pos hH.1] at hh
 obtain rfl:hs=[(1,0,2),(2,0,3)]:=hh.unique hH.2 (fun _ _=>rfl)
 dsimp only
 rw [hH.1]
 repeat first|refine aa ?_|intro
 have eF:([f0,f1]:List FlV)[Int.toNat 1]! = f1:=rfl
 have eT:([5,0,0,0]:List Int).length=4:=rfl
 have eH:([(1,0,2),(2,0,3)]:List Hd).length=2:=rfl
 rw [eF]
 simp only [eT,eH]
 repeat first|refine aa ?_|intro
 have hp0:(Int.toNat 0)<f1.m.parts.length:=by rw [hpl];decide
 refine GO.efu (Ef.f9 (e:=((f1.m.parts[Int.toNat 0]!.1,1,f1.m.parts[Int.toNat 0]!.2.2):Lot)) rfl rfl (by rfl) rfl hp0 ac) ?_
 rintro _ _ rfl
 obtain ⟨f2,hf2⟩:∃ f,(⟨exF1 1,q1,d1,m1,e1⟩:FlV)=f:=⟨_,rfl⟩
 have g1:f2.pad=f1.pad:=by subst hf1 hf2;rfl
 have g2:f2.pcap=f1.pcap:=by subst hf1 hf2;rfl
 have g3:f2.m.parts=f1.m.parts.set (Int.toNat 0) (f1.m.parts[Int.toNat 0]!.1,1,f1.m.parts[Int.toNat 0]!.2.2):=by subst hf1 hf2;rfl
 have g4:f2.mad=f1.mad:=by subst hf1 hf2;rfl
 have g5:f2.m.made=f1.m.made:=by subst hf1 hf2;rfl
 have g6:[f0,f1].map bF=[f0,f2].map bF:=by subst hf1 hf2;rfl
 have hAF2:AudFl [f0,f2]:=by subst hf0 hf2;exact yR
 refine GO.ent (L':=hM c sad fad s0 s1 f0 f2 (osl (encZ .i64) 1 tInt tad tcap [5,0,0,0]::osl cV 3 tHd had hcap [(1,0,2),(2,0,3)]::cu::obj b1 tCat c.cells::L)) ?_ ?_
 ·simp only [hM]
  rw [g1,g2,g3,g4,g5]
  refine (Ent.at (A:=isl bF 11 fad [f0,f1]) (Ent.m9 g6)).trans ?_
  exact ae
 repeat first|refine aa ?_|intro
 refine GO.ef (Ef.d7 (oS c hB hco sad fad scap fcap s0 s1 f0 f2 hAS hAF2 hfc) rfl) ac ?_
 rintro _ _ ⟨rfl,rfl⟩
 rw [show audF 0 c.m [s0.m,s1.m] [f0.m,f2.m]=(20,0,1) by subst hs0 hs1 hf0 hf2;rw [hc];exact Fm]
 simp only [fL]
 repeat first|refine aa ?_|intro
 rename_i b10
 have eS:([s0,s1]:List StV)[Int.toNat 1]! = s1:=rfl
 rw [eS]
 have hm0:(Int.toNat 0)<s1.moves.length:=by rw [hml];decide
 repeat first|refine aa ?_|intro
 refine GO.efu (Ef.f9 (e:=(⟨⟨s1.moves[Int.toNat 0]!.m.frm,s1.moves[Int.toNat 0]!.m.to,s1.moves[Int.toNat 0]!.m.item,6,s1.moves[Int.toNat 0]!.m.parts⟩,s1.moves[Int.toNat 0]!.pad,s1.moves[Int.toNat 0]!.pcap⟩:MvV)) rfl rfl (by rfl) rfl hm0 ac) ?_
 rintro _ _ rfl
 obtain ⟨s2,hs2⟩:∃ s,exVT 6 p1 c1 a1 k1=s:=⟨_,rfl⟩
 have k1e:s2.mad=s1.mad:=by subst hs1 hs2;rfl
 have k2e:s2.mcap=s1.mcap:=by subst hs1 hs2;rfl
 have k3e:s2.moves=s1.moves.set (Int.toNat 0) ⟨⟨s1.moves[Int.toNat 0]!.m.frm,s1.moves[Int.toNat 0]!.m.to,s1.moves[Int.toNat 0]!.m.item,6,s1.moves[Int.toNat 0]!.m.parts⟩,s1.moves[Int.toNat 0]!.pad,s1.moves[Int.toNat 0]!.pcap⟩:=by subst hs1 hs2;rfl
 have k4e:[s0,s1].map aB=[s0,s2].map aB:=by subst hs1 hs2;rfl
 have k5e:∀ y∈s2.moves,∃ x∈s1.moves,mvP y=mvP x:=by
  subst hs1 hs2
  intro y hy
  rw [List.mem_singleton.1 hy]
  exact ⟨_,ap,rfl⟩
 have hAS2:AudS [s0,s2]:=by subst hs0 hs1 hs2;exact Cw hk0 hk1
 refine GO.ent (L':=hM c sad fad s0 s2 f0 f2 (osl (encZ .i64) 1 tInt tad tcap [5,0,0,0]::osl cV 3 tHd had hcap [(1,0,2),(2,0,3)]::cu::obj b10 tFnd [.int .i64 20,.int .i64 0,.int .i64 1]::obj b1 tCat c.cells::L)) ?_ ?_
 ·simp only [hM]
  refine (Ent.at (A:=isl aB 7 sad [s0,s1]) (Ent.m9 k4e)).trans ?_
  refine (Ent.at (A:=allP mvP s1.moves) (Ent.m6 k5e)).trans ?_
  rw [← k3e,k1e,k2e]
  exact ae
 repeat first|refine aa ?_|intro
 refine GO.ef (Ef.d7 (oS c hB hco sad fad scap fcap s0 s2 f0 f2 hAS2 hAF2 hfc) rfl) ac ?_
 rintro _ _ ⟨rfl,rfl⟩
 rw [show audF 0 c.m [s0.m,s2.m] [f0.m,f2.m]=(10,0,1) by subst hs0 hs2 hf0 hf2;rw [hc];exact Fl]
 simp only [fL]
 repeat first|refine aa ?_|intro
 rename_i b11
 exact KX.d7 ag (by simp only [hM];exact ae) ⟨by rw [aL (show ([(1,0,2),(2,0,3)]:List Hd)[Int.toNat 1]!.2.2=3 from rfl)];rfl,rfl⟩
end
section
open Go.V
def ny (v:Value):List Value:=[v]
theorem sO:∀ {ss:List StV} {k:Nat},(∀ s∈ss,s.moves.length≤k)→(cW ss).length≤k*ss.length
 | [],_,_=>al _
 | s::ss,k,h=>by
  have h1:=sO (ss:=ss) (fun u hu=>h u (ao _ hu))
  have h2:=h s ap
  have e:cW (s::ss)=s.moves.map MvV.m++cW ss:=rfl
  rw [e,ax,aD,bj,fY]
  omega
structure StTs (ss:List StV):Prop where
 len:ss.length≤100
 mv:∀ s∈ss,s.moves.length≤4
theorem StTs.tot {ss:List StV} (h:StTs ss):ss.length≤1000000∧(∀ s∈ss,s.moves.length≤1000000)∧(cW ss).length≤100000:=by
 have h1:=h.len
 have h2:=sO h.mv
 exact ⟨ab,fun s hs=>by have:=h.mv s hs;omega,ab⟩
theorem StG0.len {s:StV} (h:StG0 s):s.moves.length≤4:=h.sp.len
theorem EW {ss ss' : List StV} (h:SpL ss ss') (hs:∀ s∈ss,StG0 s) (hl:ss.length≤100):StTs ss':=by
 refine ⟨by rw [h.len];exact hl,fun s hs'=>?_⟩
 rcases h with rfl|⟨k,s',hk,h1,rfl⟩
 ·exact (hs s hs').len
 ·rcases cj hs' with g|rfl
  ·exact (hs s g).len
  ·exact h1.len
attribute [local irreducible] G GO GP GPW GPK GF GE Ev Ef EfR Ent CB GB V.Enters
abbrev Ak:List Stp:=[.ev 0,.ev 1,.ev 2,.ev 3,.ev 4,.ev 5,.ev 6,.ev 7,.ev 8]
theorem gO {φ ψ:Prop} (k:ψ) (h:Hid ψ→φ:=by intro k;(with_reducible apply G.d8);first|refine G.d7 (N:=26) (id:=6) Ak mixed an (Hid.out k)):φ:=h ⟨k⟩
theorem rS {L:List HP} (ad1 ad2:Option Addr) (n1 n2 c1 c2:Nat) (xs ys:List Int) [Rds L ad1 Int (encZ .i64) 1 xs] [Rds L ad2 Int (encZ .i64) 1 ys] (h1:n1=xs.length) (h2:n2=ys.length) (hl:xs.length≤9223372036854775807) :
  Tri Tryz.prog 21 #[.slice ad1 n1 c1,.slice ad2 n2 c2] L (fun v L'=>v=.bool (dB (xs=ys))∧L' = L):=by
 subst h1 h2
 refine Tri.body (args:=[.slice ad1 xs.length c1,.slice ad2 ys.length c2]) 26 en21 Tryz.func21 rfl rfl rfl (by simp) ?_
 by_cases he:xs.length=ys.length
 case neg =>
  rw [aC (fun h:xs=ys=>he (by rw [h]))]
  repeat first|refine aa ?_|intro _|refine gO ?_
  exact KX.d7 ag (Ent.refl _) ⟨rfl,rfl⟩
 repeat first|refine aa ?_|intro _|refine gO ?_
 refine G.loop (α:=Nat) (fun i=>i≤xs.length∧xs.take i=ys.take i) (fun i=>[(0,.slice ad1 xs.length c1),(1,.slice ad2 ys.length c2),(5,.int .i64 (i:Int))]) (fun _=>L) (fun i=>xs.length - i) 0 ⟨al _,by simp⟩ ai (Ent.refl _) ?_
 rintro i ⟨hi,ht⟩
 by_cases hlt:i<xs.length
 case neg =>
  have e:xs=ys:=by
   rw [aA ab,aA ab] at ht
   exact ht
  rw [aL e]
  repeat first|refine aa ?_|intro _|refine gO ?_
  exact KX.d7 ag (Ent.refl _) ⟨rfl,rfl⟩
 have hii:(i:Int).toNat=i:=ab
 by_cases e:xs[(i:Int).toNat]! = ys[(i:Int).toNat]!
 ·repeat first|refine aa ?_|intro _|refine gO ?_
  refine ⟨i+1,⟨ab,?_⟩,ab,?_,Ent.refl _⟩
  ·rw [hii] at e
   rw [ay hlt,ay ab,ht]
   rw [getElem!_of hlt,getElem!_of (show i<ys.length by omega)] at e
   rw [e]
  ·rw [aM i]
   exact ai
 ·rw [aC (fun h:xs=ys=>e (by rw [h]))]
  repeat first|refine aa ?_|intro _|refine gO ?_
  exact KX.d7 ag (Ent.refl _) ⟨rfl,rfl⟩
abbrev BG:List Stp:=[.ev 0,.ev 1,.ev 2,.ev 3,.ev 4,.ev 5,.ev 6,.ev 7,.ef 8,.ev 9,.ev 10,.ev 11,.ev 12,.ev 13]
abbrev BF:List Stp:=[.ev 0,.ev 1,.ev 2,.ev 3,.ev 4,.ev 5,.ev 6,.ev 7,.ef 8,.ev 9,.ev 10,.ev 11,.ev 12,.ev 13]
abbrev Aj:List Stp:=[.ev 0,.ev 1,.ev 2,.ev 3,.ev 4,.ev 5,.ev 6,.ev 7,.ef 8,.ev 9,.ev 10,.ev 11,.ev 12,.ev 13]
abbrev Ai:List Stp:=[.ev 0,.ev 1,.ev 2,.ev 3,.ev 4,.ev 5,.ev 6,.ev 7,.ef 8,.ev 9,.ev 10,.ev 11,.ev 12,.ev 13]
theorem dj {φ ψ:Prop} (k:ψ) (h:Hid ψ→φ:=by intro k;(with_reducible apply G.d8);first|refine G.d7 (N:=119) (id:=8) BG mixed an (Hid.out k)|refine G.d7 (N:=119) (id:=9) BF mixed an (Hid.out k)|refine G.d7 (N:=119) (id:=10) Aj mixed an (Hid.out k)|refine G.d7 (N:=119) (id:=11) Ai mixed an (Hid.out k)):φ:=h ⟨k⟩
theorem qB {L:List HP} (ad:Option Addr) (n c:Nat) (xs:List Int) [hrd:Rds L ad Int (encZ .i64) 1 xs] (hn:n=xs.length) (hm:n≤9223372036854775807) (hx:∀ x∈xs,I64 x) (at_:Int) (ha:I64 at_) (which:Int) (hw:I64 which) (by_:Int) (hb:I64 by_) (items:Int) (hi:I64 items) :
  Tri Tryz.prog 4 #[.slice ad n c,.int .i64 at_,.int .i64 which,.int .i64 by_,.int .i64 items] (cu::L) (fun v L'=>v=.bool true∧L' = L):=by
 refine Tri.body (args:=[.slice ad n c,.int .i64 at_,.int .i64 which,.int .i64 by_,.int .i64 items]) 119 en4 Tryz.func4 rfl rfl rfl (by simp) ?_
 repeat first|refine aa ?_|intro _|refine dj ?_
 refine GO.ef (Ef.d7 (zo 1 ac ad n c xs hn hx 12 ac) rfl) ac ?_
 rintro _ _ ⟨b,S,x,rfl,hg,rfl⟩
 obtain ⟨e1,e2,e3,e4⟩:=hg.lens
 have e5:=hg.steps
 simp only [rlL,aJ]
 repeat first|refine aa ?_|intro _|refine dj ?_
 refine GO.ent (L':=allP aX x.steps::(obj b tRL (aJ 1 x)::osl fS 3 tRS x.sad x.scap x.stks::osl bF 11 cq x.fad x.fcap x.flows::osl aB 7 aU x.tad x.tcap x.steps::catP x.cat::allP rsP x.stks::allP flP x.flows::cu::L)) (by simp only [aJ];exact ae) ?_
 refine GO.ef (Ef.d7 (tD x.tad x.steps.length x.tcap x.steps rfl ab hg.st at_ which by_ ha hw hb) rfl) ac ?_
 rintro _ _ ⟨ad2,cap2,ss2,rfl,hsp,rfl⟩
 simp only [aJ]
 repeat first|refine aa ?_|intro _|refine dj ?_
 rename_i bl
 refine GO.ef (Ef.d7 (nE items 67 hi ac ac) rfl) ac ?_
 rintro _ _ ⟨p,rfl,⟨hp0,hp1⟩,rfl⟩
 repeat first|refine aa ?_|intro _|refine dj ?_
 rename_i bn
 have ht1:StTs x.steps:=⟨ab,fun s hs=>(hg.st s hs).len⟩
 have ht2:StTs ss2:=EW hsp hg.st ab
 obtain ⟨LS,hLS⟩:∃ l:List Value,l=[.slice x.tad x.steps.length x.tcap,.slice ad2 ss2.length cap2,.slice ad2 ss2.length cap2,.slice none 0 0]:=⟨_,rfl⟩
 obtain ⟨NS,hNS⟩:∃ l:List Int,l=[5,5,items,p - 1]:=⟨_,rfl⟩
 have hLl:LS.length=4:=by rw [hLS];rfl
 have hNl:NS.length=4:=by rw [hNS];rfl
 have hcase:∀ i:Nat,i<4→∃ (adI:Option Addr) (capI:Nat) (ssI:List StV) (it:Int),NS[(i:Int).toNat]! = it∧LS[(i:Int).toNat]! = .slice adI ssI.length capI∧StTs ssI∧∀ M:List HP,Ent (isl aB 7 x.tad x.steps::allP aX x.steps::isl aB 7 ad2 ss2::allP aX ss2::M) (isl aB 7 adI ssI::allP aX ssI::isl aB 7 x.tad x.steps::allP aX x.steps::isl aB 7 ad2 ss2::allP aX ss2::M):=by
  have hA:∀ M:List HP,Ent (isl aB 7 x.tad x.steps::allP aX x.steps::isl aB 7 ad2 ss2::allP aX ss2::M) (isl aB 7 x.tad x.steps::allP aX x.steps::isl aB 7 x.tad x.steps::allP aX x.steps::isl aB 7 ad2 ss2::allP aX ss2::M):=fun M=>(Ent.dup (jg _ _ _ _)).trans (Ent.d7 ((Ent.swap.trans (Ent.dup (gF _ _))).trans (Ent.d7 Ent.swap)))
  have hB:∀ M:List HP,Ent (isl aB 7 x.tad x.steps::allP aX x.steps::isl aB 7 ad2 ss2::allP aX ss2::M) (isl aB 7 ad2 ss2::allP aX ss2::isl aB 7 x.tad x.steps::allP aX x.steps::isl aB 7 ad2 ss2::allP aX ss2::M):=fun M=>(Ent.at (A:=isl aB 7 ad2 ss2) (Ent.dup (jg _ _ _ _))).trans (Ent.d7 ((Ent.at (A:=allP aX ss2) (Ent.dup (gF _ _))).trans (Ent.d7 ae)))
  intro i hi4
  subst hLS hNS
  rcases (by omega:i=0∨i=1∨i=2∨i=3) with rfl|rfl|rfl|rfl
  ·exact ⟨_,_,_,_,rfl,rfl,ht1,hA⟩
  ·exact ⟨_,_,_,_,rfl,rfl,ht2,hB⟩
  ·exact ⟨_,_,_,_,rfl,rfl,ht2,hB⟩
  ·exact ⟨none,0,[],_,rfl,rfl,⟨al _,(fun s hs=>by cases hs)⟩,fun M=>(Ent.d9 aX).trans (Ent.e8 aB 7 none)⟩
 refine G.loop (α:=Nat) (fun i=>i≤4) (fun i=>[(13,.slice (some ⟨bl,0,none⟩) 4 4),(14,.slice (some ⟨bn,0,none⟩) 4 4),(15,.int .i64 (i:Int))]) (fun _=>isl aB 7 x.tad x.steps::allP aX x.steps::isl aB 7 ad2 ss2::allP aX ss2::isl ny 1 (some ⟨bl,0,none⟩) LS::isl (encZ .i64) 1 (some ⟨bn,0,none⟩) NS::cu::L) (fun i=>4 - i) 0 (al _) ai ?_ ?_
 ·refine (Ent.f7 (enc:=encZ .i64) (sz:=1) (xs:=NS) (n:=4) (by rw [hNS];rfl) hNl (fun _ _=>rfl) ac).trans (Ent.freezeSl.trans ?_)
  refine (Ent.at (A:=obj bl 26 [.slice x.tad x.steps.length x.tcap,.slice ad2 ss2.length cap2,.slice ad2 ss2.length cap2,.slice none 0 0]) ((Ent.f7 (enc:=ny) (sz:=1) (xs:=LS) (n:=4) (by rw [hLS];rfl) hLl (fun _ _=>rfl) ac).trans Ent.freezeSl)).trans ?_
  refine (Ent.at (A:=osl aB 7 aU x.tad x.tcap x.steps) Ent.freezeSl).trans ?_
  exact ae
 intro i hi4
 by_cases hlt:i<4
 case neg =>
  repeat first|refine aa ?_|intro _|refine dj ?_
  refine GO.ent (L':=cu::L) ae ?_
  refine GO.ef (Ef.d7 (vq) rfl) ac ?_
  rintro _ _ ⟨rfl,rfl⟩
  repeat first|refine aa ?_|intro _|refine dj ?_
  exact KX.d7 ag ae ⟨rfl,rfl⟩
 obtain ⟨adI,capI,ssI,it,hN,hL,hts,hE⟩:=hcase i hlt
 obtain ⟨hz1,hz2,hz3⟩:=hts.tot
 refine G.ent (L':=isl aB 7 adI ssI::allP aX ssI::isl aB 7 x.tad x.steps::allP aX x.steps::isl aB 7 ad2 ss2::allP aX ss2::isl ny 1 (some ⟨bl,0,none⟩) LS::isl (encZ .i64) 1 (some ⟨bn,0,none⟩) NS::cu::L) (hE _) ?_
 have c1:∀ {M:List HP},Tri Tryz.prog 17 #[.int .i64 NS[(i:Int).toNat]!,LS[(i:Int).toNat]!] (allP aX ssI::isl aB 7 adI ssI::M) (fun v L'=>∃ ad' cap',v=.tuple #[.slice ad' (resT it ssI).2.length cap',.int .i64 (resT it ssI).1]∧L' = osl (encZ .i64) 1 tInt ad' cap' (resT it ssI).2::allP aX ssI::isl aB 7 adI ssI::M):=by
  intro M
  rw [hN,hL]
  exact nJ it adI ssI.length capI ssI rfl hz1 hz2
 have c2:∀ {M:List HP},Tri Tryz.prog 18 #[.int .i64 NS[(i:Int).toNat]!,LS[(i:Int).toNat]!] (allP aX ssI::isl aB 7 adI ssI::M) (fun v L'=>∃ ad' cap',v=.tuple #[.slice ad' (resT it ssI).2.length cap',.int .i64 (resT it ssI).1]∧L' = osl (encZ .i64) 1 tInt ad' cap' (resT it ssI).2::allP aX ssI::isl aB 7 adI ssI::M):=by
  intro M
  rw [hN,hL]
  exact rU it adI ssI.length capI ssI rfl hz1 hz2
 have c3:∀ {M:List HP},Tri Tryz.prog 19 #[.int .i64 NS[(i:Int).toNat]!,LS[(i:Int).toNat]!] (allP aX ssI::isl aB 7 adI ssI::M) (fun v L'=>∃ ad' cap' hs,v=.tuple #[.slice ad' hs.length cap',.int .i64 (resH it ssI).1]∧(hs.length≤200000∧if (resH it ssI).1=0 then HoldL (resH it ssI).2 hs else hs=[])∧L' = osl cV 3 tHd ad' cap' hs::allP aX ssI::isl aB 7 adI ssI::M):=by
  intro M
  rw [hN,hL]
  exact lU it adI ssI.length capI ssI rfl hz1 hz3
 have c4:∀ {M:List HP},Tri Tryz.prog 20 #[.int .i64 NS[(i:Int).toNat]!,LS[(i:Int).toNat]!] (allP aX ssI::isl aB 7 adI ssI::M) (fun v L'=>∃ ad' cap' hs,v=.tuple #[.slice ad' hs.length cap',.int .i64 (resH it ssI).1]∧(hs.length≤200000∧if (resH it ssI).1=0 then HoldL (resH it ssI).2 hs else hs=[])∧L' = osl cV 3 tHd ad' cap' hs::allP aX ssI::isl aB 7 adI ssI::M):=by
  intro M
  rw [hN,hL]
  exact qe it adI ssI.length capI ssI rfl hz1 hz3
 generalize hrT:resT it ssI=T at *
 generalize hrH:resH it ssI=H at *
 obtain ⟨eT,lT⟩:=T
 obtain ⟨eH,fH⟩:=H
 dsimp only at c1 c2 c3 c4
 repeat first|refine aa ?_|intro _|refine dj ?_
 refine GPW.ent (L':=allP aX ssI::isl aB 7 adI ssI::isl aB 7 x.tad x.steps::allP aX x.steps::isl aB 7 ad2 ss2::allP aX ss2::isl ny 1 (some ⟨bl,0,none⟩) LS::isl (encZ .i64) 1 (some ⟨bn,0,none⟩) NS::cu::L) ae ?_
 refine GPW.ef (Ef.d7 (c1) rfl) ac ?_
 rintro _ _ ⟨ta,ca,rfl,rfl⟩
 repeat first|refine aa ?_|intro _|refine dj ?_
 refine GPW.ent (L':=allP aX ssI::isl aB 7 adI ssI::osl (encZ .i64) 1 tInt ta ca lT::isl aB 7 x.tad x.steps::allP aX x.steps::isl aB 7 ad2 ss2::allP aX ss2::isl ny 1 (some ⟨bl,0,none⟩) LS::isl (encZ .i64) 1 (some ⟨bn,0,none⟩) NS::cu::L) ae ?_
 refine GPW.ef (Ef.d7 (c2) rfl) ac ?_
 rintro _ _ ⟨tb,cb,rfl,rfl⟩
 repeat first|refine aa ?_|intro _|refine dj ?_
 refine GPW.ent (L':=allP aX ssI::isl aB 7 adI ssI::osl (encZ .i64) 1 tInt tb cb lT::osl (encZ .i64) 1 tInt ta ca lT::isl aB 7 x.tad x.steps::allP aX x.steps::isl aB 7 ad2 ss2::allP aX ss2::isl ny 1 (some ⟨bl,0,none⟩) LS::isl (encZ .i64) 1 (some ⟨bn,0,none⟩) NS::cu::L) ae ?_
 refine GPW.ef (Ef.d7 (c3) rfl) ac ?_
 rintro _ _ ⟨ha',hca,hsA,rfl,⟨hlA,hA⟩,rfl⟩
 repeat first|refine aa ?_|intro _|refine dj ?_
 refine GPW.ent (L':=allP aX ssI::isl aB 7 adI ssI::osl cV 3 tHd ha' hca hsA::osl (encZ .i64) 1 tInt tb cb lT::osl (encZ .i64) 1 tInt ta ca lT::isl aB 7 x.tad x.steps::allP aX x.steps::isl aB 7 ad2 ss2::allP aX ss2::isl ny 1 (some ⟨bl,0,none⟩) LS::isl (encZ .i64) 1 (some ⟨bn,0,none⟩) NS::cu::L) ae ?_
 refine GPW.ef (Ef.d7 (c4) rfl) ac ?_
 rintro _ _ ⟨hb',hcb,hsB,rfl,⟨hlB,hB⟩,rfl⟩
 have hAB:hsA=hsB:=by
  by_cases h0:eH=0
  ·rw [if_pos h0] at hA hB
   exact hA.unique hB (fun _ _=>rfl)
  ·rw [if_neg h0] at hA hB
   rw [hA,hB]
 subst hAB
 repeat first|((fail_if_success (with_reducible refine G.atS 12 ?_));(with_reducible apply G.seq))|refine bU ?_|intro _|refine dj ?_
 refine G.f8 (gG (ad:=ta) (cap:=ca) (xs:=lT) (enc:=encZ .i64) (sz:=1) (E:=tInt)) ?_
 rintro ⟨hlT,hcT⟩
 repeat first|refine aa ?_|intro _|refine dj ?_
 refine GO.ef (Ef.d7 (rS ta tb lT.length lT.length ca cb lT lT rfl rfl ab) rfl) ac ?_
 rintro _ _ ⟨rfl,rfl⟩
 rw [aL (show lT=lT from rfl)]
 repeat first|refine aa ?_|intro _|refine dj ?_
 refine GO.ef (Ef.d7 (wx ha' hb' hsA.length hsA.length hca hcb hsA hsA rfl rfl ab) rfl) ac ?_
 rintro _ _ ⟨rfl,rfl⟩
 rw [aL (show hsA=hsA from rfl)]
 repeat first|refine aa ?_|intro _|refine dj ?_
 refine ⟨i+1,ab,ab,?_,by exact ae⟩
 rw [aM i]
 exact ai
end
section
open Go.V Go.ChangeShapes Go.WideShapes Go.ChangeAt Go.RowKit
abbrev laidK : List (String × DataW Unit) := [("worldmint/lexer.kinds", Rows.laid_worldmint_lexer_kinds)]
theorem gK : Tryz.prog.globalNamed "worldmint/lexer.kinds" = some 2 := by kernel_rfl
theorem tK:(Tryz.prog.globals[2]?).map (·.type)=some 359:=by kernel_rfl
theorem uK:Tryz.prog.underlying 359=some (.array 128 5):=by kernel_rfl
theorem uE:Tryz.prog.underlying 5=some (.int .u8):=by kernel_rfl
theorem cE:Tryz.prog.cellsOf 5=1:=by kernel_rfl
theorem Fg:(Rows.laid_worldmint_lexer_kinds:DataW Unit)=.agg (kindsL.map fun x=>.lit (.int .u8 x)):=by rfl
set_option maxRecDepth 100000 in
theorem Dx (os:Os) (args:Array Value):laidMetH Tryz.prog laidK ((World.doorLaid Tryz.prog 400 os).forCall (fun _ _=>0) ⟨#[],args,[]⟩).memory :=
 laidMetH_of_parts3 (fuel:=8) (laidMet_of_run' 8 an an) an an
theorem Ax {W:World} (h:laidMetH Tryz.prog laidK W):cu (gu W) Hp.emp:=by
 rw [MakeChecks.laidMetH_plain _ _ _ an] at h
 obtain ⟨ps,⟨g0,t0,cs0,f0,p0,q0,hg0,ht0,hv0,hd0,_,_⟩,_,_⟩:=h
 obtain rfl:=Option.some.inj (gK.symm.trans hg0)
 obtain rfl:=Option.some.inj (tK.symm.trans ht0)
 obtain ⟨xs,m1,rfl,hx1,hlen,hn,hel⟩:=DataW.trod_array uK hd0
 simp only [Prod.mk.injEq] at hx1
 have hx:=hx1.1
 rw [Fg,DataW.agg.injEq] at hx
 have hkl:=rr
 have cell:∀ i,i<128→cs0[i]? = some (.int .u8 kindsL[i]!):=by
  intro i hi
  have h0:=hel i hi
  obtain ⟨x,hxi⟩:∃ x,xs[i]? = some x:=⟨xs[i]'(by omega),List.getElem?_eq_getElem ab⟩
  rw [hxi] at h0
  obtain ⟨k,e1,e2,_⟩:=DataW.trod_int uE h0
  have hm:(xs.map (·.1))[i]? = some x.1:=by rw [List.getElem?_map,hxi];rfl
  rw [← hx,List.getElem?_map,List.getElem?_eq_getElem ab] at hm
  rw [e2] at hm
  simp only [fP,Option.some.injEq,DataW.lit.injEq,Lit.int.injEq,true_and] at hm
  rw [cE,Nat.mul_one] at e1
  have h1:(cs0.toList.drop i)[0]? = some (.int .u8 k):=by
   have:=congrArg (fun l=>l[0]?) e1
   simpa [List.getElem?_take] using this
  rw [List.getElem?_drop,Nat.add_zero,Array.getElem?_toList] at h1
  rw [h1,← hm,getElem!_of ab]
 refine ⟨fun _ _=>rfl,.inr ?_⟩
 have hv1:=hv0
 simp only [World.var?,gK,Option.bind_some] at hv1
 split at hv1
 case h_1 cur E fz hb =>
  obtain rfl:=Option.some.inj hv1
  refine ⟨2,0,cur,E,fz,rfl,hb,?_⟩
  intro i v hi
  rw [cD]
  have hfl:kindsL.flatMap (encZ .u8)=kindsL.map fun x=>.int .u8 x:=by
   have:∀ l:List Int,l.flatMap (encZ .u8)=l.map fun x=>.int .u8 x:=by
    intro l
    induction l with
    | nil=>rfl
    | cons a t ih=>rw [bR,ih];rfl
   exact this _
  rw [hfl,List.getElem?_map] at hi
  obtain ⟨x,hxx,rfl⟩:=Option.map_eq_some_iff.1 hi
  obtain ⟨hi2,rfl⟩:=List.getElem?_eq_some_iff.1 hxx
  rw [cell i ab,getElem!_of hi2]
 all_goals simp at hv1
end
end Go.Proofs.YtommnllbflbdmaaGreatDoor
