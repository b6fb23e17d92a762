/- Lemmas and contracts of functions. -/
import Derived.Test.YtommnllbflbdmaaGreatDoorSAuditTotalsG33
import Derived.Test.YtommnllbflbdmaaGreatDoorGAuditTotalsbk
import Derived.Test.YtommnllbflbdmaaGreatDoorGAuditTotalsbq
import Derived.Test.YtommnllbflbdmaaGreatDoorGAuditTotalsbi
set_option linter.all false
set_option maxHeartbeats 16000000
namespace Go.Proofs.YtommnllbflbdmaaGreatDoor
section
open Go.V
attribute [local irreducible] G GO GP GPW GPK GF GE Ev Ef EfR Ent CB GB V.Enters
theorem rP (kind tick:Int) (mad:Option Addr) (mcap:Nat):StG0 ⟨0,kind,9,tick,-1,0,[],mad,mcap⟩ :=
 kF (al _) (fun _ h=>absurd h aO) (al _) (by unfold I64;dsimp only;omega) (fun _ _ _=>al _)
theorem mU {kind tick frm to item n:Int} {p:Lot} (hp:p.1≤9223372036854775807) (a1 a2:Option Addr):StG0 ⟨0,kind,9,tick,-1,0,[⟨⟨frm,to,item,n,[p]⟩,a1,1⟩],a2,1⟩ :=
 ⟨⟨au rfl,by unfold I64;dsimp only;omega,fun m hm=>by rw [List.mem_singleton.1 hm];exact au rfl,fun m hm=>by rw [List.mem_singleton.1 hm];exact aw _,fun m hm q hq=>by rw [List.mem_singleton.1 hm] at hq;rw [List.mem_singleton.1 hq];exact hp⟩,aw _,.inl ⟨aw _,fun m hm=>by rw [List.mem_singleton.1 hm];exact aw _⟩,fun hne=>km (aw _) (hne _ ap)⟩
theorem qj (b1 b2:Nat) (frm to item n:Int) (p:Lot) {L:List HP}:Ent (obj b1 tLot (ah p)::obj b2 tMv [.int .i64 frm,.int .i64 to,.int .i64 item,.int .i64 n,.slice (some ⟨b1,0,none⟩) 1 1]::L) (isl aF 5 (some ⟨b2,0,none⟩) [(⟨⟨frm,to,item,n,[p]⟩,some ⟨b1,0,none⟩,1⟩:MvV)]::allP mvP [(⟨⟨frm,to,item,n,[p]⟩,some ⟨b1,0,none⟩,1⟩:MvV)]::L):=by
 refine (Ent.f7 (enc:=ah) (sz:=3) (xs:=[p]) (n:=1) (by simp) rfl (fun _ _=>rfl) ac).trans (Ent.freezeSl.trans ?_)
 refine (Ent.f8 (f:=mvP) (x:=(⟨⟨frm,to,item,n,[p]⟩,some ⟨b1,0,none⟩,1⟩:MvV)) gZ).trans ?_
 exact Ent.swap.trans ((Ent.f7 (enc:=aF) (sz:=5) (xs:=[(⟨⟨frm,to,item,n,[p]⟩,some ⟨b1,0,none⟩,1⟩:MvV)]) (n:=1) rfl rfl (fun _ _=>rfl) ac).trans Ent.freezeSl)
abbrev xq:List Stp:=[.ev 0,.ev 1,.ev 2,.ev 3,.ev 4,.ev 5,.ev 6,.ev 7]
theorem bu {φ ψ:Prop} (k:ψ) (h:Hid ψ→φ:=by intro k;(with_reducible apply G.d8);first|refine G.d7 (N:=188) (id:=22) xq mixed an (Hid.out k)):φ:=h ⟨k⟩
theorem zf {L:List HP} (b:Nat) (sh:Int) (x:RLX) (hO:rOk x.stks) (hsl:x.stks.length≤100000) (htl:x.steps.length≤100000) (hfl:x.flows.length≤10000000) (hF:∀ f∈x.flows,(1≤f.m.n∧f.m.n≤1099511627776)∧f.m.id≤9000000000000000000) (hL:∀ s∈x.stks,∀ l∈s.stk.lots,l.1≤9000000000000000000) (nad:Option Addr) (nn nc:Nat) (xs:List Int) [hr:Rds L nad Int (encZ .i64) 1 xs] (hn:nn=xs.length) (hxs:∀ y∈xs,I64 y) (at_:Int) (hat:0≤at_∧at_≤100000) :
  Tri Tryz.prog 41 #[.pointer (some ⟨b,0,none⟩),.slice nad nn nc,.int .i64 at_] (rlL b sh x L) (fun v L'=>∃ s:StV,v=.agg (aB s).toArray∧StG0 s∧L' = stM s::stP s::rlL b sh x L):=by
 obtain ⟨ha0,ha1⟩:=hat
 refine Tri.body (args:=[.pointer (some ⟨b,0,none⟩),.slice nad nn nc,.int .i64 at_]) 188 en41 Tryz.func41 rfl rfl rfl (by simp) ?_
 simp only [rlL,aJ]
 repeat first|refine aa ?_|intro _|refine bu ?_
 rename_i b6 b7
 generalize htick:(x.steps.length:Int) / 2=tick
 refine GO.ef (Ef.d7 (cT nad nn nc xs hn hxs (at_) 3 ab) rfl) ac ?_
 rintro _ _ ⟨p1,rfl,hp1,rfl⟩
 have p1a:=hp1.1
 have p1b:=hp1.2.1 ab
 clear hp1
 by_cases h1:p1=0
 ·repeat first|refine aa ?_|intro _|refine bu ?_
  refine G.loop (α:=Nat×List MvV×Option Addr×Nat) (fun g=>g.1≤x.flows.length∧StG0 ⟨0,9,9,tick,-1,0,g.2.1,g.2.2.1,g.2.2.2⟩) (fun g=>[(0,.pointer (some ⟨b,0,none⟩)),(1,.slice nad nn nc),(2,.int .i64 at_),(6,.pointer (some ⟨b6,0,none⟩)),(7,.pointer (some ⟨b7,0,none⟩)),(8,.int .i64 (g.1:Int))]) (fun g=>obj b7 aU [.int .i64 0,.int .i64 9,.int .i64 9,.int .i64 tick,.int .i64 (-1),.int .i64 0,.slice g.2.2.1 g.2.1.length g.2.2.2]::isl aF 5 g.2.2.1 g.2.1::allP mvP g.2.1::obj b6 aU [.int .i64 0,.int .i64 0,.int .i64 0,.int .i64 0,.int .i64 0,.int .i64 0,.slice none 0 0]::rlL b sh x L) (fun g=>x.flows.length - g.1) (0,[],none,0) ⟨al _,rP 9 tick none 0⟩ ai ?_ ?_
  ·refine (Ent.d9 mvP).trans ((Ent.e8 aF 5 none).trans ?_)
   simp only [rlL,aJ]
   exact ae
  rintro ⟨i,ms,mad,mcap⟩ ⟨hi,hsg⟩
  dsimp only at hi hsg ⊢
  simp only [rlL,aJ]
  by_cases hlt:i<x.flows.length
  case neg =>
   repeat first|refine aa ?_|intro _|refine bu ?_
   exact KX.d7 (ResOk.cell rfl (by rfl) ResOk.nil) (by (try simp only [rlL,aJ]);exact ae) ⟨⟨0,9,9,tick,-1,0,ms,mad,mcap⟩,rfl,hsg,rfl⟩
  have hii:(i:Int).toNat=i:=av i
  have hlt' : (i:Int).toNat<x.flows.length:=ab
  obtain ⟨⟨hf1,hf2⟩,hf3⟩:=hF _ (aG hlt')
  repeat first|((fail_if_success (with_reducible refine G.atS 8 ?_));(with_reducible apply G.seq))|refine bU ?_|intro _|refine bu ?_
  rename_i b9
  generalize x.flows[(i:Int).toNat]! = f at *
  refine G.d9 (α:=Bool) (fun _=>True) (fun r=>[(0,.pointer (some ⟨b,0,none⟩)),(1,.slice nad nn nc),(2,.int .i64 at_),(6,.pointer (some ⟨b6,0,none⟩)),(7,.pointer (some ⟨b7,0,none⟩)),(8,.int .i64 (i:Int)),(9,.pointer (some ⟨b9,0,none⟩)),(67,.bool r)]) (fun _=>obj b9 cq (bF f)::obj b7 aU [.int .i64 0,.int .i64 9,.int .i64 9,.int .i64 tick,.int .i64 (-1),.int .i64 0,.slice mad ms.length mcap]::isl aF 5 mad ms::allP mvP ms::obj b6 aU [.int .i64 0,.int .i64 0,.int .i64 0,.int .i64 0,.int .i64 0,.int .i64 0,.slice none 0 0]::rlL b sh x L) ?_ ?_
  ·by_cases c1:f.m.kind=6
   ·repeat first|refine aa ?_|intro _|refine bu ?_
    exact ⟨false,trivial,ai,by (try simp only [rlL,aJ]);exact ae⟩
   by_cases c2:f.m.to=0
   case neg =>
    repeat first|refine aa ?_|intro _|refine bu ?_
    exact ⟨false,trivial,ai,by (try simp only [rlL,aJ]);exact ae⟩
   by_cases c3:ms.length=0
   case neg =>
    repeat first|refine aa ?_|intro _|refine bu ?_
    exact ⟨false,trivial,ai,by (try simp only [rlL,aJ]);exact ae⟩
   have hi4:0≤(i:Int) % 4∧(i:Int) % 4<4:=⟨cN _ ac,cX _ ac⟩
   repeat first|refine aa ?_|intro _|refine bu ?_
   refine GO.ef (Ef.d7 (cT nad nn nc xs hn hxs (at_+1+(i:Int) % 4) 2 ab) rfl) ac ?_
   rintro _ _ ⟨p2,rfl,hp2,rfl⟩
   have p2a:=hp2.1
   have p2b:=hp2.2.1 ab
   clear hp2
   repeat first|refine aa ?_|intro _|refine bu ?_
   exact ⟨dB (p2=0),trivial,ai,by (try simp only [rlL,aJ]);exact ae⟩
  intro r _
  simp only [rlL,aJ]
  cases r with
  | false =>
   repeat first|refine aa ?_|intro _|refine bu ?_
   exact ⟨(i+1,ms,mad,mcap),⟨by dsimp only;omega,hsg⟩,by dsimp only;omega,by dsimp only;rw [aM i];exact ai,by (try simp only [rlL,aJ]);exact ae⟩
  | true =>
   repeat first|refine aa ?_|intro _|refine bu ?_
   refine GO.ef (Ef.d7 (cT nad nn nc xs hn hxs (at_+2) f.m.n ab) rfl) ac ?_
   rintro _ _ ⟨p3,rfl,hp3,rfl⟩
   have p3a:=hp3.1
   have p3b:=hp3.2.1 ab
   clear hp3
   repeat first|refine aa ?_|intro _|refine bu ?_
   refine GO.ef (Ef.d7 (cT nad nn nc xs hn hxs (at_+3) (f.m.n - p3) ab) rfl) ac ?_
   rintro _ _ ⟨p4,rfl,hp4,rfl⟩
   have p4a:=hp4.1
   have p4b:=hp4.2.1 ab
   clear hp4
   repeat first|((fail_if_success (with_reducible refine G.atS 11 ?_));(with_reducible apply G.seq))|refine bU ?_|intro _|refine bu ?_
   refine G.f7 mixed an ?_
   refine GF.evP (i:=0) rfl an (Ev.move rfl) ac ?_
   refine GF.evP (i:=1) rfl an (Ev.move rfl) ac ?_
   refine GF.evP (i:=2) rfl an (Ev.add rfl rfl ab ab) ac ?_
   refine GF.evP (i:=5) rfl an (by first|exact Ev.fieldAddr rfl|exact Ev.e9 rfl) ac ?_
   refine GF.evL (i:=6) rfl an (by first|exact Ev.d8 rfl rfl|exact Ev.d7 rfl (by rfl)|exact Ev.d9 rfl rfl|exact Ev.e8 rfl ab|exact Ev.f7 rfl ab ac rfl) ac ?_
   refine GF.evP (i:=7) rfl an (Ev.move rfl) ac ?_
   refine GF.evP (i:=8) rfl an (by first|exact Ev.fieldAddr rfl|exact Ev.e9 rfl) ac ?_
   refine GF.evL (i:=9) rfl an (by first|exact Ev.d8 rfl rfl|exact Ev.d7 rfl (by rfl)|exact Ev.d9 rfl rfl|exact Ev.e8 rfl ab|exact Ev.f7 rfl ab ac rfl) ac ?_
   refine GF.evP (i:=10) rfl an (Ev.move rfl) ac ?_
   refine GF.evP (i:=11) rfl an (Ev.move rfl) ac ?_
   refine GF.evP (i:=12) rfl an (Ev.build rfl rfl) ac ?_
   refine GF.d7 3 13 an ?_ ?_
   ·skip
    refine GE.ef rfl (Ef.d7 (cT nad nn nc xs hn hxs (at_+4) 4 ab) rfl) ac ?_
    rintro _ _ ⟨p5,rfl,hp5,rfl⟩
    have p5a:=hp5.1
    have p5b:=hp5.2.1 ab
    clear hp5
    refine ⟨(by intro pe hp;simp only [be,aO,or_false] at hp;rcases hp with rfl|rfl<;>first|exact Ev.d8 rfl rfl|exact Ev.d7 rfl (by rfl)|exact Ev.d9 rfl rfl),?_⟩
    refine GF.plan [.ev 4,.ef 13,.ev 14,.ef 15,.ev 16,.ef 17] an rfl ?_
    repeat first|refine aa ?_|intro _|refine bu ?_
    rename_i b96 b98
    exact ⟨(i+1,[(⟨⟨0,1+p5,f.m.item,1+p4,[(f.m.id,p3,1+p4)]⟩,some ⟨b96,0,none⟩,1⟩:MvV)],some ⟨b98,0,none⟩,1),⟨by dsimp only;omega,mU (by dsimp only;omega) _ _⟩,by dsimp only;omega,by dsimp only;rw [aM i];exact ai,(Ent.at (A:=obj b98 tMv [.int .i64 0,.int .i64 (1+p5),.int .i64 f.m.item,.int .i64 (1+p4),.slice (some ⟨b96,0,none⟩) 1 1]) (Ent.refl _)).trans ((Ent.at (A:=obj b96 tLot [.int .i64 f.m.id,.int .i64 p3,.int .i64 (1+p4)]) (qj b96 b98 0 (1+p5) f.m.item (1+p4) (f.m.id,p3,1+p4))).trans (by show Ent _ (obj b7 aU [.int .i64 0,.int .i64 9,.int .i64 9,.int .i64 tick,.int .i64 (-1),.int .i64 0,.slice (some ⟨b98,0,none⟩) 1 1]::isl aF 5 (some ⟨b98,0,none⟩) [(⟨⟨0,1+p5,f.m.item,1+p4,[(f.m.id,p3,1+p4)]⟩,some ⟨b96,0,none⟩,1⟩:MvV)]::allP mvP [(⟨⟨0,1+p5,f.m.item,1+p4,[(f.m.id,p3,1+p4)]⟩,some ⟨b96,0,none⟩,1⟩:MvV)]::obj b6 aU [.int .i64 0,.int .i64 0,.int .i64 0,.int .i64 0,.int .i64 0,.int .i64 0,.slice none 0 0]::rlL b sh x L);(try simp only [rlL,aJ]);exact ae))⟩
   ·refine GE.ef rfl (Ef.lit rfl rfl ac rfl) ac ?_
    rintro _ _ ⟨b96,rfl,rfl⟩
    refine ⟨(by intro pe hp;simp only [be,aO,or_false] at hp;rcases hp with rfl|rfl<;>first|exact Ev.d8 rfl rfl|exact Ev.d7 rfl (by rfl)|exact Ev.d9 rfl rfl),?_⟩
    refine GF.plan [.ef 3,.ev 4,.ev 14,.ef 15,.ev 16,.ef 17] an rfl ?_
    repeat first|refine aa ?_|intro _|refine bu ?_
    refine GPW.ef (Ef.d7 (cT nad nn nc xs hn hxs (at_+4) 4 ab) rfl) ac ?_
    rintro _ _ ⟨p5,rfl,hp5,rfl⟩
    have p5a:=hp5.1
    have p5b:=hp5.2.1 ab
    clear hp5
    repeat first|refine aa ?_|intro _|refine bu ?_
    rename_i b98
    exact ⟨(i+1,[(⟨⟨0,1+p5,f.m.item,1+p4,[(f.m.id,p3,1+p4)]⟩,some ⟨b96,0,none⟩,1⟩:MvV)],some ⟨b98,0,none⟩,1),⟨by dsimp only;omega,mU (by dsimp only;omega) _ _⟩,by dsimp only;omega,by dsimp only;rw [aM i];exact ai,(Ent.at (A:=obj b98 tMv [.int .i64 0,.int .i64 (1+p5),.int .i64 f.m.item,.int .i64 (1+p4),.slice (some ⟨b96,0,none⟩) 1 1]) (Ent.refl _)).trans ((Ent.at (A:=obj b96 tLot [.int .i64 f.m.id,.int .i64 p3,.int .i64 (1+p4)]) (qj b96 b98 0 (1+p5) f.m.item (1+p4) (f.m.id,p3,1+p4))).trans (by show Ent _ (obj b7 aU [.int .i64 0,.int .i64 9,.int .i64 9,.int .i64 tick,.int .i64 (-1),.int .i64 0,.slice (some ⟨b98,0,none⟩) 1 1]::isl aF 5 (some ⟨b98,0,none⟩) [(⟨⟨0,1+p5,f.m.item,1+p4,[(f.m.id,p3,1+p4)]⟩,some ⟨b96,0,none⟩,1⟩:MvV)]::allP mvP [(⟨⟨0,1+p5,f.m.item,1+p4,[(f.m.id,p3,1+p4)]⟩,some ⟨b96,0,none⟩,1⟩:MvV)]::obj b6 aU [.int .i64 0,.int .i64 0,.int .i64 0,.int .i64 0,.int .i64 0,.int .i64 0,.slice none 0 0]::rlL b sh x L);(try simp only [rlL,aJ]);exact ae))⟩
 have hret:∀ {M:List HP},Ent (obj b7 aU [.int .i64 0,.int .i64 7,.int .i64 9,.int .i64 tick,.int .i64 (-1),.int .i64 0,.slice none 0 0]::M) (isl aF 5 none []::allP mvP []::obj b7 aU [.int .i64 0,.int .i64 7,.int .i64 9,.int .i64 tick,.int .i64 (-1),.int .i64 0,.slice none 0 0]::M):=(Ent.d9 mvP).trans (Ent.e8 aF 5 none)
 by_cases h2:x.stks.length=0
 ·repeat first|refine aa ?_|intro _|refine bu ?_
  exact KX.d7 (ResOk.cell rfl (by rfl) ResOk.nil) ((Ent.at (A:=obj b7 aU [.int .i64 0,.int .i64 7,.int .i64 9,.int .i64 tick,.int .i64 (-1),.int .i64 0,.slice none 0 0]) hret).trans (by (try simp only [rlL,aJ]);exact ae)) ⟨⟨0,7,9,tick,-1,0,[],none,0⟩,rfl,rP 7 tick none 0,rfl⟩
 repeat first|((fail_if_success (with_reducible refine G.atS 15 ?_));(with_reducible apply G.seq))|refine bU ?_|intro _|refine bu ?_
 refine G.d9 (α:=Nat×Nat) (fun g=>g.1<x.stks.length) (fun g=>[(0,.pointer (some ⟨b,0,none⟩)),(1,.slice nad nn nc),(2,.int .i64 at_),(6,.pointer (some ⟨b6,0,none⟩)),(7,.pointer (some ⟨b7,0,none⟩)),(12,.pointer (some ⟨g.2,0,none⟩))]) (fun g=>obj g.2 tRS (fS x.stks[g.1]!)::obj b7 aU [.int .i64 0,.int .i64 7,.int .i64 9,.int .i64 tick,.int .i64 (-1),.int .i64 0,.slice none 0 0]::obj b6 aU [.int .i64 0,.int .i64 0,.int .i64 0,.int .i64 0,.int .i64 0,.int .i64 0,.slice none 0 0]::rlL b sh x L) ?_ ?_
 ·have hpn:∀ {p:Int},0≤p→p<x.stks.length→∃ k:Nat,p=(k:Int)∧k<x.stks.length:=fun {p} q1 q2=>⟨p.toNat,ab,ab⟩
  refine G.f7 mixed an ?_
  refine GF.evP (i:=0) rfl an (Ev.move rfl) ac ?_
  refine GF.evP (i:=1) rfl an (Ev.nilCheck rfl) ac ?_
  refine GF.evP (i:=2) rfl an (by first|exact Ev.fieldAddr rfl|exact Ev.e9 rfl) ac ?_
  refine GF.evL (i:=3) rfl an (by first|exact Ev.d8 rfl rfl|exact Ev.d7 rfl (by rfl)|exact Ev.d9 rfl rfl|exact Ev.e8 rfl ab|exact Ev.f7 rfl ab ac rfl) ac ?_
  refine GF.evP (i:=4) rfl an (Ev.move rfl) ac ?_
  refine GF.evP (i:=5) rfl an (Ev.move rfl) ac ?_
  refine GF.evP (i:=6) rfl an (Ev.add rfl rfl ab ab) ac ?_
  refine GF.evP (i:=7) rfl an (Ev.move rfl) ac ?_
  refine GF.evP (i:=8) rfl an (Ev.nilCheck rfl) ac ?_
  refine GF.evP (i:=9) rfl an (by first|exact Ev.fieldAddr rfl|exact Ev.e9 rfl) ac ?_
  refine GF.evL (i:=10) rfl an (by first|exact Ev.d8 rfl rfl|exact Ev.d7 rfl (by rfl)|exact Ev.d9 rfl rfl|exact Ev.e8 rfl ab|exact Ev.f7 rfl ab ac rfl) ac ?_
  refine GF.evP (i:=11) rfl an (Ev.o7 rfl) ac ?_
  refine GF.d7 12 15 an ?_ ?_
  ·skip
   refine GE.ef rfl (Ef.d7 (cT nad nn nc xs hn hxs (at_+1) (x.stks.length:Int) ab) rfl) ac ?_
   rintro _ _ ⟨p2,rfl,hp2,rfl⟩
   have p2a:=hp2.1
   have p2b:=hp2.2.1 ab
   clear hp2
   refine ⟨(by intro pe hp;simp only [be,aO,or_false] at hp;rcases hp with rfl|rfl<;>first|exact Ev.d8 rfl rfl|exact Ev.d7 rfl (by rfl)|exact Ev.d9 rfl rfl),?_⟩
   obtain ⟨k,rfl,hk⟩:=hpn p2a p2b
   have hkk:(k:Int).toNat<x.stks.length:=ab
   refine GF.plan [.ev 13,.ev 14,.ef 15,.ef 16] an rfl ?_
   repeat first|refine aa ?_|intro _|refine bu ?_
   rename_i b12
   exact ⟨((k:Int).toNat,b12),hkk,ai,by (try simp only [rlL,aJ]);exact ae⟩
  ·refine GE.ef rfl Ef.alloc ac ?_
   rintro _ _ ⟨b12,rfl,rfl⟩
   refine ⟨(by intro pe hp;simp only [be,aO,or_false] at hp;rcases hp with rfl|rfl<;>first|exact Ev.d8 rfl rfl|exact Ev.d7 rfl (by rfl)|exact Ev.d9 rfl rfl),?_⟩
   refine GF.plan [.ef 12,.ev 13,.ev 14,.ef 16] an rfl ?_
   repeat first|refine aa ?_|intro _|refine bu ?_
   refine GPW.ef (Ef.d7 (cT nad nn nc xs hn hxs (at_+1) (x.stks.length:Int) ab) rfl) ac ?_
   rintro _ _ ⟨p2,rfl,hp2,rfl⟩
   have p2a:=hp2.1
   have p2b:=hp2.2.1 ab
   clear hp2
   obtain ⟨k,rfl,hk⟩:=hpn p2a p2b
   have hkk:(k:Int).toNat<x.stks.length:=ab
   repeat first|refine aa ?_|intro _|refine bu ?_
   exact ⟨((k:Int).toNat,b12),hkk,ai,by (try simp only [rlL,aJ]);exact ae⟩
 rintro ⟨k,b12⟩ hk
 dsimp only at hk ⊢
 have hs0:=hO _ (aG hk)
 have hl0:=hL _ (aG hk)
 refine G.ent (L':=stkP x.stks[k]!.stk::obj b12 tRS (fS x.stks[k]!)::obj b7 aU [.int .i64 0,.int .i64 7,.int .i64 9,.int .i64 tick,.int .i64 (-1),.int .i64 0,.slice none 0 0]::obj b6 aU [.int .i64 0,.int .i64 0,.int .i64 0,.int .i64 0,.int .i64 0,.int .i64 0,.slice none 0 0]::rlL b sh x L) ?_ ?_
 ·refine (Ent.at (A:=allP rsP x.stks) (Ent.e7 (f:=rsP) (aG hk))).trans ?_
  simp only [rlL,aJ]
  exact ae
 generalize x.stks[k]! = u at *
 obtain ⟨acc,item,⟨uad,ucap,lots⟩⟩:=u
 dsimp only at hs0 hl0
 simp only [fS,stkP,rlL,aJ]
 by_cases h3:lots.length=0
 ·repeat first|refine aa ?_|intro _|refine bu ?_
  exact KX.d7 (ResOk.cell rfl (by rfl) ResOk.nil) ((Ent.at (A:=obj b7 aU [.int .i64 0,.int .i64 7,.int .i64 9,.int .i64 tick,.int .i64 (-1),.int .i64 0,.slice none 0 0]) hret).trans (by (try simp only [rlL,aJ]);exact ae)) ⟨⟨0,7,9,tick,-1,0,[],none,0⟩,rfl,rP 7 tick none 0,rfl⟩
 repeat first|((fail_if_success (with_reducible refine G.atS 18 ?_));(with_reducible apply G.seq))|refine bU ?_|intro _|refine bu ?_
 refine G.d9 (α:=Lot×Nat) (fun g=>g.1∈lots) (fun g=>[(0,.pointer (some ⟨b,0,none⟩)),(1,.slice nad nn nc),(2,.int .i64 at_),(6,.pointer (some ⟨b6,0,none⟩)),(7,.pointer (some ⟨b7,0,none⟩)),(12,.pointer (some ⟨b12,0,none⟩)),(13,.pointer (some ⟨g.2,0,none⟩))]) (fun g=>obj g.2 tLot (ah g.1)::isl ah 3 uad lots::obj b12 tRS [.int .i64 acc,.int .i64 item,.slice uad lots.length ucap]::obj b7 aU [.int .i64 0,.int .i64 7,.int .i64 9,.int .i64 tick,.int .i64 (-1),.int .i64 0,.slice none 0 0]::obj b6 aU [.int .i64 0,.int .i64 0,.int .i64 0,.int .i64 0,.int .i64 0,.int .i64 0,.slice none 0 0]::rlL b sh x L) ?_ ?_
 ·have hpn:∀ {p:Int},0≤p→p<lots.length→∃ k:Nat,p=(k:Int)∧k<lots.length:=fun {p} q1 q2=>⟨p.toNat,ab,ab⟩
  refine G.f7 mixed an ?_
  refine GF.evP (i:=0) rfl an (by first|exact Ev.fieldAddr rfl|exact Ev.e9 rfl) ac ?_
  refine GF.evL (i:=1) rfl an (by first|exact Ev.d8 rfl rfl|exact Ev.d7 rfl (by rfl)|exact Ev.d9 rfl rfl|exact Ev.e8 rfl ab|exact Ev.f7 rfl ab ac rfl) ac ?_
  refine GF.evP (i:=2) rfl an (Ev.move rfl) ac ?_
  refine GF.evP (i:=3) rfl an (Ev.move rfl) ac ?_
  refine GF.evP (i:=4) rfl an (Ev.add rfl rfl ab ab) ac ?_
  refine GF.evP (i:=5) rfl an (by first|exact Ev.fieldAddr rfl|exact Ev.e9 rfl) ac ?_
  refine GF.evL (i:=6) rfl an (by first|exact Ev.d8 rfl rfl|exact Ev.d7 rfl (by rfl)|exact Ev.d9 rfl rfl|exact Ev.e8 rfl ab|exact Ev.f7 rfl ab ac rfl) ac ?_
  refine GF.evP (i:=7) rfl an (Ev.o7 rfl) ac ?_
  refine GF.d7 8 11 an ?_ ?_
  ·skip
   refine GE.ef rfl (Ef.d7 (cT nad nn nc xs hn hxs (at_+2) (lots.length:Int) ab) rfl) ac ?_
   rintro _ _ ⟨p2,rfl,hp2,rfl⟩
   have p2a:=hp2.1
   have p2b:=hp2.2.1 ab
   clear hp2
   refine ⟨(by intro pe hp;simp only [be,aO,or_false] at hp;rcases hp with rfl|rfl<;>first|exact Ev.d8 rfl rfl|exact Ev.d7 rfl (by rfl)|exact Ev.d9 rfl rfl),?_⟩
   obtain ⟨j,rfl,hj⟩:=hpn p2a p2b
   have hjj:(j:Int).toNat<lots.length:=ab
   refine GF.plan [.ev 9,.ev 10,.ef 11,.ef 12] an rfl ?_
   repeat first|refine aa ?_|intro _|refine bu ?_
   rename_i b13
   exact ⟨(lots[(j:Int).toNat]!,b13),aG hjj,ai,by (try simp only [rlL,aJ]);exact ae⟩
  ·refine GE.ef rfl Ef.alloc ac ?_
   rintro _ _ ⟨b13,rfl,rfl⟩
   refine ⟨(by intro pe hp;simp only [be,aO,or_false] at hp;rcases hp with rfl|rfl<;>first|exact Ev.d8 rfl rfl|exact Ev.d7 rfl (by rfl)|exact Ev.d9 rfl rfl),?_⟩
   refine GF.plan [.ef 8,.ev 9,.ev 10,.ef 12] an rfl ?_
   repeat first|refine aa ?_|intro _|refine bu ?_
   refine GPW.ef (Ef.d7 (cT nad nn nc xs hn hxs (at_+2) (lots.length:Int) ab) rfl) ac ?_
   rintro _ _ ⟨p2,rfl,hp2,rfl⟩
   have p2a:=hp2.1
   have p2b:=hp2.2.1 ab
   clear hp2
   obtain ⟨j,rfl,hj⟩:=hpn p2a p2b
   have hjj:(j:Int).toNat<lots.length:=ab
   repeat first|refine aa ?_|intro _|refine bu ?_
   exact ⟨(lots[(j:Int).toNat]!,b13),aG hjj,ai,by (try simp only [rlL,aJ]);exact ae⟩
 rintro ⟨⟨yf,ya,yn⟩,b13⟩ hy
 dsimp only at hy ⊢
 have hyo:=hs0.2 _ hy
 have hyl:=hl0 _ hy
 unfold LotOk at hyo
 dsimp only at hyo hyl
 simp only [ah,rlL,aJ]
 repeat first|refine aa ?_|intro _|refine bu ?_
 refine GO.ef (Ef.d7 (cT nad nn nc xs hn hxs (at_+3) yn ab) rfl) ac ?_
 rintro _ _ ⟨p3,rfl,hp3,rfl⟩
 have p3a:=hp3.1
 have p3b:=hp3.2.1 ab
 clear hp3
 repeat first|refine aa ?_|intro _|refine bu ?_
 refine GO.ef (Ef.d7 (cT nad nn nc xs hn hxs (at_+4) (yn - p3) ab) rfl) ac ?_
 rintro _ _ ⟨p4,rfl,hp4,rfl⟩
 have p4a:=hp4.1
 have p4b:=hp4.2.1 ab
 clear hp4
 repeat first|((fail_if_success (with_reducible refine G.atS 21 ?_));(with_reducible apply G.seq))|refine bU ?_|intro _|refine bu ?_
 refine G.d9 (α:=Int×Nat×Nat) (fun _=>True) (fun g=>[(0,.pointer (some ⟨b,0,none⟩)),(1,.slice nad nn nc),(2,.int .i64 at_),(6,.pointer (some ⟨b6,0,none⟩)),(7,.pointer (some ⟨b7,0,none⟩)),(12,.pointer (some ⟨b12,0,none⟩))]) (fun g=>obj g.2.1 tLot (ah (yf,ya+p3,1+p4))::obj g.2.2 tMv [.int .i64 acc,.int .i64 g.1,.int .i64 item,.int .i64 (1+p4),.slice (some ⟨g.2.1,0,none⟩) 1 1]::isl ah 3 uad lots::obj b12 tRS [.int .i64 acc,.int .i64 item,.slice uad lots.length ucap]::obj b7 aU [.int .i64 0,.int .i64 7,.int .i64 9,.int .i64 tick,.int .i64 (-1),.int .i64 0,.slice (some ⟨g.2.2,0,none⟩) 1 1]::obj b6 aU [.int .i64 0,.int .i64 0,.int .i64 0,.int .i64 0,.int .i64 0,.int .i64 0,.slice none 0 0]::rlL b sh x L) ?_ ?_
 ·refine G.f7 mixed an ?_
  refine GF.evP (i:=0) rfl an (by first|exact Ev.fieldAddr rfl|exact Ev.e9 rfl) ac ?_
  refine GF.evL (i:=1) rfl an (by first|exact Ev.d8 rfl rfl|exact Ev.d7 rfl (by rfl)|exact Ev.d9 rfl rfl|exact Ev.e8 rfl ab|exact Ev.f7 rfl ab ac rfl) ac ?_
  refine GF.evP (i:=2) rfl an (Ev.move rfl) ac ?_
  refine GF.evP (i:=3) rfl an (Ev.move rfl) ac ?_
  refine GF.evP (i:=4) rfl an (Ev.add rfl rfl ab ab) ac ?_
  refine GF.evP (i:=6) rfl an (by first|exact Ev.fieldAddr rfl|exact Ev.e9 rfl) ac ?_
  refine GF.evL (i:=7) rfl an (by first|exact Ev.d8 rfl rfl|exact Ev.d7 rfl (by rfl)|exact Ev.d9 rfl rfl|exact Ev.e8 rfl ab|exact Ev.f7 rfl ab ac rfl) ac ?_
  refine GF.evP (i:=8) rfl an (Ev.move rfl) ac ?_
  refine GF.evP (i:=9) rfl an (by first|exact Ev.fieldAddr rfl|exact Ev.e9 rfl) ac ?_
  refine GF.evL (i:=10) rfl an (by first|exact Ev.d8 rfl rfl|exact Ev.d7 rfl (by rfl)|exact Ev.d9 rfl rfl|exact Ev.e8 rfl ab|exact Ev.f7 rfl ab ac rfl) ac ?_
  refine GF.evP (i:=11) rfl an (by first|exact Ev.fieldAddr rfl|exact Ev.e9 rfl) ac ?_
  refine GF.evL (i:=12) rfl an (by first|exact Ev.d8 rfl rfl|exact Ev.d7 rfl (by rfl)|exact Ev.d9 rfl rfl|exact Ev.e8 rfl ab|exact Ev.f7 rfl ab ac rfl) ac ?_
  refine GF.evP (i:=13) rfl an (Ev.move rfl) ac ?_
  refine GF.evP (i:=14) rfl an (Ev.add rfl rfl ab ab) ac ?_
  refine GF.evP (i:=15) rfl an (Ev.move rfl) ac ?_
  refine GF.evP (i:=16) rfl an (Ev.build rfl rfl) ac ?_
  refine GF.d7 5 17 an ?_ ?_
  ·skip
   refine GE.ef rfl (Ef.d7 (cT nad nn nc xs hn hxs (at_+5) 4 ab) rfl) ac ?_
   rintro _ _ ⟨p5,rfl,hp5,rfl⟩
   have p5a:=hp5.1
   have p5b:=hp5.2.1 ab
   clear hp5
   refine ⟨(by intro pe hp;simp only [be,aO,or_false] at hp;rcases hp with rfl|rfl|rfl|rfl<;>first|exact Ev.d8 rfl rfl|exact Ev.d7 rfl (by rfl)|exact Ev.d9 rfl rfl),?_⟩
   refine GF.plan [.ef 17,.ev 18,.ef 19,.ev 20,.ef 21] an rfl ?_
   repeat first|refine aa ?_|intro _|refine bu ?_
   rename_i b171 b173
   exact ⟨(p5,b171,b173),trivial,ai,by (try simp only [ah,rlL,aJ]);exact ae⟩
  ·refine GE.ef rfl (Ef.lit rfl rfl ac rfl) ac ?_
   rintro _ _ ⟨b171,rfl,rfl⟩
   refine ⟨(by intro pe hp;simp only [be,aO,or_false] at hp;rcases hp with rfl|rfl|rfl|rfl<;>first|exact Ev.d8 rfl rfl|exact Ev.d7 rfl (by rfl)|exact Ev.d9 rfl rfl),?_⟩
   refine GF.plan [.ef 5,.ev 18,.ef 19,.ev 20,.ef 21] an rfl ?_
   repeat first|refine aa ?_|intro _|refine bu ?_
   refine GPW.ef (Ef.d7 (cT nad nn nc xs hn hxs (at_+5) 4 ab) rfl) ac ?_
   rintro _ _ ⟨p5,rfl,hp5,rfl⟩
   have p5a:=hp5.1
   have p5b:=hp5.2.1 ab
   clear hp5
   repeat first|refine aa ?_|intro _|refine bu ?_
   rename_i b173
   exact ⟨(p5,b171,b173),trivial,ai,by (try simp only [ah,rlL,aJ]);exact ae⟩
 rintro ⟨p5,b171,b173⟩ _
 simp only [ah,rlL,aJ]
 have hend:∀ (q:Int),Ent (obj b171 tLot (ah (yf,ya+p3,1+p4))::obj b173 tMv [.int .i64 acc,.int .i64 q,.int .i64 item,.int .i64 (1+p4),.slice (some ⟨b171,0,none⟩) 1 1]::rlL b sh x L) (stM ⟨0,7,9,tick,-1,0,[⟨⟨acc,q,item,1+p4,[(yf,ya+p3,1+p4)]⟩,some ⟨b171,0,none⟩,1⟩],some ⟨b173,0,none⟩,1⟩::stP ⟨0,7,9,tick,-1,0,[⟨⟨acc,q,item,1+p4,[(yf,ya+p3,1+p4)]⟩,some ⟨b171,0,none⟩,1⟩],some ⟨b173,0,none⟩,1⟩::rlL b sh x L):=fun q =>
  qj b171 b173 acc q item (1+p4) (yf,ya+p3,1+p4)
 by_cases h4:p5=acc
 ·repeat first|refine aa ?_|intro _|refine bu ?_
  exact KX.d7 (ResOk.cell rfl (by rfl) ResOk.nil) (Ent.trans (by (try simp only [ah,rlL,aJ]);exact ae) (hend 0)) ⟨⟨0,7,9,tick,-1,0,[⟨⟨acc,0,item,1+p4,[(yf,ya+p3,1+p4)]⟩,some ⟨b171,0,none⟩,1⟩],some ⟨b173,0,none⟩,1⟩,rfl,mU (by dsimp only;omega) _ _,rfl⟩
 ·repeat first|refine aa ?_|intro _|refine bu ?_
  exact KX.d7 (ResOk.cell rfl (by rfl) ResOk.nil) (Ent.trans (by (try simp only [ah,rlL,aJ]);exact ae) (hend p5)) ⟨⟨0,7,9,tick,-1,0,[⟨⟨acc,p5,item,1+p4,[(yf,ya+p3,1+p4)]⟩,some ⟨b171,0,none⟩,1⟩],some ⟨b173,0,none⟩,1⟩,rfl,mU (by dsimp only;omega) _ _,rfl⟩
end
section
open Go.V
attribute [local irreducible] G GO GP GPW GPK GF GE Ev Ef EfR Ent CB GB V.Enters
theorem oC {L:List HP} (b:Nat) (sh:Int) (i:Nat) (S:LedM) (x:RLX) (h:GenR sh i S x) (hi:i≤100) (s:StV) (hs:StG0 s) :
  Tri Tryz.prog 38 #[.pointer (some ⟨b,0,none⟩),.agg (aB s).toArray] (rlL b sh x (stM s::stP s::L)) (fun v L'=>∃ (r e:Int) (S' : LedM) (x' : RLX),v=.tuple #[.int .i64 r,.int .i64 e]∧GenR sh (i+1) S' x'∧L' = rlL b sh x' (stM s::stP s::L)):=by
 obtain ⟨k,hk,hl⟩:=h.led
 have hd:=h.shard
 subst hd
 have hm:=hs.k
 refine (wB b S k hl.g (h.cat▸wa) (h.cat▸cat16_good) s hs.inp ab x h.rf).conseq ?_
 rintro v _ ⟨rfl,x',hF,h0,h1,rfl⟩
 exact ⟨_,⟨_,_,dd S s.m,x',rfl,h.post ab hs hF h0 h1,rfl⟩,Ent.refl _⟩
theorem Fv {sh:Int} (hsh:0≤sh∧sh<12) {c:CatV} (hc:c.m=cat16) (hB:c.B):GenR sh 0 (led0 sh cat16) ⟨c,[],none,0,[],none,0,[],none,0⟩ :=
 ⟨⟨hc,hB,rfl,rfl,fun _ _=>rfl,fun _=>rfl,(fun s hs=>by cases hs),aw _,List.nodup_nil,(fun f hf=>by cases hf),aW _⟩,⟨0,aw _,BT hsh cat16⟩,rfl,rfl,aw _,(fun s hs=>by cases hs),(fun s hs=>by cases hs),.zero⟩
theorem Br {L:List HP} (sh:Int) (hsh:0≤sh∧sh<12) (nad:Option Addr) (nn nc:Nat) (xs:List Int) [hr:Rds L nad Int (encZ .i64) 1 xs] (hn:nn=xs.length) (hxs:∀ y∈xs,I64 y) (most:Nat) (hm:most≤90) :
  Tri Tryz.prog 37 #[.int .i64 sh,.slice nad nn nc,.int .i64 (most:Int)] L (fun v L'=>∃ (b:Nat) (S:LedM) (x:RLX),v=.pointer (some ⟨b,0,none⟩)∧GenR sh most S x∧L' = rlL b sh x L):=by
 refine Tri.body (args:=[.int .i64 sh,.slice nad nn nc,.int .i64 (most:Int)]) 26 en37 Tryz.func37 rfl rfl rfl (by simp) ?_
 repeat first|refine aa ?_|intro
 refine GO.ef (Ef.d7 (sq) rfl) ac ?_
 rintro _ _ ⟨c,rfl,⟨hc,hB⟩,rfl⟩
 simp only [CatV.cells]
 repeat first|refine aa ?_|intro
 rename_i b
 refine G.loop (α:=Nat×LedM×RLX) (fun z=>z.1≤most∧GenR sh z.1 z.2.1 z.2.2) (fun z=>[(1,.slice nad nn nc),(2,.int .i64 (most:Int)),(7,.pointer (some ⟨b,0,none⟩)),(8,.int .i64 (z.1:Int))]) (fun z=>rlL b sh z.2.2 L) (fun z=>most - z.1) (0,led0 sh cat16,⟨c,[],none,0,[],none,0,[],none,0⟩) ⟨al _,Fv hsh hc hB⟩ ai ?_ ?_
 ·refine (Ent.d9 rsP).trans ((Ent.d9 flP).trans ((Ent.d9 aX).trans ((Ent.d8 fS 3 tRS).trans ((Ent.d8 bF 11 cq).trans ((Ent.d8 aB 7 aU).trans ?_)))))
  simp only [rlL,aJ]
  exact ae
 rintro ⟨i,S,x⟩ ⟨hi,hg⟩
 dsimp only at hi hg ⊢
 by_cases hlt:i<most
 case neg =>
  obtain rfl:i=most:=ab
  repeat first|refine aa ?_|intro
  exact KX.d7 ag (Ent.refl _) ⟨b,S,x,rfl,hg,rfl⟩
 have hb:=hg.bnd ab
 have hcm:=hg.rf.cat.trans hg.cat
 have hcB:=hg.rf.catB
 repeat first|refine aa ?_|intro
 refine GO.ef (Ef.d7 (AA b sh hsh x hcm hcB hb.ok hb.stks hb.steps nad nn nc xs hn hxs (6*(i:Int)) ab) rfl) ac ?_
 rintro _ _ ⟨s,rfl,hs,rfl⟩
 repeat first|refine aa ?_|intro
 refine GO.ent (L':=rlL b sh x (stM s::stP s::L)) (by simp only [rlL,aJ];exact ae) ?_
 refine GO.ef (Ef.d7 (oC b sh i S x hg ab s hs) rfl) ac ?_
 rintro _ _ ⟨r,e,S',x',rfl,hg',rfl⟩
 repeat first|refine aa ?_|intro
 refine ⟨(i+1,S',x'),⟨by dsimp only;omega,hg'⟩,by dsimp only;omega,?_,?_⟩
 ·dsimp only
  rw [aM i]
  exact ai
 ·simp only [rlL,aJ]
  exact ae
theorem zo {L:List HP} (sh:Int) (hsh:0≤sh∧sh<12) (nad:Option Addr) (nn nc:Nat) (xs:List Int) [hr:Rds L nad Int (encZ .i64) 1 xs] (hn:nn=xs.length) (hxs:∀ y∈xs,I64 y) (most:Nat) (hm:most≤90) :
  Tri Tryz.prog 10 #[.int .i64 sh,.slice nad nn nc,.int .i64 (most:Int)] L (fun v L'=>∃ (b:Nat) (S:LedM) (x:RLX),v=.pointer (some ⟨b,0,none⟩)∧GenR sh (most+3) S x∧L' = rlL b sh x L):=by
 refine Tri.body (args:=[.int .i64 sh,.slice nad nn nc,.int .i64 (most:Int)]) 26 en10 Tryz.func10 rfl rfl rfl (by simp) ?_
 repeat first|refine aa ?_|intro
 refine GO.ef (Ef.d7 (Br sh hsh nad nn nc xs hn hxs most hm) rfl) ac ?_
 rintro _ _ ⟨b,S0,x0,rfl,hg0,rfl⟩
 repeat first|refine aa ?_|intro
 refine G.loop (α:=Nat×LedM×RLX) (fun z=>z.1≤3∧GenR sh (most+z.1) z.2.1 z.2.2) (fun z=>[(1,.slice nad nn nc),(7,.pointer (some ⟨b,0,none⟩)),(8,.int .i64 (z.1:Int))]) (fun z=>rlL b sh z.2.2 L) (fun z=>3 - z.1) (0,S0,x0) ⟨al _,hg0⟩ ai (Ent.refl _) ?_
 rintro ⟨i,S,x⟩ ⟨hi,hg⟩
 dsimp only at hi hg ⊢
 by_cases hlt:i<3
 case neg =>
  obtain rfl:i=3:=ab
  repeat first|refine aa ?_|intro
  exact KX.d7 ag (Ent.refl _) ⟨b,S,x,rfl,hg,rfl⟩
 have hb:=hg.bnd ab
 repeat first|refine aa ?_|intro
 refine GO.ef (Ef.d7 (zf b sh x hb.ok hb.stks hb.steps hb.flows hb.fl hb.lots nad nn nc xs hn hxs (6*(i:Int)+1) ab) rfl) ac ?_
 rintro _ _ ⟨s,rfl,hs,rfl⟩
 repeat first|refine aa ?_|intro
 refine GO.ent (L':=rlL b sh x (stM s::stP s::L)) (by simp only [rlL,aJ];exact ae) ?_
 refine GO.ef (Ef.d7 (oC b sh (most+i) S x hg ab s hs) rfl) ac ?_
 rintro _ _ ⟨r,e,S',x',rfl,hg',rfl⟩
 repeat first|refine aa ?_|intro
 refine ⟨(i+1,S',x'),⟨by dsimp only;omega,hg'⟩,by dsimp only;omega,?_,?_⟩
 ·dsimp only
  rw [aM i]
  exact ai
 ·simp only [rlL,aJ]
  exact ae
end
end Go.Proofs.YtommnllbflbdmaaGreatDoor
