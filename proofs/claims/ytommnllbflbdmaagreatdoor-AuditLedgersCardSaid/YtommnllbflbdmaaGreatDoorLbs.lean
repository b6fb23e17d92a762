/- Lemmas. -/
import Derived.Test.YtommnllbflbdmaaGreatDoorLG33
set_option linter.all false
set_option maxHeartbeats 16000000
namespace Go.Proofs.YtommnllbflbdmaaGreatDoor
section
open Go.V
attribute [local irreducible] G GO GP GPW GPK GF GE Ev Ef EfR Ent CB GB V.Enters
theorem sJ(kind tick:Int)(mad:OA)(mcap:Nat):StG0 ⟨0,kind,9,tick,-1,0,[],mad,mcap⟩ :=
 lh (ao _) (fun _ h=>absurd h aT) (ao _) (by unfold I64;dsimp only;omega) (fun _ _ _=>ao _)
theorem ny{kind tick frm to item n:Int}{p:Lot}(hp:p.1≤9223372036854775807)(a1 a2:OA):StG0 ⟨0,kind,9,tick,-1,0,[⟨⟨frm,to,item,n,[p]⟩,a1,1⟩],a2,1⟩ :=
 ⟨⟨ay rfl,by unfold I64;dsimp only;omega,fun m hm=>by rw[List.mem_singleton.1 hm];exact ay rfl,fun m hm=>by rw[List.mem_singleton.1 hm];exact aB _,fun m hm q hq=>by rw[List.mem_singleton.1 hm] at hq;rw[List.mem_singleton.1 hq];exact hp⟩,aB _,.inl ⟨aB _,fun m hm=>by rw[List.mem_singleton.1 hm];exact aB _⟩,fun hne=>kN (aB _) (hne _ aw)⟩
theorem qN(b1 b2:Nat)(frm to item n:Int)(p:Lot){L:LH}:Ent (obj b1 tLot (an p)::obj b2 tMv [ab frm,ab to,ab item,ab n,.slice (some ⟨b1,0,none⟩) 1 1]::L) (isl aM 5 (some ⟨b2,0,none⟩) [(⟨⟨frm,to,item,n,[p]⟩,some ⟨b1,0,none⟩,1⟩:MvV)]::allP mvP [(⟨⟨frm,to,item,n,[p]⟩,some ⟨b1,0,none⟩,1⟩:MvV)]::L):=by
 refine(Ent.e8 (enc:=an) (sz:=3) (xs:=[p]) (n:=1) (by simp) rfl (fun _ _=>rfl) ae).trans (Ent.freezeSl.trans ?_);refine(Ent.g7 (f:=mvP) (x:=(⟨⟨frm,to,item,n,[p]⟩,some ⟨b1,0,none⟩,1⟩:MvV)) iA).trans ?_;exact Ent.swap.trans ((Ent.e8 (enc:=aM) (sz:=5) (xs:=[(⟨⟨frm,to,item,n,[p]⟩,some ⟨b1,0,none⟩,1⟩:MvV)]) (n:=1) rfl rfl (fun _ _=>rfl) ae).trans Ent.freezeSl)
abbrev yl:List Stp:=[.ev 0,.ev 1,.ev 2,.ev 3,.ev 4,.ev 5,.ev 6,.ev 7]
theorem bF{φ ψ:Prop}(k:ψ)(h:Hid ψ→φ:=by intro k;(with_reducible apply G.d8);first|refine G.d7 (N:=188) (id:=22) yl mixed ap (Hid.out k)):φ:=h ⟨k⟩
theorem Ae{L:LH}(b:Nat)(sh:Int)(x:RLX)(hO:rOk x.stks)(hsl:x.stks.length≤100000)(htl:x.steps.length≤100000)(hfl:x.flows.length≤10000000)(hF:∀f∈x.flows,(1≤f.m.n∧f.m.n≤1099511627776)∧f.m.id≤9000000000000000000)(hL:∀s∈x.stks,∀l∈s.stk.lots,l.1≤9000000000000000000)(nad:OA)(nn nc:Nat)(xs:List Int)[hr:Rds L nad Int (encZ .i64) 1 xs](hn:nn=xs.length)(hxs:∀y∈xs,I64 y)(at_:Int)(hat:0≤at_∧at_≤100000) :
  Tri ah 41 #[au b,.slice nad nn nc,ab at_] (rlL b sh x L) (fun v L'=>∃s:StV,v=.agg (aJ s).toArray∧StG0 s∧L' = stM s::stP s::rlL b sh x L):=by
 obtain⟨ha0,ha1⟩:=hat;refine Tri.body (args:=[au b,.slice nad nn nc,ab at_]) 188 en41 Tryz.func41 rfl rfl rfl (by simp) ?_;simp only[rlL,aK];repeat first|refine aa ?_|intro _|refine bF ?_
 rename_i b6 b7;generalize htick:(x.steps.length:Int) / 2=tick;refine GO.ef (Ef.d7 (dp nad nn nc xs hn hxs (at_) 3 ac) rfl) ae ?_;rintro _ _⟨p1,rfl,hp1,rfl⟩;have p1a:=hp1.1;have p1b:=hp1.2.1 ac;clear hp1;by_cases h1:p1=0
 ·repeat first|refine aa ?_|intro _|refine bF ?_
  refine G.loop (α:=Nat×List MvV×OA×Nat) (fun g=>g.1≤x.flows.length∧StG0 ⟨0,9,9,tick,-1,0,g.2.1,g.2.2.1,g.2.2.2⟩) (fun g=>[(0,au b),(1,.slice nad nn nc),(2,ab at_),(6,au b6),(7,au b7),(8,ab (g.1:Int))]) (fun g=>obj b7 bh [ab 0,ab 9,ab 9,ab tick,ab (-1),ab 0,.slice g.2.2.1 g.2.1.length g.2.2.2]::isl aM 5 g.2.2.1 g.2.1::allP mvP g.2.1::obj b6 bh [ab 0,ab 0,ab 0,ab 0,ab 0,ab 0,.slice none 0 0]::rlL b sh x L) (fun g=>x.flows.length - g.1) (0,[],none,0) ⟨ao _,sJ 9 tick none 0⟩ aj ?_ ?_
  ·refine(Ent.e7 mvP).trans ((Ent.e9 aM 5 none).trans ?_);simp only[rlL,aK];exact ag
  rintro⟨i,ms,mad,mcap⟩ ⟨hi,hsg⟩;dsimp only at hi hsg ⊢;simp only[rlL,aK];by_cases hlt:i<x.flows.length
  case neg =>
   repeat first|refine aa ?_|intro _|refine bF ?_
   exact KX.d7 (ResOk.cell rfl (by rfl) ResOk.nil) (by(try simp only[rlL,aK]);exact ag) ⟨⟨0,9,9,tick,-1,0,ms,mad,mcap⟩,rfl,hsg,rfl⟩
  have hii:(i:Int).toNat=i:=aA i;have hlt' : (i:Int).toNat<x.flows.length:=ac;obtain⟨⟨hf1,hf2⟩,hf3⟩:=hF _ (aI hlt');repeat first|((fail_if_success (with_reducible refine G.atS 8 ?_));(with_reducible apply G.seq))|refine bB ?_|intro _|refine bF ?_
  rename_i b9;generalize x.flows[(i:Int).toNat]! = f at *;refine G.d9 (α:=Bool) (fun _=>True) (fun r=>[(0,au b),(1,.slice nad nn nc),(2,ab at_),(6,au b6),(7,au b7),(8,ab (i:Int)),(9,au b9),(67,.bool r)]) (fun _=>obj b9 bz (aL f)::obj b7 bh [ab 0,ab 9,ab 9,ab tick,ab (-1),ab 0,.slice mad ms.length mcap]::isl aM 5 mad ms::allP mvP ms::obj b6 bh [ab 0,ab 0,ab 0,ab 0,ab 0,ab 0,.slice none 0 0]::rlL b sh x L) ?_ ?_
  ·by_cases c1:f.m.kind=6
   ·repeat first|refine aa ?_|intro _|refine bF ?_
    exact⟨false,trivial,aj,by(try simp only[rlL,aK]);exact ag⟩
   by_cases c2:f.m.to=0
   case neg =>
    repeat first|refine aa ?_|intro _|refine bF ?_
    exact⟨false,trivial,aj,by(try simp only[rlL,aK]);exact ag⟩
   by_cases c3:ms.length=0
   case neg =>
    repeat first|refine aa ?_|intro _|refine bF ?_
    exact⟨false,trivial,aj,by(try simp only[rlL,aK]);exact ag⟩
   have hi4:0≤(i:Int) % 4∧(i:Int) % 4<4:=⟨dg _ ae,dw _ ae⟩;repeat first|refine aa ?_|intro _|refine bF ?_
   refine GO.ef (Ef.d7 (dp nad nn nc xs hn hxs (at_+1+(i:Int) % 4) 2 ac) rfl) ae ?_;rintro _ _⟨p2,rfl,hp2,rfl⟩;have p2a:=hp2.1;have p2b:=hp2.2.1 ac;clear hp2;repeat first|refine aa ?_|intro _|refine bF ?_
   exact⟨dB (p2=0),trivial,aj,by(try simp only[rlL,aK]);exact ag⟩
  intro r _;simp only[rlL,aK];cases r with
  | false =>
   repeat first|refine aa ?_|intro _|refine bF ?_
   exact⟨(i+1,ms,mad,mcap),⟨by dsimp only;omega,hsg⟩,by dsimp only;omega,by dsimp only;rw[aP i];exact aj,by(try simp only[rlL,aK]);exact ag⟩
  | true =>
   repeat first|refine aa ?_|intro _|refine bF ?_
   refine GO.ef (Ef.d7 (dp nad nn nc xs hn hxs (at_+2) f.m.n ac) rfl) ae ?_;rintro _ _⟨p3,rfl,hp3,rfl⟩;have p3a:=hp3.1;have p3b:=hp3.2.1 ac;clear hp3;repeat first|refine aa ?_|intro _|refine bF ?_
   refine GO.ef (Ef.d7 (dp nad nn nc xs hn hxs (at_+3) (f.m.n - p3) ac) rfl) ae ?_;rintro _ _⟨p4,rfl,hp4,rfl⟩;have p4a:=hp4.1;have p4b:=hp4.2.1 ac;clear hp4;repeat first|((fail_if_success (with_reducible refine G.atS 11 ?_));(with_reducible apply G.seq))|refine bB ?_|intro _|refine bF ?_
   refine G.f8 mixed ap ?_;refine GF.evP (i:=0) rfl ap (Ev.move rfl) ae ?_;refine GF.evP (i:=1) rfl ap (Ev.move rfl) ae ?_;refine GF.evP (i:=2) rfl ap (Ev.add rfl rfl ac ac) ae ?_;refine GF.evP (i:=5) rfl ap (by first|exact Ev.fieldAddr rfl|exact Ev.e9 rfl) ae ?_;refine GF.evL (i:=6) rfl ap (by first|exact Ev.d8 rfl rfl|exact Ev.d7 rfl (by rfl)|exact Ev.d9 rfl rfl|exact Ev.e7 rfl ac|exact Ev.f7 rfl ac ae rfl) ae ?_;refine GF.evP (i:=7) rfl ap (Ev.move rfl) ae ?_;refine GF.evP (i:=8) rfl ap (by first|exact Ev.fieldAddr rfl|exact Ev.e9 rfl) ae ?_;refine GF.evL (i:=9) rfl ap (by first|exact Ev.d8 rfl rfl|exact Ev.d7 rfl (by rfl)|exact Ev.d9 rfl rfl|exact Ev.e7 rfl ac|exact Ev.f7 rfl ac ae rfl) ae ?_;refine GF.evP (i:=10) rfl ap (Ev.move rfl) ae ?_;refine GF.evP (i:=11) rfl ap (Ev.move rfl) ae ?_;refine GF.evP (i:=12) rfl ap (Ev.build rfl rfl) ae ?_;refine GF.d7 3 13 ap ?_ ?_
   ·skip;refine GE.ef rfl (Ef.d7 (dp nad nn nc xs hn hxs (at_+4) 4 ac) rfl) ae ?_;rintro _ _⟨p5,rfl,hp5,rfl⟩;have p5a:=hp5.1;have p5b:=hp5.2.1 ac;clear hp5;refine⟨(by intro pe hp;simp only[bj,aT,or_false] at hp;rcases hp with rfl|rfl<;>first|exact Ev.d8 rfl rfl|exact Ev.d7 rfl (by rfl)|exact Ev.d9 rfl rfl),?_⟩;refine GF.plan [.ev 4,.ef 13,.ev 14,.ef 15,.ev 16,.ef 17] ap rfl ?_;repeat first|refine aa ?_|intro _|refine bF ?_
    rename_i b96 b98;exact⟨(i+1,[(⟨⟨0,1+p5,f.m.item,1+p4,[(f.m.id,p3,1+p4)]⟩,some ⟨b96,0,none⟩,1⟩:MvV)],some ⟨b98,0,none⟩,1),⟨by dsimp only;omega,ny (by dsimp only;omega) _ _⟩,by dsimp only;omega,by dsimp only;rw[aP i];exact aj,(Ent.at (A:=obj b98 tMv [ab 0,ab (1+p5),ab f.m.item,ab (1+p4),.slice (some ⟨b96,0,none⟩) 1 1]) (Ent.refl _)).trans ((Ent.at (A:=obj b96 tLot [ab f.m.id,ab p3,ab (1+p4)]) (qN b96 b98 0 (1+p5) f.m.item (1+p4) (f.m.id,p3,1+p4))).trans (by show Ent _ (obj b7 bh [ab 0,ab 9,ab 9,ab tick,ab (-1),ab 0,.slice (some ⟨b98,0,none⟩) 1 1]::isl aM 5 (some ⟨b98,0,none⟩) [(⟨⟨0,1+p5,f.m.item,1+p4,[(f.m.id,p3,1+p4)]⟩,some ⟨b96,0,none⟩,1⟩:MvV)]::allP mvP [(⟨⟨0,1+p5,f.m.item,1+p4,[(f.m.id,p3,1+p4)]⟩,some ⟨b96,0,none⟩,1⟩:MvV)]::obj b6 bh [ab 0,ab 0,ab 0,ab 0,ab 0,ab 0,.slice none 0 0]::rlL b sh x L);(try simp only[rlL,aK]);exact ag))⟩
   ·refine GE.ef rfl (Ef.lit rfl rfl ae rfl) ae ?_;rintro _ _⟨b96,rfl,rfl⟩;refine⟨(by intro pe hp;simp only[bj,aT,or_false] at hp;rcases hp with rfl|rfl<;>first|exact Ev.d8 rfl rfl|exact Ev.d7 rfl (by rfl)|exact Ev.d9 rfl rfl),?_⟩;refine GF.plan [.ef 3,.ev 4,.ev 14,.ef 15,.ev 16,.ef 17] ap rfl ?_;repeat first|refine aa ?_|intro _|refine bF ?_
    refine GPW.ef (Ef.d7 (dp nad nn nc xs hn hxs (at_+4) 4 ac) rfl) ae ?_;rintro _ _⟨p5,rfl,hp5,rfl⟩;have p5a:=hp5.1;have p5b:=hp5.2.1 ac;clear hp5;repeat first|refine aa ?_|intro _|refine bF ?_
    rename_i b98;exact⟨(i+1,[(⟨⟨0,1+p5,f.m.item,1+p4,[(f.m.id,p3,1+p4)]⟩,some ⟨b96,0,none⟩,1⟩:MvV)],some ⟨b98,0,none⟩,1),⟨by dsimp only;omega,ny (by dsimp only;omega) _ _⟩,by dsimp only;omega,by dsimp only;rw[aP i];exact aj,(Ent.at (A:=obj b98 tMv [ab 0,ab (1+p5),ab f.m.item,ab (1+p4),.slice (some ⟨b96,0,none⟩) 1 1]) (Ent.refl _)).trans ((Ent.at (A:=obj b96 tLot [ab f.m.id,ab p3,ab (1+p4)]) (qN b96 b98 0 (1+p5) f.m.item (1+p4) (f.m.id,p3,1+p4))).trans (by show Ent _ (obj b7 bh [ab 0,ab 9,ab 9,ab tick,ab (-1),ab 0,.slice (some ⟨b98,0,none⟩) 1 1]::isl aM 5 (some ⟨b98,0,none⟩) [(⟨⟨0,1+p5,f.m.item,1+p4,[(f.m.id,p3,1+p4)]⟩,some ⟨b96,0,none⟩,1⟩:MvV)]::allP mvP [(⟨⟨0,1+p5,f.m.item,1+p4,[(f.m.id,p3,1+p4)]⟩,some ⟨b96,0,none⟩,1⟩:MvV)]::obj b6 bh [ab 0,ab 0,ab 0,ab 0,ab 0,ab 0,.slice none 0 0]::rlL b sh x L);(try simp only[rlL,aK]);exact ag))⟩
 have hret:∀{M:LH},Ent (obj b7 bh [ab 0,ab 7,ab 9,ab tick,ab (-1),ab 0,.slice none 0 0]::M) (isl aM 5 none []::allP mvP []::obj b7 bh [ab 0,ab 7,ab 9,ab tick,ab (-1),ab 0,.slice none 0 0]::M):=(Ent.e7 mvP).trans (Ent.e9 aM 5 none);by_cases h2:x.stks.length=0
 ·repeat first|refine aa ?_|intro _|refine bF ?_
  exact KX.d7 (ResOk.cell rfl (by rfl) ResOk.nil) ((Ent.at (A:=obj b7 bh [ab 0,ab 7,ab 9,ab tick,ab (-1),ab 0,.slice none 0 0]) hret).trans (by(try simp only[rlL,aK]);exact ag)) ⟨⟨0,7,9,tick,-1,0,[],none,0⟩,rfl,sJ 7 tick none 0,rfl⟩
 repeat first|((fail_if_success (with_reducible refine G.atS 15 ?_));(with_reducible apply G.seq))|refine bB ?_|intro _|refine bF ?_
 refine G.d9 (α:=Nat×Nat) (fun g=>g.1<x.stks.length) (fun g=>[(0,au b),(1,.slice nad nn nc),(2,ab at_),(6,au b6),(7,au b7),(12,.pointer (some ⟨g.2,0,none⟩))]) (fun g=>obj g.2 tRS (gg x.stks[g.1]!)::obj b7 bh [ab 0,ab 7,ab 9,ab tick,ab (-1),ab 0,.slice none 0 0]::obj b6 bh [ab 0,ab 0,ab 0,ab 0,ab 0,ab 0,.slice none 0 0]::rlL b sh x L) ?_ ?_
 ·have hpn:∀{p:Int},0≤p→p<x.stks.length→∃k:Nat,p=(k:Int)∧k<x.stks.length:=fun {p} q1 q2=>⟨p.toNat,ac,ac⟩;refine G.f8 mixed ap ?_;refine GF.evP (i:=0) rfl ap (Ev.move rfl) ae ?_;refine GF.evP (i:=1) rfl ap (Ev.nilCheck rfl) ae ?_;refine GF.evP (i:=2) rfl ap (by first|exact Ev.fieldAddr rfl|exact Ev.e9 rfl) ae ?_;refine GF.evL (i:=3) rfl ap (by first|exact Ev.d8 rfl rfl|exact Ev.d7 rfl (by rfl)|exact Ev.d9 rfl rfl|exact Ev.e7 rfl ac|exact Ev.f7 rfl ac ae rfl) ae ?_;refine GF.evP (i:=4) rfl ap (Ev.move rfl) ae ?_;refine GF.evP (i:=5) rfl ap (Ev.move rfl) ae ?_;refine GF.evP (i:=6) rfl ap (Ev.add rfl rfl ac ac) ae ?_;refine GF.evP (i:=7) rfl ap (Ev.move rfl) ae ?_;refine GF.evP (i:=8) rfl ap (Ev.nilCheck rfl) ae ?_;refine GF.evP (i:=9) rfl ap (by first|exact Ev.fieldAddr rfl|exact Ev.e9 rfl) ae ?_;refine GF.evL (i:=10) rfl ap (by first|exact Ev.d8 rfl rfl|exact Ev.d7 rfl (by rfl)|exact Ev.d9 rfl rfl|exact Ev.e7 rfl ac|exact Ev.f7 rfl ac ae rfl) ae ?_;refine GF.evP (i:=11) rfl ap (Ev.r7 rfl) ae ?_;refine GF.d7 12 15 ap ?_ ?_
  ·skip;refine GE.ef rfl (Ef.d7 (dp nad nn nc xs hn hxs (at_+1) (x.stks.length:Int) ac) rfl) ae ?_;rintro _ _⟨p2,rfl,hp2,rfl⟩;have p2a:=hp2.1;have p2b:=hp2.2.1 ac;clear hp2;refine⟨(by intro pe hp;simp only[bj,aT,or_false] at hp;rcases hp with rfl|rfl<;>first|exact Ev.d8 rfl rfl|exact Ev.d7 rfl (by rfl)|exact Ev.d9 rfl rfl),?_⟩;obtain⟨k,rfl,hk⟩:=hpn p2a p2b;have hkk:(k:Int).toNat<x.stks.length:=ac;refine GF.plan [.ev 13,.ev 14,.ef 15,.ef 16] ap rfl ?_;repeat first|refine aa ?_|intro _|refine bF ?_
   rename_i b12;exact⟨((k:Int).toNat,b12),hkk,aj,by(try simp only[rlL,aK]);exact ag⟩
  ·refine GE.ef rfl Ef.alloc ae ?_;rintro _ _⟨b12,rfl,rfl⟩;refine⟨(by intro pe hp;simp only[bj,aT,or_false] at hp;rcases hp with rfl|rfl<;>first|exact Ev.d8 rfl rfl|exact Ev.d7 rfl (by rfl)|exact Ev.d9 rfl rfl),?_⟩;refine GF.plan [.ef 12,.ev 13,.ev 14,.ef 16] ap rfl ?_;repeat first|refine aa ?_|intro _|refine bF ?_
   refine GPW.ef (Ef.d7 (dp nad nn nc xs hn hxs (at_+1) (x.stks.length:Int) ac) rfl) ae ?_;rintro _ _⟨p2,rfl,hp2,rfl⟩;have p2a:=hp2.1;have p2b:=hp2.2.1 ac;clear hp2;obtain⟨k,rfl,hk⟩:=hpn p2a p2b;have hkk:(k:Int).toNat<x.stks.length:=ac;repeat first|refine aa ?_|intro _|refine bF ?_
   exact⟨((k:Int).toNat,b12),hkk,aj,by(try simp only[rlL,aK]);exact ag⟩
 rintro⟨k,b12⟩ hk;dsimp only at hk ⊢;have hs0:=hO _ (aI hk);have hl0:=hL _ (aI hk);refine G.ent (L':=stkP x.stks[k]!.stk::obj b12 tRS (gg x.stks[k]!)::obj b7 bh [ab 0,ab 7,ab 9,ab tick,ab (-1),ab 0,.slice none 0 0]::obj b6 bh [ab 0,ab 0,ab 0,ab 0,ab 0,ab 0,.slice none 0 0]::rlL b sh x L) ?_ ?_
 ·refine(Ent.at (A:=allP rsP x.stks) (Ent.d9 (f:=rsP) (aI hk))).trans ?_;simp only[rlL,aK];exact ag
 generalize x.stks[k]! = u at *;obtain⟨acc,item,⟨uad,ucap,lots⟩⟩:=u;dsimp only at hs0 hl0;simp only[gg,stkP,rlL,aK];by_cases h3:lots.length=0
 ·repeat first|refine aa ?_|intro _|refine bF ?_
  exact KX.d7 (ResOk.cell rfl (by rfl) ResOk.nil) ((Ent.at (A:=obj b7 bh [ab 0,ab 7,ab 9,ab tick,ab (-1),ab 0,.slice none 0 0]) hret).trans (by(try simp only[rlL,aK]);exact ag)) ⟨⟨0,7,9,tick,-1,0,[],none,0⟩,rfl,sJ 7 tick none 0,rfl⟩
 repeat first|((fail_if_success (with_reducible refine G.atS 18 ?_));(with_reducible apply G.seq))|refine bB ?_|intro _|refine bF ?_
 refine G.d9 (α:=Lot×Nat) (fun g=>g.1∈lots) (fun g=>[(0,au b),(1,.slice nad nn nc),(2,ab at_),(6,au b6),(7,au b7),(12,au b12),(13,.pointer (some ⟨g.2,0,none⟩))]) (fun g=>obj g.2 tLot (an g.1)::isl an 3 uad lots::obj b12 tRS [ab acc,ab item,.slice uad lots.length ucap]::obj b7 bh [ab 0,ab 7,ab 9,ab tick,ab (-1),ab 0,.slice none 0 0]::obj b6 bh [ab 0,ab 0,ab 0,ab 0,ab 0,ab 0,.slice none 0 0]::rlL b sh x L) ?_ ?_
 ·have hpn:∀{p:Int},0≤p→p<lots.length→∃k:Nat,p=(k:Int)∧k<lots.length:=fun {p} q1 q2=>⟨p.toNat,ac,ac⟩;refine G.f8 mixed ap ?_;refine GF.evP (i:=0) rfl ap (by first|exact Ev.fieldAddr rfl|exact Ev.e9 rfl) ae ?_;refine GF.evL (i:=1) rfl ap (by first|exact Ev.d8 rfl rfl|exact Ev.d7 rfl (by rfl)|exact Ev.d9 rfl rfl|exact Ev.e7 rfl ac|exact Ev.f7 rfl ac ae rfl) ae ?_;refine GF.evP (i:=2) rfl ap (Ev.move rfl) ae ?_;refine GF.evP (i:=3) rfl ap (Ev.move rfl) ae ?_;refine GF.evP (i:=4) rfl ap (Ev.add rfl rfl ac ac) ae ?_;refine GF.evP (i:=5) rfl ap (by first|exact Ev.fieldAddr rfl|exact Ev.e9 rfl) ae ?_;refine GF.evL (i:=6) rfl ap (by first|exact Ev.d8 rfl rfl|exact Ev.d7 rfl (by rfl)|exact Ev.d9 rfl rfl|exact Ev.e7 rfl ac|exact Ev.f7 rfl ac ae rfl) ae ?_;refine GF.evP (i:=7) rfl ap (Ev.r7 rfl) ae ?_;refine GF.d7 8 11 ap ?_ ?_
  ·skip;refine GE.ef rfl (Ef.d7 (dp nad nn nc xs hn hxs (at_+2) (lots.length:Int) ac) rfl) ae ?_;rintro _ _⟨p2,rfl,hp2,rfl⟩;have p2a:=hp2.1;have p2b:=hp2.2.1 ac;clear hp2;refine⟨(by intro pe hp;simp only[bj,aT,or_false] at hp;rcases hp with rfl|rfl<;>first|exact Ev.d8 rfl rfl|exact Ev.d7 rfl (by rfl)|exact Ev.d9 rfl rfl),?_⟩;obtain⟨j,rfl,hj⟩:=hpn p2a p2b;have hjj:(j:Int).toNat<lots.length:=ac;refine GF.plan [.ev 9,.ev 10,.ef 11,.ef 12] ap rfl ?_;repeat first|refine aa ?_|intro _|refine bF ?_
   rename_i b13;exact⟨(lots[(j:Int).toNat]!,b13),aI hjj,aj,by(try simp only[rlL,aK]);exact ag⟩
  ·refine GE.ef rfl Ef.alloc ae ?_;rintro _ _⟨b13,rfl,rfl⟩;refine⟨(by intro pe hp;simp only[bj,aT,or_false] at hp;rcases hp with rfl|rfl<;>first|exact Ev.d8 rfl rfl|exact Ev.d7 rfl (by rfl)|exact Ev.d9 rfl rfl),?_⟩;refine GF.plan [.ef 8,.ev 9,.ev 10,.ef 12] ap rfl ?_;repeat first|refine aa ?_|intro _|refine bF ?_
   refine GPW.ef (Ef.d7 (dp nad nn nc xs hn hxs (at_+2) (lots.length:Int) ac) rfl) ae ?_;rintro _ _⟨p2,rfl,hp2,rfl⟩;have p2a:=hp2.1;have p2b:=hp2.2.1 ac;clear hp2;obtain⟨j,rfl,hj⟩:=hpn p2a p2b;have hjj:(j:Int).toNat<lots.length:=ac;repeat first|refine aa ?_|intro _|refine bF ?_
   exact⟨(lots[(j:Int).toNat]!,b13),aI hjj,aj,by(try simp only[rlL,aK]);exact ag⟩
 rintro⟨⟨yf,ya,yn⟩,b13⟩ hy;dsimp only at hy ⊢;have hyo:=hs0.2 _ hy;have hyl:=hl0 _ hy;unfold LotOk at hyo;dsimp only at hyo hyl;simp only[an,rlL,aK];repeat first|refine aa ?_|intro _|refine bF ?_
 refine GO.ef (Ef.d7 (dp nad nn nc xs hn hxs (at_+3) yn ac) rfl) ae ?_;rintro _ _⟨p3,rfl,hp3,rfl⟩;have p3a:=hp3.1;have p3b:=hp3.2.1 ac;clear hp3;repeat first|refine aa ?_|intro _|refine bF ?_
 refine GO.ef (Ef.d7 (dp nad nn nc xs hn hxs (at_+4) (yn - p3) ac) rfl) ae ?_;rintro _ _⟨p4,rfl,hp4,rfl⟩;have p4a:=hp4.1;have p4b:=hp4.2.1 ac;clear hp4;repeat first|((fail_if_success (with_reducible refine G.atS 21 ?_));(with_reducible apply G.seq))|refine bB ?_|intro _|refine bF ?_
 refine G.d9 (α:=Int×Nat×Nat) (fun _=>True) (fun g=>[(0,au b),(1,.slice nad nn nc),(2,ab at_),(6,au b6),(7,au b7),(12,au b12)]) (fun g=>obj g.2.1 tLot (an (yf,ya+p3,1+p4))::obj g.2.2 tMv [ab acc,ab g.1,ab item,ab (1+p4),.slice (some ⟨g.2.1,0,none⟩) 1 1]::isl an 3 uad lots::obj b12 tRS [ab acc,ab item,.slice uad lots.length ucap]::obj b7 bh [ab 0,ab 7,ab 9,ab tick,ab (-1),ab 0,.slice (some ⟨g.2.2,0,none⟩) 1 1]::obj b6 bh [ab 0,ab 0,ab 0,ab 0,ab 0,ab 0,.slice none 0 0]::rlL b sh x L) ?_ ?_
 ·refine G.f8 mixed ap ?_;refine GF.evP (i:=0) rfl ap (by first|exact Ev.fieldAddr rfl|exact Ev.e9 rfl) ae ?_;refine GF.evL (i:=1) rfl ap (by first|exact Ev.d8 rfl rfl|exact Ev.d7 rfl (by rfl)|exact Ev.d9 rfl rfl|exact Ev.e7 rfl ac|exact Ev.f7 rfl ac ae rfl) ae ?_;refine GF.evP (i:=2) rfl ap (Ev.move rfl) ae ?_;refine GF.evP (i:=3) rfl ap (Ev.move rfl) ae ?_;refine GF.evP (i:=4) rfl ap (Ev.add rfl rfl ac ac) ae ?_;refine GF.evP (i:=6) rfl ap (by first|exact Ev.fieldAddr rfl|exact Ev.e9 rfl) ae ?_;refine GF.evL (i:=7) rfl ap (by first|exact Ev.d8 rfl rfl|exact Ev.d7 rfl (by rfl)|exact Ev.d9 rfl rfl|exact Ev.e7 rfl ac|exact Ev.f7 rfl ac ae rfl) ae ?_;refine GF.evP (i:=8) rfl ap (Ev.move rfl) ae ?_;refine GF.evP (i:=9) rfl ap (by first|exact Ev.fieldAddr rfl|exact Ev.e9 rfl) ae ?_;refine GF.evL (i:=10) rfl ap (by first|exact Ev.d8 rfl rfl|exact Ev.d7 rfl (by rfl)|exact Ev.d9 rfl rfl|exact Ev.e7 rfl ac|exact Ev.f7 rfl ac ae rfl) ae ?_;refine GF.evP (i:=11) rfl ap (by first|exact Ev.fieldAddr rfl|exact Ev.e9 rfl) ae ?_;refine GF.evL (i:=12) rfl ap (by first|exact Ev.d8 rfl rfl|exact Ev.d7 rfl (by rfl)|exact Ev.d9 rfl rfl|exact Ev.e7 rfl ac|exact Ev.f7 rfl ac ae rfl) ae ?_;refine GF.evP (i:=13) rfl ap (Ev.move rfl) ae ?_;refine GF.evP (i:=14) rfl ap (Ev.add rfl rfl ac ac) ae ?_;refine GF.evP (i:=15) rfl ap (Ev.move rfl) ae ?_;refine GF.evP (i:=16) rfl ap (Ev.build rfl rfl) ae ?_;refine GF.d7 5 17 ap ?_ ?_
  ·skip;refine GE.ef rfl (Ef.d7 (dp nad nn nc xs hn hxs (at_+5) 4 ac) rfl) ae ?_;rintro _ _⟨p5,rfl,hp5,rfl⟩;have p5a:=hp5.1;have p5b:=hp5.2.1 ac;clear hp5;refine⟨(by intro pe hp;simp only[bj,aT,or_false] at hp;rcases hp with rfl|rfl|rfl|rfl<;>first|exact Ev.d8 rfl rfl|exact Ev.d7 rfl (by rfl)|exact Ev.d9 rfl rfl),?_⟩;refine GF.plan [.ef 17,.ev 18,.ef 19,.ev 20,.ef 21] ap rfl ?_;repeat first|refine aa ?_|intro _|refine bF ?_
   rename_i b171 b173;exact⟨(p5,b171,b173),trivial,aj,by(try simp only[an,rlL,aK]);exact ag⟩
  ·refine GE.ef rfl (Ef.lit rfl rfl ae rfl) ae ?_;rintro _ _⟨b171,rfl,rfl⟩;refine⟨(by intro pe hp;simp only[bj,aT,or_false] at hp;rcases hp with rfl|rfl|rfl|rfl<;>first|exact Ev.d8 rfl rfl|exact Ev.d7 rfl (by rfl)|exact Ev.d9 rfl rfl),?_⟩;refine GF.plan [.ef 5,.ev 18,.ef 19,.ev 20,.ef 21] ap rfl ?_;repeat first|refine aa ?_|intro _|refine bF ?_
   refine GPW.ef (Ef.d7 (dp nad nn nc xs hn hxs (at_+5) 4 ac) rfl) ae ?_;rintro _ _⟨p5,rfl,hp5,rfl⟩;have p5a:=hp5.1;have p5b:=hp5.2.1 ac;clear hp5;repeat first|refine aa ?_|intro _|refine bF ?_
   rename_i b173;exact⟨(p5,b171,b173),trivial,aj,by(try simp only[an,rlL,aK]);exact ag⟩
 rintro⟨p5,b171,b173⟩ _;simp only[an,rlL,aK]
 have hend:∀(q:Int),Ent (obj b171 tLot (an (yf,ya+p3,1+p4))::obj b173 tMv [ab acc,ab q,ab item,ab (1+p4),.slice (some ⟨b171,0,none⟩) 1 1]::rlL b sh x L) (stM ⟨0,7,9,tick,-1,0,[⟨⟨acc,q,item,1+p4,[(yf,ya+p3,1+p4)]⟩,some ⟨b171,0,none⟩,1⟩],some ⟨b173,0,none⟩,1⟩::stP ⟨0,7,9,tick,-1,0,[⟨⟨acc,q,item,1+p4,[(yf,ya+p3,1+p4)]⟩,some ⟨b171,0,none⟩,1⟩],some ⟨b173,0,none⟩,1⟩::rlL b sh x L):=fun q =>
  qN b171 b173 acc q item (1+p4) (yf,ya+p3,1+p4)
 by_cases h4:p5=acc
 ·repeat first|refine aa ?_|intro _|refine bF ?_
  exact KX.d7 (ResOk.cell rfl (by rfl) ResOk.nil) (Ent.trans (by(try simp only[an,rlL,aK]);exact ag) (hend 0)) ⟨⟨0,7,9,tick,-1,0,[⟨⟨acc,0,item,1+p4,[(yf,ya+p3,1+p4)]⟩,some ⟨b171,0,none⟩,1⟩],some ⟨b173,0,none⟩,1⟩,rfl,ny (by dsimp only;omega) _ _,rfl⟩
 ·repeat first|refine aa ?_|intro _|refine bF ?_
  exact KX.d7 (ResOk.cell rfl (by rfl) ResOk.nil) (Ent.trans (by(try simp only[an,rlL,aK]);exact ag) (hend p5)) ⟨⟨0,7,9,tick,-1,0,[⟨⟨acc,p5,item,1+p4,[(yf,ya+p3,1+p4)]⟩,some ⟨b171,0,none⟩,1⟩],some ⟨b173,0,none⟩,1⟩,rfl,ny (by dsimp only;omega) _ _,rfl⟩
theorem oX{L:LH}(b:Nat)(sh:Int)(i:Nat)(S:LedM)(x:RLX)(h:GenR sh i S x)(hi:i≤100)(s:StV)(hs:StG0 s) :
  Tri ah 38 #[au b,.agg (aJ s).toArray] (rlL b sh x (stM s::stP s::L)) (fun v L'=>∃(r e:Int) (S' : LedM) (x' : RLX),v=.tuple #[ab r,ab e]∧GenR sh (i+1) S' x'∧L' = rlL b sh x' (stM s::stP s::L)):=by
 obtain⟨k,hk,hl⟩:=h.led;have hd:=h.shard;subst hd;have hm:=hs.k;refine(qf b S k hl.g (h.cat▸ri) (h.cat▸cat16_good) s hs.inp ac x h.rf).conseq ?_;rintro v _ ⟨rfl,x',hF,h0,h1,h2,rfl⟩;exact⟨_,⟨_,_,cT S s.m,x',rfl,h.post ac hs hF h0 h1 h2,rfl⟩,Ent.refl _⟩
theorem GU{sh:Int}(hsh:0≤sh∧sh<12){c:CatV}(hc:c.m=cat16)(hB:c.B):GenR sh 0 (led0 sh cat16) ⟨c,[],none,0,[],none,0,[],none,0⟩ :=
 ⟨⟨hc,hB,rfl,rfl,fun _ _=>rfl,fun _=>rfl,(fun s hs=>by cases hs),aB _,List.nodup_nil,(fun f hf=>by cases hf),bu _⟩,⟨0,aB _,wm hsh cat16⟩,rfl,rfl,aB _,(fun s hs=>by cases hs),(fun s hs=>by cases hs),.zero,(fun f hf=>by cases hf)⟩
theorem Cu{L:LH}(sh:Int)(hsh:0≤sh∧sh<12)(nad:OA)(nn nc:Nat)(xs:List Int)[hr:Rds L nad Int (encZ .i64) 1 xs](hn:nn=xs.length)(hxs:∀y∈xs,I64 y)(most:Nat)(hm:most≤90) :
  Tri ah 37 #[ab sh,.slice nad nn nc,ab (most:Int)] L (fun v L'=>∃(b:Nat) (S:LedM) (x:RLX),v=au b∧GenR sh most S x∧L' = rlL b sh x L):=by
 refine Tri.body (args:=[ab sh,.slice nad nn nc,ab (most:Int)]) 26 en37 Tryz.func37 rfl rfl rfl (by simp) ?_;repeat first|refine aa ?_|intro
 refine GO.ef (Ef.d7 (tu) rfl) ae ?_;rintro _ _⟨c,rfl,⟨hc,hB⟩,rfl⟩;simp only[CatV.cells];repeat first|refine aa ?_|intro
 rename_i b;refine G.loop (α:=Nat×LedM×RLX) (fun z=>z.1≤most∧GenR sh z.1 z.2.1 z.2.2) (fun z=>[(1,.slice nad nn nc),(2,ab (most:Int)),(7,au b),(8,ab (z.1:Int))]) (fun z=>rlL b sh z.2.2 L) (fun z=>most - z.1) (0,led0 sh cat16,⟨c,[],none,0,[],none,0,[],none,0⟩) ⟨ao _,GU hsh hc hB⟩ aj ?_ ?_
 ·refine(Ent.e7 rsP).trans ((Ent.e7 flP).trans ((Ent.e7 bA).trans ((Ent.d8 gg 3 tRS).trans ((Ent.d8 aL 11 bz).trans ((Ent.d8 aJ 7 bh).trans ?_)))));simp only[rlL,aK];exact ag
 rintro⟨i,S,x⟩ ⟨hi,hg⟩;dsimp only at hi hg ⊢;by_cases hlt:i<most
 case neg =>
  obtain rfl:i=most:=ac;repeat first|refine aa ?_|intro
  exact KX.d7 ai (Ent.refl _) ⟨b,S,x,rfl,hg,rfl⟩
 have hb:=hg.bnd ac;have hcm:=hg.rf.cat.trans hg.cat;have hcB:=hg.rf.catB;repeat first|refine aa ?_|intro
 refine GO.ef (Ef.d7 (Bw b sh hsh x hcm hcB hb.ok hb.stks hb.steps nad nn nc xs hn hxs (6*(i:Int)) ac) rfl) ae ?_;rintro _ _⟨s,rfl,hs,rfl⟩;repeat first|refine aa ?_|intro
 refine GO.ent (L':=rlL b sh x (stM s::stP s::L)) (by simp only[rlL,aK];exact ag) ?_;refine GO.ef (Ef.d7 (oX b sh i S x hg ac s hs) rfl) ae ?_;rintro _ _⟨r,e,S',x',rfl,hg',rfl⟩;repeat first|refine aa ?_|intro
 refine⟨(i+1,S',x'),⟨by dsimp only;omega,hg'⟩,by dsimp only;omega,?_,?_⟩
 ·dsimp only;rw[aP i];exact aj
 ·simp only[rlL,aK];exact ag
theorem An{L:LH}(sh:Int)(hsh:0≤sh∧sh<12)(nad:OA)(nn nc:Nat)(xs:List Int)[hr:Rds L nad Int (encZ .i64) 1 xs](hn:nn=xs.length)(hxs:∀y∈xs,I64 y)(most:Nat)(hm:most≤90) :
  Tri ah 10 #[ab sh,.slice nad nn nc,ab (most:Int)] L (fun v L'=>∃(b:Nat) (S:LedM) (x:RLX),v=au b∧GenR sh (most+3) S x∧L' = rlL b sh x L):=by
 refine Tri.body (args:=[ab sh,.slice nad nn nc,ab (most:Int)]) 26 en10 Tryz.func10 rfl rfl rfl (by simp) ?_;repeat first|refine aa ?_|intro
 refine GO.ef (Ef.d7 (Cu sh hsh nad nn nc xs hn hxs most hm) rfl) ae ?_;rintro _ _⟨b,S0,x0,rfl,hg0,rfl⟩;repeat first|refine aa ?_|intro
 refine G.loop (α:=Nat×LedM×RLX) (fun z=>z.1≤3∧GenR sh (most+z.1) z.2.1 z.2.2) (fun z=>[(1,.slice nad nn nc),(7,au b),(8,ab (z.1:Int))]) (fun z=>rlL b sh z.2.2 L) (fun z=>3 - z.1) (0,S0,x0) ⟨ao _,hg0⟩ aj (Ent.refl _) ?_;rintro⟨i,S,x⟩ ⟨hi,hg⟩;dsimp only at hi hg ⊢;by_cases hlt:i<3
 case neg =>
  obtain rfl:i=3:=ac;repeat first|refine aa ?_|intro
  exact KX.d7 ai (Ent.refl _) ⟨b,S,x,rfl,hg,rfl⟩
 have hb:=hg.bnd ac;repeat first|refine aa ?_|intro
 refine GO.ef (Ef.d7 (Ae b sh x hb.ok hb.stks hb.steps hb.flows hb.fl hb.lots nad nn nc xs hn hxs (6*(i:Int)+1) ac) rfl) ae ?_;rintro _ _⟨s,rfl,hs,rfl⟩;repeat first|refine aa ?_|intro
 refine GO.ent (L':=rlL b sh x (stM s::stP s::L)) (by simp only[rlL,aK];exact ag) ?_;refine GO.ef (Ef.d7 (oX b sh (most+i) S x hg ac s hs) rfl) ae ?_;rintro _ _⟨r,e,S',x',rfl,hg',rfl⟩;repeat first|refine aa ?_|intro
 refine⟨(i+1,S',x'),⟨by dsimp only;omega,hg'⟩,by dsimp only;omega,?_,?_⟩
 ·dsimp only;rw[aP i];exact aj
 ·simp only[rlL,aK];exact ag
