/- The model of package ledger: a step made from numbers (Next). (Printed by gen_g33.py.) -/
import Derived.Test.YtommnllbflbdmaaGreatDoorIbq
set_option linter.all false
set_option maxHeartbeats 16000000
namespace Go.Proofs.YtommnllbflbdmaaGreatDoor
open Go.V
attribute [local irreducible] G GO GP GPW GPK Ev Ef EfR Ent CB GB V.Enters
abbrev yO:List Stp:=[.ev 0,.ev 1,.ev 2,.ev 3,.ev 4,.ev 5,.ev 6,.ev 7,.ev 8,.ev 9,.ev 10,.ef 11,.ef 12,.ev 13,.ev 14,.ef 15,.ef 16,.ev 17,.ef 18]
abbrev yM:List Stp:=[.ev 0,.ev 1,.ev 2,.ev 3,.ev 4,.ev 5,.ev 6,.ev 7,.ev 8,.ev 9,.ev 10,.ev 14,.ev 15,.ev 16,.ev 19,.ev 20,.ef 11,.ev 12,.ev 13,.ef 17,.ev 18,.ef 21,.ef 22]
def aS{φ ψ:Prop}(k:ψ)(h:Hid ψ→φ:=by intro k;(with_reducible apply G.d8);first|refine G.d7 (N:=195) (id:=27) yO mixed aw (Hid.out k)|refine G.d7 (N:=195) (id:=37) yM mixed aw (Hid.out k)):φ:=h ⟨k⟩
def Xg{φ ψ:Prop}(k:ψ)(h:Hid ψ→φ:=by intro k;(repeat (first|refine aa ?_|intro zzz|((with_reducible apply G.d8);first|refine G.d7 (N:=195) (id:=27) yO mixed aw ?_|refine G.d7 (N:=195) (id:=37) yM mixed aw ?_)));(repeat revert zzz);exact Hid.out k):φ:=h ⟨k⟩
def BX{L:LH}(b:Nat)(sh:Int)(l2:0≤sh∧sh<12)(x:RLX)(f5:x.cat.m=cat16)(f2:x.cat.B)(hO:rOk x.stks)(m0:x.stks.length≤100000)(j3:x.steps.length≤100000)(a1:OA)(nn nc:Nat)(xs:List Int)[hr:Rds L a1 Int (encZ .i64) 1 xs](hn:nn=xs.length)(a4:∀y∈xs,I64 y)(at_:Int)(g2:0≤at_∧at_≤100000) :
  Tri ag 91 #[av b,.slice a1 nn nc,ac at_] (rlL b sh x L) (fun v L'=>∃s:StV,v=.agg (aL s).toArray∧StG0 s∧L' = stM s::stP s::rlL b sh x L):=by
 obtain⟨l3,k6⟩:=g2;refine Tri.bd ?_;simp only[rlL,aI];refine Xg ?_;intros;rename_i b6;generalize htick:(x.steps.length:Int) / 2=tick;refine GO.ca (fS a1 nn nc xs hn a4 (at_+1) 4 ah) ?_;rintro _ _⟨p1,rfl,d6,rfl⟩;have j5:=d6.1;have k1:=d6.2.1 ah;clear d6;refine Xg ?_;intros;refine GO.ca (fS a1 nn nc xs hn a4 (at_+2) 4 ah) ?_;rintro _ _⟨p2,rfl,f0,rfl⟩;have i8:=f0.1;have j1:=f0.2.1 ah;clear f0;generalize ha:1+p1=a;repeat first|((fail_if_success (with_reducible refine G.e7 4 ?_));(with_reducible apply G.seq))|refine bA ?_|intro _|refine aS ?_
 refine G.d9 (α:=Int) (fun bb=>1≤bb∧bb≤5∧bb≠a) (fun bb=>[(0,av b),(1,.slice a1 nn nc),(2,ac at_),(6,av b6),(7,ac tick),(8,ac a),(9,ac bb)]) (fun _=>obj b6 bB [ac 0,ac 0,ac 0,ac 0,ac 0,ac 0,.slice none 0 0]::rlL b sh x L) ?_ ?_
 ·by_cases hq:1+p2=a
  ·refine Xg ?_;intros;exact⟨5,⟨ab,ab,ab⟩,ai,by(try simp only[rlL,aI]);exact ae⟩
  ·refine Xg ?_;intros;exact⟨1+p2,⟨ab,ab,hq⟩,ai,by(try simp only[rlL,aI]);exact ae⟩
 rintro bb ⟨j9,j2,k3⟩;simp only[rlL,aI];refine Xg ?_;intros;refine GO.ca (fS a1 nn nc xs hn a4 (at_+3) 5 ah) ?_;rintro _ _⟨item,rfl,a5,rfl⟩;have f4:=a5.1;have f1:=a5.2.1 ah;clear a5;obtain⟨d0,b2⟩:=oq hO a item;have i7:=tw b2 d0;have i9:=qg b2;refine Xg ?_;intros;refine GO.ent (L':=rlL b sh x (obj b6 bB [ac 0,ac 0,ac 0,ac 0,ac 0,ac 0,.slice none 0 0]::L)) (by(try simp only[rlL,aI]);exact ae) ?_;refine GO.cr (pw b sh x a item ab hO) ?_;simp only[rlL,aI];generalize lsum (dE x.stks a item).lots=bal at *;refine Xg ?_;intros;refine GO.ca (fS a1 nn nc xs hn a4 (at_+4) (max 1 bal) ab) ?_;rintro _ _⟨p4,rfl,f3,rfl⟩;have g3:=f3.1;have g6:=f3.2.1 ab;repeat first|((fail_if_success (with_reducible refine G.e7 9 ?_));(with_reducible apply G.seq))|refine bA ?_|intro _|refine aS ?_
 rename_i a0 a2;generalize ham:1+p4=am;have i4:1≤am:=ab;have d3:I64 (-1):=by unfold I64;omega
 refine G.d9 (α:=StV) (fun s=>StG0 s) (fun s=>[(0,av b),(1,.slice a1 nn nc),(2,ac at_),(6,av b6),(7,ac tick),(8,ac a),(9,ac bb),(10,ac item),(12,av a2)]) (fun s=>obj a2 bB (aL s)::stM s::stP s::obj b6 bB [ac 0,ac 0,ac 0,ac 0,ac 0,ac 0,.slice none 0 0]::rlL b sh x L) ?_ ?_
 ·refine Xg ?_;intros;refine GO.ca (fS a1 nn nc xs hn a4 at_ 16 ah) ?_;rintro _ _⟨pk,rfl,b8,rfl⟩;have i3:=b8.1;have h3:=b8.2.1 ah;clear b8;repeat first|((fail_if_success (with_reducible refine G.e7 13 ?_));(with_reducible apply G.seq))|refine bA ?_|intro _|refine aS ?_
  refine G.d9 (α:=Bool) (fun r=>r=true↔pk≤3) (fun r=>[(0,av b),(1,.slice a1 nn nc),(2,ac at_),(6,av b6),(7,ac tick),(8,ac a),(9,ac bb),(10,ac item),(12,av a2),(60,ac pk),(82,.bool r)]) (fun _=>obj a2 bB [ac 0,ac 0,ac a,ac tick,ac (-1),ac 0,.slice (some ⟨a0,0,none⟩) 1 1]::obj a0 tMv [ac a,ac bb,ac item,ac am,.slice none 0 0]::obj b6 bB [ac 0,ac 0,ac 0,ac 0,ac 0,ac 0,.slice none 0 0]::rlL b sh x L) ?_ ?_
  ·by_cases c0:pk=0
   ·refine Xg ?_;intros;exact⟨dB (pk=0),by rw[aT c0];exact⟨fun _=>by omega,fun _=>rfl⟩,ai,by(try simp only[rlL,aI]);exact ae⟩
   by_cases c1:pk=1
   ·refine Xg ?_;intros;exact⟨dB (pk=1),by rw[aT c1];exact⟨fun _=>by omega,fun _=>rfl⟩,ai,by(try simp only[rlL,aI]);exact ae⟩
   by_cases c2:pk=2
   ·refine Xg ?_;intros;exact⟨dB (pk=2),by rw[aT c2];exact⟨fun _=>by omega,fun _=>rfl⟩,ai,by(try simp only[rlL,aI]);exact ae⟩
   by_cases c3:pk=3
   ·refine Xg ?_;intros;exact⟨dB (pk=3),by rw[aT c3];exact⟨fun _=>by omega,fun _=>rfl⟩,ai,by(try simp only[rlL,aI]);exact ae⟩
   refine Xg ?_;intros;exact⟨dB (pk=3),by rw[aH c3];exact⟨fun q=>absurd q ah,fun q=>absurd q ab⟩,ai,by(try simp only[rlL,aI]);exact ae⟩
  intro r hr;simp only[rlL,aI];cases r with
  | true =>
   refine Xg ?_;intros;refine GO.ca (fS a1 nn nc xs hn a4 (at_+4) 12 ah) ?_;rintro _ _⟨p5,rfl,d4,rfl⟩;have k7:=d4.1;have k5:=d4.2.1 ah;clear d4;refine Xg ?_;intros;refine GO.ca (fS a1 nn nc xs hn a4 (at_+5) 9 ah) ?_;rintro _ _⟨p6,rfl,e6,rfl⟩;have k4:=e6.1;have j6:=e6.2.1 ah;clear e6;refine Xg ?_;intros;rename_i a7;exact⟨⟨0,0,a,tick,-1,0,[mvN 0 a item (1+p5),mvN 0 bb ((item+1) % 5) (1+p6)],some ⟨a7,0,none⟩,2⟩,mu (az rfl) (fun m hm=>by simp only[bz,aV,or_false] at hm;rcases hm with rfl|rfl<;>rfl) (aB _) d3 (fun _=>wE rfl rfl (by show item≠(item+1) % 5;omega)),ai,(Ent.at (A:=obj a7 tMv [ac 0,ac a,ac item,ac (1+p5),.slice none 0 0,ac 0,ac bb,ac ((item+1) % 5),ac (1+p6),.slice none 0 0]) (Ent.g7 (enc:=aQ) (sz:=5) (xs:=[mvN 0 a item (1+p5),mvN 0 bb ((item+1) % 5) (1+p6)]) (n:=2) rfl rfl (fun _ _=>rfl) ah)).trans (Ent.freezeSl.trans ((jE [mvN 0 a item (1+p5),mvN 0 bb ((item+1) % 5) (1+p6)] (fun m hm=>by simp only[bz,aV,or_false] at hm;rcases hm with rfl|rfl<;>rfl)).trans (by show Ent _ (obj a2 bB [ac 0,ac 0,ac a,ac tick,ac (-1),ac 0,.slice (some ⟨a7,0,none⟩) 2 2]::isl aQ 5 (some ⟨a7,0,none⟩) [mvN 0 a item (1+p5),mvN 0 bb ((item+1) % 5) (1+p6)]::allP mvP [mvN 0 a item (1+p5),mvN 0 bb ((item+1) % 5) (1+p6)]::obj b6 bB [ac 0,ac 0,ac 0,ac 0,ac 0,ac 0,.slice none 0 0]::rlL b sh x L);(try simp only[rlL,aI]);exact ae)))⟩
  | false =>
  have h5:3<pk:=by
   have h2:¬pk≤3:=fun h=>absurd (hr.2 h) ah;omega
  clear hr;repeat first|((fail_if_success (with_reducible refine G.e7 19 ?_));(with_reducible apply G.seq))|refine bA ?_|intro _|refine aS ?_
  refine G.d9 (α:=Bool) (fun r=>r=true↔pk≤8) (fun r=>[(0,av b),(1,.slice a1 nn nc),(2,ac at_),(6,av b6),(7,ac tick),(8,ac a),(9,ac bb),(10,ac item),(12,av a2),(60,ac pk),(108,.bool r)]) (fun _=>obj a2 bB [ac 0,ac 0,ac a,ac tick,ac (-1),ac 0,.slice (some ⟨a0,0,none⟩) 1 1]::obj a0 tMv [ac a,ac bb,ac item,ac am,.slice none 0 0]::obj b6 bB [ac 0,ac 0,ac 0,ac 0,ac 0,ac 0,.slice none 0 0]::rlL b sh x L) ?_ ?_
  ·by_cases c4:pk=4
   ·refine Xg ?_;intros;exact⟨dB (pk=4),by rw[aT c4];exact⟨fun _=>by omega,fun _=>rfl⟩,ai,by(try simp only[rlL,aI]);exact ae⟩
   by_cases c5:pk=5
   ·refine Xg ?_;intros;exact⟨dB (pk=5),by rw[aT c5];exact⟨fun _=>by omega,fun _=>rfl⟩,ai,by(try simp only[rlL,aI]);exact ae⟩
   by_cases c6:pk=6
   ·refine Xg ?_;intros;exact⟨dB (pk=6),by rw[aT c6];exact⟨fun _=>by omega,fun _=>rfl⟩,ai,by(try simp only[rlL,aI]);exact ae⟩
   by_cases c7:pk=7
   ·refine Xg ?_;intros;exact⟨dB (pk=7),by rw[aT c7];exact⟨fun _=>by omega,fun _=>rfl⟩,ai,by(try simp only[rlL,aI]);exact ae⟩
   by_cases c8:pk=8
   ·refine Xg ?_;intros;exact⟨dB (pk=8),by rw[aT c8];exact⟨fun _=>by omega,fun _=>rfl⟩,ai,by(try simp only[rlL,aI]);exact ae⟩
   refine Xg ?_;intros;exact⟨dB (pk=8),by rw[aH c8];exact⟨fun q=>absurd q ah,fun q=>absurd q ab⟩,ai,by(try simp only[rlL,aI]);exact ae⟩
  intro r hr;simp only[rlL,aI];cases r with
  | true =>
   have e2:=hr.1 rfl;refine Xg ?_;intros;refine GO.ca (fS a1 nn nc xs hn a4 (at_+5) 4 ah) ?_;rintro _ _⟨p7,rfl,e4,rfl⟩;have i6:=e4.1;have l4:=e4.2.1 ah;clear e4;have k9:0≤item+1+p7:=ab;refine Xg ?_;intros;have g5:0≤(item+1+p7) % 5:=dD _ ah;have g4:item≠(item+1+p7) % 5:=ab;generalize (item+1+p7) % 5=back at *;obtain⟨e5,b3⟩:=oq hO bb back;have e0:=tw b3 e5;have d2:=qg b3;refine GO.ent (L':=rlL b sh x (obj a2 bB [ac 0,ac 2,ac a,ac tick,ac (-1),ac 0,.slice (some ⟨a0,0,none⟩) 1 1]::obj a0 tMv [ac a,ac bb,ac item,ac am,.slice none 0 0]::obj b6 bB [ac 0,ac 0,ac 0,ac 0,ac 0,ac 0,.slice none 0 0]::L)) (by(try simp only[rlL,aI]);exact ae) ?_;refine GO.cr (pw b sh x bb back ab hO) ?_;have b1:∃q,q=lsum (dE x.stks bb back).lots:=⟨_,rfl⟩;obtain⟨b4,b1⟩:=b1;rw[←b1] at e0 d2;rw[←b1];simp only[rlL,aI];have j7:([mvN a bb item am]).length=1:=rfl;by_cases hq:0<b4
   ·refine GO.ent (Ent.at (A:=obj a0 tMv [ac a,ac bb,ac item,ac am,.slice none 0 0]) (Ent.g7 (enc:=aQ) (sz:=5) (xs:=[mvN a bb item am]) (n:=1) rfl rfl (fun _ _=>rfl) ah)) ?_;refine Xg ?_;intros;refine GPW.ent (L':=rlL b sh x (osl aQ 5 tMv (some ⟨a0,0,none⟩) 1 [mvN a bb item am]::obj a2 bB [ac 0,ac 2,ac a,ac tick,ac (-1),ac 0,.slice (some ⟨a0,0,none⟩) 1 1]::obj b6 bB [ac 0,ac 0,ac 0,ac 0,ac 0,ac 0,.slice none 0 0]::L)) (by(try simp only[rlL,aI]);exact ae) ?_;refine GPW.cr (pw b sh x bb back ab hO) ?_;rw[←b1];simp only[rlL,aI];refine Xg ?_;intros;refine GPW.ca (fS a1 nn nc xs hn a4 (at_+5) b4 ab) ?_;rintro _ _⟨p8,rfl,d5,rfl⟩;have g0:=d5.1;have h8:=d5.2.1 ab;clear d5;refine Xg ?_;intros;refine GPW.ef (Ef.d7 (enc:=aQ) (e:=mvN bb a back (1+p8)) rfl rfl rfl rfl rfl (by rfl) (iL _) ab ab) ah ?_;rintro _ _⟨ad2,cap2,rfl,rfl⟩;repeat first|with_reducible apply GPK.nil|((with_reducible apply GPK.d7);first|refine GPK.drop rfl ?_|refine GPK.keep (Ev.d9 rfl rfl) ?_)
    refine GP.fct (fX (ad:=ad2) (cap:=cap2) (xs:=[mvN a bb item am]++[mvN bb a back (1+p8)]) (enc:=aQ) (sz:=5) (E:=tMv)) ?_;rintro⟨i1,_⟩;refine Xg ?_;intros;refine⟨⟨0,2,a,tick,-1,0,[mvN a bb item am,mvN bb a back (1+p8)],ad2,cap2⟩,?_,ai,?_⟩
    ·exact mu (az rfl) (fun m hm=>by simp only[bz,aV,or_false] at hm;rcases hm with rfl|rfl<;>rfl) i1 d3 (fun _=>wE rfl rfl g4)
    ·refine(Ent.frz ad2).trans ((jE [mvN a bb item am,mvN bb a back (1+p8)] (fun m hm=>by simp only[bz,aV,or_false] at hm;rcases hm with rfl|rfl<;>rfl)).trans ?_);show Ent _ (obj a2 bB [ac 0,ac 2,ac a,ac tick,ac (-1),ac 0,.slice ad2 ([mvN a bb item am]++[mvN bb a back (1+p8)]).length cap2]::isl aQ 5 ad2 ([mvN a bb item am]++[mvN bb a back (1+p8)])::allP mvP [mvN a bb item am,mvN bb a back (1+p8)]::obj b6 bB [ac 0,ac 0,ac 0,ac 0,ac 0,ac 0,.slice none 0 0]::rlL b sh x L);(try simp only[rlL,aI]);exact ae
   ·refine Xg ?_;intros;exact⟨⟨0,2,a,tick,-1,0,[mvN a bb item am],some ⟨a0,0,none⟩,1⟩,mu (az rfl) (fun m hm=>by rw[List.mem_singleton.1 hm];rfl) (aB _) (by unfold I64;dsimp only;omega) (fun a6=>ld (aj _) (a6 _ au)),ai,(Ent.at (A:=obj a0 tMv [ac a,ac bb,ac item,ac am,.slice none 0 0]) (Ent.g7 (enc:=aQ) (sz:=5) (xs:=[mvN a bb item am]) (n:=1) rfl rfl (fun _ _=>rfl) ah)).trans (Ent.freezeSl.trans ((jE [mvN a bb item am] (fun m hm=>by rw[List.mem_singleton.1 hm];rfl)).trans (by show Ent _ (obj a2 bB [ac 0,ac 2,ac a,ac tick,ac (-1),ac 0,.slice (some ⟨a0,0,none⟩) 1 1]::isl aQ 5 (some ⟨a0,0,none⟩) [mvN a bb item am]::allP mvP [mvN a bb item am]::obj b6 bB [ac 0,ac 0,ac 0,ac 0,ac 0,ac 0,.slice none 0 0]::rlL b sh x L);(try simp only[rlL,aI]);exact ae)))⟩
  | false =>
  have e2:8<pk:=by
   have h2:¬pk≤8:=fun h=>absurd (hr.2 h) ah;omega
  clear hr;by_cases c9:pk=9
  ·refine Xg ?_;intros;exact⟨⟨0,3,a,tick,-1,0,[mvN a bb item am],some ⟨a0,0,none⟩,1⟩,mu (az rfl) (fun m hm=>by rw[List.mem_singleton.1 hm];rfl) (aB _) (by unfold I64;dsimp only;omega) (fun a6=>ld (aj _) (a6 _ au)),ai,(Ent.at (A:=obj a0 tMv [ac a,ac bb,ac item,ac am,.slice none 0 0]) (Ent.g7 (enc:=aQ) (sz:=5) (xs:=[mvN a bb item am]) (n:=1) rfl rfl (fun _ _=>rfl) ah)).trans (Ent.freezeSl.trans ((jE [mvN a bb item am] (fun m hm=>by rw[List.mem_singleton.1 hm];rfl)).trans (by show Ent _ (obj a2 bB [ac 0,ac 3,ac a,ac tick,ac (-1),ac 0,.slice (some ⟨a0,0,none⟩) 1 1]::isl aQ 5 (some ⟨a0,0,none⟩) [mvN a bb item am]::allP mvP [mvN a bb item am]::obj b6 bB [ac 0,ac 0,ac 0,ac 0,ac 0,ac 0,.slice none 0 0]::rlL b sh x L);(try simp only[rlL,aI]);exact ae)))⟩
  by_cases k2:pk=10
  ·refine Xg ?_;intros;exact⟨⟨0,1,a,tick,-1,0,[mvN a 0 item am],some ⟨a0,0,none⟩,1⟩,mu (az rfl) (fun m hm=>by rw[List.mem_singleton.1 hm];rfl) (aB _) (by unfold I64;dsimp only;omega) (fun a6=>ld (aj _) (a6 _ au)),ai,(Ent.at (A:=obj a0 tMv [ac a,ac 0,ac item,ac am,.slice none 0 0]) (Ent.g7 (enc:=aQ) (sz:=5) (xs:=[mvN a 0 item am]) (n:=1) rfl rfl (fun _ _=>rfl) ah)).trans (Ent.freezeSl.trans ((jE [mvN a 0 item am] (fun m hm=>by rw[List.mem_singleton.1 hm];rfl)).trans (by show Ent _ (obj a2 bB [ac 0,ac 1,ac a,ac tick,ac (-1),ac 0,.slice (some ⟨a0,0,none⟩) 1 1]::isl aQ 5 (some ⟨a0,0,none⟩) [mvN a 0 item am]::allP mvP [mvN a 0 item am]::obj b6 bB [ac 0,ac 0,ac 0,ac 0,ac 0,ac 0,.slice none 0 0]::rlL b sh x L);(try simp only[rlL,aI]);exact ae)))⟩
  repeat first|((fail_if_success (with_reducible refine G.e7 33 ?_));(with_reducible apply G.seq))|refine bA ?_|intro _|refine aS ?_
  refine G.d9 (α:=Bool) (fun r=>r=true↔pk≤13) (fun r=>[(0,av b),(1,.slice a1 nn nc),(2,ac at_),(6,av b6),(7,ac tick),(8,ac a),(9,ac bb),(10,ac item),(12,av a2),(60,ac pk),(156,.bool r)]) (fun _=>obj a2 bB [ac 0,ac 0,ac a,ac tick,ac (-1),ac 0,.slice (some ⟨a0,0,none⟩) 1 1]::obj a0 tMv [ac a,ac bb,ac item,ac am,.slice none 0 0]::obj b6 bB [ac 0,ac 0,ac 0,ac 0,ac 0,ac 0,.slice none 0 0]::rlL b sh x L) ?_ ?_
  ·by_cases h7:pk=11
   ·refine Xg ?_;intros;exact⟨dB (pk=11),by rw[aT h7];exact⟨fun _=>by omega,fun _=>rfl⟩,ai,by(try simp only[rlL,aI]);exact ae⟩
   by_cases i2:pk=12
   ·refine Xg ?_;intros;exact⟨dB (pk=12),by rw[aT i2];exact⟨fun _=>by omega,fun _=>rfl⟩,ai,by(try simp only[rlL,aI]);exact ae⟩
   by_cases f6:pk=13
   ·refine Xg ?_;intros;exact⟨dB (pk=13),by rw[aT f6];exact⟨fun _=>by omega,fun _=>rfl⟩,ai,by(try simp only[rlL,aI]);exact ae⟩
   refine Xg ?_;intros;exact⟨dB (pk=13),by rw[aH f6];exact⟨fun q=>absurd q ah,fun q=>absurd q ab⟩,ai,by(try simp only[rlL,aI]);exact ae⟩
  intro r hr;simp only[rlL,aI];cases r with
  | true =>
   refine Xg ?_;intros;refine GO.ca (fS a1 nn nc xs hn a4 (at_+3) 4 ah) ?_;rintro _ _⟨p9,rfl,d1,rfl⟩;have j8:=d1.1;have j4:=d1.2.1 ah;clear d1;refine Xg ?_;intros;by_cases h1:1+p9=1
   ·refine Xg ?_;intros;refine GPW.ca (fS a1 nn nc xs hn a4 (at_+4) 3 ah) ?_;rintro _ _⟨i5,rfl,a8,rfl⟩;have i0:=a8.1;have h4:=a8.2.1 ah;clear a8;refine Xg ?_;intros;refine GPW.ca (fS a1 nn nc xs hn a4 (at_+5) 2 ah) ?_;rintro _ _⟨e1,rfl,a3,rfl⟩;have b9:=a3.1;have b7:=a3.2.1 ah;clear a3;refine Xg ?_;intros;refine GPW.ent (Ent.at (A:=catP x.cat) (Ent.refl _)) ?_;refine GPW.ca (qB x.cat f5 f2 (1+p9) ⟨ab,ab⟩ (dB (i5=0)) (fun _=>h1) (1+e1) a tick ab ⟨ab,ab⟩) ?_;rintro _ _⟨s,rfl,e3,rfl⟩;refine Xg ?_;intros;exact⟨s,e3,ai,by(try simp only[rlL,aI]);exact ae⟩
   ·refine Xg ?_;intros;refine GPW.ca (fS a1 nn nc xs hn a4 (at_+5) 2 ah) ?_;rintro _ _⟨e1,rfl,a3,rfl⟩;have b9:=a3.1;have b7:=a3.2.1 ah;clear a3;refine Xg ?_;intros;refine GPW.ent (Ent.at (A:=catP x.cat) (Ent.refl _)) ?_;refine GPW.ca (qB x.cat f5 f2 (1+p9) ⟨ab,ab⟩ false (fun q=>absurd q ah) (1+e1) a tick ab ⟨ab,ab⟩) ?_;rintro _ _⟨s,rfl,e3,rfl⟩;refine Xg ?_;intros;exact⟨s,e3,ai,by(try simp only[rlL,aI]);exact ae⟩
  | false =>
  have f8:13<pk:=by
   have h2:¬pk≤13:=fun h=>absurd (hr.2 h) ah;omega
  clear hr;by_cases k8:pk=14
  ·refine Xg ?_;intros;exact⟨⟨0,6,a,tick,-1,0,[mvN a 0 item am],some ⟨a0,0,none⟩,1⟩,mu (az rfl) (fun m hm=>by rw[List.mem_singleton.1 hm];rfl) (aB _) (by unfold I64;dsimp only;omega) (fun a6=>ld (aj _) (a6 _ au)),ai,(Ent.at (A:=obj a0 tMv [ac a,ac 0,ac item,ac am,.slice none 0 0]) (Ent.g7 (enc:=aQ) (sz:=5) (xs:=[mvN a 0 item am]) (n:=1) rfl rfl (fun _ _=>rfl) ah)).trans (Ent.freezeSl.trans ((jE [mvN a 0 item am] (fun m hm=>by rw[List.mem_singleton.1 hm];rfl)).trans (by show Ent _ (obj a2 bB [ac 0,ac 6,ac a,ac tick,ac (-1),ac 0,.slice (some ⟨a0,0,none⟩) 1 1]::isl aQ 5 (some ⟨a0,0,none⟩) [mvN a 0 item am]::allP mvP [mvN a 0 item am]::obj b6 bB [ac 0,ac 0,ac 0,ac 0,ac 0,ac 0,.slice none 0 0]::rlL b sh x L);(try simp only[rlL,aI]);exact ae)))⟩
  have h9:0≤(sh+1) % 12∧(sh+1) % 12<12:=⟨dD _ ah,dL _ ah⟩;refine Xg ?_;intros;refine GO.ca (fS a1 nn nc xs hn a4 (at_+4) 9 ah) ?_;rintro _ _⟨f9,rfl,b0,rfl⟩;have g1:=b0.1;have h6:=b0.2.1 ah;clear b0;refine Xg ?_;intros;rename_i a9 b5;have l1:LotOk ((sh+1) % 12*4294967296+f9,0,3):=by unfold LotOk;dsimp only;omega
  generalize hfl:(sh+1) % 12*4294967296+f9=fid at *;have h0:fid≤9223372036854775807:=ab;refine⟨⟨0,5,a,tick,-1,0,[⟨⟨0,a,item,3,[(fid,0,3)]⟩,some ⟨a9,0,none⟩,1⟩],some ⟨b5,0,none⟩,1⟩,⟨⟨az rfl,d3,?_,?_,?_⟩,aB _,.inl ⟨aB _,?_⟩,fun a6=>ld (aB _) (a6 _ au)⟩,ai,?_⟩
  ·intro m hm;rw[List.mem_singleton.1 hm];exact az rfl
  ·intro m hm;rw[List.mem_singleton.1 hm];exact aB _
  ·intro m hm p hp;rw[List.mem_singleton.1 hm] at hp;rw[List.mem_singleton.1 hp];exact h0
  ·intro m hm;rw[List.mem_singleton.1 hm];exact aB _
  ·refine(Ent.at (A:=obj a9 tLot [ac fid,ac 0,ac 3]) (Ent.g7 (enc:=ao) (sz:=3) (xs:=[(fid,0,3)]) (n:=1) rfl rfl (fun _ _=>rfl) ah)).trans (Ent.freezeSl.trans ?_);refine(Ent.g9 (f:=mvP) (x:=(⟨⟨0,a,item,3,[(fid,0,3)]⟩,some ⟨a9,0,none⟩,1⟩:MvV)) iI).trans ?_;refine(Ent.at (A:=obj b5 tMv [ac 0,ac a,ac item,ac 3,.slice (some ⟨a9,0,none⟩) 1 1]) (Ent.g7 (enc:=aQ) (sz:=5) (xs:=[(⟨⟨0,a,item,3,[(fid,0,3)]⟩,some ⟨a9,0,none⟩,1⟩:MvV)]) (n:=1) rfl rfl (fun _ _=>rfl) ah)).trans (Ent.freezeSl.trans ?_);show Ent _ (obj a2 bB [ac 0,ac 5,ac a,ac tick,ac (-1),ac 0,.slice (some ⟨b5,0,none⟩) 1 1]::isl aQ 5 (some ⟨b5,0,none⟩) [(⟨⟨0,a,item,3,[(fid,0,3)]⟩,some ⟨a9,0,none⟩,1⟩:MvV)]::allP mvP [(⟨⟨0,a,item,3,[(fid,0,3)]⟩,some ⟨a9,0,none⟩,1⟩:MvV)]::obj b6 bB [ac 0,ac 0,ac 0,ac 0,ac 0,ac 0,.slice none 0 0]::rlL b sh x L);(try simp only[rlL,aI]);exact ae
 intro s hs;simp only[rlL,aI];refine Xg ?_;intros;exact KX.d7 (ResOk.cell rfl (by rfl) ResOk.nil) (by(try simp only[rlL,aI]);exact ae) ⟨s,rfl,hs,rfl⟩
