/- The model of package ledger: a step made from numbers (Next). (Printed by gen_g33.py.) -/
import Derived.Test.YtommnllbflbdmaaGreatDoorLbq
set_option linter.all false
set_option maxHeartbeats 16000000
namespace Go.Proofs.YtommnllbflbdmaaGreatDoor
open Go.V
attribute [local irreducible] G GO GP GPW GPK Ev Ef EfR Ent CB GB V.Enters
abbrev yo:List Stp:=[.ev 0,.ev 1,.ev 2,.ev 3,.ev 4,.ev 5,.ev 6,.ev 7,.ev 8,.ev 9,.ev 10,.ef 11,.ef 12,.ev 13,.ev 14,.ef 15,.ef 16,.ev 17,.ef 18]
abbrev ym:List Stp:=[.ev 0,.ev 1,.ev 2,.ev 3,.ev 4,.ev 5,.ev 6,.ev 7,.ev 8,.ev 9,.ev 10,.ev 14,.ev 15,.ev 16,.ev 19,.ev 20,.ef 11,.ev 12,.ev 13,.ef 17,.ev 18,.ef 21,.ef 22]
theorem aS{φ ψ:Prop}(k:ψ)(h:Hid ψ→φ:=by intro k;(with_reducible apply G.d8);first|refine G.d7 (N:=195) (id:=27) yo mixed ap (Hid.out k)|refine G.d7 (N:=195) (id:=37) ym mixed ap (Hid.out k)):φ:=h ⟨k⟩
theorem Bw{L:LH}(b:Nat)(sh:Int)(hsh:0≤sh∧sh<12)(x:RLX)(hcm:x.cat.m=cat16)(hcB:x.cat.B)(hO:rOk x.stks)(hsl:x.stks.length≤100000)(htl:x.steps.length≤100000)(nad:OA)(nn nc:Nat)(xs:List Int)[hr:Rds L nad Int (encZ .i64) 1 xs](hn:nn=xs.length)(hxs:∀y∈xs,I64 y)(at_:Int)(hat:0≤at_∧at_≤100000) :
  Tri ah 91 #[au b,.slice nad nn nc,ab at_] (rlL b sh x L) (fun v L'=>∃s:StV,v=.agg (aJ s).toArray∧StG0 s∧L' = stM s::stP s::rlL b sh x L):=by
 obtain⟨ha0,ha1⟩:=hat;refine Tri.body (args:=[au b,.slice nad nn nc,ab at_]) 195 en91 Tryz.func91 rfl rfl rfl (by simp) ?_;simp only[rlL,aK];repeat first|refine aa ?_|intro _|refine aS ?_
 rename_i b6;generalize htick:(x.steps.length:Int) / 2=tick;refine GO.ef (Ef.d7 (dp nad nn nc xs hn hxs (at_+1) 4 ae) rfl) ae ?_;rintro _ _⟨p1,rfl,hp1,rfl⟩;have p1a:=hp1.1;have p1b:=hp1.2.1 ae;clear hp1;repeat first|refine aa ?_|intro _|refine aS ?_
 refine GO.ef (Ef.d7 (dp nad nn nc xs hn hxs (at_+2) 4 ae) rfl) ae ?_;rintro _ _⟨p2,rfl,hp2,rfl⟩;have p2a:=hp2.1;have p2b:=hp2.2.1 ae;clear hp2;generalize ha:1+p1=a;repeat first|((fail_if_success (with_reducible refine G.e7 4 ?_));(with_reducible apply G.seq))|refine bB ?_|intro _|refine aS ?_
 refine G.d9 (α:=Int) (fun bb=>1≤bb∧bb≤5∧bb≠a) (fun bb=>[(0,au b),(1,.slice nad nn nc),(2,ab at_),(6,au b6),(7,ab tick),(8,ab a),(9,ab bb)]) (fun _=>obj b6 bh [ab 0,ab 0,ab 0,ab 0,ab 0,ab 0,.slice none 0 0]::rlL b sh x L) ?_ ?_
 ·by_cases hq:1+p2=a
  ·repeat first|refine aa ?_|intro _|refine aS ?_
   exact⟨5,⟨ac,ac,ac⟩,aj,by(try simp only[rlL,aK]);exact ag⟩
  ·repeat first|refine aa ?_|intro _|refine aS ?_
   exact⟨1+p2,⟨ac,ac,hq⟩,aj,by(try simp only[rlL,aK]);exact ag⟩
 rintro bb ⟨hb1,hb2,hba⟩;simp only[rlL,aK];repeat first|refine aa ?_|intro _|refine aS ?_
 refine GO.ef (Ef.d7 (dp nad nn nc xs hn hxs (at_+3) 5 ae) rfl) ae ?_;rintro _ _⟨item,rfl,hitem,rfl⟩;have itema:=hitem.1;have itemb:=hitem.2.1 ae;clear hitem;obtain⟨hlk1,hlk2⟩:=nH hO a item;have hbl:=sV hlk2 hlk1;have hbn:=pM hlk2;repeat first|refine aa ?_|intro _|refine aS ?_
 refine GO.ent (L':=rlL b sh x (obj b6 bh [ab 0,ab 0,ab 0,ab 0,ab 0,ab 0,.slice none 0 0]::L)) (by(try simp only[rlL,aK]);exact ag) ?_;refine GO.ef (Ef.d7 (oO b sh x a item ac hO) rfl) ae ?_;rintro _ _⟨rfl,rfl⟩;simp only[rlL,aK];generalize lsum (dG x.stks a item).lots=bal at *;repeat first|refine aa ?_|intro _|refine aS ?_
 refine GO.ef (Ef.d7 (dp nad nn nc xs hn hxs (at_+4) (max 1 bal) ac) rfl) ae ?_;rintro _ _⟨p4,rfl,hp4,rfl⟩;have hp4a:=hp4.1;have hp4b:=hp4.2.1 ac;repeat first|((fail_if_success (with_reducible refine G.e7 9 ?_));(with_reducible apply G.seq))|refine bB ?_|intro _|refine aS ?_
 rename_i b56 b12;generalize ham:1+p4=am;have ham1:1≤am:=ac;have hIm:I64 (-1):=by unfold I64;omega
 refine G.d9 (α:=StV) (fun s=>StG0 s) (fun s=>[(0,au b),(1,.slice nad nn nc),(2,ab at_),(6,au b6),(7,ab tick),(8,ab a),(9,ab bb),(10,ab item),(12,au b12)]) (fun s=>obj b12 bh (aJ s)::stM s::stP s::obj b6 bh [ab 0,ab 0,ab 0,ab 0,ab 0,ab 0,.slice none 0 0]::rlL b sh x L) ?_ ?_
 ·repeat first|refine aa ?_|intro _|refine aS ?_
  refine GO.ef (Ef.d7 (dp nad nn nc xs hn hxs at_ 16 ae) rfl) ae ?_;rintro _ _⟨pk,rfl,hpk,rfl⟩;have hpka:=hpk.1;have hpkb:=hpk.2.1 ae;clear hpk;repeat first|((fail_if_success (with_reducible refine G.e7 13 ?_));(with_reducible apply G.seq))|refine bB ?_|intro _|refine aS ?_
  refine G.d9 (α:=Bool) (fun r=>r=true↔pk≤3) (fun r=>[(0,au b),(1,.slice nad nn nc),(2,ab at_),(6,au b6),(7,ab tick),(8,ab a),(9,ab bb),(10,ab item),(12,au b12),(60,ab pk),(82,.bool r)]) (fun _=>obj b12 bh [ab 0,ab 0,ab a,ab tick,ab (-1),ab 0,.slice (some ⟨b56,0,none⟩) 1 1]::obj b56 tMv [ab a,ab bb,ab item,ab am,.slice none 0 0]::obj b6 bh [ab 0,ab 0,ab 0,ab 0,ab 0,ab 0,.slice none 0 0]::rlL b sh x L) ?_ ?_
  ·by_cases c0:pk=0
   ·repeat first|refine aa ?_|intro _|refine aS ?_
    exact⟨dB (pk=0),by rw[aU c0];exact⟨fun _=>by omega,fun _=>rfl⟩,aj,by(try simp only[rlL,aK]);exact ag⟩
   by_cases c1:pk=1
   ·repeat first|refine aa ?_|intro _|refine aS ?_
    exact⟨dB (pk=1),by rw[aU c1];exact⟨fun _=>by omega,fun _=>rfl⟩,aj,by(try simp only[rlL,aK]);exact ag⟩
   by_cases c2:pk=2
   ·repeat first|refine aa ?_|intro _|refine aS ?_
    exact⟨dB (pk=2),by rw[aU c2];exact⟨fun _=>by omega,fun _=>rfl⟩,aj,by(try simp only[rlL,aK]);exact ag⟩
   by_cases c3:pk=3
   ·repeat first|refine aa ?_|intro _|refine aS ?_
    exact⟨dB (pk=3),by rw[aU c3];exact⟨fun _=>by omega,fun _=>rfl⟩,aj,by(try simp only[rlL,aK]);exact ag⟩
   repeat first|refine aa ?_|intro _|refine aS ?_
   exact⟨dB (pk=3),by rw[aF c3];exact⟨fun q=>absurd q ae,fun q=>absurd q ac⟩,aj,by(try simp only[rlL,aK]);exact ag⟩
  intro r hr;simp only[rlL,aK];cases r with
  | true =>
   repeat first|refine aa ?_|intro _|refine aS ?_
   refine GO.ef (Ef.d7 (dp nad nn nc xs hn hxs (at_+4) 12 ae) rfl) ae ?_;rintro _ _⟨p5,rfl,hp5,rfl⟩;have p5a:=hp5.1;have p5b:=hp5.2.1 ae;clear hp5;repeat first|refine aa ?_|intro _|refine aS ?_
   refine GO.ef (Ef.d7 (dp nad nn nc xs hn hxs (at_+5) 9 ae) rfl) ae ?_;rintro _ _⟨p6,rfl,hp6,rfl⟩;have p6a:=hp6.1;have p6b:=hp6.2.1 ae;clear hp6;repeat first|refine aa ?_|intro _|refine aS ?_
   rename_i b106;exact⟨⟨0,0,a,tick,-1,0,[mvN 0 a item (1+p5),mvN 0 bb ((item+1) % 5) (1+p6)],some ⟨b106,0,none⟩,2⟩,lh (ay rfl) (fun m hm=>by simp only[bj,aT,or_false] at hm;rcases hm with rfl|rfl<;>rfl) (aB _) hIm (fun _=>wi rfl rfl (by show item≠(item+1) % 5;omega)),aj,(Ent.at (A:=obj b106 tMv [ab 0,ab a,ab item,ab (1+p5),.slice none 0 0,ab 0,ab bb,ab ((item+1) % 5),ab (1+p6),.slice none 0 0]) (Ent.e8 (enc:=aM) (sz:=5) (xs:=[mvN 0 a item (1+p5),mvN 0 bb ((item+1) % 5) (1+p6)]) (n:=2) rfl rfl (fun _ _=>rfl) ae)).trans (Ent.freezeSl.trans ((jt [mvN 0 a item (1+p5),mvN 0 bb ((item+1) % 5) (1+p6)] (fun m hm=>by simp only[bj,aT,or_false] at hm;rcases hm with rfl|rfl<;>rfl)).trans (by show Ent _ (obj b12 bh [ab 0,ab 0,ab a,ab tick,ab (-1),ab 0,.slice (some ⟨b106,0,none⟩) 2 2]::isl aM 5 (some ⟨b106,0,none⟩) [mvN 0 a item (1+p5),mvN 0 bb ((item+1) % 5) (1+p6)]::allP mvP [mvN 0 a item (1+p5),mvN 0 bb ((item+1) % 5) (1+p6)]::obj b6 bh [ab 0,ab 0,ab 0,ab 0,ab 0,ab 0,.slice none 0 0]::rlL b sh x L);(try simp only[rlL,aK]);exact ag)))⟩
  | false =>
  have hpk3:3<pk:=by
   have h2:¬pk≤3:=fun h=>absurd (hr.2 h) ae;omega
  clear hr;repeat first|((fail_if_success (with_reducible refine G.e7 19 ?_));(with_reducible apply G.seq))|refine bB ?_|intro _|refine aS ?_
  refine G.d9 (α:=Bool) (fun r=>r=true↔pk≤8) (fun r=>[(0,au b),(1,.slice nad nn nc),(2,ab at_),(6,au b6),(7,ab tick),(8,ab a),(9,ab bb),(10,ab item),(12,au b12),(60,ab pk),(108,.bool r)]) (fun _=>obj b12 bh [ab 0,ab 0,ab a,ab tick,ab (-1),ab 0,.slice (some ⟨b56,0,none⟩) 1 1]::obj b56 tMv [ab a,ab bb,ab item,ab am,.slice none 0 0]::obj b6 bh [ab 0,ab 0,ab 0,ab 0,ab 0,ab 0,.slice none 0 0]::rlL b sh x L) ?_ ?_
  ·by_cases c4:pk=4
   ·repeat first|refine aa ?_|intro _|refine aS ?_
    exact⟨dB (pk=4),by rw[aU c4];exact⟨fun _=>by omega,fun _=>rfl⟩,aj,by(try simp only[rlL,aK]);exact ag⟩
   by_cases c5:pk=5
   ·repeat first|refine aa ?_|intro _|refine aS ?_
    exact⟨dB (pk=5),by rw[aU c5];exact⟨fun _=>by omega,fun _=>rfl⟩,aj,by(try simp only[rlL,aK]);exact ag⟩
   by_cases c6:pk=6
   ·repeat first|refine aa ?_|intro _|refine aS ?_
    exact⟨dB (pk=6),by rw[aU c6];exact⟨fun _=>by omega,fun _=>rfl⟩,aj,by(try simp only[rlL,aK]);exact ag⟩
   by_cases c7:pk=7
   ·repeat first|refine aa ?_|intro _|refine aS ?_
    exact⟨dB (pk=7),by rw[aU c7];exact⟨fun _=>by omega,fun _=>rfl⟩,aj,by(try simp only[rlL,aK]);exact ag⟩
   by_cases c8:pk=8
   ·repeat first|refine aa ?_|intro _|refine aS ?_
    exact⟨dB (pk=8),by rw[aU c8];exact⟨fun _=>by omega,fun _=>rfl⟩,aj,by(try simp only[rlL,aK]);exact ag⟩
   repeat first|refine aa ?_|intro _|refine aS ?_
   exact⟨dB (pk=8),by rw[aF c8];exact⟨fun q=>absurd q ae,fun q=>absurd q ac⟩,aj,by(try simp only[rlL,aK]);exact ag⟩
  intro r hr;simp only[rlL,aK];cases r with
  | true =>
   have hpk8:=hr.1 rfl;repeat first|refine aa ?_|intro _|refine aS ?_
   refine GO.ef (Ef.d7 (dp nad nn nc xs hn hxs (at_+5) 4 ae) rfl) ae ?_;rintro _ _⟨p7,rfl,hp7,rfl⟩;have p7a:=hp7.1;have p7b:=hp7.2.1 ae;clear hp7;have hbk:0≤item+1+p7:=ac;repeat first|refine aa ?_|intro _|refine aS ?_
   have hbk2:0≤(item+1+p7) % 5:=dg _ ae;have hbi:item≠(item+1+p7) % 5:=ac;generalize (item+1+p7) % 5=back at *;obtain⟨hlk3,hlk4⟩:=nH hO bb back;have hbl2:=sV hlk4 hlk3;have hbn2:=pM hlk4;refine GO.ent (L':=rlL b sh x (obj b12 bh [ab 0,ab 2,ab a,ab tick,ab (-1),ab 0,.slice (some ⟨b56,0,none⟩) 1 1]::obj b56 tMv [ab a,ab bb,ab item,ab am,.slice none 0 0]::obj b6 bh [ab 0,ab 0,ab 0,ab 0,ab 0,ab 0,.slice none 0 0]::L)) (by(try simp only[rlL,aK]);exact ag) ?_;refine GO.ef (Ef.d7 (oO b sh x bb back ac hO) rfl) ae ?_;rintro _ _⟨rfl,rfl⟩;have hbe:∃q,q=lsum (dG x.stks bb back).lots:=⟨_,rfl⟩;obtain⟨bal2,hbe⟩:=hbe;rw[←hbe] at hbl2 hbn2;rw[←hbe];simp only[rlL,aK];have hl1:([mvN a bb item am]).length=1:=rfl;by_cases hq:0<bal2
   ·refine GO.ent (Ent.at (A:=obj b56 tMv [ab a,ab bb,ab item,ab am,.slice none 0 0]) (Ent.e8 (enc:=aM) (sz:=5) (xs:=[mvN a bb item am]) (n:=1) rfl rfl (fun _ _=>rfl) ae)) ?_;repeat first|refine aa ?_|intro _|refine aS ?_
    refine GPW.ent (L':=rlL b sh x (osl aM 5 tMv (some ⟨b56,0,none⟩) 1 [mvN a bb item am]::obj b12 bh [ab 0,ab 2,ab a,ab tick,ab (-1),ab 0,.slice (some ⟨b56,0,none⟩) 1 1]::obj b6 bh [ab 0,ab 0,ab 0,ab 0,ab 0,ab 0,.slice none 0 0]::L)) (by(try simp only[rlL,aK]);exact ag) ?_;refine GPW.ef (Ef.d7 (oO b sh x bb back ac hO) rfl) ae ?_;rintro _ _⟨rfl,rfl⟩;rw[←hbe];simp only[rlL,aK];repeat first|refine aa ?_|intro _|refine aS ?_
    refine GPW.ef (Ef.d7 (dp nad nn nc xs hn hxs (at_+5) bal2 ac) rfl) ae ?_;rintro _ _⟨p8,rfl,hp8,rfl⟩;have hp8a:=hp8.1;have hp8b:=hp8.2.1 ac;clear hp8;repeat first|refine aa ?_|intro _|refine aS ?_
    refine GPW.ef (Ef.d8 (enc:=aM) (e:=mvN bb a back (1+p8)) rfl rfl rfl rfl rfl (by rfl) (iD _) ac ac) ae ?_;rintro _ _⟨ad2,cap2,rfl,rfl⟩;repeat first|with_reducible apply GPK.nil|((with_reducible apply GPK.d7);first|refine GPK.drop rfl ?_|refine GPK.keep (Ev.d8 rfl rfl) ?_)
    refine GP.fct (fI (ad:=ad2) (cap:=cap2) (xs:=[mvN a bb item am]++[mvN bb a back (1+p8)]) (enc:=aM) (sz:=5) (E:=tMv)) ?_;rintro⟨hc2,_⟩;repeat first|refine aa ?_|intro _|refine aS ?_
    refine⟨⟨0,2,a,tick,-1,0,[mvN a bb item am,mvN bb a back (1+p8)],ad2,cap2⟩,?_,aj,?_⟩
    ·exact lh (ay rfl) (fun m hm=>by simp only[bj,aT,or_false] at hm;rcases hm with rfl|rfl<;>rfl) hc2 hIm (fun _=>wi rfl rfl hbi)
    ·refine(Ent.frz ad2).trans ((jt [mvN a bb item am,mvN bb a back (1+p8)] (fun m hm=>by simp only[bj,aT,or_false] at hm;rcases hm with rfl|rfl<;>rfl)).trans ?_);show Ent _ (obj b12 bh [ab 0,ab 2,ab a,ab tick,ab (-1),ab 0,.slice ad2 ([mvN a bb item am]++[mvN bb a back (1+p8)]).length cap2]::isl aM 5 ad2 ([mvN a bb item am]++[mvN bb a back (1+p8)])::allP mvP [mvN a bb item am,mvN bb a back (1+p8)]::obj b6 bh [ab 0,ab 0,ab 0,ab 0,ab 0,ab 0,.slice none 0 0]::rlL b sh x L);(try simp only[rlL,aK]);exact ag
   ·repeat first|refine aa ?_|intro _|refine aS ?_
    exact⟨⟨0,2,a,tick,-1,0,[mvN a bb item am],some ⟨b56,0,none⟩,1⟩,lh (ay rfl) (fun m hm=>by rw[List.mem_singleton.1 hm];rfl) (aB _) (by unfold I64;dsimp only;omega) (fun hne=>kN (ao _) (hne _ aw)),aj,(Ent.at (A:=obj b56 tMv [ab a,ab bb,ab item,ab am,.slice none 0 0]) (Ent.e8 (enc:=aM) (sz:=5) (xs:=[mvN a bb item am]) (n:=1) rfl rfl (fun _ _=>rfl) ae)).trans (Ent.freezeSl.trans ((jt [mvN a bb item am] (fun m hm=>by rw[List.mem_singleton.1 hm];rfl)).trans (by show Ent _ (obj b12 bh [ab 0,ab 2,ab a,ab tick,ab (-1),ab 0,.slice (some ⟨b56,0,none⟩) 1 1]::isl aM 5 (some ⟨b56,0,none⟩) [mvN a bb item am]::allP mvP [mvN a bb item am]::obj b6 bh [ab 0,ab 0,ab 0,ab 0,ab 0,ab 0,.slice none 0 0]::rlL b sh x L);(try simp only[rlL,aK]);exact ag)))⟩
  | false =>
  have hpk8:8<pk:=by
   have h2:¬pk≤8:=fun h=>absurd (hr.2 h) ae;omega
  clear hr;by_cases c9:pk=9
  ·repeat first|refine aa ?_|intro _|refine aS ?_
   exact⟨⟨0,3,a,tick,-1,0,[mvN a bb item am],some ⟨b56,0,none⟩,1⟩,lh (ay rfl) (fun m hm=>by rw[List.mem_singleton.1 hm];rfl) (aB _) (by unfold I64;dsimp only;omega) (fun hne=>kN (ao _) (hne _ aw)),aj,(Ent.at (A:=obj b56 tMv [ab a,ab bb,ab item,ab am,.slice none 0 0]) (Ent.e8 (enc:=aM) (sz:=5) (xs:=[mvN a bb item am]) (n:=1) rfl rfl (fun _ _=>rfl) ae)).trans (Ent.freezeSl.trans ((jt [mvN a bb item am] (fun m hm=>by rw[List.mem_singleton.1 hm];rfl)).trans (by show Ent _ (obj b12 bh [ab 0,ab 3,ab a,ab tick,ab (-1),ab 0,.slice (some ⟨b56,0,none⟩) 1 1]::isl aM 5 (some ⟨b56,0,none⟩) [mvN a bb item am]::allP mvP [mvN a bb item am]::obj b6 bh [ab 0,ab 0,ab 0,ab 0,ab 0,ab 0,.slice none 0 0]::rlL b sh x L);(try simp only[rlL,aK]);exact ag)))⟩
  by_cases c10:pk=10
  ·repeat first|refine aa ?_|intro _|refine aS ?_
   exact⟨⟨0,1,a,tick,-1,0,[mvN a 0 item am],some ⟨b56,0,none⟩,1⟩,lh (ay rfl) (fun m hm=>by rw[List.mem_singleton.1 hm];rfl) (aB _) (by unfold I64;dsimp only;omega) (fun hne=>kN (ao _) (hne _ aw)),aj,(Ent.at (A:=obj b56 tMv [ab a,ab 0,ab item,ab am,.slice none 0 0]) (Ent.e8 (enc:=aM) (sz:=5) (xs:=[mvN a 0 item am]) (n:=1) rfl rfl (fun _ _=>rfl) ae)).trans (Ent.freezeSl.trans ((jt [mvN a 0 item am] (fun m hm=>by rw[List.mem_singleton.1 hm];rfl)).trans (by show Ent _ (obj b12 bh [ab 0,ab 1,ab a,ab tick,ab (-1),ab 0,.slice (some ⟨b56,0,none⟩) 1 1]::isl aM 5 (some ⟨b56,0,none⟩) [mvN a 0 item am]::allP mvP [mvN a 0 item am]::obj b6 bh [ab 0,ab 0,ab 0,ab 0,ab 0,ab 0,.slice none 0 0]::rlL b sh x L);(try simp only[rlL,aK]);exact ag)))⟩
  repeat first|((fail_if_success (with_reducible refine G.e7 33 ?_));(with_reducible apply G.seq))|refine bB ?_|intro _|refine aS ?_
  refine G.d9 (α:=Bool) (fun r=>r=true↔pk≤13) (fun r=>[(0,au b),(1,.slice nad nn nc),(2,ab at_),(6,au b6),(7,ab tick),(8,ab a),(9,ab bb),(10,ab item),(12,au b12),(60,ab pk),(156,.bool r)]) (fun _=>obj b12 bh [ab 0,ab 0,ab a,ab tick,ab (-1),ab 0,.slice (some ⟨b56,0,none⟩) 1 1]::obj b56 tMv [ab a,ab bb,ab item,ab am,.slice none 0 0]::obj b6 bh [ab 0,ab 0,ab 0,ab 0,ab 0,ab 0,.slice none 0 0]::rlL b sh x L) ?_ ?_
  ·by_cases c11:pk=11
   ·repeat first|refine aa ?_|intro _|refine aS ?_
    exact⟨dB (pk=11),by rw[aU c11];exact⟨fun _=>by omega,fun _=>rfl⟩,aj,by(try simp only[rlL,aK]);exact ag⟩
   by_cases c12:pk=12
   ·repeat first|refine aa ?_|intro _|refine aS ?_
    exact⟨dB (pk=12),by rw[aU c12];exact⟨fun _=>by omega,fun _=>rfl⟩,aj,by(try simp only[rlL,aK]);exact ag⟩
   by_cases c13:pk=13
   ·repeat first|refine aa ?_|intro _|refine aS ?_
    exact⟨dB (pk=13),by rw[aU c13];exact⟨fun _=>by omega,fun _=>rfl⟩,aj,by(try simp only[rlL,aK]);exact ag⟩
   repeat first|refine aa ?_|intro _|refine aS ?_
   exact⟨dB (pk=13),by rw[aF c13];exact⟨fun q=>absurd q ae,fun q=>absurd q ac⟩,aj,by(try simp only[rlL,aK]);exact ag⟩
  intro r hr;simp only[rlL,aK];cases r with
  | true =>
   repeat first|refine aa ?_|intro _|refine aS ?_
   refine GO.ef (Ef.d7 (dp nad nn nc xs hn hxs (at_+3) 4 ae) rfl) ae ?_;rintro _ _⟨p9,rfl,hp9,rfl⟩;have p9a:=hp9.1;have p9b:=hp9.2.1 ae;clear hp9;repeat first|refine aa ?_|intro _|refine aS ?_
   by_cases hr1:1+p9=1
   ·repeat first|refine aa ?_|intro _|refine aS ?_
    refine GPW.ef (Ef.d7 (dp nad nn nc xs hn hxs (at_+4) 3 ae) rfl) ae ?_;rintro _ _⟨p11,rfl,hp11,rfl⟩;have p11a:=hp11.1;have p11b:=hp11.2.1 ae;clear hp11;repeat first|refine aa ?_|intro _|refine aS ?_
    refine GPW.ef (Ef.d7 (dp nad nn nc xs hn hxs (at_+5) 2 ae) rfl) ae ?_;rintro _ _⟨p12,rfl,hp12,rfl⟩;have p12a:=hp12.1;have p12b:=hp12.2.1 ae;clear hp12;repeat first|refine aa ?_|intro _|refine aS ?_
    refine GPW.ent (Ent.at (A:=catP x.cat) (Ent.refl _)) ?_;refine GPW.ef (Ef.d7 (qj x.cat hcm hcB (1+p9) ⟨ac,ac⟩ (dB (p11=0)) (fun _=>hr1) (1+p12) a tick ac ⟨ac,ac⟩) rfl) ae ?_;rintro _ _⟨s,rfl,hsg,rfl⟩;repeat first|refine aa ?_|intro _|refine aS ?_
    exact⟨s,hsg,aj,by(try simp only[rlL,aK]);exact ag⟩
   ·repeat first|refine aa ?_|intro _|refine aS ?_
    refine GPW.ef (Ef.d7 (dp nad nn nc xs hn hxs (at_+5) 2 ae) rfl) ae ?_;rintro _ _⟨p12,rfl,hp12,rfl⟩;have p12a:=hp12.1;have p12b:=hp12.2.1 ae;clear hp12;repeat first|refine aa ?_|intro _|refine aS ?_
    refine GPW.ent (Ent.at (A:=catP x.cat) (Ent.refl _)) ?_;refine GPW.ef (Ef.d7 (qj x.cat hcm hcB (1+p9) ⟨ac,ac⟩ false (fun q=>absurd q ae) (1+p12) a tick ac ⟨ac,ac⟩) rfl) ae ?_;rintro _ _⟨s,rfl,hsg,rfl⟩;repeat first|refine aa ?_|intro _|refine aS ?_
    exact⟨s,hsg,aj,by(try simp only[rlL,aK]);exact ag⟩
  | false =>
  have hpk13:13<pk:=by
   have h2:¬pk≤13:=fun h=>absurd (hr.2 h) ae;omega
  clear hr;by_cases c14:pk=14
  ·repeat first|refine aa ?_|intro _|refine aS ?_
   exact⟨⟨0,6,a,tick,-1,0,[mvN a 0 item am],some ⟨b56,0,none⟩,1⟩,lh (ay rfl) (fun m hm=>by rw[List.mem_singleton.1 hm];rfl) (aB _) (by unfold I64;dsimp only;omega) (fun hne=>kN (ao _) (hne _ aw)),aj,(Ent.at (A:=obj b56 tMv [ab a,ab 0,ab item,ab am,.slice none 0 0]) (Ent.e8 (enc:=aM) (sz:=5) (xs:=[mvN a 0 item am]) (n:=1) rfl rfl (fun _ _=>rfl) ae)).trans (Ent.freezeSl.trans ((jt [mvN a 0 item am] (fun m hm=>by rw[List.mem_singleton.1 hm];rfl)).trans (by show Ent _ (obj b12 bh [ab 0,ab 6,ab a,ab tick,ab (-1),ab 0,.slice (some ⟨b56,0,none⟩) 1 1]::isl aM 5 (some ⟨b56,0,none⟩) [mvN a 0 item am]::allP mvP [mvN a 0 item am]::obj b6 bh [ab 0,ab 0,ab 0,ab 0,ab 0,ab 0,.slice none 0 0]::rlL b sh x L);(try simp only[rlL,aK]);exact ag)))⟩
  have hmod:0≤(sh+1) % 12∧(sh+1) % 12<12:=⟨dg _ ae,dw _ ae⟩;repeat first|refine aa ?_|intro _|refine aS ?_
  refine GO.ef (Ef.d7 (dp nad nn nc xs hn hxs (at_+4) 9 ae) rfl) ae ?_;rintro _ _⟨p10,rfl,hp10,rfl⟩;have p10a:=hp10.1;have p10b:=hp10.2.1 ae;clear hp10;repeat first|refine aa ?_|intro _|refine aS ?_
  rename_i b78 b80;have hmp:LotOk ((sh+1) % 12*4294967296+p10,0,3):=by unfold LotOk;dsimp only;omega
  generalize hfl:(sh+1) % 12*4294967296+p10=fid at *;have hfb:fid≤9223372036854775807:=ac;refine⟨⟨0,5,a,tick,-1,0,[⟨⟨0,a,item,3,[(fid,0,3)]⟩,some ⟨b78,0,none⟩,1⟩],some ⟨b80,0,none⟩,1⟩,⟨⟨ay rfl,hIm,?_,?_,?_⟩,aB _,.inl ⟨aB _,?_⟩,fun hne=>kN (aB _) (hne _ aw)⟩,aj,?_⟩
  ·intro m hm;rw[List.mem_singleton.1 hm];exact ay rfl
  ·intro m hm;rw[List.mem_singleton.1 hm];exact aB _
  ·intro m hm p hp;rw[List.mem_singleton.1 hm] at hp;rw[List.mem_singleton.1 hp];exact hfb
  ·intro m hm;rw[List.mem_singleton.1 hm];exact aB _
  ·refine(Ent.at (A:=obj b78 tLot [ab fid,ab 0,ab 3]) (Ent.e8 (enc:=an) (sz:=3) (xs:=[(fid,0,3)]) (n:=1) rfl rfl (fun _ _=>rfl) ae)).trans (Ent.freezeSl.trans ?_);refine(Ent.g7 (f:=mvP) (x:=(⟨⟨0,a,item,3,[(fid,0,3)]⟩,some ⟨b78,0,none⟩,1⟩:MvV)) iA).trans ?_;refine(Ent.at (A:=obj b80 tMv [ab 0,ab a,ab item,ab 3,.slice (some ⟨b78,0,none⟩) 1 1]) (Ent.e8 (enc:=aM) (sz:=5) (xs:=[(⟨⟨0,a,item,3,[(fid,0,3)]⟩,some ⟨b78,0,none⟩,1⟩:MvV)]) (n:=1) rfl rfl (fun _ _=>rfl) ae)).trans (Ent.freezeSl.trans ?_);show Ent _ (obj b12 bh [ab 0,ab 5,ab a,ab tick,ab (-1),ab 0,.slice (some ⟨b80,0,none⟩) 1 1]::isl aM 5 (some ⟨b80,0,none⟩) [(⟨⟨0,a,item,3,[(fid,0,3)]⟩,some ⟨b78,0,none⟩,1⟩:MvV)]::allP mvP [(⟨⟨0,a,item,3,[(fid,0,3)]⟩,some ⟨b78,0,none⟩,1⟩:MvV)]::obj b6 bh [ab 0,ab 0,ab 0,ab 0,ab 0,ab 0,.slice none 0 0]::rlL b sh x L);(try simp only[rlL,aK]);exact ag
 intro s hs;simp only[rlL,aK];repeat first|refine aa ?_|intro _|refine aS ?_
 exact KX.d7 (ResOk.cell rfl (by rfl) ResOk.nil) (by(try simp only[rlL,aK]);exact ag) ⟨s,rfl,hs,rfl⟩
