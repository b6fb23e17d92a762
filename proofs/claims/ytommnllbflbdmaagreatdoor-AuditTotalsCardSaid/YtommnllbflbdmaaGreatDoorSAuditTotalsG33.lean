/- The model of package ledger: a step made from numbers (Next). (Printed by gen_g33.py.) -/
import Derived.Test.YtommnllbflbdmaaGreatDoorGAuditTotalsbq
import Derived.Test.YtommnllbflbdmaaGreatDoorGAuditTotalsbn
set_option linter.all false
set_option maxHeartbeats 16000000
namespace Go.Proofs.YtommnllbflbdmaaGreatDoor
open Go.V
attribute [local irreducible] G GO GP GPW GPK Ev Ef EfR Ent CB GB V.Enters
abbrev xu:List Stp:=[.ev 0,.ev 1,.ev 2,.ev 3,.ev 4,.ev 5,.ev 6,.ev 7,.ev 8,.ev 9,.ev 10,.ef 11,.ef 12,.ev 13,.ev 14,.ef 15,.ef 16,.ev 17,.ef 18]
abbrev xr:List Stp:=[.ev 0,.ev 1,.ev 2,.ev 3,.ev 4,.ev 5,.ev 6,.ev 7,.ev 8,.ev 9,.ev 10,.ev 14,.ev 15,.ev 16,.ev 19,.ev 20,.ef 11,.ev 12,.ev 13,.ef 17,.ev 18,.ef 21,.ef 22]
theorem aN {φ ψ:Prop} (k:ψ) (h:Hid ψ→φ:=by intro k;(with_reducible apply G.d8);first|refine G.d7 (N:=195) (id:=27) xu mixed an (Hid.out k)|refine G.d7 (N:=195) (id:=37) xr mixed an (Hid.out k)):φ:=h ⟨k⟩
theorem AA {L:List HP} (b:Nat) (sh:Int) (hsh:0≤sh∧sh<12) (x:RLX) (hcm:x.cat.m=cat16) (hcB:x.cat.B) (hO:rOk x.stks) (hsl:x.stks.length≤100000) (htl:x.steps.length≤100000) (nad:Option Addr) (nn nc:Nat) (xs:List Int) [hr:Rds L nad Int (encZ .i64) 1 xs] (hn:nn=xs.length) (hxs:∀ y∈xs,I64 y) (at_:Int) (hat:0≤at_∧at_≤100000) :
  Tri Tryz.prog 91 #[.pointer (some ⟨b,0,none⟩),.slice nad nn nc,.int .i64 at_] (rlL b sh x L) (fun v L'=>∃ s:StV,v=.agg (aB s).toArray∧StG0 s∧L' = stM s::stP s::rlL b sh x L):=by
 obtain ⟨ha0,ha1⟩:=hat
 refine Tri.body (args:=[.pointer (some ⟨b,0,none⟩),.slice nad nn nc,.int .i64 at_]) 195 en91 Tryz.func91 rfl rfl rfl (by simp) ?_
 simp only [rlL,aJ]
 repeat first|refine aa ?_|intro _|refine aN ?_
 rename_i b6
 generalize htick:(x.steps.length:Int) / 2=tick
 refine GO.ef (Ef.d7 (cT nad nn nc xs hn hxs (at_+1) 4 ac) rfl) ac ?_
 rintro _ _ ⟨p1,rfl,hp1,rfl⟩
 have p1a:=hp1.1
 have p1b:=hp1.2.1 ac
 clear hp1
 repeat first|refine aa ?_|intro _|refine aN ?_
 refine GO.ef (Ef.d7 (cT nad nn nc xs hn hxs (at_+2) 4 ac) rfl) ac ?_
 rintro _ _ ⟨p2,rfl,hp2,rfl⟩
 have p2a:=hp2.1
 have p2b:=hp2.2.1 ac
 clear hp2
 generalize ha:1+p1=a
 repeat first|((fail_if_success (with_reducible refine G.e7 4 ?_));(with_reducible apply G.seq))|refine bU ?_|intro _|refine aN ?_
 refine G.d9 (α:=Int) (fun bb=>1≤bb∧bb≤5∧bb≠a) (fun bb=>[(0,.pointer (some ⟨b,0,none⟩)),(1,.slice nad nn nc),(2,.int .i64 at_),(6,.pointer (some ⟨b6,0,none⟩)),(7,.int .i64 tick),(8,.int .i64 a),(9,.int .i64 bb)]) (fun _=>obj b6 aU [.int .i64 0,.int .i64 0,.int .i64 0,.int .i64 0,.int .i64 0,.int .i64 0,.slice none 0 0]::rlL b sh x L) ?_ ?_
 ·by_cases hq:1+p2=a
  ·repeat first|refine aa ?_|intro _|refine aN ?_
   exact ⟨5,⟨ab,ab,ab⟩,ai,by (try simp only [rlL,aJ]);exact ae⟩
  ·repeat first|refine aa ?_|intro _|refine aN ?_
   exact ⟨1+p2,⟨ab,ab,hq⟩,ai,by (try simp only [rlL,aJ]);exact ae⟩
 rintro bb ⟨hb1,hb2,hba⟩
 simp only [rlL,aJ]
 repeat first|refine aa ?_|intro _|refine aN ?_
 refine GO.ef (Ef.d7 (cT nad nn nc xs hn hxs (at_+3) 5 ac) rfl) ac ?_
 rintro _ _ ⟨item,rfl,hitem,rfl⟩
 have itema:=hitem.1
 have itemb:=hitem.2.1 ac
 clear hitem
 obtain ⟨hlk1,hlk2⟩:=ng hO a item
 have hbl:=sb hlk2 hlk1
 have hbn:=pf hlk2
 repeat first|refine aa ?_|intro _|refine aN ?_
 refine GO.ent (L':=rlL b sh x (obj b6 aU [.int .i64 0,.int .i64 0,.int .i64 0,.int .i64 0,.int .i64 0,.int .i64 0,.slice none 0 0]::L)) (by (try simp only [rlL,aJ]);exact ae) ?_
 refine GO.ef (Ef.d7 (ot b sh x a item ab hO) rfl) ac ?_
 rintro _ _ ⟨rfl,rfl⟩
 simp only [rlL,aJ]
 generalize lsum (df x.stks a item).lots=bal at *
 repeat first|refine aa ?_|intro _|refine aN ?_
 refine GO.ef (Ef.d7 (cT nad nn nc xs hn hxs (at_+4) (max 1 bal) ab) rfl) ac ?_
 rintro _ _ ⟨p4,rfl,hp4,rfl⟩
 have hp4a:=hp4.1
 have hp4b:=hp4.2.1 ab
 repeat first|((fail_if_success (with_reducible refine G.e7 9 ?_));(with_reducible apply G.seq))|refine bU ?_|intro _|refine aN ?_
 rename_i b56 b12
 generalize ham:1+p4=am
 have ham1:1≤am:=ab
 have hIm:I64 (-1):=by unfold I64;omega
 refine G.d9 (α:=StV) (fun s=>StG0 s) (fun s=>[(0,.pointer (some ⟨b,0,none⟩)),(1,.slice nad nn nc),(2,.int .i64 at_),(6,.pointer (some ⟨b6,0,none⟩)),(7,.int .i64 tick),(8,.int .i64 a),(9,.int .i64 bb),(10,.int .i64 item),(12,.pointer (some ⟨b12,0,none⟩))]) (fun s=>obj b12 aU (aB s)::stM s::stP s::obj b6 aU [.int .i64 0,.int .i64 0,.int .i64 0,.int .i64 0,.int .i64 0,.int .i64 0,.slice none 0 0]::rlL b sh x L) ?_ ?_
 ·repeat first|refine aa ?_|intro _|refine aN ?_
  refine GO.ef (Ef.d7 (cT nad nn nc xs hn hxs at_ 16 ac) rfl) ac ?_
  rintro _ _ ⟨pk,rfl,hpk,rfl⟩
  have hpka:=hpk.1
  have hpkb:=hpk.2.1 ac
  clear hpk
  repeat first|((fail_if_success (with_reducible refine G.e7 13 ?_));(with_reducible apply G.seq))|refine bU ?_|intro _|refine aN ?_
  refine G.d9 (α:=Bool) (fun r=>r=true↔pk≤3) (fun r=>[(0,.pointer (some ⟨b,0,none⟩)),(1,.slice nad nn nc),(2,.int .i64 at_),(6,.pointer (some ⟨b6,0,none⟩)),(7,.int .i64 tick),(8,.int .i64 a),(9,.int .i64 bb),(10,.int .i64 item),(12,.pointer (some ⟨b12,0,none⟩)),(60,.int .i64 pk),(82,.bool r)]) (fun _=>obj b12 aU [.int .i64 0,.int .i64 0,.int .i64 a,.int .i64 tick,.int .i64 (-1),.int .i64 0,.slice (some ⟨b56,0,none⟩) 1 1]::obj b56 tMv [.int .i64 a,.int .i64 bb,.int .i64 item,.int .i64 am,.slice none 0 0]::obj b6 aU [.int .i64 0,.int .i64 0,.int .i64 0,.int .i64 0,.int .i64 0,.int .i64 0,.slice none 0 0]::rlL b sh x L) ?_ ?_
  ·by_cases c0:pk=0
   ·repeat first|refine aa ?_|intro _|refine aN ?_
    exact ⟨dB (pk=0),by rw [aL c0];exact ⟨fun _=>by omega,fun _=>rfl⟩,ai,by (try simp only [rlL,aJ]);exact ae⟩
   by_cases c1:pk=1
   ·repeat first|refine aa ?_|intro _|refine aN ?_
    exact ⟨dB (pk=1),by rw [aL c1];exact ⟨fun _=>by omega,fun _=>rfl⟩,ai,by (try simp only [rlL,aJ]);exact ae⟩
   by_cases c2:pk=2
   ·repeat first|refine aa ?_|intro _|refine aN ?_
    exact ⟨dB (pk=2),by rw [aL c2];exact ⟨fun _=>by omega,fun _=>rfl⟩,ai,by (try simp only [rlL,aJ]);exact ae⟩
   by_cases c3:pk=3
   ·repeat first|refine aa ?_|intro _|refine aN ?_
    exact ⟨dB (pk=3),by rw [aL c3];exact ⟨fun _=>by omega,fun _=>rfl⟩,ai,by (try simp only [rlL,aJ]);exact ae⟩
   repeat first|refine aa ?_|intro _|refine aN ?_
   exact ⟨dB (pk=3),by rw [aC c3];exact ⟨fun q=>absurd q ac,fun q=>absurd q ab⟩,ai,by (try simp only [rlL,aJ]);exact ae⟩
  intro r hr
  simp only [rlL,aJ]
  cases r with
  | true =>
   repeat first|refine aa ?_|intro _|refine aN ?_
   refine GO.ef (Ef.d7 (cT nad nn nc xs hn hxs (at_+4) 12 ac) rfl) ac ?_
   rintro _ _ ⟨p5,rfl,hp5,rfl⟩
   have p5a:=hp5.1
   have p5b:=hp5.2.1 ac
   clear hp5
   repeat first|refine aa ?_|intro _|refine aN ?_
   refine GO.ef (Ef.d7 (cT nad nn nc xs hn hxs (at_+5) 9 ac) rfl) ac ?_
   rintro _ _ ⟨p6,rfl,hp6,rfl⟩
   have p6a:=hp6.1
   have p6b:=hp6.2.1 ac
   clear hp6
   repeat first|refine aa ?_|intro _|refine aN ?_
   rename_i b106
   exact ⟨⟨0,0,a,tick,-1,0,[mvN 0 a item (1+p5),mvN 0 bb ((item+1) % 5) (1+p6)],some ⟨b106,0,none⟩,2⟩,kF (au rfl) (fun m hm=>by simp only [be,aO,or_false] at hm;rcases hm with rfl|rfl<;>rfl) (aw _) hIm (fun _=>vp rfl rfl (by show item≠(item+1) % 5;omega)),ai,(Ent.at (A:=obj b106 tMv [.int .i64 0,.int .i64 a,.int .i64 item,.int .i64 (1+p5),.slice none 0 0,.int .i64 0,.int .i64 bb,.int .i64 ((item+1) % 5),.int .i64 (1+p6),.slice none 0 0]) (Ent.f7 (enc:=aF) (sz:=5) (xs:=[mvN 0 a item (1+p5),mvN 0 bb ((item+1) % 5) (1+p6)]) (n:=2) rfl rfl (fun _ _=>rfl) ac)).trans (Ent.freezeSl.trans ((jc [mvN 0 a item (1+p5),mvN 0 bb ((item+1) % 5) (1+p6)] (fun m hm=>by simp only [be,aO,or_false] at hm;rcases hm with rfl|rfl<;>rfl)).trans (by show Ent _ (obj b12 aU [.int .i64 0,.int .i64 0,.int .i64 a,.int .i64 tick,.int .i64 (-1),.int .i64 0,.slice (some ⟨b106,0,none⟩) 2 2]::isl aF 5 (some ⟨b106,0,none⟩) [mvN 0 a item (1+p5),mvN 0 bb ((item+1) % 5) (1+p6)]::allP mvP [mvN 0 a item (1+p5),mvN 0 bb ((item+1) % 5) (1+p6)]::obj b6 aU [.int .i64 0,.int .i64 0,.int .i64 0,.int .i64 0,.int .i64 0,.int .i64 0,.slice none 0 0]::rlL b sh x L);(try simp only [rlL,aJ]);exact ae)))⟩
  | false =>
  have hpk3:3<pk:=by
   have h2:¬pk≤3:=fun h=>absurd (hr.2 h) ac
   omega
  clear hr
  repeat first|((fail_if_success (with_reducible refine G.e7 19 ?_));(with_reducible apply G.seq))|refine bU ?_|intro _|refine aN ?_
  refine G.d9 (α:=Bool) (fun r=>r=true↔pk≤8) (fun r=>[(0,.pointer (some ⟨b,0,none⟩)),(1,.slice nad nn nc),(2,.int .i64 at_),(6,.pointer (some ⟨b6,0,none⟩)),(7,.int .i64 tick),(8,.int .i64 a),(9,.int .i64 bb),(10,.int .i64 item),(12,.pointer (some ⟨b12,0,none⟩)),(60,.int .i64 pk),(108,.bool r)]) (fun _=>obj b12 aU [.int .i64 0,.int .i64 0,.int .i64 a,.int .i64 tick,.int .i64 (-1),.int .i64 0,.slice (some ⟨b56,0,none⟩) 1 1]::obj b56 tMv [.int .i64 a,.int .i64 bb,.int .i64 item,.int .i64 am,.slice none 0 0]::obj b6 aU [.int .i64 0,.int .i64 0,.int .i64 0,.int .i64 0,.int .i64 0,.int .i64 0,.slice none 0 0]::rlL b sh x L) ?_ ?_
  ·by_cases c4:pk=4
   ·repeat first|refine aa ?_|intro _|refine aN ?_
    exact ⟨dB (pk=4),by rw [aL c4];exact ⟨fun _=>by omega,fun _=>rfl⟩,ai,by (try simp only [rlL,aJ]);exact ae⟩
   by_cases c5:pk=5
   ·repeat first|refine aa ?_|intro _|refine aN ?_
    exact ⟨dB (pk=5),by rw [aL c5];exact ⟨fun _=>by omega,fun _=>rfl⟩,ai,by (try simp only [rlL,aJ]);exact ae⟩
   by_cases c6:pk=6
   ·repeat first|refine aa ?_|intro _|refine aN ?_
    exact ⟨dB (pk=6),by rw [aL c6];exact ⟨fun _=>by omega,fun _=>rfl⟩,ai,by (try simp only [rlL,aJ]);exact ae⟩
   by_cases c7:pk=7
   ·repeat first|refine aa ?_|intro _|refine aN ?_
    exact ⟨dB (pk=7),by rw [aL c7];exact ⟨fun _=>by omega,fun _=>rfl⟩,ai,by (try simp only [rlL,aJ]);exact ae⟩
   by_cases c8:pk=8
   ·repeat first|refine aa ?_|intro _|refine aN ?_
    exact ⟨dB (pk=8),by rw [aL c8];exact ⟨fun _=>by omega,fun _=>rfl⟩,ai,by (try simp only [rlL,aJ]);exact ae⟩
   repeat first|refine aa ?_|intro _|refine aN ?_
   exact ⟨dB (pk=8),by rw [aC c8];exact ⟨fun q=>absurd q ac,fun q=>absurd q ab⟩,ai,by (try simp only [rlL,aJ]);exact ae⟩
  intro r hr
  simp only [rlL,aJ]
  cases r with
  | true =>
   have hpk8:=hr.1 rfl
   repeat first|refine aa ?_|intro _|refine aN ?_
   refine GO.ef (Ef.d7 (cT nad nn nc xs hn hxs (at_+5) 4 ac) rfl) ac ?_
   rintro _ _ ⟨p7,rfl,hp7,rfl⟩
   have p7a:=hp7.1
   have p7b:=hp7.2.1 ac
   clear hp7
   have hbk:0≤item+1+p7:=ab
   repeat first|refine aa ?_|intro _|refine aN ?_
   have hbk2:0≤(item+1+p7) % 5:=cN _ ac
   have hbi:item≠(item+1+p7) % 5:=ab
   generalize (item+1+p7) % 5=back at *
   obtain ⟨hlk3,hlk4⟩:=ng hO bb back
   have hbl2:=sb hlk4 hlk3
   have hbn2:=pf hlk4
   refine GO.ent (L':=rlL b sh x (obj b12 aU [.int .i64 0,.int .i64 2,.int .i64 a,.int .i64 tick,.int .i64 (-1),.int .i64 0,.slice (some ⟨b56,0,none⟩) 1 1]::obj b56 tMv [.int .i64 a,.int .i64 bb,.int .i64 item,.int .i64 am,.slice none 0 0]::obj b6 aU [.int .i64 0,.int .i64 0,.int .i64 0,.int .i64 0,.int .i64 0,.int .i64 0,.slice none 0 0]::L)) (by (try simp only [rlL,aJ]);exact ae) ?_
   refine GO.ef (Ef.d7 (ot b sh x bb back ab hO) rfl) ac ?_
   rintro _ _ ⟨rfl,rfl⟩
   have hbe:∃ q,q=lsum (df x.stks bb back).lots:=⟨_,rfl⟩
   obtain ⟨bal2,hbe⟩:=hbe
   rw [← hbe] at hbl2 hbn2
   rw [← hbe]
   simp only [rlL,aJ]
   have hl1:([mvN a bb item am]).length=1:=rfl
   by_cases hq:0<bal2
   ·refine GO.ent (Ent.at (A:=obj b56 tMv [.int .i64 a,.int .i64 bb,.int .i64 item,.int .i64 am,.slice none 0 0]) (Ent.f7 (enc:=aF) (sz:=5) (xs:=[mvN a bb item am]) (n:=1) rfl rfl (fun _ _=>rfl) ac)) ?_
    repeat first|refine aa ?_|intro _|refine aN ?_
    refine GPW.ent (L':=rlL b sh x (osl aF 5 tMv (some ⟨b56,0,none⟩) 1 [mvN a bb item am]::obj b12 aU [.int .i64 0,.int .i64 2,.int .i64 a,.int .i64 tick,.int .i64 (-1),.int .i64 0,.slice (some ⟨b56,0,none⟩) 1 1]::obj b6 aU [.int .i64 0,.int .i64 0,.int .i64 0,.int .i64 0,.int .i64 0,.int .i64 0,.slice none 0 0]::L)) (by (try simp only [rlL,aJ]);exact ae) ?_
    refine GPW.ef (Ef.d7 (ot b sh x bb back ab hO) rfl) ac ?_
    rintro _ _ ⟨rfl,rfl⟩
    rw [← hbe]
    simp only [rlL,aJ]
    repeat first|refine aa ?_|intro _|refine aN ?_
    refine GPW.ef (Ef.d7 (cT nad nn nc xs hn hxs (at_+5) bal2 ab) rfl) ac ?_
    rintro _ _ ⟨p8,rfl,hp8,rfl⟩
    have hp8a:=hp8.1
    have hp8b:=hp8.2.1 ab
    clear hp8
    repeat first|refine aa ?_|intro _|refine aN ?_
    refine GPW.ef (Ef.d8 (enc:=aF) (e:=mvN bb a back (1+p8)) rfl rfl rfl rfl rfl (by rfl) (hU _) ab ab) ac ?_
    rintro _ _ ⟨ad2,cap2,rfl,rfl⟩
    repeat first|with_reducible apply GPK.nil|((with_reducible apply GPK.d7);first|refine GPK.drop rfl ?_|refine GPK.keep (Ev.d8 rfl rfl) ?_)
    refine GP.fct (gG (ad:=ad2) (cap:=cap2) (xs:=[mvN a bb item am]++[mvN bb a back (1+p8)]) (enc:=aF) (sz:=5) (E:=tMv)) ?_
    rintro ⟨hc2,_⟩
    repeat first|refine aa ?_|intro _|refine aN ?_
    refine ⟨⟨0,2,a,tick,-1,0,[mvN a bb item am,mvN bb a back (1+p8)],ad2,cap2⟩,?_,ai,?_⟩
    ·exact kF (au rfl) (fun m hm=>by simp only [be,aO,or_false] at hm;rcases hm with rfl|rfl<;>rfl) hc2 hIm (fun _=>vp rfl rfl hbi)
    ·refine (Ent.frz ad2).trans ((jc [mvN a bb item am,mvN bb a back (1+p8)] (fun m hm=>by simp only [be,aO,or_false] at hm;rcases hm with rfl|rfl<;>rfl)).trans ?_)
     show Ent _ (obj b12 aU [.int .i64 0,.int .i64 2,.int .i64 a,.int .i64 tick,.int .i64 (-1),.int .i64 0,.slice ad2 ([mvN a bb item am]++[mvN bb a back (1+p8)]).length cap2]::isl aF 5 ad2 ([mvN a bb item am]++[mvN bb a back (1+p8)])::allP mvP [mvN a bb item am,mvN bb a back (1+p8)]::obj b6 aU [.int .i64 0,.int .i64 0,.int .i64 0,.int .i64 0,.int .i64 0,.int .i64 0,.slice none 0 0]::rlL b sh x L)
     (try simp only [rlL,aJ])
     exact ae
   ·repeat first|refine aa ?_|intro _|refine aN ?_
    exact ⟨⟨0,2,a,tick,-1,0,[mvN a bb item am],some ⟨b56,0,none⟩,1⟩,kF (au rfl) (fun m hm=>by rw [List.mem_singleton.1 hm];rfl) (aw _) (by unfold I64;dsimp only;omega) (fun hne=>km (al _) (hne _ ap)),ai,(Ent.at (A:=obj b56 tMv [.int .i64 a,.int .i64 bb,.int .i64 item,.int .i64 am,.slice none 0 0]) (Ent.f7 (enc:=aF) (sz:=5) (xs:=[mvN a bb item am]) (n:=1) rfl rfl (fun _ _=>rfl) ac)).trans (Ent.freezeSl.trans ((jc [mvN a bb item am] (fun m hm=>by rw [List.mem_singleton.1 hm];rfl)).trans (by show Ent _ (obj b12 aU [.int .i64 0,.int .i64 2,.int .i64 a,.int .i64 tick,.int .i64 (-1),.int .i64 0,.slice (some ⟨b56,0,none⟩) 1 1]::isl aF 5 (some ⟨b56,0,none⟩) [mvN a bb item am]::allP mvP [mvN a bb item am]::obj b6 aU [.int .i64 0,.int .i64 0,.int .i64 0,.int .i64 0,.int .i64 0,.int .i64 0,.slice none 0 0]::rlL b sh x L);(try simp only [rlL,aJ]);exact ae)))⟩
  | false =>
  have hpk8:8<pk:=by
   have h2:¬pk≤8:=fun h=>absurd (hr.2 h) ac
   omega
  clear hr
  by_cases c9:pk=9
  ·repeat first|refine aa ?_|intro _|refine aN ?_
   exact ⟨⟨0,3,a,tick,-1,0,[mvN a bb item am],some ⟨b56,0,none⟩,1⟩,kF (au rfl) (fun m hm=>by rw [List.mem_singleton.1 hm];rfl) (aw _) (by unfold I64;dsimp only;omega) (fun hne=>km (al _) (hne _ ap)),ai,(Ent.at (A:=obj b56 tMv [.int .i64 a,.int .i64 bb,.int .i64 item,.int .i64 am,.slice none 0 0]) (Ent.f7 (enc:=aF) (sz:=5) (xs:=[mvN a bb item am]) (n:=1) rfl rfl (fun _ _=>rfl) ac)).trans (Ent.freezeSl.trans ((jc [mvN a bb item am] (fun m hm=>by rw [List.mem_singleton.1 hm];rfl)).trans (by show Ent _ (obj b12 aU [.int .i64 0,.int .i64 3,.int .i64 a,.int .i64 tick,.int .i64 (-1),.int .i64 0,.slice (some ⟨b56,0,none⟩) 1 1]::isl aF 5 (some ⟨b56,0,none⟩) [mvN a bb item am]::allP mvP [mvN a bb item am]::obj b6 aU [.int .i64 0,.int .i64 0,.int .i64 0,.int .i64 0,.int .i64 0,.int .i64 0,.slice none 0 0]::rlL b sh x L);(try simp only [rlL,aJ]);exact ae)))⟩
  by_cases c10:pk=10
  ·repeat first|refine aa ?_|intro _|refine aN ?_
   exact ⟨⟨0,1,a,tick,-1,0,[mvN a 0 item am],some ⟨b56,0,none⟩,1⟩,kF (au rfl) (fun m hm=>by rw [List.mem_singleton.1 hm];rfl) (aw _) (by unfold I64;dsimp only;omega) (fun hne=>km (al _) (hne _ ap)),ai,(Ent.at (A:=obj b56 tMv [.int .i64 a,.int .i64 0,.int .i64 item,.int .i64 am,.slice none 0 0]) (Ent.f7 (enc:=aF) (sz:=5) (xs:=[mvN a 0 item am]) (n:=1) rfl rfl (fun _ _=>rfl) ac)).trans (Ent.freezeSl.trans ((jc [mvN a 0 item am] (fun m hm=>by rw [List.mem_singleton.1 hm];rfl)).trans (by show Ent _ (obj b12 aU [.int .i64 0,.int .i64 1,.int .i64 a,.int .i64 tick,.int .i64 (-1),.int .i64 0,.slice (some ⟨b56,0,none⟩) 1 1]::isl aF 5 (some ⟨b56,0,none⟩) [mvN a 0 item am]::allP mvP [mvN a 0 item am]::obj b6 aU [.int .i64 0,.int .i64 0,.int .i64 0,.int .i64 0,.int .i64 0,.int .i64 0,.slice none 0 0]::rlL b sh x L);(try simp only [rlL,aJ]);exact ae)))⟩
  repeat first|((fail_if_success (with_reducible refine G.e7 33 ?_));(with_reducible apply G.seq))|refine bU ?_|intro _|refine aN ?_
  refine G.d9 (α:=Bool) (fun r=>r=true↔pk≤13) (fun r=>[(0,.pointer (some ⟨b,0,none⟩)),(1,.slice nad nn nc),(2,.int .i64 at_),(6,.pointer (some ⟨b6,0,none⟩)),(7,.int .i64 tick),(8,.int .i64 a),(9,.int .i64 bb),(10,.int .i64 item),(12,.pointer (some ⟨b12,0,none⟩)),(60,.int .i64 pk),(156,.bool r)]) (fun _=>obj b12 aU [.int .i64 0,.int .i64 0,.int .i64 a,.int .i64 tick,.int .i64 (-1),.int .i64 0,.slice (some ⟨b56,0,none⟩) 1 1]::obj b56 tMv [.int .i64 a,.int .i64 bb,.int .i64 item,.int .i64 am,.slice none 0 0]::obj b6 aU [.int .i64 0,.int .i64 0,.int .i64 0,.int .i64 0,.int .i64 0,.int .i64 0,.slice none 0 0]::rlL b sh x L) ?_ ?_
  ·by_cases c11:pk=11
   ·repeat first|refine aa ?_|intro _|refine aN ?_
    exact ⟨dB (pk=11),by rw [aL c11];exact ⟨fun _=>by omega,fun _=>rfl⟩,ai,by (try simp only [rlL,aJ]);exact ae⟩
   by_cases c12:pk=12
   ·repeat first|refine aa ?_|intro _|refine aN ?_
    exact ⟨dB (pk=12),by rw [aL c12];exact ⟨fun _=>by omega,fun _=>rfl⟩,ai,by (try simp only [rlL,aJ]);exact ae⟩
   by_cases c13:pk=13
   ·repeat first|refine aa ?_|intro _|refine aN ?_
    exact ⟨dB (pk=13),by rw [aL c13];exact ⟨fun _=>by omega,fun _=>rfl⟩,ai,by (try simp only [rlL,aJ]);exact ae⟩
   repeat first|refine aa ?_|intro _|refine aN ?_
   exact ⟨dB (pk=13),by rw [aC c13];exact ⟨fun q=>absurd q ac,fun q=>absurd q ab⟩,ai,by (try simp only [rlL,aJ]);exact ae⟩
  intro r hr
  simp only [rlL,aJ]
  cases r with
  | true =>
   repeat first|refine aa ?_|intro _|refine aN ?_
   refine GO.ef (Ef.d7 (cT nad nn nc xs hn hxs (at_+3) 4 ac) rfl) ac ?_
   rintro _ _ ⟨p9,rfl,hp9,rfl⟩
   have p9a:=hp9.1
   have p9b:=hp9.2.1 ac
   clear hp9
   repeat first|refine aa ?_|intro _|refine aN ?_
   by_cases hr1:1+p9=1
   ·repeat first|refine aa ?_|intro _|refine aN ?_
    refine GPW.ef (Ef.d7 (cT nad nn nc xs hn hxs (at_+4) 3 ac) rfl) ac ?_
    rintro _ _ ⟨p11,rfl,hp11,rfl⟩
    have p11a:=hp11.1
    have p11b:=hp11.2.1 ac
    clear hp11
    repeat first|refine aa ?_|intro _|refine aN ?_
    refine GPW.ef (Ef.d7 (cT nad nn nc xs hn hxs (at_+5) 2 ac) rfl) ac ?_
    rintro _ _ ⟨p12,rfl,hp12,rfl⟩
    have p12a:=hp12.1
    have p12b:=hp12.2.1 ac
    clear hp12
    repeat first|refine aa ?_|intro _|refine aN ?_
    refine GPW.ent (Ent.at (A:=catP x.cat) (Ent.refl _)) ?_
    refine GPW.ef (Ef.d7 (pF x.cat hcm hcB (1+p9) ⟨ab,ab⟩ (dB (p11=0)) (fun _=>hr1) (1+p12) a tick ab ⟨ab,ab⟩) rfl) ac ?_
    rintro _ _ ⟨s,rfl,hsg,rfl⟩
    repeat first|refine aa ?_|intro _|refine aN ?_
    exact ⟨s,hsg,ai,by (try simp only [rlL,aJ]);exact ae⟩
   ·repeat first|refine aa ?_|intro _|refine aN ?_
    refine GPW.ef (Ef.d7 (cT nad nn nc xs hn hxs (at_+5) 2 ac) rfl) ac ?_
    rintro _ _ ⟨p12,rfl,hp12,rfl⟩
    have p12a:=hp12.1
    have p12b:=hp12.2.1 ac
    clear hp12
    repeat first|refine aa ?_|intro _|refine aN ?_
    refine GPW.ent (Ent.at (A:=catP x.cat) (Ent.refl _)) ?_
    refine GPW.ef (Ef.d7 (pF x.cat hcm hcB (1+p9) ⟨ab,ab⟩ false (fun q=>absurd q ac) (1+p12) a tick ab ⟨ab,ab⟩) rfl) ac ?_
    rintro _ _ ⟨s,rfl,hsg,rfl⟩
    repeat first|refine aa ?_|intro _|refine aN ?_
    exact ⟨s,hsg,ai,by (try simp only [rlL,aJ]);exact ae⟩
  | false =>
  have hpk13:13<pk:=by
   have h2:¬pk≤13:=fun h=>absurd (hr.2 h) ac
   omega
  clear hr
  by_cases c14:pk=14
  ·repeat first|refine aa ?_|intro _|refine aN ?_
   exact ⟨⟨0,6,a,tick,-1,0,[mvN a 0 item am],some ⟨b56,0,none⟩,1⟩,kF (au rfl) (fun m hm=>by rw [List.mem_singleton.1 hm];rfl) (aw _) (by unfold I64;dsimp only;omega) (fun hne=>km (al _) (hne _ ap)),ai,(Ent.at (A:=obj b56 tMv [.int .i64 a,.int .i64 0,.int .i64 item,.int .i64 am,.slice none 0 0]) (Ent.f7 (enc:=aF) (sz:=5) (xs:=[mvN a 0 item am]) (n:=1) rfl rfl (fun _ _=>rfl) ac)).trans (Ent.freezeSl.trans ((jc [mvN a 0 item am] (fun m hm=>by rw [List.mem_singleton.1 hm];rfl)).trans (by show Ent _ (obj b12 aU [.int .i64 0,.int .i64 6,.int .i64 a,.int .i64 tick,.int .i64 (-1),.int .i64 0,.slice (some ⟨b56,0,none⟩) 1 1]::isl aF 5 (some ⟨b56,0,none⟩) [mvN a 0 item am]::allP mvP [mvN a 0 item am]::obj b6 aU [.int .i64 0,.int .i64 0,.int .i64 0,.int .i64 0,.int .i64 0,.int .i64 0,.slice none 0 0]::rlL b sh x L);(try simp only [rlL,aJ]);exact ae)))⟩
  have hmod:0≤(sh+1) % 12∧(sh+1) % 12<12:=⟨cN _ ac,cX _ ac⟩
  repeat first|refine aa ?_|intro _|refine aN ?_
  refine GO.ef (Ef.d7 (cT nad nn nc xs hn hxs (at_+4) 9 ac) rfl) ac ?_
  rintro _ _ ⟨p10,rfl,hp10,rfl⟩
  have p10a:=hp10.1
  have p10b:=hp10.2.1 ac
  clear hp10
  repeat first|refine aa ?_|intro _|refine aN ?_
  rename_i b78 b80
  have hmp:LotOk ((sh+1) % 12*4294967296+p10,0,3):=by unfold LotOk;dsimp only;omega
  generalize hfl:(sh+1) % 12*4294967296+p10=fid at *
  have hfb:fid≤9223372036854775807:=ab
  refine ⟨⟨0,5,a,tick,-1,0,[⟨⟨0,a,item,3,[(fid,0,3)]⟩,some ⟨b78,0,none⟩,1⟩],some ⟨b80,0,none⟩,1⟩,⟨⟨au rfl,hIm,?_,?_,?_⟩,aw _,.inl ⟨aw _,?_⟩,fun hne=>km (aw _) (hne _ ap)⟩,ai,?_⟩
  ·intro m hm;rw [List.mem_singleton.1 hm];exact au rfl
  ·intro m hm;rw [List.mem_singleton.1 hm];exact aw _
  ·intro m hm p hp;rw [List.mem_singleton.1 hm] at hp;rw [List.mem_singleton.1 hp];exact hfb
  ·intro m hm;rw [List.mem_singleton.1 hm];exact aw _
  ·refine (Ent.at (A:=obj b78 tLot [.int .i64 fid,.int .i64 0,.int .i64 3]) (Ent.f7 (enc:=ah) (sz:=3) (xs:=[(fid,0,3)]) (n:=1) rfl rfl (fun _ _=>rfl) ac)).trans (Ent.freezeSl.trans ?_)
   refine (Ent.f8 (f:=mvP) (x:=(⟨⟨0,a,item,3,[(fid,0,3)]⟩,some ⟨b78,0,none⟩,1⟩:MvV)) gZ).trans ?_
   refine (Ent.at (A:=obj b80 tMv [.int .i64 0,.int .i64 a,.int .i64 item,.int .i64 3,.slice (some ⟨b78,0,none⟩) 1 1]) (Ent.f7 (enc:=aF) (sz:=5) (xs:=[(⟨⟨0,a,item,3,[(fid,0,3)]⟩,some ⟨b78,0,none⟩,1⟩:MvV)]) (n:=1) rfl rfl (fun _ _=>rfl) ac)).trans (Ent.freezeSl.trans ?_)
   show Ent _ (obj b12 aU [.int .i64 0,.int .i64 5,.int .i64 a,.int .i64 tick,.int .i64 (-1),.int .i64 0,.slice (some ⟨b80,0,none⟩) 1 1]::isl aF 5 (some ⟨b80,0,none⟩) [(⟨⟨0,a,item,3,[(fid,0,3)]⟩,some ⟨b78,0,none⟩,1⟩:MvV)]::allP mvP [(⟨⟨0,a,item,3,[(fid,0,3)]⟩,some ⟨b78,0,none⟩,1⟩:MvV)]::obj b6 aU [.int .i64 0,.int .i64 0,.int .i64 0,.int .i64 0,.int .i64 0,.int .i64 0,.slice none 0 0]::rlL b sh x L)
   (try simp only [rlL,aJ])
   exact ae
 intro s hs
 simp only [rlL,aJ]
 repeat first|refine aa ?_|intro _|refine aN ?_
 exact KX.d7 (ResOk.cell rfl (by rfl) ResOk.nil) (by (try simp only [rlL,aJ]);exact ae) ⟨s,rfl,hs,rfl⟩
end Go.Proofs.YtommnllbflbdmaaGreatDoor
