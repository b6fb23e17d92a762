/- Lemmas and contracts of functions. -/
import Derived.Test.YtommnllbflbdmaaGreatDoorGAuditTotalsbq
import Derived.Test.YtommnllbflbdmaaGreatDoorGAuditTotalsbs
import Derived.Test.YtommnllbflbdmaaGreatDoorGAuditTotalsap
import Derived.Test.YtommnllbflbdmaaGreatDoorGAuditTotalsay
import Derived.Test.YtommnllbflbdmaaGreatDoorGAuditTotalsaz
set_option linter.all false
set_option maxHeartbeats 16000000
namespace Go.Proofs.YtommnllbflbdmaaGreatDoor
section
open Go.V
theorem iY {ms ms' : List MvV} {ad2 mad:Option Addr} {cap2:Nat} {L:List HP} (h:MvSp ms ms'):Ent (osl aF 5 tMv ad2 cap2 ms'::isl aF 5 mad ms::allP mvP ms::L) (isl aF 5 ad2 ms'::allP mvP ms'::isl aF 5 mad ms::allP mvP ms::L) :=
 (Ent.frz ad2).trans (Ent.d7 ((Ent.d7 (Ent.dup (gF mvP ms))).trans ((Ent.at (A:=allP mvP ms) h.ent).trans ae)))
theorem El {ms:List MvV} {m:MvV} {p:Lot} {bn:Nat} {ad2 mad:Option Addr} {cap2:Nat} {L:List HP} (hp:m.m.parts=[p]) (ha:m.pad=some ⟨bn,0,none⟩):Ent (obj bn tLot (ah p)::osl aF 5 tMv ad2 cap2 (ms.set 0 m)::isl aF 5 mad ms::allP mvP ms::L) (isl aF 5 ad2 (ms.set 0 m)::allP mvP (ms.set 0 m)::isl aF 5 mad ms::allP mvP ms::L):=by
 have e:mvP m=isl ah 3 (some ⟨bn,0,none⟩) [p]:=by show isl ah 3 m.pad m.m.parts=_;rw [hp,ha]
 refine (Ent.f7 (enc:=ah) (sz:=3) (xs:=[p]) (n:=1) (by simp) rfl (fun _ _=>rfl) ac).trans (Ent.freezeSl.trans ?_)
 rw [← e]
 refine (Ent.frz ad2).trans (Ent.d7 ?_)
 refine Ent.trans (B:=allP mvP ms::allP mvP ms::mvP m::isl aF 5 mad ms::L) ?_ ?_
 ·exact (Ent.at (A:=allP mvP ms) (Ent.dup (gF mvP ms))).trans ae
 ·refine Ent.trans (B:=mvP m::allP mvP ms::allP mvP ms::isl aF 5 mad ms::L) ae (part_allP.trans ae)
attribute [local irreducible] G GO GP GPW GPK GF GE Ev Ef EfR Ent CB GB V.Enters
abbrev xp:List Stp:=[.ev 0,.ev 1,.ev 2,.ev 3,.ev 4,.ev 5,.ef 6,.ef 7,.ev 8,.ef 9]
abbrev Am:List Stp:=[.ev 0,.ev 1,.ev 2,.ev 3,.ev 4,.ev 5,.ev 6,.ev 7,.ev 8,.ef 9,.ev 10,.ev 11,.ef 12]
theorem cc {φ ψ:Prop} (k:ψ) (h:Hid ψ→φ:=by intro k;(with_reducible apply G.d8);first|refine G.d7 (N:=99) (id:=28) xp mixed an (Hid.out k)|refine G.d7 (N:=99) (id:=8) Am mixed an (Hid.out k)):φ:=h ⟨k⟩
theorem tE {L:List HP} (s:StV) (hs:StG0 s) (which by_:Int) (hw:I64 which) (hb:I64 by_) :
  Tri Tryz.prog 42 #[.agg (aB s).toArray,.int .i64 which,.int .i64 by_] (stM s::stP s::L) (fun v L'=>∃ s' : StV,v=.agg (aB s').toArray∧StSp s'∧L' = stM s'::stP s'::stM s::stP s::L):=by
 have hsl:=hs.sp.len
 have hr:=hs.inp.rule
 have hcap0:=hs.cap
 obtain ⟨id,kind,actor,tick,rule,times,ms,mad,mcap⟩:=s
 dsimp only at hsl hr hcap0
 refine Tri.body (args:=[.agg (aB ⟨id,kind,actor,tick,rule,times,ms,mad,mcap⟩).toArray,.int .i64 which,.int .i64 by_]) 99 en42 Tryz.func42 rfl rfl rfl (by simp) ?_
 repeat first|refine aa ?_|intro _|refine cc ?_
 rename_i b3 b6
 refine GO.ent (L':=osl aF 5 tMv none 0 []::obj b6 aU [.int .i64 0,.int .i64 0,.int .i64 0,.int .i64 0,.int .i64 0,.int .i64 0,.slice none 0 0]::obj b3 aU [.int .i64 id,.int .i64 kind,.int .i64 actor,.int .i64 tick,.int .i64 rule,.int .i64 times,.slice mad ms.length mcap]::isl aF 5 mad ms::allP mvP ms::L) ((Ent.d8 aF 5 tMv).trans ae) ?_
 refine GO.ef (Ef.e7 (ys:=ms) rfl rfl rfl rfl rfl (fun e _=>hU e) (by simp;omega) (by simp;omega)) ac ?_
 rintro _ _ ⟨ad2,cap2,rfl,rfl⟩
 rw [aj]
 refine GO.e8 (gG (ad:=ad2) (cap:=cap2) (xs:=ms) (enc:=aF) (sz:=5) (E:=tMv)) ?_
 rintro ⟨hc2,hc3⟩
 repeat first|refine aa ?_|intro _|refine cc ?_
 by_cases h0:ms.length=0
 ·repeat first|refine aa ?_|intro _|refine cc ?_
  exact KX.d7 (ResOk.cell rfl (by rfl) ResOk.nil) (Ent.trans ae (iY (jd ms))) ⟨⟨id,kind,actor,tick,rule,times,ms,ad2,cap2⟩,rfl,lp hs rfl hc2 hr,rfl⟩
 have h00:0<ms.length:=ab
 have hkk:((ms.length:Int) - 1).toNat<ms.length:=ab
 repeat first|refine aa ?_|intro _|refine cc ?_
 rename_i b23
 refine GO.ent (L':=isl (encZ .i64) 1 (some ⟨b23,0,none⟩) [which]::obj b3 aU [.int .i64 id,.int .i64 kind,.int .i64 actor,.int .i64 tick,.int .i64 rule,.int .i64 times,.slice ad2 ms.length cap2]::osl aF 5 tMv ad2 cap2 ms::obj b6 aU [.int .i64 0,.int .i64 0,.int .i64 0,.int .i64 0,.int .i64 0,.int .i64 0,.slice none 0 0]::isl aF 5 mad ms::allP mvP ms::L) ((Ent.f7 (enc:=encZ .i64) (sz:=1) (xs:=[which]) (n:=1) rfl rfl (fun _ _=>rfl) ac).trans Ent.freezeSl) ?_
 refine GO.ef (Ef.d7 (cT (some ⟨b23,0,none⟩) 1 1 [which] rfl (fun y hy=>by rw [List.mem_singleton.1 hy];exact hw) 0 11 ac) rfl) ac ?_
 rintro _ _ ⟨p,rfl,hp,rfl⟩
 have hpa:=hp.1
 have hpb:=hp.2.1 ac
 clear hp
 by_cases hq0:p=0
 ·repeat first|refine aa ?_|intro _|refine cc ?_
  exact KX.d7 (ResOk.cell rfl (by rfl) ResOk.nil) (Ent.trans ae (iY (jd ms))) ⟨⟨id,by_,actor,tick,rule,times,ms,ad2,cap2⟩,rfl,lp hs rfl hc2 hr,rfl⟩
 by_cases hq1:p=1
 ·repeat first|refine aa ?_|intro _|refine cc ?_
  exact KX.d7 (ResOk.cell rfl (by rfl) ResOk.nil) (Ent.trans ae (iY (jd ms))) ⟨⟨id,kind,by_,tick,rule,times,ms,ad2,cap2⟩,rfl,lp hs rfl hc2 hr,rfl⟩
 by_cases hq2:p=2
 ·repeat first|refine aa ?_|intro _|refine cc ?_
  exact KX.d7 (ResOk.cell rfl (by rfl) ResOk.nil) (Ent.trans ae (iY (jd ms))) ⟨⟨id,kind,actor,by_,rule,times,ms,ad2,cap2⟩,rfl,lp hs rfl hc2 hr,rfl⟩
 by_cases hq3:p=3
 ·repeat first|refine aa ?_|intro _|refine cc ?_
  exact KX.d7 (ResOk.cell rfl (by rfl) ResOk.nil) (Ent.trans ae (iY (jd ms))) ⟨⟨id,kind,actor,tick,by_,times,ms,ad2,cap2⟩,rfl,lp hs rfl hc2 hb,rfl⟩
 by_cases hq4:p=4
 ·repeat first|refine aa ?_|intro _|refine cc ?_
  exact KX.d7 (ResOk.cell rfl (by rfl) ResOk.nil) (Ent.trans ae (iY (jd ms))) ⟨⟨id,kind,actor,tick,rule,by_,ms,ad2,cap2⟩,rfl,lp hs rfl hc2 hr,rfl⟩
 by_cases hq5:p=5
 ·repeat first|refine aa ?_|intro _|refine cc ?_
  refine GO.efu (Ef.f9 (e:=(⟨⟨by_,ms[((ms.length:Int) - 1).toNat]!.m.to,ms[((ms.length:Int) - 1).toNat]!.m.item,ms[((ms.length:Int) - 1).toNat]!.m.n,ms[((ms.length:Int) - 1).toNat]!.m.parts⟩,ms[((ms.length:Int) - 1).toNat]!.pad,ms[((ms.length:Int) - 1).toNat]!.pcap⟩:MvV)) rfl rfl (by rfl) rfl hkk ac) ?_
  rintro _ _ rfl
  repeat first|refine aa ?_|intro _|refine cc ?_
  exact KX.d7 (ResOk.cell rfl (by rfl) ResOk.nil) (Ent.trans ae (iY (ad2:=ad2) (mad:=mad) (cap2:=cap2) (L:=L) (lB (j:=((ms.length:Int) - 1).toNat) (m:=(⟨⟨by_,ms[((ms.length:Int) - 1).toNat]!.m.to,ms[((ms.length:Int) - 1).toNat]!.m.item,ms[((ms.length:Int) - 1).toNat]!.m.n,ms[((ms.length:Int) - 1).toNat]!.m.parts⟩,ms[((ms.length:Int) - 1).toNat]!.pad,ms[((ms.length:Int) - 1).toNat]!.pcap⟩:MvV)) hkk ⟨rfl,rfl,rfl⟩))) ⟨⟨id,kind,actor,tick,rule,times,ms.set ((ms.length:Int) - 1).toNat (⟨⟨by_,ms[((ms.length:Int) - 1).toNat]!.m.to,ms[((ms.length:Int) - 1).toNat]!.m.item,ms[((ms.length:Int) - 1).toNat]!.m.n,ms[((ms.length:Int) - 1).toNat]!.m.parts⟩,ms[((ms.length:Int) - 1).toNat]!.pad,ms[((ms.length:Int) - 1).toNat]!.pcap⟩:MvV),ad2,cap2⟩,by simp only [aB,bg];rfl,qS hs (j:=((ms.length:Int) - 1).toNat) hkk rfl ⟨rfl,rfl,rfl⟩ (by rw [bg];exact hc2) hr,rfl⟩
 by_cases hq6:p=6
 ·repeat first|refine aa ?_|intro _|refine cc ?_
  refine GO.efu (Ef.f9 (e:=(⟨⟨ms[(0:Int).toNat]!.m.frm,by_,ms[(0:Int).toNat]!.m.item,ms[(0:Int).toNat]!.m.n,ms[(0:Int).toNat]!.m.parts⟩,ms[(0:Int).toNat]!.pad,ms[(0:Int).toNat]!.pcap⟩:MvV)) rfl rfl (by rfl) rfl h00 ac) ?_
  rintro _ _ rfl
  repeat first|refine aa ?_|intro _|refine cc ?_
  exact KX.d7 (ResOk.cell rfl (by rfl) ResOk.nil) (Ent.trans ae (iY (ad2:=ad2) (mad:=mad) (cap2:=cap2) (L:=L) (lB (j:=(0:Int).toNat) (m:=(⟨⟨ms[(0:Int).toNat]!.m.frm,by_,ms[(0:Int).toNat]!.m.item,ms[(0:Int).toNat]!.m.n,ms[(0:Int).toNat]!.m.parts⟩,ms[(0:Int).toNat]!.pad,ms[(0:Int).toNat]!.pcap⟩:MvV)) h00 ⟨rfl,rfl,rfl⟩))) ⟨⟨id,kind,actor,tick,rule,times,ms.set (0:Int).toNat (⟨⟨ms[(0:Int).toNat]!.m.frm,by_,ms[(0:Int).toNat]!.m.item,ms[(0:Int).toNat]!.m.n,ms[(0:Int).toNat]!.m.parts⟩,ms[(0:Int).toNat]!.pad,ms[(0:Int).toNat]!.pcap⟩:MvV),ad2,cap2⟩,by simp only [aB,bg];rfl,qS hs (j:=(0:Int).toNat) h00 rfl ⟨rfl,rfl,rfl⟩ (by rw [bg];exact hc2) hr,rfl⟩
 by_cases hq7:p=7
 ·repeat first|refine aa ?_|intro _|refine cc ?_
  refine GO.efu (Ef.f9 (e:=(⟨⟨ms[((ms.length:Int) - 1).toNat]!.m.frm,ms[((ms.length:Int) - 1).toNat]!.m.to,by_,ms[((ms.length:Int) - 1).toNat]!.m.n,ms[((ms.length:Int) - 1).toNat]!.m.parts⟩,ms[((ms.length:Int) - 1).toNat]!.pad,ms[((ms.length:Int) - 1).toNat]!.pcap⟩:MvV)) rfl rfl (by rfl) rfl hkk ac) ?_
  rintro _ _ rfl
  repeat first|refine aa ?_|intro _|refine cc ?_
  exact KX.d7 (ResOk.cell rfl (by rfl) ResOk.nil) (Ent.trans ae (iY (ad2:=ad2) (mad:=mad) (cap2:=cap2) (L:=L) (lB (j:=((ms.length:Int) - 1).toNat) (m:=(⟨⟨ms[((ms.length:Int) - 1).toNat]!.m.frm,ms[((ms.length:Int) - 1).toNat]!.m.to,by_,ms[((ms.length:Int) - 1).toNat]!.m.n,ms[((ms.length:Int) - 1).toNat]!.m.parts⟩,ms[((ms.length:Int) - 1).toNat]!.pad,ms[((ms.length:Int) - 1).toNat]!.pcap⟩:MvV)) hkk ⟨rfl,rfl,rfl⟩))) ⟨⟨id,kind,actor,tick,rule,times,ms.set ((ms.length:Int) - 1).toNat (⟨⟨ms[((ms.length:Int) - 1).toNat]!.m.frm,ms[((ms.length:Int) - 1).toNat]!.m.to,by_,ms[((ms.length:Int) - 1).toNat]!.m.n,ms[((ms.length:Int) - 1).toNat]!.m.parts⟩,ms[((ms.length:Int) - 1).toNat]!.pad,ms[((ms.length:Int) - 1).toNat]!.pcap⟩:MvV),ad2,cap2⟩,by simp only [aB,bg];rfl,qS hs (j:=((ms.length:Int) - 1).toNat) hkk rfl ⟨rfl,rfl,rfl⟩ (by rw [bg];exact hc2) hr,rfl⟩
 by_cases hq8:p=8
 ·repeat first|refine aa ?_|intro _|refine cc ?_
  refine GO.efu (Ef.f9 (e:=(⟨⟨ms[(0:Int).toNat]!.m.frm,ms[(0:Int).toNat]!.m.to,ms[(0:Int).toNat]!.m.item,by_,ms[(0:Int).toNat]!.m.parts⟩,ms[(0:Int).toNat]!.pad,ms[(0:Int).toNat]!.pcap⟩:MvV)) rfl rfl (by rfl) rfl h00 ac) ?_
  rintro _ _ rfl
  repeat first|refine aa ?_|intro _|refine cc ?_
  exact KX.d7 (ResOk.cell rfl (by rfl) ResOk.nil) (Ent.trans ae (iY (ad2:=ad2) (mad:=mad) (cap2:=cap2) (L:=L) (lB (j:=(0:Int).toNat) (m:=(⟨⟨ms[(0:Int).toNat]!.m.frm,ms[(0:Int).toNat]!.m.to,ms[(0:Int).toNat]!.m.item,by_,ms[(0:Int).toNat]!.m.parts⟩,ms[(0:Int).toNat]!.pad,ms[(0:Int).toNat]!.pcap⟩:MvV)) h00 ⟨rfl,rfl,rfl⟩))) ⟨⟨id,kind,actor,tick,rule,times,ms.set (0:Int).toNat (⟨⟨ms[(0:Int).toNat]!.m.frm,ms[(0:Int).toNat]!.m.to,ms[(0:Int).toNat]!.m.item,by_,ms[(0:Int).toNat]!.m.parts⟩,ms[(0:Int).toNat]!.pad,ms[(0:Int).toNat]!.pcap⟩:MvV),ad2,cap2⟩,by simp only [aB,bg];rfl,qS hs (j:=(0:Int).toNat) h00 rfl ⟨rfl,rfl,rfl⟩ (by rw [bg];exact hc2) hr,rfl⟩
 by_cases hq9:p=9
 ·repeat first|refine aa ?_|intro _|refine cc ?_
  refine GPW.ef (Ef.d8 (enc:=aF) (xs:=ms) ms[(0:Int).toNat]! rfl rfl rfl rfl rfl (by rfl) (hU _) ab ab) ac ?_
  rintro _ _ ⟨ad3,cap3,rfl,rfl⟩
  repeat first|((fail_if_success (with_reducible refine G.atS 29 ?_));(with_reducible apply G.seq))|refine bU ?_|intro _|refine cc ?_
  refine G.f8 (gG (ad:=ad3) (cap:=cap3) (xs:=ms++[ms[(0:Int).toNat]!]) (enc:=aF) (sz:=5) (E:=tMv)) ?_
  rintro ⟨hc4,_⟩
  repeat first|refine aa ?_|intro _|refine cc ?_
  exact KX.d7 (ResOk.cell rfl (by rfl) ResOk.nil) (Ent.trans ae (iY (ad2:=ad3) (mad:=mad) (cap2:=cap3) (L:=L) (vm (j:=(0:Int).toNat) h00))) ⟨⟨id,kind,actor,tick,rule,times,ms++[ms[(0:Int).toNat]!],ad3,cap3⟩,rfl,EV hs h00 rfl hc4 hr,rfl⟩
 repeat first|refine aa ?_|intro _|refine cc ?_
 rename_i bn
 refine GPW.efu (Ef.f9 (e:=(⟨⟨ms[(0:Int).toNat]!.m.frm,ms[(0:Int).toNat]!.m.to,ms[(0:Int).toNat]!.m.item,ms[(0:Int).toNat]!.m.n,[(by_,0,ms[(0:Int).toNat]!.m.n)]⟩,some ⟨bn,0,none⟩,1⟩:MvV)) rfl rfl (by rfl) rfl h00 ac) ?_
 rintro _ _ rfl
 repeat first|refine aa ?_|intro _|refine cc ?_
 have he:=El (ms:=ms) (m:=(⟨⟨ms[(0:Int).toNat]!.m.frm,ms[(0:Int).toNat]!.m.to,ms[(0:Int).toNat]!.m.item,ms[(0:Int).toNat]!.m.n,[(by_,0,ms[(0:Int).toNat]!.m.n)]⟩,some ⟨bn,0,none⟩,1⟩:MvV)) (p:=(by_,0,ms[(0:Int).toNat]!.m.n)) (bn:=bn) (ad2:=ad2) (mad:=mad) (cap2:=cap2) (L:=L) rfl rfl
 exact KX.d7 (ResOk.cell rfl (by rfl) ResOk.nil) (Ent.trans (by show Ent _ (obj bn tLot (ah (by_,0,ms[(0:Int).toNat]!.m.n))::osl aF 5 tMv ad2 cap2 (ms.set (0:Int).toNat (⟨⟨ms[(0:Int).toNat]!.m.frm,ms[(0:Int).toNat]!.m.to,ms[(0:Int).toNat]!.m.item,ms[(0:Int).toNat]!.m.n,[(by_,0,ms[(0:Int).toNat]!.m.n)]⟩,some ⟨bn,0,none⟩,1⟩:MvV))::isl aF 5 mad ms::allP mvP ms::L);simp only [ah];exact ae) he) ⟨⟨id,kind,actor,tick,rule,times,ms.set 0 (⟨⟨ms[(0:Int).toNat]!.m.frm,ms[(0:Int).toNat]!.m.to,ms[(0:Int).toNat]!.m.item,ms[(0:Int).toNat]!.m.n,[(by_,0,ms[(0:Int).toNat]!.m.n)]⟩,some ⟨bn,0,none⟩,1⟩:MvV),ad2,cap2⟩,by simp only [aB,bg];rfl,Ek hs h00 (p:=(by_,0,ms[(0:Int).toNat]!.m.n)) rfl rfl hb.2 rfl (by rw [bg];exact hc2) hr,rfl⟩
end
section
open Go.V
def SpL (ss ss' : List StV):Prop:=ss' = ss∨∃ k s',k<ss.length∧StSp s'∧ss' = ss.set k s'
theorem SpL.len {ss ss' : List StV} (h:SpL ss ss'):ss'.length=ss.length:=by
 rcases h with rfl|⟨k,s',_,_,rfl⟩
 ·rfl
 ·exact bg
theorem StSp.at {s:StV} (h:StSp s) (id:Int):StSp { s with id:=id }:=⟨⟨h.inp.len,h.inp.rule,h.inp.parts,h.inp.cap,h.inp.bd⟩,h.cap,h.k⟩
theorem sE {ss:List StV} {k:Nat} {s:StV} {L:List HP}:Ent (stM s::stP s::allP aX ss::L) (allP aX (ss.set k s)::allP aX ss::L):=by
 refine Ent.trans (B:=aX s::allP aX ss::L) (Ent.e9 (mV s) (cA gZ)) ?_
 refine Ent.trans (B:=aX s::allP aX ss::allP aX ss::L) (Ent.d7 (Ent.dup (gF aX ss))) ?_
 refine (Ent.g7 (f:=aX) ln).trans (Ent.l0 fun x hx=>?_)
 rcases cj hx with h|h
 ·exact ao _ h
 ·rw [h];exact ap
attribute [local irreducible] G GO GP GPW GPK GF GE Ev Ef EfR Ent CB GB V.Enters
theorem tD {L:List HP} (ad:Option Addr) (n c:Nat) (ss:List StV) [hrd:Rds L ad StV aB 7 ss] (hn:n=ss.length) (hl:ss.length≤100000) (hs:∀ s∈ss,StG0 s) (at_ which by_:Int) (ha:I64 at_) (hw:I64 which) (hb:I64 by_) :
  Tri Tryz.prog 11 #[.slice ad n c,.int .i64 at_,.int .i64 which,.int .i64 by_] (allP aX ss::L) (fun v L'=>∃ ad' cap' ss',v=.slice ad' ss'.length cap'∧SpL ss ss'∧L' = isl aB 7 ad' ss'::allP aX ss'::allP aX ss::L):=by
 subst hn
 refine Tri.body (args:=[.slice ad ss.length c,.int .i64 at_,.int .i64 which,.int .i64 by_]) 49 en11 Tryz.func11 rfl rfl rfl (by simp) ?_
 repeat first|refine aa ?_|intro
 refine GO.ent (L':=osl aB 7 aU none 0 []::allP aX ss::L) (Ent.d8 aB 7 aU) ?_
 refine GO.ef (Ef.e7 (ys:=ss) rfl rfl rfl rfl rfl (fun e _=>iB e) (by simp;omega) (by simp;omega)) ac ?_
 rintro _ _ ⟨ad2,cap2,rfl,rfl⟩
 rw [aj]
 repeat first|refine aa ?_|intro
 by_cases h0:ss.length=0
 ·repeat first|refine aa ?_|intro
  refine KX.d7 ag ?_ ⟨ad2,cap2,ss,rfl,.inl rfl,rfl⟩
  exact (Ent.frz ad2).trans (Ent.d7 (Ent.dup (gF aX ss)))
 repeat first|refine aa ?_|intro
 refine GO.ef (Ef.d7 (nE at_ (ss.length:Int) ha ab ab) rfl) ac ?_
 rintro _ _ ⟨p,rfl,⟨hp0,hp1⟩,rfl⟩
 obtain ⟨k,rfl⟩:∃ k:Nat,p=(k:Int):=⟨p.toNat,ab⟩
 have hk:k<ss.length:=ab
 have hkk:(k:Int).toNat=k:=av k
 have hk2:(k:Int).toNat<ss.length:=ab
 repeat first|refine aa ?_|intro
 have hsk:=hs _ (aG hk2)
 refine GO.ent (L':=stM ss[(k:Int).toNat]!::stP ss[(k:Int).toNat]!::osl aB 7 aU ad2 cap2 ss::allP aX ss::L) (Ent.swap.trans (((Ent.e7 (f:=aX) (aG hk2)).trans Ent.andE).trans ae)) ?_
 refine GO.ef (Ef.d7 (tE ss[(k:Int).toNat]! hsk which by_ hw hb) rfl) ac ?_
 rintro _ _ ⟨s',rfl,hs',rfl⟩
 repeat first|refine aa ?_|intro
 refine GO.efu (Ef.e8 (enc:=aB) (e:=s') rfl rfl rfl rfl (iB _) hk2) ?_
 rintro _ _ rfl
 repeat first|refine aa ?_|intro
 refine GO.ef (Ef.d7 (nE which 13 hw ac ac) rfl) ac ?_
 rintro _ _ ⟨q,rfl,⟨hq0,hq1⟩,rfl⟩
 have hsl:(ss.set (k:Int).toNat s').length=ss.length:=bg
 by_cases hq:q=0
 case neg =>
  repeat first|refine aa ?_|intro
  refine KX.d7 ag ?_ ⟨ad2,cap2,ss.set (k:Int).toNat s',by rw [hsl];rfl,.inr ⟨_,s',hk2,hs',rfl⟩,rfl⟩
  exact (Ent.frz ad2).trans (Ent.d7 (Ent.trans ae (sE (L:=L))))
 have hge:(ss.set (k:Int).toNat s')[(k:Int).toNat]! = s':=by rw [getElem!_of ab,eG]
 repeat first|refine aa ?_|intro
 refine GO.ev (Ev.B7 rfl rfl) ac ?_
 repeat first|refine aa ?_|intro
 generalize hid:IntKind.i64.wrap (ss[(k:Int).toNat]!.id+by_)=id' at *
 refine GO.efu (Ef.f9 (enc:=aB) (e:=({ s' with id:=id' }:StV)) rfl rfl (by rw [hge];rfl) rfl ab ac) ?_
 rintro _ _ rfl
 rw [List.set_set]
 repeat first|refine aa ?_|intro
 have hsl2:(ss.set (k:Int).toNat ({ s' with id:=id' }:StV)).length=ss.length:=bg
 refine KX.d7 ag ?_ ⟨ad2,cap2,ss.set (k:Int).toNat ({ s' with id:=id' }:StV),by rw [hsl2];rfl,.inr ⟨_,{ s' with id:=id' },hk2,hs'.at id',rfl⟩,rfl⟩
 refine (Ent.frz ad2).trans (Ent.d7 (Ent.trans ?_ (sE (s:=({ s' with id:=id' }:StV)) (L:=L))))
 show Ent _ (isl aF 5 s'.mad s'.moves::allP mvP s'.moves::allP aX ss::L)
 exact ae
end
section
open Go.V
theorem Ent.m8 {A B:HP} {L:List HP}:Ent (A::B::L) (cv [A,B]::L):=fun θ R w s=>Sat.d7 (A:=[A,B]) s
theorem Ent.l6 {A B:HP} {L:List HP}:Ent (cv [A,B]::L) (A::B::L):=fun θ R w s=>Sat.ofStars (A:=[A,B]) s
def flO (f:FlV):HP:=cv [osl ah 3 tLot f.pad f.pcap f.m.parts,osl (encZ .i64) 1 tInt f.mad f.mcap f.m.made]
def stO (s:StV):HP:=cv [osl aF 5 tMv s.mad s.mcap s.moves,allP mvP s.moves]
def fl0:FlV:=⟨⟨0,0,0,0,0,0,0,0,0,[],[]⟩,none,0,none,0⟩
def st0:StV:=⟨0,0,0,0,0,0,[],none,0⟩
theorem Du {f:FlV} {L:List HP}:Ent (flP f::L) (isl ah 3 f.pad f.m.parts::isl (encZ .i64) 1 f.mad f.m.made::flP f::L):=(Ent.dup (lW f).pers).trans Ent.andE
attribute [local irreducible] G GO GP GPW GPK Ev Ef EfR Ent CB GB V.Enters
abbrev Al:List Stp:=[.ev 0,.ev 1,.ev 3,.ev 4,.ef 2,.ev 6,.ef 5,.ef 7,.ev 8,.ef 9]
theorem jE {φ ψ:Prop} (k:ψ) (h:Hid ψ→φ:=by intro k;(with_reducible apply G.d8);first|refine G.d7 (N:=12) (id:=1) Al mixed an (Hid.out k)):φ:=h ⟨k⟩
theorem vX {L:List HP} (f:FlV) (h1:f.m.parts.length≤1000000) (h2:f.m.made.length≤1000000) :
  Tri Tryz.prog 70 #[.agg (bF f).toArray] (flP f::L) (fun v L'=>∃ f',v=.agg (bF f').toArray∧f'.m=f.m∧L' = flO f'::flP f::L):=by
 obtain ⟨⟨i1,i2,i3,i4,i5,i6,i7,i8,i9,parts,made⟩,pad,pcap,mad,mcap⟩:=f
 dsimp only at h1 h2
 refine Tri.body (args:=[.agg (bF ⟨⟨i1,i2,i3,i4,i5,i6,i7,i8,i9,parts,made⟩,pad,pcap,mad,mcap⟩).toArray]) 12 en70 Tryz.func70 rfl rfl rfl (by simp) ?_
 refine G.ent Du ?_
 dsimp only
 repeat first|refine aa ?_|intro _|refine jE ?_
 refine GPW.ef (Ef.d7 (kU pad parts.length pcap parts rfl h1) rfl) ac ?_
 rintro _ _ ⟨ad',cap',rfl,rfl⟩
 repeat first|refine aa ?_|intro _|refine jE ?_
 refine GPW.ef (Ef.d7 (jA mad made.length mcap made rfl h2) rfl) ac ?_
 rintro _ _ ⟨ad2,cap2,rfl,rfl⟩
 repeat first|refine aa ?_|intro _|refine jE ?_
 refine KX.d7 (by exact ResOk.cell rfl (by rfl) (ResOk.nil)) ?_ ⟨⟨⟨i1,i2,i3,i4,i5,i6,i7,i8,i9,parts,made⟩,ad',cap',ad2,cap2⟩,rfl,rfl,rfl⟩
 refine Ent.trans (B:=osl ah 3 tLot ad' cap' parts::osl (encZ .i64) 1 tInt ad2 cap2 made::flP ⟨⟨i1,i2,i3,i4,i5,i6,i7,i8,i9,parts,made⟩,pad,pcap,mad,mcap⟩::L) ae ?_
 exact Ent.m8
theorem vS {L:List HP} (ad:Option Addr) (c:Nat) (ms:List FlV) (hl:ms.length≤100000) (hp:∀ m∈ms,m.m.parts.length≤1000000∧m.m.made.length≤1000000) :
  Tri Tryz.prog 69 #[.slice ad ms.length c,.func (.func 70) #[] #[]] (asl bF 11 cq ad c ms::allP flP ms::L) (fun v L'=>∃ ad' c' ms',v=.slice ad' ms'.length c'∧ms'.map (·.m)=ms.map (·.m)∧L' = osl bF 11 cq ad' c' ms'::bigO flO ms'::asl bF 11 cq ad c ms::allP flP ms::L):=by
 refine Tri.body (args:=[.slice ad ms.length c,.func (.func 70) #[] #[]]) 29 en69 Tryz.func69 rfl rfl rfl (by simp) ?_
 by_cases h0:ms.length=0
 ·have e:ms=[]:=aQ h0
  subst e
  repeat first|refine aa ?_|intro
  exact KX.d7 ag ((Ent.j0 flO).trans (Ent.d8 bF 11 cq)) ⟨none,0,[],rfl,rfl,rfl⟩
 repeat first|refine aa ?_|intro
 refine GO.ef (Ef.g7 bF fl0 rfl rfl rfl ab ab ab ab) ac ?_
 rintro _ _ ⟨bs,rfl,rfl⟩
 rw [show (ms.length:Int).toNat=ms.length by omega]
 repeat first|refine aa ?_|intro
 refine G.loop (α:=Nat×List FlV) (fun z=>z.1≤ms.length∧z.2.length=ms.length∧(z.2.take z.1).map (·.m)=(ms.take z.1).map (·.m)) (fun z=>[(1,.func (.func 70) #[] #[]),(5,.slice (some ⟨bs,0,none⟩) ms.length ms.length),(14,.slice ad ms.length c),(15,.int .i64 (ms.length:Int)),(16,.int .i64 (z.1:Int))])
  (fun z=>osl bF 11 cq (some ⟨bs,0,none⟩) ms.length z.2::bigO flO (z.2.take z.1)::asl bF 11 cq ad c ms::allP flP ms::L) (fun z=>ms.length - z.1) (0,List.replicate ms.length fl0) ⟨al _,by simp,by simp⟩ ai ?_ ?_
 ·dsimp only
  rw [bX]
  refine (Ent.j0 flO).trans ?_
  exact ae
 rintro ⟨i,zs⟩ ⟨hi,hzl,hze⟩
 dsimp only at hi hzl hze ⊢
 by_cases hlt:i<ms.length
 case neg =>
  have hie:i=ms.length:=ab
  subst hie
  rw [aA ab,aA ab] at hze
  rw [aA (show zs.length≤ms.length by omega)]
  repeat first|refine aa ?_|intro
  refine KX.d7 ag (Ent.refl _) ⟨some ⟨bs,0,none⟩,ms.length,zs,by rw [hzl];rfl,hze,rfl⟩
 have hii:(i:Int).toNat=i:=ab
 have hmm:ms[i]!∈ms:=aG hlt
 have hpm:=hp _ hmm
 repeat first|refine aa ?_|intro
 rw [hii]
 refine GO.ent (Ent.at (A:=allP flP ms) (Ent.e7 (x:=ms[i]!) hmm)) ?_
 refine GO.ef (Ef.d9 rfl rfl (vX ms[i]! hpm.1 hpm.2)) ac ?_
 rintro _ _ ⟨m',rfl,hm',rfl⟩
 repeat first|refine aa ?_|intro
 refine GO.efu (Ef.e8 (e:=m') rfl rfl (by rfl) (by rfl) (jj _) ab) ?_
 rintro _ _ rfl
 rw [hii]
 repeat first|refine aa ?_|intro
 refine ⟨(i+1,zs.set i m'),⟨by dsimp only;omega,by dsimp only;simp;omega,?_⟩,by dsimp only;omega,?_,?_⟩
 ·dsimp only
  rw [dC ab,ay hlt,aS,aS,hze,← getElem!_of hlt]
  simp [hm']
 ·dsimp only
  rw [aM i]
  exact ai
 ·dsimp only
  rw [dC ab]
  refine Ent.d7 ?_
  refine Ent.trans (B:=flO m'::bigO flO (zs.take i)::asl bF 11 cq ad c ms::allP flP ms::L) ae ?_
  exact Ent.l8
theorem yi {L:List HP} (b:Nat) (S:LedM) (hS:∀ f∈S.flows,f.parts.length≤1000000∧f.made.length≤1000000) (hfl:S.flows.length≤100000) :
  Tri Tryz.prog 26 #[.pointer (some ⟨b,0,none⟩)] (LedR b S::L) (fun v L'=>∃ ad cap fs,v=.slice ad fs.length cap∧fs.map FlV.m=S.flows∧L' = osl bF 11 cq ad cap fs::bigO flO fs::LedR b S::L):=by
 refine Tri.body (args:=[.pointer (some ⟨b,0,none⟩)]) 8 en26 Tryz.func26 rfl rfl rfl (by simp) ?_
 refine G.e8 (f:=ledA b S) ?_
 intro x
 simp only [ledA,ledL,eN,aq,aj]
 refine G.f9 ?_
 intro hF
 have hxl:x.flows.length=S.flows.length:=by rw [← hF.flows];simp
 have hpp:∀ m∈x.flows,m.m.parts.length≤1000000∧m.m.made.length≤1000000:=fun m hm=>by
  have:=hS m.m (by rw [← hF.flows];exact alStd0List_mem_map_of_mem hm)
  omega
 repeat first|refine aa ?_|intro
 refine GO.ent (Ent.at (A:=asl bF 11 cq x.fad x.fcap x.flows) (Ent.d7 (Ent.at (A:=allP flP x.flows) (Ent.refl _)))) ?_
 refine GO.ef (Ef.d7 (vS x.fad x.fcap x.flows ab hpp) rfl) ac ?_
 rintro _ _ ⟨ad',c',fs,rfl,hfs,rfl⟩
 repeat first|refine aa ?_|intro
 refine KX.d7 ag ?_ ⟨ad',c',fs,rfl,hfs.trans hF.flows,rfl⟩
 refine Ent.trans ?_ (Ent.d7 (Ent.d7 (lC x hF)))
 simp only [ledL]
 exact ae
theorem vQ {L:List HP} (ad:Option Addr) (c:Nat) (ms:List MvV) (hl:ms.length≤64) (hp:∀ m∈ms,m.m.parts.length≤1000000) :
  Tri Tryz.prog 125 #[.slice ad ms.length c,.func (.func 126) #[] #[]] (isl aF 5 ad ms::allP mvP ms::L) (fun v L'=>∃ ad' c' ms',v=.slice ad' ms'.length c'∧ms'.map (·.m)=ms.map (·.m)∧L' = osl aF 5 tMv ad' c' ms'::allP mvP ms'::isl aF 5 ad ms::allP mvP ms::L):=by
 refine Tri.body (args:=[.slice ad ms.length c,.func (.func 126) #[] #[]]) 29 DU Tryz.func125 rfl rfl rfl (by simp) ?_
 by_cases h0:ms.length=0
 ·have e:ms=[]:=aQ h0
  subst e
  repeat first|refine aa ?_|intro
  exact KX.d7 ag ((Ent.d9 mvP).trans (Ent.d8 aF 5 tMv)) ⟨none,0,[],rfl,rfl,rfl⟩
 repeat first|refine aa ?_|intro
 refine GO.ef (Ef.g7 aF mv0 rfl rfl rfl ab ab ab ab) ac ?_
 rintro _ _ ⟨bs,rfl,rfl⟩
 rw [show (ms.length:Int).toNat=ms.length by omega]
 repeat first|refine aa ?_|intro
 refine G.loop (α:=Nat×List MvV) (fun z=>z.1≤ms.length∧z.2.length=ms.length∧(z.2.take z.1).map (·.m)=(ms.take z.1).map (·.m)) (fun z=>[(1,.func (.func 126) #[] #[]),(5,.slice (some ⟨bs,0,none⟩) ms.length ms.length),(14,.slice ad ms.length c),(15,.int .i64 (ms.length:Int)),(16,.int .i64 (z.1:Int))])
  (fun z=>osl aF 5 tMv (some ⟨bs,0,none⟩) ms.length z.2::allP mvP (z.2.take z.1)::isl aF 5 ad ms::allP mvP ms::L) (fun z=>ms.length - z.1) (0,List.replicate ms.length mv0) ⟨al _,by simp,by simp⟩ ai ?_ ?_
 ·dsimp only
  rw [bX]
  refine (Ent.d9 mvP).trans ?_
  exact ae
 rintro ⟨i,zs⟩ ⟨hi,hzl,hze⟩
 dsimp only at hi hzl hze ⊢
 by_cases hlt:i<ms.length
 case neg =>
  have hie:i=ms.length:=ab
  subst hie
  rw [aA ab,aA ab] at hze
  rw [aA (show zs.length≤ms.length by omega)]
  repeat first|refine aa ?_|intro
  refine KX.d7 ag (Ent.refl _) ⟨some ⟨bs,0,none⟩,ms.length,zs,by rw [hzl];rfl,hze,rfl⟩
 have hii:(i:Int).toNat=i:=ab
 have hmm:ms[i]!∈ms:=aG hlt
 repeat first|refine aa ?_|intro
 rw [hii]
 refine GO.ent (Ent.at (A:=allP mvP ms) (Ent.e7 (x:=ms[i]!) hmm)) ?_
 refine GO.ef (Ef.d9 rfl rfl (oK ms[i]! (hp _ hmm))) ac ?_
 rintro _ _ ⟨m',rfl,hm',rfl⟩
 repeat first|refine aa ?_|intro
 refine GO.efu (Ef.e8 (e:=m') rfl rfl (by rfl) (by rfl) (hU _) ab) ?_
 rintro _ _ rfl
 rw [hii]
 repeat first|refine aa ?_|intro
 refine ⟨(i+1,zs.set i m'),⟨by dsimp only;omega,by dsimp only;simp;omega,?_⟩,by dsimp only;omega,?_,?_⟩
 ·dsimp only
  rw [dC ab,ay hlt,aS,aS,hze,← getElem!_of hlt]
  simp [hm']
 ·dsimp only
  rw [aM i]
  exact ai
 ·dsimp only
  rw [dC ab]
  refine Ent.d7 ?_
  refine Ent.trans (B:=allP mvP (zs.take i)::mvP m'::isl aF 5 ad ms::allP mvP ms::L) ae ?_
  exact (Ent.d7 (Ent.f8 gZ)).trans (Ent.g8 gZ)
theorem vV {L:List HP} (s:StV) (hl:s.moves.length≤64) (hp:∀ m∈s.moves,m.m.parts.length≤1000000) :
  Tri Tryz.prog 68 #[.agg (aB s).toArray] (stM s::stP s::L) (fun v L'=>∃ s',v=.agg (aB s').toArray∧s'.m=s.m∧L' = stO s'::stM s::stP s::L):=by
 obtain ⟨i0,i1,i2,i3,i4,i5,ms,mad,mcap⟩:=s
 dsimp only at hl hp
 refine Tri.body (args:=[.agg (aB ⟨i0,i1,i2,i3,i4,i5,ms,mad,mcap⟩).toArray]) 8 en68 Tryz.func68 rfl rfl rfl (by simp) ?_
 repeat first|refine aa ?_|intro
 refine GO.ent (Ent.at (A:=isl aF 5 mad ms) (Ent.d7 (Ent.at (A:=allP mvP ms) (Ent.refl _)))) ?_
 refine GO.ef (Ef.d7 (vQ mad mcap ms hl hp) rfl) ac ?_
 rintro _ _ ⟨ad',c',ms',rfl,hms,rfl⟩
 repeat first|refine aa ?_|intro
 refine KX.d7 (by exact ResOk.cell rfl (by rfl) (ResOk.nil)) ?_ ⟨⟨i0,i1,i2,i3,i4,i5,ms',ad',c'⟩,rfl,by simp only [StV.m,hms],rfl⟩
 refine Ent.trans (B:=osl aF 5 tMv ad' c' ms'::allP mvP ms'::isl aF 5 mad ms::allP mvP ms::L) ae ?_
 exact Ent.m8
theorem vP {L:List HP} (ad:Option Addr) (c:Nat) (ms:List StV) (hl:ms.length≤100000) (hp:∀ m∈ms,m.moves.length≤64∧∀ u∈m.moves,u.m.parts.length≤1000000) :
  Tri Tryz.prog 67 #[.slice ad ms.length c,.func (.func 68) #[] #[]] (asl aB 7 aU ad c ms::allP aX ms::L) (fun v L'=>∃ ad' c' ms',v=.slice ad' ms'.length c'∧ms'.map (·.m)=ms.map (·.m)∧L' = osl aB 7 aU ad' c' ms'::bigO stO ms'::asl aB 7 aU ad c ms::allP aX ms::L):=by
 refine Tri.body (args:=[.slice ad ms.length c,.func (.func 68) #[] #[]]) 29 en67 Tryz.func67 rfl rfl rfl (by simp) ?_
 by_cases h0:ms.length=0
 ·have e:ms=[]:=aQ h0
  subst e
  repeat first|refine aa ?_|intro
  exact KX.d7 ag ((Ent.j0 stO).trans (Ent.d8 aB 7 aU)) ⟨none,0,[],rfl,rfl,rfl⟩
 repeat first|refine aa ?_|intro
 refine GO.ef (Ef.g7 aB st0 rfl rfl rfl ab ab ab ab) ac ?_
 rintro _ _ ⟨bs,rfl,rfl⟩
 rw [show (ms.length:Int).toNat=ms.length by omega]
 repeat first|refine aa ?_|intro
 refine G.loop (α:=Nat×List StV) (fun z=>z.1≤ms.length∧z.2.length=ms.length∧(z.2.take z.1).map (·.m)=(ms.take z.1).map (·.m)) (fun z=>[(1,.func (.func 68) #[] #[]),(5,.slice (some ⟨bs,0,none⟩) ms.length ms.length),(14,.slice ad ms.length c),(15,.int .i64 (ms.length:Int)),(16,.int .i64 (z.1:Int))])
  (fun z=>osl aB 7 aU (some ⟨bs,0,none⟩) ms.length z.2::bigO stO (z.2.take z.1)::asl aB 7 aU ad c ms::allP aX ms::L) (fun z=>ms.length - z.1) (0,List.replicate ms.length st0) ⟨al _,by simp,by simp⟩ ai ?_ ?_
 ·dsimp only
  rw [bX]
  refine (Ent.j0 stO).trans ?_
  exact ae
 rintro ⟨i,zs⟩ ⟨hi,hzl,hze⟩
 dsimp only at hi hzl hze ⊢
 by_cases hlt:i<ms.length
 case neg =>
  have hie:i=ms.length:=ab
  subst hie
  rw [aA ab,aA ab] at hze
  rw [aA (show zs.length≤ms.length by omega)]
  repeat first|refine aa ?_|intro
  refine KX.d7 ag (Ent.refl _) ⟨some ⟨bs,0,none⟩,ms.length,zs,by rw [hzl];rfl,hze,rfl⟩
 have hii:(i:Int).toNat=i:=ab
 have hmm:ms[i]!∈ms:=aG hlt
 have hpm:=hp _ hmm
 repeat first|refine aa ?_|intro
 rw [hii]
 refine GO.ent (Ent.at (A:=allP aX ms) ((Ent.e7 (f:=aX) (x:=ms[i]!) hmm).trans Ent.andE)) ?_
 refine GO.ef (Ef.d9 rfl rfl (vV ms[i]! hpm.1 hpm.2)) ac ?_
 rintro _ _ ⟨m',rfl,hm',rfl⟩
 repeat first|refine aa ?_|intro
 refine GO.efu (Ef.e8 (e:=m') rfl rfl (by rfl) (by rfl) (iB _) ab) ?_
 rintro _ _ rfl
 rw [hii]
 repeat first|refine aa ?_|intro
 refine ⟨(i+1,zs.set i m'),⟨by dsimp only;omega,by dsimp only;simp;omega,?_⟩,by dsimp only;omega,?_,?_⟩
 ·dsimp only
  rw [dC ab,ay hlt,aS,aS,hze,← getElem!_of hlt]
  simp [hm']
 ·dsimp only
  rw [aM i]
  exact ai
 ·dsimp only
  rw [dC ab]
  refine Ent.d7 ?_
  refine Ent.trans (B:=stO m'::bigO stO (zs.take i)::asl aB 7 aU ad c ms::allP aX ms::L) ae ?_
  exact Ent.l8
theorem wt {L:List HP} (b:Nat) (S:LedM) (hS:∀ s∈S.steps,s.moves.length≤64∧∀ u∈s.moves,u.parts.length≤1000000) (hfl:S.steps.length≤100000) :
  Tri Tryz.prog 25 #[.pointer (some ⟨b,0,none⟩)] (LedR b S::L) (fun v L'=>∃ ad cap ss,v=.slice ad ss.length cap∧ss.map StV.m=S.steps∧L' = osl aB 7 aU ad cap ss::bigO stO ss::LedR b S::L):=by
 refine Tri.body (args:=[.pointer (some ⟨b,0,none⟩)]) 8 en25 Tryz.func25 rfl rfl rfl (by simp) ?_
 refine G.e8 (f:=ledA b S) ?_
 intro x
 simp only [ledA,ledL,eN,aq,aj]
 refine G.f9 ?_
 intro hF
 have hxl:x.steps.length=S.steps.length:=by rw [← hF.steps];simp
 have hpp:∀ m∈x.steps,m.moves.length≤64∧∀ u∈m.moves,u.m.parts.length≤1000000:=fun m hm=>by
  have h1:=hS m.m (by rw [← hF.steps];exact alStd0List_mem_map_of_mem hm)
  exact ⟨by have:=h1.1;simpa [StV.m] using this,fun u hu=>h1.2 u.m (alStd0List_mem_map_of_mem hu)⟩
 repeat first|refine aa ?_|intro
 refine GO.ent (Ent.at (A:=asl aB 7 aU x.sad x.scap x.steps) (Ent.d7 (Ent.at (A:=allP aX x.steps) (Ent.refl _)))) ?_
 refine GO.ef (Ef.d7 (vP x.sad x.scap x.steps ab hpp) rfl) ac ?_
 rintro _ _ ⟨ad',c',fs,rfl,hfs,rfl⟩
 repeat first|refine aa ?_|intro
 refine KX.d7 ag ?_ ⟨ad',c',fs,rfl,hfs.trans hF.steps,rfl⟩
 refine Ent.trans ?_ (Ent.d7 (Ent.d7 (lC x hF)))
 simp only [ledL]
 exact ae
end
section
open Go.V
def it22:List ItG:=[⟨⟨#[103,111,108,100]⟩,false,false,true,0,0,0⟩,⟨⟨#[111,114,101]⟩,false,false,false,0,0,0⟩,⟨⟨#[100,117,115,116]⟩,false,true,false,0,0,0⟩,⟨⟨#[103,101,109]⟩,false,false,false,0,0,0⟩]
def cat22:CatM:=⟨it22,[],[],[]⟩
theorem AS:CatGood cat22:=by
 refine ⟨by decide,by decide,by decide,by decide,?_,?_,?_,?_,by decide,by decide,by decide,by decide⟩
 ·intro x hx
  simp only [cat22,it22,be,aO,or_false] at hx
  rcases hx with rfl|rfl|rfl|rfl<;>exact ⟨kN (by decide +kernel),by decide,by decide⟩
 ·intro r hr;cases hr
 ·intro r hr;cases hr
 ·intro r hr;cases hr
theorem qz:cat22.Ok:=⟨(fun r hr=>by cases hr),(fun r hr=>by cases hr),(fun r hr=>by cases hr)⟩
def iQ (bi:Nat):CatV:=⟨it22,some ⟨bi,0,none⟩,4,[],none,0,[],none,0,[],none,0⟩
theorem DA (bi:Nat):(iQ bi).B:=by
 refine ⟨au rfl,au rfl,au rfl,au rfl,?_,?_,?_⟩<;>intro r hr<;>cases hr
attribute [local irreducible] G GO GP GPW GPK GF GE Ev Ef EfR Ent CB GB V.Enters
theorem so {L:List HP}:Tri Tryz.prog 51 #[] L (fun v L'=>∃ c:CatV,v=.agg c.cells.toArray∧(c.m=cat22∧c.B)∧L' = catP c::L):=by
 refine Tri.body (args:=[]) 7 en51 Tryz.func51 rfl rfl rfl (by simp) ?_
 repeat first|refine aa ?_|intro
 rename_i b0 bi
 refine KX.d7 (vs:=[.agg (iQ bi).cells.toArray]) (ResOk.cell rfl (by rfl) ResOk.nil) ?_ ⟨iQ bi,rfl,⟨rfl,DA bi⟩,rfl⟩
 refine (Ent.f9 (b:=bi) (enc:=cU) (sz:=7) it22 rfl (fun _ _=>rfl) (au rfl)).trans ?_
 refine (Ent.d9 txP).trans ((Ent.e8 dD 2 none).trans (Ent.trans (Ent.e9 (bJ _ _ _ _) (cA ku)) ?_))
 refine (Ent.d9 tbP).trans ((Ent.e8 dy 2 none).trans (Ent.trans (Ent.e9 (bJ _ _ _ _) (cA jy)) ?_))
 refine (Ent.e9 (lK (iQ bi)) (lJ (iQ bi))).trans ?_
 refine (Ent.d9 ruP).trans ((Ent.e8 cw 9 none).trans (Ent.trans (Ent.e9 (bJ _ _ _ _) (cA ix)) ?_))
 refine (Ent.e9 (oO (iQ bi)) ((lK (iQ bi)).and (lJ (iQ bi)))).trans ?_
 refine (Ent.swap.trans (Ent.e9 (vZ (iQ bi)) ((oO (iQ bi)).and ((lK (iQ bi)).and (lJ (iQ bi)))))).trans ?_
 exact Ent.d7 Ent.drop
theorem Av {L:List HP} (sh:Int) (c:CatV) (hsh:0≤sh∧sh<12) (hB:c.B) (h:CatGood c.m):Tri Tryz.prog 23 #[.int .i64 sh,.agg c.cells.toArray] (catP c::cu::L) (fun v L'=>∃ b,v=.tuple #[.pointer (some ⟨b,0,none⟩),.int .i64 0]∧L' = LedR b (led0 sh c.m)::catP c::cu::L):=by
 obtain ⟨h1,h2⟩:=hsh
 refine Tri.body (args:=[.int .i64 sh,.agg c.cells.toArray]) 27 en23 Tryz.func23 rfl rfl rfl (by simp) ?_
 simp only [CatV.cells]
 repeat first|refine aa ?_|intro
 rename_i b3
 refine GO.ent (L':=catP c::cu::obj b3 tCat c.cells::L) (by simp only [CatV.cells];exact ae) ?_
 refine GO.ef (Ef.d7 (CC c hB h) rfl) ac ?_
 rintro _ _ ⟨rfl,rfl⟩
 simp only [CatV.cells]
 repeat first|refine aa ?_|intro
 refine GO.ent (L':=catP c::cu::obj b3 tCat c.cells::L) (by simp only [CatV.cells];exact ae) ?_
 refine GO.ef (Ef.d7 (tR c hB) rfl) ac ?_
 rintro _ _ ⟨c',rfl,hc',rfl⟩
 simp only [CatV.cells]
 refine GO.ef (Ef.e9 kvP Stk.v (.inl rfl)) ac ?_
 rintro _ _ ⟨b1,rfl,rfl⟩
 refine GO.ef (Ef.e9 kvI encN (.inl rfl)) ac ?_
 rintro _ _ ⟨b2,rfl,rfl⟩
 refine GO.ef (Ef.e9 kvI Stk.v (.inl rfl)) ac ?_
 rintro _ _ ⟨b4,rfl,rfl⟩
 refine GO.ef (Ef.e9 kvI Stk.v (.inl rfl)) ac ?_
 rintro _ _ ⟨b5,rfl,rfl⟩
 repeat first|refine aa ?_|intro
 rename_i b6
 refine KX.d7 ag ?_ ⟨b6,rfl,rfl⟩
 refine Ent.trans ?_ (lC (S:=led0 sh c.m) ⟨c',b1,b2,b4,b5,[],[],[],[],[],none,0,[],none,0⟩ ⟨hc',CatV.d7 hc' hB,fun _ _=>rfl,(fun _ h=>by cases h),fun _=>rfl,rfl,rfl,fun _=>rfl,fun _=>rfl⟩)
 simp only [ledL,eN,led0]
 refine (Ent.d8 aB 7 aU).trans (Ent.ofOsl.trans ((Ent.d8 bF 11 cq).trans (Ent.ofOsl.trans ?_)))
 refine (Ent.d9 (fun p:(Int×Int)×Stk=>stkP p.2)).trans ((Ent.d9 aX).trans ((Ent.d9 flP).trans ((Ent.d9 (fun p:Int×Stk=>stkP p.2)).trans ((Ent.d9 (fun p:Int×Stk=>stkP p.2)).trans ?_))))
 exact ae
end
end Go.Proofs.YtommnllbflbdmaaGreatDoor
