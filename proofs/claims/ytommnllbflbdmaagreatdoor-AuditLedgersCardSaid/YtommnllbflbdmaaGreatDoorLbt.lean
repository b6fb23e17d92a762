/- Lemmas. -/
import Derived.Test.YtommnllbflbdmaaGreatDoorLbs
set_option linter.all false
set_option maxHeartbeats 16000000
namespace Go.Proofs.YtommnllbflbdmaaGreatDoor
section
open Go.V
theorem jq{ms ms' : List MvV}{ad2 mad:OA}{cap2:Nat}{L:LH}(h:MvSp ms ms'):Ent (osl aM 5 tMv ad2 cap2 ms'::isl aM 5 mad ms::allP mvP ms::L) (isl aM 5 ad2 ms'::allP mvP ms'::isl aM 5 mad ms::allP mvP ms::L) :=
 (Ent.frz ad2).trans (Ent.d7 ((Ent.d7 (Ent.dup (fR mvP ms))).trans ((Ent.at (A:=allP mvP ms) h.ent).trans ag)))
theorem Fz{ms:List MvV}{m:MvV}{p:Lot}{bn:Nat}{ad2 mad:OA}{cap2:Nat}{L:LH}(hp:m.m.parts=[p])(ha:m.pad=some ⟨bn,0,none⟩):Ent (obj bn tLot (an p)::osl aM 5 tMv ad2 cap2 (ms.set 0 m)::isl aM 5 mad ms::allP mvP ms::L) (isl aM 5 ad2 (ms.set 0 m)::allP mvP (ms.set 0 m)::isl aM 5 mad ms::allP mvP ms::L):=by
 have e:mvP m=isl an 3 (some ⟨bn,0,none⟩) [p]:=by show isl an 3 m.pad m.m.parts=_;rw[hp,ha]
 refine(Ent.e8 (enc:=an) (sz:=3) (xs:=[p]) (n:=1) (by simp) rfl (fun _ _=>rfl) ae).trans (Ent.freezeSl.trans ?_);rw[←e];refine(Ent.frz ad2).trans (Ent.d7 ?_);refine Ent.trans (B:=allP mvP ms::allP mvP ms::mvP m::isl aM 5 mad ms::L) ?_ ?_
 ·exact(Ent.at (A:=allP mvP ms) (Ent.dup (fR mvP ms))).trans ag
 ·refine Ent.trans (B:=mvP m::allP mvP ms::allP mvP ms::isl aM 5 mad ms::L) ag (part_allP.trans ag)
attribute [local irreducible] G GO GP GPW GPK GF GE Ev Ef EfR Ent CB GB V.Enters
abbrev yk:List Stp:=[.ev 0,.ev 1,.ev 2,.ev 3,.ev 4,.ev 5,.ef 6,.ef 7,.ev 8,.ef 9]
abbrev Bl:List Stp:=[.ev 0,.ev 1,.ev 2,.ev 3,.ev 4,.ev 5,.ev 6,.ev 7,.ev 8,.ef 9,.ev 10,.ev 11,.ef 12]
theorem cn{φ ψ:Prop}(k:ψ)(h:Hid ψ→φ:=by intro k;(with_reducible apply G.d8);first|refine G.d7 (N:=99) (id:=28) yk mixed ap (Hid.out k)|refine G.d7 (N:=99) (id:=8) Bl mixed ap (Hid.out k)):φ:=h ⟨k⟩
theorem uv{L:LH}(s:StV)(hs:StG0 s)(which by_:Int)(hw:I64 which)(hb:I64 by_) :
  Tri ah 42 #[.agg (aJ s).toArray,ab which,ab by_] (stM s::stP s::L) (fun v L'=>∃s' : StV,v=.agg (aJ s').toArray∧StSp s'∧L' = stM s'::stP s'::stM s::stP s::L):=by
 have hsl:=hs.sp.len;have hr:=hs.inp.rule;have hcap0:=hs.cap;obtain⟨id,kind,actor,tick,rule,times,ms,mad,mcap⟩:=s;dsimp only at hsl hr hcap0;refine Tri.body (args:=[.agg (aJ ⟨id,kind,actor,tick,rule,times,ms,mad,mcap⟩).toArray,ab which,ab by_]) 99 en42 Tryz.func42 rfl rfl rfl (by simp) ?_;repeat first|refine aa ?_|intro _|refine cn ?_
 rename_i b3 b6;refine GO.ent (L':=osl aM 5 tMv none 0 []::obj b6 bh [ab 0,ab 0,ab 0,ab 0,ab 0,ab 0,.slice none 0 0]::obj b3 bh [ab id,ab kind,ab actor,ab tick,ab rule,ab times,.slice mad ms.length mcap]::isl aM 5 mad ms::allP mvP ms::L) ((Ent.d8 aM 5 tMv).trans ag) ?_;refine GO.ef (Ef.e7 (ys:=ms) rfl rfl rfl rfl rfl (fun e _=>iD e) (by simp;omega) (by simp;omega)) ae ?_;rintro _ _⟨ad2,cap2,rfl,rfl⟩;rw[aq];refine GO.e8 (fI (ad:=ad2) (cap:=cap2) (xs:=ms) (enc:=aM) (sz:=5) (E:=tMv)) ?_;rintro⟨hc2,hc3⟩;repeat first|refine aa ?_|intro _|refine cn ?_
 by_cases h0:ms.length=0
 ·repeat first|refine aa ?_|intro _|refine cn ?_
  exact KX.d7 (ResOk.cell rfl (by rfl) ResOk.nil) (Ent.trans ag (jq (ju ms))) ⟨⟨id,kind,actor,tick,rule,times,ms,ad2,cap2⟩,rfl,lS hs rfl hc2 hr,rfl⟩
 have h00:0<ms.length:=ac;have hkk:((ms.length:Int) - 1).toNat<ms.length:=ac;repeat first|refine aa ?_|intro _|refine cn ?_
 rename_i b23;refine GO.ent (L':=isl (encZ .i64) 1 (some ⟨b23,0,none⟩) [which]::obj b3 bh [ab id,ab kind,ab actor,ab tick,ab rule,ab times,.slice ad2 ms.length cap2]::osl aM 5 tMv ad2 cap2 ms::obj b6 bh [ab 0,ab 0,ab 0,ab 0,ab 0,ab 0,.slice none 0 0]::isl aM 5 mad ms::allP mvP ms::L) ((Ent.e8 (enc:=encZ .i64) (sz:=1) (xs:=[which]) (n:=1) rfl rfl (fun _ _=>rfl) ae).trans Ent.freezeSl) ?_;refine GO.ef (Ef.d7 (dp (some ⟨b23,0,none⟩) 1 1 [which] rfl (fun y hy=>by rw[List.mem_singleton.1 hy];exact hw) 0 11 ae) rfl) ae ?_;rintro _ _⟨p,rfl,hp,rfl⟩;have hpa:=hp.1;have hpb:=hp.2.1 ae;clear hp;by_cases hq0:p=0
 ·repeat first|refine aa ?_|intro _|refine cn ?_
  exact KX.d7 (ResOk.cell rfl (by rfl) ResOk.nil) (Ent.trans ag (jq (ju ms))) ⟨⟨id,by_,actor,tick,rule,times,ms,ad2,cap2⟩,rfl,lS hs rfl hc2 hr,rfl⟩
 by_cases hq1:p=1
 ·repeat first|refine aa ?_|intro _|refine cn ?_
  exact KX.d7 (ResOk.cell rfl (by rfl) ResOk.nil) (Ent.trans ag (jq (ju ms))) ⟨⟨id,kind,by_,tick,rule,times,ms,ad2,cap2⟩,rfl,lS hs rfl hc2 hr,rfl⟩
 by_cases hq2:p=2
 ·repeat first|refine aa ?_|intro _|refine cn ?_
  exact KX.d7 (ResOk.cell rfl (by rfl) ResOk.nil) (Ent.trans ag (jq (ju ms))) ⟨⟨id,kind,actor,by_,rule,times,ms,ad2,cap2⟩,rfl,lS hs rfl hc2 hr,rfl⟩
 by_cases hq3:p=3
 ·repeat first|refine aa ?_|intro _|refine cn ?_
  exact KX.d7 (ResOk.cell rfl (by rfl) ResOk.nil) (Ent.trans ag (jq (ju ms))) ⟨⟨id,kind,actor,tick,by_,times,ms,ad2,cap2⟩,rfl,lS hs rfl hc2 hb,rfl⟩
 by_cases hq4:p=4
 ·repeat first|refine aa ?_|intro _|refine cn ?_
  exact KX.d7 (ResOk.cell rfl (by rfl) ResOk.nil) (Ent.trans ag (jq (ju ms))) ⟨⟨id,kind,actor,tick,rule,by_,ms,ad2,cap2⟩,rfl,lS hs rfl hc2 hr,rfl⟩
 by_cases hq5:p=5
 ·repeat first|refine aa ?_|intro _|refine cn ?_
  refine GO.efu (Ef.e8 (e:=(⟨⟨by_,ms[((ms.length:Int) - 1).toNat]!.m.to,ms[((ms.length:Int) - 1).toNat]!.m.item,ms[((ms.length:Int) - 1).toNat]!.m.n,ms[((ms.length:Int) - 1).toNat]!.m.parts⟩,ms[((ms.length:Int) - 1).toNat]!.pad,ms[((ms.length:Int) - 1).toNat]!.pcap⟩:MvV)) rfl rfl (by rfl) rfl hkk ae) ?_;rintro _ _ rfl;repeat first|refine aa ?_|intro _|refine cn ?_
  exact KX.d7 (ResOk.cell rfl (by rfl) ResOk.nil) (Ent.trans ag (jq (ad2:=ad2) (mad:=mad) (cap2:=cap2) (L:=L) (me (j:=((ms.length:Int) - 1).toNat) (m:=(⟨⟨by_,ms[((ms.length:Int) - 1).toNat]!.m.to,ms[((ms.length:Int) - 1).toNat]!.m.item,ms[((ms.length:Int) - 1).toNat]!.m.n,ms[((ms.length:Int) - 1).toNat]!.m.parts⟩,ms[((ms.length:Int) - 1).toNat]!.pad,ms[((ms.length:Int) - 1).toNat]!.pcap⟩:MvV)) hkk ⟨rfl,rfl,rfl⟩))) ⟨⟨id,kind,actor,tick,rule,times,ms.set ((ms.length:Int) - 1).toNat (⟨⟨by_,ms[((ms.length:Int) - 1).toNat]!.m.to,ms[((ms.length:Int) - 1).toNat]!.m.item,ms[((ms.length:Int) - 1).toNat]!.m.n,ms[((ms.length:Int) - 1).toNat]!.m.parts⟩,ms[((ms.length:Int) - 1).toNat]!.pad,ms[((ms.length:Int) - 1).toNat]!.pcap⟩:MvV),ad2,cap2⟩,by simp only[aJ,bg];rfl,rH hs (j:=((ms.length:Int) - 1).toNat) hkk rfl ⟨rfl,rfl,rfl⟩ (by rw[bg];exact hc2) hr,rfl⟩
 by_cases hq6:p=6
 ·repeat first|refine aa ?_|intro _|refine cn ?_
  refine GO.efu (Ef.e8 (e:=(⟨⟨ms[(0:Int).toNat]!.m.frm,by_,ms[(0:Int).toNat]!.m.item,ms[(0:Int).toNat]!.m.n,ms[(0:Int).toNat]!.m.parts⟩,ms[(0:Int).toNat]!.pad,ms[(0:Int).toNat]!.pcap⟩:MvV)) rfl rfl (by rfl) rfl h00 ae) ?_;rintro _ _ rfl;repeat first|refine aa ?_|intro _|refine cn ?_
  exact KX.d7 (ResOk.cell rfl (by rfl) ResOk.nil) (Ent.trans ag (jq (ad2:=ad2) (mad:=mad) (cap2:=cap2) (L:=L) (me (j:=(0:Int).toNat) (m:=(⟨⟨ms[(0:Int).toNat]!.m.frm,by_,ms[(0:Int).toNat]!.m.item,ms[(0:Int).toNat]!.m.n,ms[(0:Int).toNat]!.m.parts⟩,ms[(0:Int).toNat]!.pad,ms[(0:Int).toNat]!.pcap⟩:MvV)) h00 ⟨rfl,rfl,rfl⟩))) ⟨⟨id,kind,actor,tick,rule,times,ms.set (0:Int).toNat (⟨⟨ms[(0:Int).toNat]!.m.frm,by_,ms[(0:Int).toNat]!.m.item,ms[(0:Int).toNat]!.m.n,ms[(0:Int).toNat]!.m.parts⟩,ms[(0:Int).toNat]!.pad,ms[(0:Int).toNat]!.pcap⟩:MvV),ad2,cap2⟩,by simp only[aJ,bg];rfl,rH hs (j:=(0:Int).toNat) h00 rfl ⟨rfl,rfl,rfl⟩ (by rw[bg];exact hc2) hr,rfl⟩
 by_cases hq7:p=7
 ·repeat first|refine aa ?_|intro _|refine cn ?_
  refine GO.efu (Ef.e8 (e:=(⟨⟨ms[((ms.length:Int) - 1).toNat]!.m.frm,ms[((ms.length:Int) - 1).toNat]!.m.to,by_,ms[((ms.length:Int) - 1).toNat]!.m.n,ms[((ms.length:Int) - 1).toNat]!.m.parts⟩,ms[((ms.length:Int) - 1).toNat]!.pad,ms[((ms.length:Int) - 1).toNat]!.pcap⟩:MvV)) rfl rfl (by rfl) rfl hkk ae) ?_;rintro _ _ rfl;repeat first|refine aa ?_|intro _|refine cn ?_
  exact KX.d7 (ResOk.cell rfl (by rfl) ResOk.nil) (Ent.trans ag (jq (ad2:=ad2) (mad:=mad) (cap2:=cap2) (L:=L) (me (j:=((ms.length:Int) - 1).toNat) (m:=(⟨⟨ms[((ms.length:Int) - 1).toNat]!.m.frm,ms[((ms.length:Int) - 1).toNat]!.m.to,by_,ms[((ms.length:Int) - 1).toNat]!.m.n,ms[((ms.length:Int) - 1).toNat]!.m.parts⟩,ms[((ms.length:Int) - 1).toNat]!.pad,ms[((ms.length:Int) - 1).toNat]!.pcap⟩:MvV)) hkk ⟨rfl,rfl,rfl⟩))) ⟨⟨id,kind,actor,tick,rule,times,ms.set ((ms.length:Int) - 1).toNat (⟨⟨ms[((ms.length:Int) - 1).toNat]!.m.frm,ms[((ms.length:Int) - 1).toNat]!.m.to,by_,ms[((ms.length:Int) - 1).toNat]!.m.n,ms[((ms.length:Int) - 1).toNat]!.m.parts⟩,ms[((ms.length:Int) - 1).toNat]!.pad,ms[((ms.length:Int) - 1).toNat]!.pcap⟩:MvV),ad2,cap2⟩,by simp only[aJ,bg];rfl,rH hs (j:=((ms.length:Int) - 1).toNat) hkk rfl ⟨rfl,rfl,rfl⟩ (by rw[bg];exact hc2) hr,rfl⟩
 by_cases hq8:p=8
 ·repeat first|refine aa ?_|intro _|refine cn ?_
  refine GO.efu (Ef.e8 (e:=(⟨⟨ms[(0:Int).toNat]!.m.frm,ms[(0:Int).toNat]!.m.to,ms[(0:Int).toNat]!.m.item,by_,ms[(0:Int).toNat]!.m.parts⟩,ms[(0:Int).toNat]!.pad,ms[(0:Int).toNat]!.pcap⟩:MvV)) rfl rfl (by rfl) rfl h00 ae) ?_;rintro _ _ rfl;repeat first|refine aa ?_|intro _|refine cn ?_
  exact KX.d7 (ResOk.cell rfl (by rfl) ResOk.nil) (Ent.trans ag (jq (ad2:=ad2) (mad:=mad) (cap2:=cap2) (L:=L) (me (j:=(0:Int).toNat) (m:=(⟨⟨ms[(0:Int).toNat]!.m.frm,ms[(0:Int).toNat]!.m.to,ms[(0:Int).toNat]!.m.item,by_,ms[(0:Int).toNat]!.m.parts⟩,ms[(0:Int).toNat]!.pad,ms[(0:Int).toNat]!.pcap⟩:MvV)) h00 ⟨rfl,rfl,rfl⟩))) ⟨⟨id,kind,actor,tick,rule,times,ms.set (0:Int).toNat (⟨⟨ms[(0:Int).toNat]!.m.frm,ms[(0:Int).toNat]!.m.to,ms[(0:Int).toNat]!.m.item,by_,ms[(0:Int).toNat]!.m.parts⟩,ms[(0:Int).toNat]!.pad,ms[(0:Int).toNat]!.pcap⟩:MvV),ad2,cap2⟩,by simp only[aJ,bg];rfl,rH hs (j:=(0:Int).toNat) h00 rfl ⟨rfl,rfl,rfl⟩ (by rw[bg];exact hc2) hr,rfl⟩
 by_cases hq9:p=9
 ·repeat first|refine aa ?_|intro _|refine cn ?_
  refine GPW.ef (Ef.d8 (enc:=aM) (xs:=ms) ms[(0:Int).toNat]! rfl rfl rfl rfl rfl (by rfl) (iD _) ac ac) ae ?_;rintro _ _⟨ad3,cap3,rfl,rfl⟩;repeat first|((fail_if_success (with_reducible refine G.atS 29 ?_));(with_reducible apply G.seq))|refine bB ?_|intro _|refine cn ?_
  refine G.f7 (fI (ad:=ad3) (cap:=cap3) (xs:=ms++[ms[(0:Int).toNat]!]) (enc:=aM) (sz:=5) (E:=tMv)) ?_;rintro⟨hc4,_⟩;repeat first|refine aa ?_|intro _|refine cn ?_
  exact KX.d7 (ResOk.cell rfl (by rfl) ResOk.nil) (Ent.trans ag (jq (ad2:=ad3) (mad:=mad) (cap2:=cap3) (L:=L) (we (j:=(0:Int).toNat) h00))) ⟨⟨id,kind,actor,tick,rule,times,ms++[ms[(0:Int).toNat]!],ad3,cap3⟩,rfl,Go hs h00 rfl hc4 hr,rfl⟩
 repeat first|refine aa ?_|intro _|refine cn ?_
 rename_i bn;refine GPW.efu (Ef.e8 (e:=(⟨⟨ms[(0:Int).toNat]!.m.frm,ms[(0:Int).toNat]!.m.to,ms[(0:Int).toNat]!.m.item,ms[(0:Int).toNat]!.m.n,[(by_,0,ms[(0:Int).toNat]!.m.n)]⟩,some ⟨bn,0,none⟩,1⟩:MvV)) rfl rfl (by rfl) rfl h00 ae) ?_;rintro _ _ rfl;repeat first|refine aa ?_|intro _|refine cn ?_
 have he:=Fz (ms:=ms) (m:=(⟨⟨ms[(0:Int).toNat]!.m.frm,ms[(0:Int).toNat]!.m.to,ms[(0:Int).toNat]!.m.item,ms[(0:Int).toNat]!.m.n,[(by_,0,ms[(0:Int).toNat]!.m.n)]⟩,some ⟨bn,0,none⟩,1⟩:MvV)) (p:=(by_,0,ms[(0:Int).toNat]!.m.n)) (bn:=bn) (ad2:=ad2) (mad:=mad) (cap2:=cap2) (L:=L) rfl rfl;exact KX.d7 (ResOk.cell rfl (by rfl) ResOk.nil) (Ent.trans (by show Ent _ (obj bn tLot (an (by_,0,ms[(0:Int).toNat]!.m.n))::osl aM 5 tMv ad2 cap2 (ms.set (0:Int).toNat (⟨⟨ms[(0:Int).toNat]!.m.frm,ms[(0:Int).toNat]!.m.to,ms[(0:Int).toNat]!.m.item,ms[(0:Int).toNat]!.m.n,[(by_,0,ms[(0:Int).toNat]!.m.n)]⟩,some ⟨bn,0,none⟩,1⟩:MvV))::isl aM 5 mad ms::allP mvP ms::L);simp only[an];exact ag) he) ⟨⟨id,kind,actor,tick,rule,times,ms.set 0 (⟨⟨ms[(0:Int).toNat]!.m.frm,ms[(0:Int).toNat]!.m.to,ms[(0:Int).toNat]!.m.item,ms[(0:Int).toNat]!.m.n,[(by_,0,ms[(0:Int).toNat]!.m.n)]⟩,some ⟨bn,0,none⟩,1⟩:MvV),ad2,cap2⟩,by simp only[aJ,bg];rfl,Fy hs h00 (p:=(by_,0,ms[(0:Int).toNat]!.m.n)) rfl rfl hb.2 rfl (by rw[bg];exact hc2) hr,rfl⟩
end
section
open Go.V
def SpL(ss ss' : List StV):Prop:=ss' = ss∨∃k s',k<ss.length∧StSp s'∧ss' = ss.set k s'
theorem SpL.len{ss ss' : List StV}(h:SpL ss ss'):ss'.length=ss.length:=by
 rcases h with rfl|⟨k,s',_,_,rfl⟩
 ·rfl
 ·exact bg
theorem StSp.at{s:StV}(h:StSp s)(id:Int):StSp { s with id:=id }:=⟨⟨h.inp.len,h.inp.rule,h.inp.parts,h.inp.cap,h.inp.bd⟩,h.cap,h.k⟩
theorem tF{ss:List StV}{k:Nat}{s:StV}{L:LH}:Ent (stM s::stP s::allP bA ss::L) (allP bA (ss.set k s)::allP bA ss::L):=by
 refine Ent.trans (B:=bA s::allP bA ss::L) (Ent.f7 (nz s) (cQ iA)) ?_;refine Ent.trans (B:=bA s::allP bA ss::allP bA ss::L) (Ent.d7 (Ent.dup (fR bA ss))) ?_;refine(Ent.f8 (f:=bA) lR).trans (Ent.g9 fun x hx=>?_);rcases cK hx with h|h
 ·exact av _ h
 ·rw[h];exact aw
attribute [local irreducible] G GO GP GPW GPK GF GE Ev Ef EfR Ent CB GB V.Enters
theorem uu{L:LH}(ad:OA)(n c:Nat)(ss:List StV)[hrd:Rds L ad StV aJ 7 ss](hn:n=ss.length)(hl:ss.length≤100000)(hs:∀s∈ss,StG0 s)(at_ which by_:Int)(ha:I64 at_)(hw:I64 which)(hb:I64 by_) :
  Tri ah 11 #[.slice ad n c,ab at_,ab which,ab by_] (allP bA ss::L) (fun v L'=>∃ad' cap' ss',v=.slice ad' ss'.length cap'∧SpL ss ss'∧L' = isl aJ 7 ad' ss'::allP bA ss'::allP bA ss::L):=by
 subst hn;refine Tri.body (args:=[.slice ad ss.length c,ab at_,ab which,ab by_]) 49 en11 Tryz.func11 rfl rfl rfl (by simp) ?_;repeat first|refine aa ?_|intro
 refine GO.ent (L':=osl aJ 7 bh none 0 []::allP bA ss::L) (Ent.d8 aJ 7 bh) ?_;refine GO.ef (Ef.e7 (ys:=ss) rfl rfl rfl rfl rfl (fun e _=>jd e) (by simp;omega) (by simp;omega)) ae ?_;rintro _ _⟨ad2,cap2,rfl,rfl⟩;rw[aq];repeat first|refine aa ?_|intro
 by_cases h0:ss.length=0
 ·repeat first|refine aa ?_|intro
  refine KX.d7 ai ?_ ⟨ad2,cap2,ss,rfl,.inl rfl,rfl⟩;exact(Ent.frz ad2).trans (Ent.d7 (Ent.dup (fR bA ss)))
 repeat first|refine aa ?_|intro
 refine GO.ef (Ef.d7 (lN at_ (ss.length:Int) ha ac ac) rfl) ae ?_;rintro _ _⟨p,rfl,⟨hp0,hp1⟩,rfl⟩;obtain⟨k,rfl⟩:∃k:Nat,p=(k:Int):=⟨p.toNat,ac⟩;have hk:k<ss.length:=ac;have hkk:(k:Int).toNat=k:=aA k;have hk2:(k:Int).toNat<ss.length:=ac;repeat first|refine aa ?_|intro
 have hsk:=hs _ (aI hk2);refine GO.ent (L':=stM ss[(k:Int).toNat]!::stP ss[(k:Int).toNat]!::osl aJ 7 bh ad2 cap2 ss::allP bA ss::L) (Ent.swap.trans (((Ent.d9 (f:=bA) (aI hk2)).trans Ent.andE).trans ag)) ?_;refine GO.ef (Ef.d7 (uv ss[(k:Int).toNat]! hsk which by_ hw hb) rfl) ae ?_;rintro _ _⟨s',rfl,hs',rfl⟩;repeat first|refine aa ?_|intro
 refine GO.efu (Ef.e9 (enc:=aJ) (e:=s') rfl rfl rfl rfl (jd _) hk2) ?_;rintro _ _ rfl;repeat first|refine aa ?_|intro
 refine GO.ef (Ef.d7 (lN which 13 hw ae ae) rfl) ae ?_;rintro _ _⟨q,rfl,⟨hq0,hq1⟩,rfl⟩;have hsl:(ss.set (k:Int).toNat s').length=ss.length:=bg;by_cases hq:q=0
 case neg =>
  repeat first|refine aa ?_|intro
  refine KX.d7 ai ?_ ⟨ad2,cap2,ss.set (k:Int).toNat s',by rw[hsl];rfl,.inr ⟨_,s',hk2,hs',rfl⟩,rfl⟩;exact(Ent.frz ad2).trans (Ent.d7 (Ent.trans ag (tF (L:=L))))
 have hge:(ss.set (k:Int).toNat s')[(k:Int).toNat]! = s':=by rw[getElem!_of ac,List.getElem_set_self]
 repeat first|refine aa ?_|intro
 refine GO.ev (Ev.f8 rfl rfl) ae ?_;repeat first|refine aa ?_|intro
 generalize hid:IntKind.i64.wrap (ss[(k:Int).toNat]!.id+by_)=id' at *;refine GO.efu (Ef.e8 (enc:=aJ) (e:=({ s' with id:=id' }:StV)) rfl rfl (by rw[hge];rfl) rfl ac ae) ?_;rintro _ _ rfl;rw[List.set_set];repeat first|refine aa ?_|intro
 have hsl2:(ss.set (k:Int).toNat ({ s' with id:=id' }:StV)).length=ss.length:=bg;refine KX.d7 ai ?_ ⟨ad2,cap2,ss.set (k:Int).toNat ({ s' with id:=id' }:StV),by rw[hsl2];rfl,.inr ⟨_,{ s' with id:=id' },hk2,hs'.at id',rfl⟩,rfl⟩;refine(Ent.frz ad2).trans (Ent.d7 (Ent.trans ?_ (tF (s:=({ s' with id:=id' }:StV)) (L:=L))));show Ent _ (isl aM 5 s'.mad s'.moves::allP mvP s'.moves::allP bA ss::L);exact ag
end
section
open Go.V
theorem Ent.m8{A B:HP}{L:LH}:Ent (A::B::L) (cL [A,B]::L):=fun θ R w s=>Sat.d7 (A:=[A,B]) s
theorem Ent.l6{A B:HP}{L:LH}:Ent (cL [A,B]::L) (A::B::L):=fun θ R w s=>Sat.ofStars (A:=[A,B]) s
def flO(f:FlV):HP:=cL [osl an 3 tLot f.pad f.pcap f.m.parts,osl (encZ .i64) 1 tInt f.mad f.mcap f.m.made]
def stO(s:StV):HP:=cL [osl aM 5 tMv s.mad s.mcap s.moves,allP mvP s.moves]
def fl0:FlV:=⟨⟨0,0,0,0,0,0,0,0,0,[],[]⟩,none,0,none,0⟩
def st0:StV:=⟨0,0,0,0,0,0,[],none,0⟩
theorem EF{f:FlV}{L:LH}:Ent (flP f::L) (isl an 3 f.pad f.m.parts::isl (encZ .i64) 1 f.mad f.m.made::flP f::L):=(Ent.dup (lK f).pers).trans Ent.andE
attribute [local irreducible] G GO GP GPW GPK Ev Ef EfR Ent CB GB V.Enters
abbrev Bk:List Stp:=[.ev 0,.ev 1,.ev 3,.ev 4,.ef 2,.ev 6,.ef 5,.ef 7,.ev 8,.ef 9]
theorem jI{φ ψ:Prop}(k:ψ)(h:Hid ψ→φ:=by intro k;(with_reducible apply G.d8);first|refine G.d7 (N:=12) (id:=1) Bk mixed ap (Hid.out k)):φ:=h ⟨k⟩
theorem wT{L:LH}(f:FlV)(h1:f.m.parts.length≤1000000)(h2:f.m.made.length≤1000000) :
  Tri ah 70 #[.agg (aL f).toArray] (flP f::L) (fun v L'=>∃f',v=.agg (aL f').toArray∧f'.m=f.m∧L' = flO f'::flP f::L):=by
 obtain⟨⟨i1,i2,i3,i4,i5,i6,i7,i8,i9,parts,made⟩,pad,pcap,mad,mcap⟩:=f;dsimp only at h1 h2;refine Tri.body (args:=[.agg (aL ⟨⟨i1,i2,i3,i4,i5,i6,i7,i8,i9,parts,made⟩,pad,pcap,mad,mcap⟩).toArray]) 12 en70 Tryz.func70 rfl rfl rfl (by simp) ?_;refine G.ent EF ?_;dsimp only;repeat first|refine aa ?_|intro _|refine jI ?_
 refine GPW.ef (Ef.d7 (ly pad parts.length pcap parts rfl h1) rfl) ae ?_;rintro _ _⟨ad',cap',rfl,rfl⟩;repeat first|refine aa ?_|intro _|refine jI ?_
 refine GPW.ef (Ef.d7 (jV mad made.length mcap made rfl h2) rfl) ae ?_;rintro _ _⟨ad2,cap2,rfl,rfl⟩;repeat first|refine aa ?_|intro _|refine jI ?_
 refine KX.d7 (by exact ResOk.cell rfl (by rfl) (ResOk.nil)) ?_ ⟨⟨⟨i1,i2,i3,i4,i5,i6,i7,i8,i9,parts,made⟩,ad',cap',ad2,cap2⟩,rfl,rfl,rfl⟩;refine Ent.trans (B:=osl an 3 tLot ad' cap' parts::osl (encZ .i64) 1 tInt ad2 cap2 made::flP ⟨⟨i1,i2,i3,i4,i5,i6,i7,i8,i9,parts,made⟩,pad,pcap,mad,mcap⟩::L) ag ?_;exact Ent.m8
theorem wO{L:LH}(ad:OA)(c:Nat)(ms:List FlV)(hl:ms.length≤100000)(hp:∀m∈ms,m.m.parts.length≤1000000∧m.m.made.length≤1000000) :
  Tri ah 69 #[.slice ad ms.length c,.func (.func 70) #[] #[]] (asl aL 11 bz ad c ms::allP flP ms::L) (fun v L'=>∃ad' c' ms',v=.slice ad' ms'.length c'∧ms'.map (·.m)=ms.map (·.m)∧L' = osl aL 11 bz ad' c' ms'::bigO flO ms'::asl aL 11 bz ad c ms::allP flP ms::L):=by
 refine Tri.body (args:=[.slice ad ms.length c,.func (.func 70) #[] #[]]) 29 en69 Tryz.func69 rfl rfl rfl (by simp) ?_;by_cases h0:ms.length=0
 ·have e:ms=[]:=aW h0;subst e;repeat first|refine aa ?_|intro
  exact KX.d7 ai ((Ent.l0 flO).trans (Ent.d8 aL 11 bz)) ⟨none,0,[],rfl,rfl,rfl⟩
 repeat first|refine aa ?_|intro
 refine GO.ef (Ef.g7 aL fl0 rfl rfl rfl ac ac ac ac) ae ?_;rintro _ _⟨bs,rfl,rfl⟩;rw[show(ms.length:Int).toNat=ms.length by omega];repeat first|refine aa ?_|intro
 refine G.loop (α:=Nat×List FlV) (fun z=>z.1≤ms.length∧z.2.length=ms.length∧(z.2.take z.1).map (·.m)=(ms.take z.1).map (·.m)) (fun z=>[(1,.func (.func 70) #[] #[]),(5,.slice (some ⟨bs,0,none⟩) ms.length ms.length),(14,.slice ad ms.length c),(15,ab (ms.length:Int)),(16,ab (z.1:Int))])
  (fun z=>osl aL 11 bz (some ⟨bs,0,none⟩) ms.length z.2::bigO flO (z.2.take z.1)::asl aL 11 bz ad c ms::allP flP ms::L) (fun z=>ms.length - z.1) (0,List.replicate ms.length fl0) ⟨ao _,by simp,by simp⟩ aj ?_ ?_
 ·dsimp only;rw[ce];refine(Ent.l0 flO).trans ?_;exact ag
 rintro⟨i,zs⟩ ⟨hi,hzl,hze⟩;dsimp only at hi hzl hze ⊢;by_cases hlt:i<ms.length
 case neg =>
  have hie:i=ms.length:=ac;subst hie;rw[aD ac,aD ac] at hze;rw[aD (show zs.length≤ms.length by omega)];repeat first|refine aa ?_|intro
  refine KX.d7 ai (Ent.refl _) ⟨some ⟨bs,0,none⟩,ms.length,zs,by rw[hzl];rfl,hze,rfl⟩
 have hii:(i:Int).toNat=i:=ac;have hmm:ms[i]!∈ms:=aI hlt;have hpm:=hp _ hmm;repeat first|refine aa ?_|intro
 rw[hii];refine GO.ent (Ent.at (A:=allP flP ms) (Ent.d9 (x:=ms[i]!) hmm)) ?_;refine GO.ef (Ef.d9 rfl rfl (wT ms[i]! hpm.1 hpm.2)) ae ?_;rintro _ _⟨m',rfl,hm',rfl⟩;repeat first|refine aa ?_|intro
 refine GO.efu (Ef.e9 (e:=m') rfl rfl (by rfl) (by rfl) (fP _) ac) ?_;rintro _ _ rfl;rw[hii];repeat first|refine aa ?_|intro
 refine⟨(i+1,zs.set i m'),⟨by dsimp only;omega,by dsimp only;simp;omega,?_⟩,by dsimp only;omega,?_,?_⟩
 ·dsimp only;rw[dP ac,aC hlt,aZ,aZ,hze,←getElem!_of hlt];simp[hm']
 ·dsimp only;rw[aP i];exact aj
 ·dsimp only;rw[dP ac];refine Ent.d7 ?_;refine Ent.trans (B:=flO m'::bigO flO (zs.take i)::asl aL 11 bz ad c ms::allP flP ms::L) ag ?_;exact Ent.l8
theorem zd{L:LH}(b:Nat)(S:LedM)(hS:∀f∈S.flows,f.parts.length≤1000000∧f.made.length≤1000000)(hfl:S.flows.length≤100000) :
  Tri ah 26 #[au b] (LedR b S::L) (fun v L'=>∃ad cap fs,v=.slice ad fs.length cap∧fs.map FlV.m=S.flows∧L' = osl aL 11 bz ad cap fs::bigO flO fs::LedR b S::L):=by
 refine Tri.body (args:=[au b]) 8 en26 Tryz.func26 rfl rfl rfl (by simp) ?_;refine G.e9 (f:=ledA b S) ?_;intro x;simp only[ledA,ledL,fm,ax,aq];refine G.f9 ?_;intro hF;have hxl:x.flows.length=S.flows.length:=by rw[←hF.flows];simp
 have hpp:∀m∈x.flows,m.m.parts.length≤1000000∧m.m.made.length≤1000000:=fun m hm=>by
  have:=hS m.m (by rw[←hF.flows];exact alStd0List_mem_map_of_mem hm)
  omega
 repeat first|refine aa ?_|intro
 refine GO.ent (Ent.at (A:=asl aL 11 bz x.fad x.fcap x.flows) (Ent.d7 (Ent.at (A:=allP flP x.flows) (Ent.refl _)))) ?_;refine GO.ef (Ef.d7 (wO x.fad x.fcap x.flows ac hpp) rfl) ae ?_;rintro _ _⟨ad',c',fs,rfl,hfs,rfl⟩;repeat first|refine aa ?_|intro
 refine KX.d7 ai ?_ ⟨ad',c',fs,rfl,hfs.trans hF.flows,rfl⟩;refine Ent.trans ?_ (Ent.d7 (Ent.d7 (mf x hF)));simp only[ledL];exact ag
theorem wL{L:LH}(ad:OA)(c:Nat)(ms:List MvV)(hl:ms.length≤64)(hp:∀m∈ms,m.m.parts.length≤1000000) :
  Tri ah 125 #[.slice ad ms.length c,.func (.func 126) #[] #[]] (isl aM 5 ad ms::allP mvP ms::L) (fun v L'=>∃ad' c' ms',v=.slice ad' ms'.length c'∧ms'.map (·.m)=ms.map (·.m)∧L' = osl aM 5 tMv ad' c' ms'::allP mvP ms'::isl aM 5 ad ms::allP mvP ms::L):=by
 refine Tri.body (args:=[.slice ad ms.length c,.func (.func 126) #[] #[]]) 29 Fi Tryz.func125 rfl rfl rfl (by simp) ?_;by_cases h0:ms.length=0
 ·have e:ms=[]:=aW h0;subst e;repeat first|refine aa ?_|intro
  exact KX.d7 ai ((Ent.e7 mvP).trans (Ent.d8 aM 5 tMv)) ⟨none,0,[],rfl,rfl,rfl⟩
 repeat first|refine aa ?_|intro
 refine GO.ef (Ef.g7 aM mv0 rfl rfl rfl ac ac ac ac) ae ?_;rintro _ _⟨bs,rfl,rfl⟩;rw[show(ms.length:Int).toNat=ms.length by omega];repeat first|refine aa ?_|intro
 refine G.loop (α:=Nat×List MvV) (fun z=>z.1≤ms.length∧z.2.length=ms.length∧(z.2.take z.1).map (·.m)=(ms.take z.1).map (·.m)) (fun z=>[(1,.func (.func 126) #[] #[]),(5,.slice (some ⟨bs,0,none⟩) ms.length ms.length),(14,.slice ad ms.length c),(15,ab (ms.length:Int)),(16,ab (z.1:Int))])
  (fun z=>osl aM 5 tMv (some ⟨bs,0,none⟩) ms.length z.2::allP mvP (z.2.take z.1)::isl aM 5 ad ms::allP mvP ms::L) (fun z=>ms.length - z.1) (0,List.replicate ms.length mv0) ⟨ao _,by simp,by simp⟩ aj ?_ ?_
 ·dsimp only;rw[ce];refine(Ent.e7 mvP).trans ?_;exact ag
 rintro⟨i,zs⟩ ⟨hi,hzl,hze⟩;dsimp only at hi hzl hze ⊢;by_cases hlt:i<ms.length
 case neg =>
  have hie:i=ms.length:=ac;subst hie;rw[aD ac,aD ac] at hze;rw[aD (show zs.length≤ms.length by omega)];repeat first|refine aa ?_|intro
  refine KX.d7 ai (Ent.refl _) ⟨some ⟨bs,0,none⟩,ms.length,zs,by rw[hzl];rfl,hze,rfl⟩
 have hii:(i:Int).toNat=i:=ac;have hmm:ms[i]!∈ms:=aI hlt;repeat first|refine aa ?_|intro
 rw[hii];refine GO.ent (Ent.at (A:=allP mvP ms) (Ent.d9 (x:=ms[i]!) hmm)) ?_;refine GO.ef (Ef.d9 rfl rfl (pt ms[i]! (hp _ hmm))) ae ?_;rintro _ _⟨m',rfl,hm',rfl⟩;repeat first|refine aa ?_|intro
 refine GO.efu (Ef.e9 (e:=m') rfl rfl (by rfl) (by rfl) (iD _) ac) ?_;rintro _ _ rfl;rw[hii];repeat first|refine aa ?_|intro
 refine⟨(i+1,zs.set i m'),⟨by dsimp only;omega,by dsimp only;simp;omega,?_⟩,by dsimp only;omega,?_,?_⟩
 ·dsimp only;rw[dP ac,aC hlt,aZ,aZ,hze,←getElem!_of hlt];simp[hm']
 ·dsimp only;rw[aP i];exact aj
 ·dsimp only;rw[dP ac];refine Ent.d7 ?_;refine Ent.trans (B:=allP mvP (zs.take i)::mvP m'::isl aM 5 ad ms::allP mvP ms::L) ag ?_;exact(Ent.d7 (Ent.g7 iA)).trans (Ent.g8 iA)
theorem wR{L:LH}(s:StV)(hl:s.moves.length≤64)(hp:∀m∈s.moves,m.m.parts.length≤1000000) :
  Tri ah 68 #[.agg (aJ s).toArray] (stM s::stP s::L) (fun v L'=>∃s',v=.agg (aJ s').toArray∧s'.m=s.m∧L' = stO s'::stM s::stP s::L):=by
 obtain⟨i0,i1,i2,i3,i4,i5,ms,mad,mcap⟩:=s;dsimp only at hl hp;refine Tri.body (args:=[.agg (aJ ⟨i0,i1,i2,i3,i4,i5,ms,mad,mcap⟩).toArray]) 8 en68 Tryz.func68 rfl rfl rfl (by simp) ?_;repeat first|refine aa ?_|intro
 refine GO.ent (Ent.at (A:=isl aM 5 mad ms) (Ent.d7 (Ent.at (A:=allP mvP ms) (Ent.refl _)))) ?_;refine GO.ef (Ef.d7 (wL mad mcap ms hl hp) rfl) ae ?_;rintro _ _⟨ad',c',ms',rfl,hms,rfl⟩;repeat first|refine aa ?_|intro
 refine KX.d7 (by exact ResOk.cell rfl (by rfl) (ResOk.nil)) ?_ ⟨⟨i0,i1,i2,i3,i4,i5,ms',ad',c'⟩,rfl,by simp only[StV.m,hms],rfl⟩;refine Ent.trans (B:=osl aM 5 tMv ad' c' ms'::allP mvP ms'::isl aM 5 mad ms::allP mvP ms::L) ag ?_;exact Ent.m8
theorem wK{L:LH}(ad:OA)(c:Nat)(ms:List StV)(hl:ms.length≤100000)(hp:∀m∈ms,m.moves.length≤64∧∀u∈m.moves,u.m.parts.length≤1000000) :
  Tri ah 67 #[.slice ad ms.length c,.func (.func 68) #[] #[]] (asl aJ 7 bh ad c ms::allP bA ms::L) (fun v L'=>∃ad' c' ms',v=.slice ad' ms'.length c'∧ms'.map (·.m)=ms.map (·.m)∧L' = osl aJ 7 bh ad' c' ms'::bigO stO ms'::asl aJ 7 bh ad c ms::allP bA ms::L):=by
 refine Tri.body (args:=[.slice ad ms.length c,.func (.func 68) #[] #[]]) 29 en67 Tryz.func67 rfl rfl rfl (by simp) ?_;by_cases h0:ms.length=0
 ·have e:ms=[]:=aW h0;subst e;repeat first|refine aa ?_|intro
  exact KX.d7 ai ((Ent.l0 stO).trans (Ent.d8 aJ 7 bh)) ⟨none,0,[],rfl,rfl,rfl⟩
 repeat first|refine aa ?_|intro
 refine GO.ef (Ef.g7 aJ st0 rfl rfl rfl ac ac ac ac) ae ?_;rintro _ _⟨bs,rfl,rfl⟩;rw[show(ms.length:Int).toNat=ms.length by omega];repeat first|refine aa ?_|intro
 refine G.loop (α:=Nat×List StV) (fun z=>z.1≤ms.length∧z.2.length=ms.length∧(z.2.take z.1).map (·.m)=(ms.take z.1).map (·.m)) (fun z=>[(1,.func (.func 68) #[] #[]),(5,.slice (some ⟨bs,0,none⟩) ms.length ms.length),(14,.slice ad ms.length c),(15,ab (ms.length:Int)),(16,ab (z.1:Int))])
  (fun z=>osl aJ 7 bh (some ⟨bs,0,none⟩) ms.length z.2::bigO stO (z.2.take z.1)::asl aJ 7 bh ad c ms::allP bA ms::L) (fun z=>ms.length - z.1) (0,List.replicate ms.length st0) ⟨ao _,by simp,by simp⟩ aj ?_ ?_
 ·dsimp only;rw[ce];refine(Ent.l0 stO).trans ?_;exact ag
 rintro⟨i,zs⟩ ⟨hi,hzl,hze⟩;dsimp only at hi hzl hze ⊢;by_cases hlt:i<ms.length
 case neg =>
  have hie:i=ms.length:=ac;subst hie;rw[aD ac,aD ac] at hze;rw[aD (show zs.length≤ms.length by omega)];repeat first|refine aa ?_|intro
  refine KX.d7 ai (Ent.refl _) ⟨some ⟨bs,0,none⟩,ms.length,zs,by rw[hzl];rfl,hze,rfl⟩
 have hii:(i:Int).toNat=i:=ac;have hmm:ms[i]!∈ms:=aI hlt;have hpm:=hp _ hmm;repeat first|refine aa ?_|intro
 rw[hii];refine GO.ent (Ent.at (A:=allP bA ms) ((Ent.d9 (f:=bA) (x:=ms[i]!) hmm).trans Ent.andE)) ?_;refine GO.ef (Ef.d9 rfl rfl (wR ms[i]! hpm.1 hpm.2)) ae ?_;rintro _ _⟨m',rfl,hm',rfl⟩;repeat first|refine aa ?_|intro
 refine GO.efu (Ef.e9 (e:=m') rfl rfl (by rfl) (by rfl) (jd _) ac) ?_;rintro _ _ rfl;rw[hii];repeat first|refine aa ?_|intro
 refine⟨(i+1,zs.set i m'),⟨by dsimp only;omega,by dsimp only;simp;omega,?_⟩,by dsimp only;omega,?_,?_⟩
 ·dsimp only;rw[dP ac,aC hlt,aZ,aZ,hze,←getElem!_of hlt];simp[hm']
 ·dsimp only;rw[aP i];exact aj
 ·dsimp only;rw[dP ac];refine Ent.d7 ?_;refine Ent.trans (B:=stO m'::bigO stO (zs.take i)::asl aJ 7 bh ad c ms::allP bA ms::L) ag ?_;exact Ent.l8
theorem xi{L:LH}(b:Nat)(S:LedM)(hS:∀s∈S.steps,s.moves.length≤64∧∀u∈s.moves,u.parts.length≤1000000)(hfl:S.steps.length≤100000) :
  Tri ah 25 #[au b] (LedR b S::L) (fun v L'=>∃ad cap ss,v=.slice ad ss.length cap∧ss.map StV.m=S.steps∧L' = osl aJ 7 bh ad cap ss::bigO stO ss::LedR b S::L):=by
 refine Tri.body (args:=[au b]) 8 en25 Tryz.func25 rfl rfl rfl (by simp) ?_;refine G.e9 (f:=ledA b S) ?_;intro x;simp only[ledA,ledL,fm,ax,aq];refine G.f9 ?_;intro hF;have hxl:x.steps.length=S.steps.length:=by rw[←hF.steps];simp
 have hpp:∀m∈x.steps,m.moves.length≤64∧∀u∈m.moves,u.m.parts.length≤1000000:=fun m hm=>by
  have h1:=hS m.m (by rw[←hF.steps];exact alStd0List_mem_map_of_mem hm);exact⟨by have:=h1.1;simpa [StV.m] using this,fun u hu=>h1.2 u.m (alStd0List_mem_map_of_mem hu)⟩
 repeat first|refine aa ?_|intro
 refine GO.ent (Ent.at (A:=asl aJ 7 bh x.sad x.scap x.steps) (Ent.d7 (Ent.at (A:=allP bA x.steps) (Ent.refl _)))) ?_;refine GO.ef (Ef.d7 (wK x.sad x.scap x.steps ac hpp) rfl) ae ?_;rintro _ _⟨ad',c',fs,rfl,hfs,rfl⟩;repeat first|refine aa ?_|intro
 refine KX.d7 ai ?_ ⟨ad',c',fs,rfl,hfs.trans hF.steps,rfl⟩;refine Ent.trans ?_ (Ent.d7 (Ent.d7 (mf x hF)));simp only[ledL];exact ag
end
section
open Go.V
def it22:List ItG:=[⟨⟨#[103,111,108,100]⟩,false,false,true,0,0,0⟩,⟨⟨#[111,114,101]⟩,false,false,false,0,0,0⟩,⟨⟨#[100,117,115,116]⟩,false,true,false,0,0,0⟩,⟨⟨#[103,101,109]⟩,false,false,false,0,0,0⟩]
def cat22:CatM:=⟨it22,[],[],[]⟩
theorem BT:CatGood cat22:=by
 refine⟨by decide,by decide,by decide,by decide,?_,?_,?_,?_,by decide,by decide,by decide,by decide⟩
 ·intro x hx;simp only[cat22,it22,bj,aT,or_false] at hx;rcases hx with rfl|rfl|rfl|rfl<;>exact⟨lq (by decide +kernel),by decide,by decide⟩
 ·intro r hr;cases hr
 ·intro r hr;cases hr
 ·intro r hr;cases hr
theorem rh:cat22.Ok:=⟨(fun r hr=>by cases hr),(fun r hr=>by cases hr),(fun r hr=>by cases hr)⟩
def jm(bi:Nat):CatV:=⟨it22,some ⟨bi,0,none⟩,4,[],none,0,[],none,0,[],none,0⟩
theorem EM(bi:Nat):(jm bi).B:=by
 refine⟨ay rfl,ay rfl,ay rfl,ay rfl,?_,?_,?_⟩<;>intro r hr<;>cases hr
attribute [local irreducible] G GO GP GPW GPK GF GE Ev Ef EfR Ent CB GB V.Enters
theorem tr{L:LH}:Tri ah 51 #[] L (fun v L'=>∃c:CatV,v=.agg c.cells.toArray∧(c.m=cat22∧c.B)∧L' = catP c::L):=by
 refine Tri.body (args:=[]) 7 en51 Tryz.func51 rfl rfl rfl (by simp) ?_;repeat first|refine aa ?_|intro
 rename_i b0 bi;refine KX.d7 (vs:=[.agg (jm bi).cells.toArray]) (ResOk.cell rfl (by rfl) ResOk.nil) ?_ ⟨jm bi,rfl,⟨rfl,EM bi⟩,rfl⟩;refine(Ent.f9 (b:=bi) (enc:=bS) (sz:=7) it22 rfl (fun _ _=>rfl) (ay rfl)).trans ?_;refine(Ent.e7 txP).trans ((Ent.e9 cq 2 none).trans (Ent.trans (Ent.f7 (bT _ _ _ _) (cQ kT)) ?_));refine(Ent.e7 tbP).trans ((Ent.e9 cj 2 none).trans (Ent.trans (Ent.f7 (bT _ _ _ _) (cQ jS)) ?_));refine(Ent.f7 (mo (jm bi)) (mm (jm bi))).trans ?_;refine(Ent.e7 ruP).trans ((Ent.e9 bQ 9 none).trans (Ent.trans (Ent.f7 (bT _ _ _ _) (cQ iX)) ?_));refine(Ent.f7 (pz (jm bi)) ((mo (jm bi)).and (mm (jm bi)))).trans ?_;refine(Ent.swap.trans (Ent.f7 (wV (jm bi)) ((pz (jm bi)).and ((mo (jm bi)).and (mm (jm bi)))))).trans ?_;exact Ent.d7 Ent.drop
theorem Br{L:LH}(sh:Int)(c:CatV)(hsh:0≤sh∧sh<12)(hB:c.B)(h:CatGood c.m):Tri ah 23 #[ab sh,.agg c.cells.toArray] (catP c::cI::L) (fun v L'=>∃b,v=.tuple #[au b,ab 0]∧L' = LedR b (led0 sh c.m)::catP c::cI::L):=by
 obtain⟨h1,h2⟩:=hsh;refine Tri.body (args:=[ab sh,.agg c.cells.toArray]) 27 en23 Tryz.func23 rfl rfl rfl (by simp) ?_;simp only[CatV.cells];repeat first|refine aa ?_|intro
 rename_i b3;refine GO.ent (L':=catP c::cI::obj b3 tCat c.cells::L) (by simp only[CatV.cells];exact ag) ?_;refine GO.ef (Ef.d7 (DH c hB h) rfl) ae ?_;rintro _ _⟨rfl,rfl⟩;simp only[CatV.cells];repeat first|refine aa ?_|intro
 refine GO.ent (L':=catP c::cI::obj b3 tCat c.cells::L) (by simp only[CatV.cells];exact ag) ?_;refine GO.ef (Ef.d7 (uI c hB) rfl) ae ?_;rintro _ _⟨c',rfl,hc',rfl⟩;simp only[CatV.cells];refine GO.ef (Ef.f7 kvP Stk.v (.inl rfl)) ae ?_;rintro _ _⟨b1,rfl,rfl⟩;refine GO.ef (Ef.f7 kvI encN (.inl rfl)) ae ?_;rintro _ _⟨b2,rfl,rfl⟩;refine GO.ef (Ef.f7 kvI Stk.v (.inl rfl)) ae ?_;rintro _ _⟨b4,rfl,rfl⟩;refine GO.ef (Ef.f7 kvI Stk.v (.inl rfl)) ae ?_;rintro _ _⟨b5,rfl,rfl⟩;repeat first|refine aa ?_|intro
 rename_i b6;refine KX.d7 ai ?_ ⟨b6,rfl,rfl⟩;refine Ent.trans ?_ (mf (S:=led0 sh c.m) ⟨c',b1,b2,b4,b5,[],[],[],[],[],none,0,[],none,0⟩ ⟨hc',CatV.d7 hc' hB,fun _ _=>rfl,(fun _ h=>by cases h),fun _=>rfl,rfl,rfl,fun _=>rfl,fun _=>rfl⟩);simp only[ledL,fm,led0];refine(Ent.d8 aJ 7 bh).trans (Ent.ofOsl.trans ((Ent.d8 aL 11 bz).trans (Ent.ofOsl.trans ?_)));refine(Ent.e7 (fun p:(Int×Int)×Stk=>stkP p.2)).trans ((Ent.e7 bA).trans ((Ent.e7 flP).trans ((Ent.e7 (fun p:Int×Stk=>stkP p.2)).trans ((Ent.e7 (fun p:Int×Stk=>stkP p.2)).trans ?_))));exact ag
