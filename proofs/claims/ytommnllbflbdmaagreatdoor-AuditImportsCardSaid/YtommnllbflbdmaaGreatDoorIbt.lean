/- Lemmas. -/
import Derived.Test.YtommnllbflbdmaaGreatDoorIbs
set_option linter.all false
set_option maxHeartbeats 16000000
namespace Go.Proofs.YtommnllbflbdmaaGreatDoor
section
open Go.V
def jC{ms a0 : List MvV}{ad2 mad:OA}{cap2:Nat}{L:LH}(h:MvSp ms a0):Ent (osl aQ 5 tMv ad2 cap2 a0::isl aQ 5 mad ms::allP mvP ms::L) (isl aQ 5 ad2 a0::allP mvP a0::isl aQ 5 mad ms::allP mvP ms::L) :=
 (Ent.frz ad2).trans (Ent.d7 ((Ent.d7 (Ent.dup (jg mvP ms))).trans ((Ent.at (A:=allP mvP ms) h.ent).trans ae)))
def FS{ms:List MvV}{m:MvV}{p:Lot}{bn:Nat}{ad2 mad:OA}{cap2:Nat}{L:LH}(hp:m.m.parts=[p])(ha:m.pad=some ⟨bn,0,none⟩):Ent (obj bn tLot (ao p)::osl aQ 5 tMv ad2 cap2 (ms.set 0 m)::isl aQ 5 mad ms::allP mvP ms::L) (isl aQ 5 ad2 (ms.set 0 m)::allP mvP (ms.set 0 m)::isl aQ 5 mad ms::allP mvP ms::L):=by
 have e:mvP m=isl ao 3 (some ⟨bn,0,none⟩) [p]:=by show isl ao 3 m.pad m.m.parts=_;rw[hp,ha]
 refine(Ent.g7 (enc:=ao) (sz:=3) (xs:=[p]) (n:=1) (by simp) rfl (fun _ _=>rfl) ah).trans (Ent.freezeSl.trans ?_);rw[←e];refine(Ent.frz ad2).trans (Ent.d7 ?_);refine Ent.trans (B:=allP mvP ms::allP mvP ms::mvP m::isl aQ 5 mad ms::L) ?_ ?_
 ·exact(Ent.at (A:=allP mvP ms) (Ent.dup (jg mvP ms))).trans ae
 ·refine Ent.trans (B:=mvP m::allP mvP ms::allP mvP ms::isl aQ 5 mad ms::L) ae (part_allP.trans ae)
attribute [local irreducible] G GO GP GPW GPK GF GE Ev Ef EfR Ent CB GB V.Enters
abbrev yL:List Stp:=[.ev 0,.ev 1,.ev 2,.ev 3,.ev 4,.ev 5,.ef 6,.ef 7,.ev 8,.ef 9]
abbrev BM:List Stp:=[.ev 0,.ev 1,.ev 2,.ev 3,.ev 4,.ev 5,.ev 6,.ev 7,.ev 8,.ef 9,.ev 10,.ev 11,.ef 12]
def cq{φ ψ:Prop}(k:ψ)(h:Hid ψ→φ:=by intro k;(with_reducible apply G.d8);first|refine G.d7 (N:=99) (id:=28) yL mixed aw (Hid.out k)|refine G.d7 (N:=99) (id:=8) BM mixed aw (Hid.out k)):φ:=h ⟨k⟩
def Yc{φ ψ:Prop}(k:ψ)(h:Hid ψ→φ:=by intro k;(repeat (first|refine aa ?_|intro zzz|((with_reducible apply G.d8);first|refine G.d7 (N:=99) (id:=28) yL mixed aw ?_|refine G.d7 (N:=99) (id:=8) BM mixed aw ?_)));(repeat revert zzz);exact Hid.out k):φ:=h ⟨k⟩
def uT{L:LH}(s:StV)(hs:StG0 s)(a1 a0:Int)(hw:I64 a1)(hb:I64 a0) :
  Tri ag 42 #[.agg (aL s).toArray,ac a1,ac a0] (stM s::stP s::L) (fun v L'=>∃s' : StV,v=.agg (aL s').toArray∧StSp s'∧L' = stM s'::stP s'::stM s::stP s::L):=by
 have b0:=hs.sp.len;have hr:=hs.inp.rule;have a6:=hs.cap;obtain⟨id,kind,actor,tick,rule,times,ms,mad,mcap⟩:=s;dsimp only at b0 hr a6;refine Tri.bd (args:=[.agg (aL ⟨id,kind,actor,tick,rule,times,ms,mad,mcap⟩).toArray,ac a1,ac a0]) ?_;refine Yc ?_;intros;rename_i b3 b6;refine GO.ent (L':=osl aQ 5 tMv none 0 []::obj b6 bB [ac 0,ac 0,ac 0,ac 0,ac 0,ac 0,.slice none 0 0]::obj b3 bB [ac id,ac kind,ac actor,ac tick,ac rule,ac times,.slice mad ms.length mcap]::isl aQ 5 mad ms::allP mvP ms::L) ((Ent.d9 aQ 5 tMv).trans ae) ?_;refine GO.ef (Ef.e9 (ys:=ms) rfl rfl rfl rfl rfl (fun e _=>iL e) (by simp;omega) (by simp;omega)) ah ?_;rintro _ _⟨ad2,cap2,rfl,rfl⟩;rw[ap];refine GO.d9 (fX (ad:=ad2) (cap:=cap2) (xs:=ms) (enc:=aQ) (sz:=5) (E:=tMv)) ?_;rintro⟨a2,b5⟩;refine Yc ?_;intros;by_cases h0:ms.length=0
 ·refine Yc ?_;intros;exact KX.d7 (ResOk.cell rfl (by rfl) ResOk.nil) (Ent.trans ae (jC (jF ms))) ⟨⟨id,kind,actor,tick,rule,times,ms,ad2,cap2⟩,rfl,mg hs rfl a2 hr,rfl⟩
 have a3:0<ms.length:=ab;have a5:((ms.length:Int) - 1).toNat<ms.length:=ab;refine Yc ?_;intros;rename_i a8;refine GO.ent (L':=isl (encZ .i64) 1 (some ⟨a8,0,none⟩) [a1]::obj b3 bB [ac id,ac kind,ac actor,ac tick,ac rule,ac times,.slice ad2 ms.length cap2]::osl aQ 5 tMv ad2 cap2 ms::obj b6 bB [ac 0,ac 0,ac 0,ac 0,ac 0,ac 0,.slice none 0 0]::isl aQ 5 mad ms::allP mvP ms::L) ((Ent.g7 (enc:=encZ .i64) (sz:=1) (xs:=[a1]) (n:=1) rfl rfl (fun _ _=>rfl) ah).trans Ent.freezeSl) ?_;refine GO.ca (fS (some ⟨a8,0,none⟩) 1 1 [a1] rfl (fun y hy=>by rw[List.mem_singleton.1 hy];exact hw) 0 11 ah) ?_;rintro _ _⟨p,rfl,hp,rfl⟩;have b2:=hp.1;have b4:=hp.2.1 ah;clear hp;by_cases b1:p=0
 ·refine Yc ?_;intros;exact KX.d7 (ResOk.cell rfl (by rfl) ResOk.nil) (Ent.trans ae (jC (jF ms))) ⟨⟨id,a0,actor,tick,rule,times,ms,ad2,cap2⟩,rfl,mg hs rfl a2 hr,rfl⟩
 by_cases c0:p=1
 ·refine Yc ?_;intros;exact KX.d7 (ResOk.cell rfl (by rfl) ResOk.nil) (Ent.trans ae (jC (jF ms))) ⟨⟨id,kind,a0,tick,rule,times,ms,ad2,cap2⟩,rfl,mg hs rfl a2 hr,rfl⟩
 by_cases b7:p=2
 ·refine Yc ?_;intros;exact KX.d7 (ResOk.cell rfl (by rfl) ResOk.nil) (Ent.trans ae (jC (jF ms))) ⟨⟨id,kind,actor,a0,rule,times,ms,ad2,cap2⟩,rfl,mg hs rfl a2 hr,rfl⟩
 by_cases c2:p=3
 ·refine Yc ?_;intros;exact KX.d7 (ResOk.cell rfl (by rfl) ResOk.nil) (Ent.trans ae (jC (jF ms))) ⟨⟨id,kind,actor,tick,a0,times,ms,ad2,cap2⟩,rfl,mg hs rfl a2 hb,rfl⟩
 by_cases b9:p=4
 ·refine Yc ?_;intros;exact KX.d7 (ResOk.cell rfl (by rfl) ResOk.nil) (Ent.trans ae (jC (jF ms))) ⟨⟨id,kind,actor,tick,rule,a0,ms,ad2,cap2⟩,rfl,mg hs rfl a2 hr,rfl⟩
 by_cases c1:p=5
 ·refine Yc ?_;intros;refine GO.efu (Ef.g7 (e:=(⟨⟨a0,ms[((ms.length:Int) - 1).toNat]!.m.to,ms[((ms.length:Int) - 1).toNat]!.m.item,ms[((ms.length:Int) - 1).toNat]!.m.n,ms[((ms.length:Int) - 1).toNat]!.m.parts⟩,ms[((ms.length:Int) - 1).toNat]!.pad,ms[((ms.length:Int) - 1).toNat]!.pcap⟩:MvV)) rfl rfl (by rfl) rfl a5 ah) ?_;rintro _ _ rfl;refine Yc ?_;intros;exact KX.d7 (ResOk.cell rfl (by rfl) ResOk.nil) (Ent.trans ae (jC (ad2:=ad2) (mad:=mad) (cap2:=cap2) (L:=L) (mC (j:=((ms.length:Int) - 1).toNat) (m:=(⟨⟨a0,ms[((ms.length:Int) - 1).toNat]!.m.to,ms[((ms.length:Int) - 1).toNat]!.m.item,ms[((ms.length:Int) - 1).toNat]!.m.n,ms[((ms.length:Int) - 1).toNat]!.m.parts⟩,ms[((ms.length:Int) - 1).toNat]!.pad,ms[((ms.length:Int) - 1).toNat]!.pcap⟩:MvV)) a5 ⟨rfl,rfl,rfl⟩))) ⟨⟨id,kind,actor,tick,rule,times,ms.set ((ms.length:Int) - 1).toNat (⟨⟨a0,ms[((ms.length:Int) - 1).toNat]!.m.to,ms[((ms.length:Int) - 1).toNat]!.m.item,ms[((ms.length:Int) - 1).toNat]!.m.n,ms[((ms.length:Int) - 1).toNat]!.m.parts⟩,ms[((ms.length:Int) - 1).toNat]!.pad,ms[((ms.length:Int) - 1).toNat]!.pcap⟩:MvV),ad2,cap2⟩,by simp only[aL,bE];rfl,rY hs (j:=((ms.length:Int) - 1).toNat) a5 rfl ⟨rfl,rfl,rfl⟩ (by rw[bE];exact a2) hr,rfl⟩
 by_cases c5:p=6
 ·refine Yc ?_;intros;refine GO.efu (Ef.g7 (e:=(⟨⟨ms[(0:Int).toNat]!.m.frm,a0,ms[(0:Int).toNat]!.m.item,ms[(0:Int).toNat]!.m.n,ms[(0:Int).toNat]!.m.parts⟩,ms[(0:Int).toNat]!.pad,ms[(0:Int).toNat]!.pcap⟩:MvV)) rfl rfl (by rfl) rfl a3 ah) ?_;rintro _ _ rfl;refine Yc ?_;intros;exact KX.d7 (ResOk.cell rfl (by rfl) ResOk.nil) (Ent.trans ae (jC (ad2:=ad2) (mad:=mad) (cap2:=cap2) (L:=L) (mC (j:=(0:Int).toNat) (m:=(⟨⟨ms[(0:Int).toNat]!.m.frm,a0,ms[(0:Int).toNat]!.m.item,ms[(0:Int).toNat]!.m.n,ms[(0:Int).toNat]!.m.parts⟩,ms[(0:Int).toNat]!.pad,ms[(0:Int).toNat]!.pcap⟩:MvV)) a3 ⟨rfl,rfl,rfl⟩))) ⟨⟨id,kind,actor,tick,rule,times,ms.set (0:Int).toNat (⟨⟨ms[(0:Int).toNat]!.m.frm,a0,ms[(0:Int).toNat]!.m.item,ms[(0:Int).toNat]!.m.n,ms[(0:Int).toNat]!.m.parts⟩,ms[(0:Int).toNat]!.pad,ms[(0:Int).toNat]!.pcap⟩:MvV),ad2,cap2⟩,by simp only[aL,bE];rfl,rY hs (j:=(0:Int).toNat) a3 rfl ⟨rfl,rfl,rfl⟩ (by rw[bE];exact a2) hr,rfl⟩
 by_cases b8:p=7
 ·refine Yc ?_;intros;refine GO.efu (Ef.g7 (e:=(⟨⟨ms[((ms.length:Int) - 1).toNat]!.m.frm,ms[((ms.length:Int) - 1).toNat]!.m.to,a0,ms[((ms.length:Int) - 1).toNat]!.m.n,ms[((ms.length:Int) - 1).toNat]!.m.parts⟩,ms[((ms.length:Int) - 1).toNat]!.pad,ms[((ms.length:Int) - 1).toNat]!.pcap⟩:MvV)) rfl rfl (by rfl) rfl a5 ah) ?_;rintro _ _ rfl;refine Yc ?_;intros;exact KX.d7 (ResOk.cell rfl (by rfl) ResOk.nil) (Ent.trans ae (jC (ad2:=ad2) (mad:=mad) (cap2:=cap2) (L:=L) (mC (j:=((ms.length:Int) - 1).toNat) (m:=(⟨⟨ms[((ms.length:Int) - 1).toNat]!.m.frm,ms[((ms.length:Int) - 1).toNat]!.m.to,a0,ms[((ms.length:Int) - 1).toNat]!.m.n,ms[((ms.length:Int) - 1).toNat]!.m.parts⟩,ms[((ms.length:Int) - 1).toNat]!.pad,ms[((ms.length:Int) - 1).toNat]!.pcap⟩:MvV)) a5 ⟨rfl,rfl,rfl⟩))) ⟨⟨id,kind,actor,tick,rule,times,ms.set ((ms.length:Int) - 1).toNat (⟨⟨ms[((ms.length:Int) - 1).toNat]!.m.frm,ms[((ms.length:Int) - 1).toNat]!.m.to,a0,ms[((ms.length:Int) - 1).toNat]!.m.n,ms[((ms.length:Int) - 1).toNat]!.m.parts⟩,ms[((ms.length:Int) - 1).toNat]!.pad,ms[((ms.length:Int) - 1).toNat]!.pcap⟩:MvV),ad2,cap2⟩,by simp only[aL,bE];rfl,rY hs (j:=((ms.length:Int) - 1).toNat) a5 rfl ⟨rfl,rfl,rfl⟩ (by rw[bE];exact a2) hr,rfl⟩
 by_cases c3:p=8
 ·refine Yc ?_;intros;refine GO.efu (Ef.g7 (e:=(⟨⟨ms[(0:Int).toNat]!.m.frm,ms[(0:Int).toNat]!.m.to,ms[(0:Int).toNat]!.m.item,a0,ms[(0:Int).toNat]!.m.parts⟩,ms[(0:Int).toNat]!.pad,ms[(0:Int).toNat]!.pcap⟩:MvV)) rfl rfl (by rfl) rfl a3 ah) ?_;rintro _ _ rfl;refine Yc ?_;intros;exact KX.d7 (ResOk.cell rfl (by rfl) ResOk.nil) (Ent.trans ae (jC (ad2:=ad2) (mad:=mad) (cap2:=cap2) (L:=L) (mC (j:=(0:Int).toNat) (m:=(⟨⟨ms[(0:Int).toNat]!.m.frm,ms[(0:Int).toNat]!.m.to,ms[(0:Int).toNat]!.m.item,a0,ms[(0:Int).toNat]!.m.parts⟩,ms[(0:Int).toNat]!.pad,ms[(0:Int).toNat]!.pcap⟩:MvV)) a3 ⟨rfl,rfl,rfl⟩))) ⟨⟨id,kind,actor,tick,rule,times,ms.set (0:Int).toNat (⟨⟨ms[(0:Int).toNat]!.m.frm,ms[(0:Int).toNat]!.m.to,ms[(0:Int).toNat]!.m.item,a0,ms[(0:Int).toNat]!.m.parts⟩,ms[(0:Int).toNat]!.pad,ms[(0:Int).toNat]!.pcap⟩:MvV),ad2,cap2⟩,by simp only[aL,bE];rfl,rY hs (j:=(0:Int).toNat) a3 rfl ⟨rfl,rfl,rfl⟩ (by rw[bE];exact a2) hr,rfl⟩
 by_cases c4:p=9
 ·refine Yc ?_;intros;refine GPW.ef (Ef.d7 (enc:=aQ) (xs:=ms) ms[(0:Int).toNat]! rfl rfl rfl rfl rfl (by rfl) (iL _) ab ab) ah ?_;rintro _ _⟨a7,a4,rfl,rfl⟩;repeat first|((fail_if_success (with_reducible refine G.atS 29 ?_));(with_reducible apply G.seq))|refine bA ?_|intro _|refine cq ?_
  refine G.e8 (fX (ad:=a7) (cap:=a4) (xs:=ms++[ms[(0:Int).toNat]!]) (enc:=aQ) (sz:=5) (E:=tMv)) ?_;rintro⟨a9,_⟩;refine Yc ?_;intros;exact KX.d7 (ResOk.cell rfl (by rfl) ResOk.nil) (Ent.trans ae (jC (ad2:=a7) (mad:=mad) (cap2:=a4) (L:=L) (wB (j:=(0:Int).toNat) a3))) ⟨⟨id,kind,actor,tick,rule,times,ms++[ms[(0:Int).toNat]!],a7,a4⟩,rfl,GH hs a3 rfl a9 hr,rfl⟩
 refine Yc ?_;intros;rename_i bn;refine GPW.efu (Ef.g7 (e:=(⟨⟨ms[(0:Int).toNat]!.m.frm,ms[(0:Int).toNat]!.m.to,ms[(0:Int).toNat]!.m.item,ms[(0:Int).toNat]!.m.n,[(a0,0,ms[(0:Int).toNat]!.m.n)]⟩,some ⟨bn,0,none⟩,1⟩:MvV)) rfl rfl (by rfl) rfl a3 ah) ?_;rintro _ _ rfl;refine Yc ?_;intros;have he:=FS (ms:=ms) (m:=(⟨⟨ms[(0:Int).toNat]!.m.frm,ms[(0:Int).toNat]!.m.to,ms[(0:Int).toNat]!.m.item,ms[(0:Int).toNat]!.m.n,[(a0,0,ms[(0:Int).toNat]!.m.n)]⟩,some ⟨bn,0,none⟩,1⟩:MvV)) (p:=(a0,0,ms[(0:Int).toNat]!.m.n)) (bn:=bn) (ad2:=ad2) (mad:=mad) (cap2:=cap2) (L:=L) rfl rfl;exact KX.d7 (ResOk.cell rfl (by rfl) ResOk.nil) (Ent.trans (by show Ent _ (obj bn tLot (ao (a0,0,ms[(0:Int).toNat]!.m.n))::osl aQ 5 tMv ad2 cap2 (ms.set (0:Int).toNat (⟨⟨ms[(0:Int).toNat]!.m.frm,ms[(0:Int).toNat]!.m.to,ms[(0:Int).toNat]!.m.item,ms[(0:Int).toNat]!.m.n,[(a0,0,ms[(0:Int).toNat]!.m.n)]⟩,some ⟨bn,0,none⟩,1⟩:MvV))::isl aQ 5 mad ms::allP mvP ms::L);simp only[ao];exact ae) he) ⟨⟨id,kind,actor,tick,rule,times,ms.set 0 (⟨⟨ms[(0:Int).toNat]!.m.frm,ms[(0:Int).toNat]!.m.to,ms[(0:Int).toNat]!.m.item,ms[(0:Int).toNat]!.m.n,[(a0,0,ms[(0:Int).toNat]!.m.n)]⟩,some ⟨bn,0,none⟩,1⟩:MvV),ad2,cap2⟩,by simp only[aL,bE];rfl,FR hs a3 (p:=(a0,0,ms[(0:Int).toNat]!.m.n)) rfl rfl hb.2 rfl (by rw[bE];exact a2) hr,rfl⟩
end
section
open Go.V
def SpL(ss a0 : List StV):Prop:=a0 = ss∨∃k s',k<ss.length∧StSp s'∧a0 = ss.set k s'
def SpL.len{ss a0 : List StV}(h:SpL ss a0):a0.length=ss.length:=by
 rcases h with rfl|⟨k,s',_,_,rfl⟩
 ·rfl
 ·exact bE
def StSp.at{s:StV}(h:StSp s)(id:Int):StSp { s with id:=id }:=⟨⟨h.inp.len,h.inp.rule,h.inp.parts,h.inp.cap,h.inp.bd⟩,h.cap,h.k⟩
def tY{ss:List StV}{k:Nat}{s:StV}{L:LH}:Ent (stM s::stP s::allP bK ss::L) (allP bK (ss.set k s)::allP bK ss::L):=by
 refine Ent.trans (B:=bK s::allP bK ss::L) (Ent.e8 (nZ s) (cB iI)) ?_;refine Ent.trans (B:=bK s::allP bK ss::allP bK ss::L) (Ent.d7 (Ent.dup (jg bK ss))) ?_;refine(Ent.e9 (f:=bK) ky).trans (Ent.l5 fun x hx=>?_);rcases co hx with h|h
 ·exact aq _ h
 ·rw[h];exact au
attribute [local irreducible] G GO GP GPW GPK GF GE Ev Ef EfR Ent CB GB V.Enters
def uS{L:LH}(ad:OA)(n c:Nat)(ss:List StV)[hrd:Rds L ad StV aL 7 ss](hn:n=ss.length)(hl:ss.length≤100000)(hs:∀s∈ss,StG0 s)(at_ a0 a2:Int)(ha:I64 at_)(hw:I64 a0)(hb:I64 a2) :
  Tri ag 11 #[.slice ad n c,ac at_,ac a0,ac a2] (allP bK ss::L) (fun v L'=>∃a6 a5 a3,v=.slice a6 a3.length a5∧SpL ss a3∧L' = isl aL 7 a6 a3::allP bK a3::allP bK ss::L):=by
 subst hn;refine Tri.bd ?_;refine Hz ?_;intros;refine GO.ent (L':=osl aL 7 bB none 0 []::allP bK ss::L) (Ent.d9 aL 7 bB) ?_;refine GO.ef (Ef.e9 (ys:=ss) rfl rfl rfl rfl rfl (fun e _=>jm e) (by simp;omega) (by simp;omega)) ah ?_;rintro _ _⟨ad2,cap2,rfl,rfl⟩;rw[ap];refine Hz ?_;intros;by_cases h0:ss.length=0
 ·refine Hz ?_;intros;refine KX.d7 an ?_ ⟨ad2,cap2,ss,rfl,.inl rfl,rfl⟩;exact(Ent.frz ad2).trans (Ent.d7 (Ent.dup (jg bK ss)))
 refine Hz ?_;intros;refine GO.ca (kW at_ (ss.length:Int) ha ab ab) ?_;rintro _ _⟨p,rfl,⟨b2,b4⟩,rfl⟩;obtain⟨k,rfl⟩:∃k:Nat,p=(k:Int):=⟨p.toNat,ab⟩;have hk:k<ss.length:=ab;have b5:(k:Int).toNat=k:=ay k;have a1:(k:Int).toNat<ss.length:=ab;refine Hz ?_;intros;have a8:=hs _ (aG a1);refine GO.ent (L':=stM ss[(k:Int).toNat]!::stP ss[(k:Int).toNat]!::osl aL 7 bB ad2 cap2 ss::allP bK ss::L) (Ent.swap.trans (((Ent.d8 (f:=bK) (aG a1)).trans Ent.andE).trans ae)) ?_;refine GO.ca (uT ss[(k:Int).toNat]! a8 a0 a2 hw hb) ?_;rintro _ _⟨s',rfl,a7,rfl⟩;refine Hz ?_;intros;refine GO.efu (Ef.e7 (enc:=aL) (e:=s') rfl rfl rfl rfl (jm _) a1) ?_;rintro _ _ rfl;refine Hz ?_;intros;refine GO.ca (kW a0 13 hw ah ah) ?_;rintro _ _⟨q,rfl,⟨b1,b3⟩,rfl⟩;have b0:(ss.set (k:Int).toNat s').length=ss.length:=bE;by_cases hq:q=0
 case neg =>
  refine Hz ?_;intros;refine KX.d7 an ?_ ⟨ad2,cap2,ss.set (k:Int).toNat s',by rw[b0];rfl,.inr ⟨_,s',a1,a7,rfl⟩,rfl⟩;exact(Ent.frz ad2).trans (Ent.d7 (Ent.trans ae (tY (L:=L))))
 have a9:(ss.set (k:Int).toNat s')[(k:Int).toNat]! = s':=by rw[getElem!_of ab,List.getElem_set_self]
 refine Hz ?_;intros;refine GO.ev (Ev.C4 rfl rfl) ah ?_;refine Hz ?_;intros;generalize hid:IntKind.i64.wrap (ss[(k:Int).toNat]!.id+a2)=id' at *;refine GO.efu (Ef.g7 (enc:=aL) (e:=({ s' with id:=id' }:StV)) rfl rfl (by rw[a9];rfl) rfl ab ah) ?_;rintro _ _ rfl;rw[List.set_set];refine Hz ?_;intros;have a4:(ss.set (k:Int).toNat ({ s' with id:=id' }:StV)).length=ss.length:=bE;refine KX.d7 an ?_ ⟨ad2,cap2,ss.set (k:Int).toNat ({ s' with id:=id' }:StV),by rw[a4];rfl,.inr ⟨_,{ s' with id:=id' },a1,a7.at id',rfl⟩,rfl⟩;refine(Ent.frz ad2).trans (Ent.d7 (Ent.trans ?_ (tY (s:=({ s' with id:=id' }:StV)) (L:=L))));show Ent _ (isl aQ 5 s'.mad s'.moves::allP mvP s'.moves::allP bK ss::L);exact ae
end
section
open Go.V
def Ent.n9{A B:HP}{L:LH}:Ent (A::B::L) (cM [A,B]::L):=fun θ R w s=>Sat.d7 (A:=[A,B]) s
def Ent.l8{A B:HP}{L:LH}:Ent (cM [A,B]::L) (A::B::L):=fun θ R w s=>Sat.ofStars (A:=[A,B]) s
def flO(f:FlV):HP:=cM [osl ao 3 tLot f.pad f.pcap f.m.parts,osl (encZ .i64) 1 tInt f.mad f.mcap f.m.made]
def stO(s:StV):HP:=cM [osl aQ 5 tMv s.mad s.mcap s.moves,allP mvP s.moves]
def fl0:FlV:=⟨⟨0,0,0,0,0,0,0,0,0,[],[]⟩,none,0,none,0⟩
def st0:StV:=⟨0,0,0,0,0,0,[],none,0⟩
def Fg{f:FlV}{L:LH}:Ent (flP f::L) (isl ao 3 f.pad f.m.parts::isl (encZ .i64) 1 f.mad f.m.made::flP f::L):=(Ent.dup (lw f).pers).trans Ent.andE
attribute [local irreducible] G GO GP GPW GPK Ev Ef EfR Ent CB GB V.Enters
abbrev BL:List Stp:=[.ev 0,.ev 1,.ev 3,.ev 4,.ef 2,.ev 6,.ef 5,.ef 7,.ev 8,.ef 9]
def Yx{φ ψ:Prop}(k:ψ)(h:Hid ψ→φ:=by intro k;(repeat (first|refine aa ?_|intro zzz|((with_reducible apply G.d8);first|refine G.d7 (N:=12) (id:=1) BL mixed aw ?_)));(repeat revert zzz);exact Hid.out k):φ:=h ⟨k⟩
def xr{L:LH}(f:FlV)(h1:f.m.parts.length≤1000000)(h2:f.m.made.length≤1000000) :
  Tri ag 70 #[.agg (aM f).toArray] (flP f::L) (fun v L'=>∃f',v=.agg (aM f').toArray∧f'.m=f.m∧L' = flO f'::flP f::L):=by
 obtain⟨⟨i1,i2,i3,i4,i5,i6,i7,i8,i9,parts,made⟩,pad,pcap,mad,mcap⟩:=f;dsimp only at h1 h2;refine Tri.bd (args:=[.agg (aM ⟨⟨i1,i2,i3,i4,i5,i6,i7,i8,i9,parts,made⟩,pad,pcap,mad,mcap⟩).toArray]) ?_;refine G.ent Fg ?_;dsimp only;refine Yx ?_;intros;refine GPW.ca (lN pad parts.length pcap parts rfl h1) ?_;rintro _ _⟨a1,a0,rfl,rfl⟩;refine Yx ?_;intros;refine GPW.ca (ki mad made.length mcap made rfl h2) ?_;rintro _ _⟨ad2,cap2,rfl,rfl⟩;refine Yx ?_;intros;refine KX.d7 (by exact ResOk.cell rfl (by rfl) (ResOk.nil)) ?_ ⟨⟨⟨i1,i2,i3,i4,i5,i6,i7,i8,i9,parts,made⟩,a1,a0,ad2,cap2⟩,rfl,rfl,rfl⟩;refine Ent.trans (B:=osl ao 3 tLot a1 a0 parts::osl (encZ .i64) 1 tInt ad2 cap2 made::flP ⟨⟨i1,i2,i3,i4,i5,i6,i7,i8,i9,parts,made⟩,pad,pcap,mad,mcap⟩::L) ae ?_;exact Ent.n9
def xm{L:LH}(ad:OA)(c:Nat)(ms:List FlV)(hl:ms.length≤100000)(hp:∀m∈ms,m.m.parts.length≤1000000∧m.m.made.length≤1000000) :
  Tri ag 69 #[.slice ad ms.length c,.func (.func 70) #[] #[]] (asl aM 11 bY ad c ms::allP flP ms::L) (fun v L'=>∃a3 c' a1,v=.slice a3 a1.length c'∧a1.map (·.m)=ms.map (·.m)∧L' = osl aM 11 bY a3 c' a1::bigO flO a1::asl aM 11 bY ad c ms::allP flP ms::L):=by
 refine Tri.bd ?_;by_cases h0:ms.length=0
 ·have e:ms=[]:=aW h0;subst e;refine Hz ?_;intros;exact KX.d7 an ((Ent.l0 flO).trans (Ent.d9 aM 11 bY)) ⟨none,0,[],rfl,rfl,rfl⟩
 refine Hz ?_;intros;refine GO.ef (Ef.g8 aM fl0 rfl rfl rfl ab ab ab ab) ah ?_;rintro _ _⟨bs,rfl,rfl⟩;rw[show(ms.length:Int).toNat=ms.length by omega];refine Hz ?_;intros
 refine G.loop (α:=Nat×List FlV) (fun z=>z.1≤ms.length∧z.2.length=ms.length∧(z.2.take z.1).map (·.m)=(ms.take z.1).map (·.m)) (fun z=>[(1,.func (.func 70) #[] #[]),(5,.slice (some ⟨bs,0,none⟩) ms.length ms.length),(14,.slice ad ms.length c),(15,ac (ms.length:Int)),(16,ac (z.1:Int))])
  (fun z=>osl aM 11 bY (some ⟨bs,0,none⟩) ms.length z.2::bigO flO (z.2.take z.1)::asl aM 11 bY ad c ms::allP flP ms::L) (fun z=>ms.length - z.1) (0,List.replicate ms.length fl0) ⟨aj _,by simp,by simp⟩ ai ?_ ?_
 ·dsimp only;rw[cd];refine(Ent.l0 flO).trans ?_;exact ae
 rintro⟨i,zs⟩ ⟨hi,a7,a0⟩;dsimp only at hi a7 a0 ⊢;by_cases a2:i<ms.length
 case neg =>
  have a9:i=ms.length:=ab;subst a9;rw[aF ab,aF ab] at a0;rw[aF (show zs.length≤ms.length by omega)];refine Hz ?_;intros;refine KX.d7 an (Ent.refl _) ⟨some ⟨bs,0,none⟩,ms.length,zs,by rw[a7];rfl,a0,rfl⟩
 have a5:(i:Int).toNat=i:=ab;have a6:ms[i]!∈ms:=aG a2;have a4:=hp _ a6;refine Hz ?_;intros;rw[a5];refine GO.ent (Ent.at (A:=allP flP ms) (Ent.d8 (x:=ms[i]!) a6)) ?_;refine GO.ef (Ef.d8 rfl rfl (xr ms[i]! a4.1 a4.2)) ah ?_;rintro _ _⟨m',rfl,a8,rfl⟩;refine Hz ?_;intros;refine GO.efu (Ef.e7 (e:=m') rfl rfl (by rfl) (by rfl) (jf _) ab) ?_;rintro _ _ rfl;rw[a5];refine Hz ?_;intros;refine⟨(i+1,zs.set i m'),⟨by dsimp only;omega,by dsimp only;simp;omega,?_⟩,by dsimp only;omega,?_,?_⟩
 ·dsimp only;rw[dS ab,aC a2,aZ,aZ,a0,←getElem!_of a2];simp[a8]
 ·dsimp only;rw[aK i];exact ai
 ·dsimp only;rw[dS ab];refine Ent.d7 ?_;refine Ent.trans (B:=flO m'::bigO flO (zs.take i)::asl aM 11 bY ad c ms::allP flP ms::L) ae ?_;exact Ent.m5
def zC{L:LH}(b:Nat)(S:LedM)(hS:∀f∈S.flows,f.parts.length≤1000000∧f.made.length≤1000000)(a3:S.flows.length≤100000) :
  Tri ag 26 #[av b] (LedR b S::L) (fun v L'=>∃ad cap fs,v=.slice ad fs.length cap∧fs.map FlV.m=S.flows∧L' = osl aM 11 bY ad cap fs::bigO flO fs::LedR b S::L):=by
 refine Tri.bd ?_;refine G.f7 (f:=ledA b S) ?_;intro x;simp only[ledA,ledL,fw,ax,ap];refine G.g8 ?_;intro hF;have a4:x.flows.length=S.flows.length:=by rw[←hF.flows];simp
 have a1:∀m∈x.flows,m.m.parts.length≤1000000∧m.m.made.length≤1000000:=fun m hm=>by
  have:=hS m.m (by rw[←hF.flows];exact alStd0List_mem_map_of_mem hm)
  omega
 refine Hz ?_;intros;refine GO.ent (Ent.at (A:=asl aM 11 bY x.fad x.fcap x.flows) (Ent.d7 (Ent.at (A:=allP flP x.flows) (Ent.refl _)))) ?_;refine GO.ca (xm x.fad x.fcap x.flows ab a1) ?_;rintro _ _⟨a0,c',fs,rfl,a2,rfl⟩;refine Hz ?_;intros;refine KX.d7 an ?_ ⟨a0,c',fs,rfl,a2.trans hF.flows,rfl⟩;refine Ent.trans ?_ (Ent.d7 (Ent.d7 (mE x hF)));simp only[ledL];exact ae
def xk{L:LH}(ad:OA)(c:Nat)(ms:List MvV)(hl:ms.length≤64)(hp:∀m∈ms,m.m.parts.length≤1000000) :
  Tri ag 125 #[.slice ad ms.length c,.func (.func 126) #[] #[]] (isl aQ 5 ad ms::allP mvP ms::L) (fun v L'=>∃a3 c' a1,v=.slice a3 a1.length c'∧a1.map (·.m)=ms.map (·.m)∧L' = osl aQ 5 tMv a3 c' a1::allP mvP a1::isl aQ 5 ad ms::allP mvP ms::L):=by
 refine Tri.bd ?_;by_cases h0:ms.length=0
 ·have e:ms=[]:=aW h0;subst e;refine Hz ?_;intros;exact KX.d7 an ((Ent.e7 mvP).trans (Ent.d9 aQ 5 tMv)) ⟨none,0,[],rfl,rfl,rfl⟩
 refine Hz ?_;intros;refine GO.ef (Ef.g8 aQ mv0 rfl rfl rfl ab ab ab ab) ah ?_;rintro _ _⟨bs,rfl,rfl⟩;rw[show(ms.length:Int).toNat=ms.length by omega];refine Hz ?_;intros
 refine G.loop (α:=Nat×List MvV) (fun z=>z.1≤ms.length∧z.2.length=ms.length∧(z.2.take z.1).map (·.m)=(ms.take z.1).map (·.m)) (fun z=>[(1,.func (.func 126) #[] #[]),(5,.slice (some ⟨bs,0,none⟩) ms.length ms.length),(14,.slice ad ms.length c),(15,ac (ms.length:Int)),(16,ac (z.1:Int))])
  (fun z=>osl aQ 5 tMv (some ⟨bs,0,none⟩) ms.length z.2::allP mvP (z.2.take z.1)::isl aQ 5 ad ms::allP mvP ms::L) (fun z=>ms.length - z.1) (0,List.replicate ms.length mv0) ⟨aj _,by simp,by simp⟩ ai ?_ ?_
 ·dsimp only;rw[cd];refine(Ent.e7 mvP).trans ?_;exact ae
 rintro⟨i,zs⟩ ⟨hi,a6,a0⟩;dsimp only at hi a6 a0 ⊢;by_cases a2:i<ms.length
 case neg =>
  have a8:i=ms.length:=ab;subst a8;rw[aF ab,aF ab] at a0;rw[aF (show zs.length≤ms.length by omega)];refine Hz ?_;intros;refine KX.d7 an (Ent.refl _) ⟨some ⟨bs,0,none⟩,ms.length,zs,by rw[a6];rfl,a0,rfl⟩
 have a4:(i:Int).toNat=i:=ab;have a5:ms[i]!∈ms:=aG a2;refine Hz ?_;intros;rw[a4];refine GO.ent (Ent.at (A:=allP mvP ms) (Ent.d8 (x:=ms[i]!) a5)) ?_;refine GO.ef (Ef.d8 rfl rfl (pP ms[i]! (hp _ a5))) ah ?_;rintro _ _⟨m',rfl,a7,rfl⟩;refine Hz ?_;intros;refine GO.efu (Ef.e7 (e:=m') rfl rfl (by rfl) (by rfl) (iL _) ab) ?_;rintro _ _ rfl;rw[a4];refine Hz ?_;intros;refine⟨(i+1,zs.set i m'),⟨by dsimp only;omega,by dsimp only;simp;omega,?_⟩,by dsimp only;omega,?_,?_⟩
 ·dsimp only;rw[dS ab,aC a2,aZ,aZ,a0,←getElem!_of a2];simp[a7]
 ·dsimp only;rw[aK i];exact ai
 ·dsimp only;rw[dS ab];refine Ent.d7 ?_;refine Ent.trans (B:=allP mvP (zs.take i)::mvP m'::isl aQ 5 ad ms::allP mvP ms::L) ae ?_;exact(Ent.d7 (Ent.g9 iI)).trans (Ent.j0 iI)
def xp{L:LH}(s:StV)(hl:s.moves.length≤64)(hp:∀m∈s.moves,m.m.parts.length≤1000000) :
  Tri ag 68 #[.agg (aL s).toArray] (stM s::stP s::L) (fun v L'=>∃s',v=.agg (aL s').toArray∧s'.m=s.m∧L' = stO s'::stM s::stP s::L):=by
 obtain⟨i0,i1,i2,i3,i4,i5,ms,mad,mcap⟩:=s;dsimp only at hl hp;refine Tri.bd (args:=[.agg (aL ⟨i0,i1,i2,i3,i4,i5,ms,mad,mcap⟩).toArray]) ?_;refine Hz ?_;intros;refine GO.ent (Ent.at (A:=isl aQ 5 mad ms) (Ent.d7 (Ent.at (A:=allP mvP ms) (Ent.refl _)))) ?_;refine GO.ca (xk mad mcap ms hl hp) ?_;rintro _ _⟨a1,c',a0,rfl,a2,rfl⟩;refine Hz ?_;intros;refine KX.d7 (by exact ResOk.cell rfl (by rfl) (ResOk.nil)) ?_ ⟨⟨i0,i1,i2,i3,i4,i5,a0,a1,c'⟩,rfl,by simp only[StV.m,a2],rfl⟩;refine Ent.trans (B:=osl aQ 5 tMv a1 c' a0::allP mvP a0::isl aQ 5 mad ms::allP mvP ms::L) ae ?_;exact Ent.n9
def xj{L:LH}(ad:OA)(c:Nat)(ms:List StV)(hl:ms.length≤100000)(hp:∀m∈ms,m.moves.length≤64∧∀u∈m.moves,u.m.parts.length≤1000000) :
  Tri ag 67 #[.slice ad ms.length c,.func (.func 68) #[] #[]] (asl aL 7 bB ad c ms::allP bK ms::L) (fun v L'=>∃a3 c' a1,v=.slice a3 a1.length c'∧a1.map (·.m)=ms.map (·.m)∧L' = osl aL 7 bB a3 c' a1::bigO stO a1::asl aL 7 bB ad c ms::allP bK ms::L):=by
 refine Tri.bd ?_;by_cases h0:ms.length=0
 ·have e:ms=[]:=aW h0;subst e;refine Hz ?_;intros;exact KX.d7 an ((Ent.l0 stO).trans (Ent.d9 aL 7 bB)) ⟨none,0,[],rfl,rfl,rfl⟩
 refine Hz ?_;intros;refine GO.ef (Ef.g8 aL st0 rfl rfl rfl ab ab ab ab) ah ?_;rintro _ _⟨bs,rfl,rfl⟩;rw[show(ms.length:Int).toNat=ms.length by omega];refine Hz ?_;intros
 refine G.loop (α:=Nat×List StV) (fun z=>z.1≤ms.length∧z.2.length=ms.length∧(z.2.take z.1).map (·.m)=(ms.take z.1).map (·.m)) (fun z=>[(1,.func (.func 68) #[] #[]),(5,.slice (some ⟨bs,0,none⟩) ms.length ms.length),(14,.slice ad ms.length c),(15,ac (ms.length:Int)),(16,ac (z.1:Int))])
  (fun z=>osl aL 7 bB (some ⟨bs,0,none⟩) ms.length z.2::bigO stO (z.2.take z.1)::asl aL 7 bB ad c ms::allP bK ms::L) (fun z=>ms.length - z.1) (0,List.replicate ms.length st0) ⟨aj _,by simp,by simp⟩ ai ?_ ?_
 ·dsimp only;rw[cd];refine(Ent.l0 stO).trans ?_;exact ae
 rintro⟨i,zs⟩ ⟨hi,a7,a0⟩;dsimp only at hi a7 a0 ⊢;by_cases a2:i<ms.length
 case neg =>
  have a9:i=ms.length:=ab;subst a9;rw[aF ab,aF ab] at a0;rw[aF (show zs.length≤ms.length by omega)];refine Hz ?_;intros;refine KX.d7 an (Ent.refl _) ⟨some ⟨bs,0,none⟩,ms.length,zs,by rw[a7];rfl,a0,rfl⟩
 have a5:(i:Int).toNat=i:=ab;have a6:ms[i]!∈ms:=aG a2;have a4:=hp _ a6;refine Hz ?_;intros;rw[a5];refine GO.ent (Ent.at (A:=allP bK ms) ((Ent.d8 (f:=bK) (x:=ms[i]!) a6).trans Ent.andE)) ?_;refine GO.ef (Ef.d8 rfl rfl (xp ms[i]! a4.1 a4.2)) ah ?_;rintro _ _⟨m',rfl,a8,rfl⟩;refine Hz ?_;intros;refine GO.efu (Ef.e7 (e:=m') rfl rfl (by rfl) (by rfl) (jm _) ab) ?_;rintro _ _ rfl;rw[a5];refine Hz ?_;intros;refine⟨(i+1,zs.set i m'),⟨by dsimp only;omega,by dsimp only;simp;omega,?_⟩,by dsimp only;omega,?_,?_⟩
 ·dsimp only;rw[dS ab,aC a2,aZ,aZ,a0,←getElem!_of a2];simp[a8]
 ·dsimp only;rw[aK i];exact ai
 ·dsimp only;rw[dS ab];refine Ent.d7 ?_;refine Ent.trans (B:=stO m'::bigO stO (zs.take i)::asl aL 7 bB ad c ms::allP bK ms::L) ae ?_;exact Ent.m5
def xK{L:LH}(b:Nat)(S:LedM)(hS:∀s∈S.steps,s.moves.length≤64∧∀u∈s.moves,u.parts.length≤1000000)(a3:S.steps.length≤100000) :
  Tri ag 25 #[av b] (LedR b S::L) (fun v L'=>∃ad cap ss,v=.slice ad ss.length cap∧ss.map StV.m=S.steps∧L' = osl aL 7 bB ad cap ss::bigO stO ss::LedR b S::L):=by
 refine Tri.bd ?_;refine G.f7 (f:=ledA b S) ?_;intro x;simp only[ledA,ledL,fw,ax,ap];refine G.g8 ?_;intro hF;have a4:x.steps.length=S.steps.length:=by rw[←hF.steps];simp
 have a1:∀m∈x.steps,m.moves.length≤64∧∀u∈m.moves,u.m.parts.length≤1000000:=fun m hm=>by
  have h1:=hS m.m (by rw[←hF.steps];exact alStd0List_mem_map_of_mem hm);exact⟨by have:=h1.1;simpa [StV.m] using this,fun u hu=>h1.2 u.m (alStd0List_mem_map_of_mem hu)⟩
 refine Hz ?_;intros;refine GO.ent (Ent.at (A:=asl aL 7 bB x.sad x.scap x.steps) (Ent.d7 (Ent.at (A:=allP bK x.steps) (Ent.refl _)))) ?_;refine GO.ca (xj x.sad x.scap x.steps ab a1) ?_;rintro _ _⟨a0,c',fs,rfl,a2,rfl⟩;refine Hz ?_;intros;refine KX.d7 an ?_ ⟨a0,c',fs,rfl,a2.trans hF.steps,rfl⟩;refine Ent.trans ?_ (Ent.d7 (Ent.d7 (mE x hF)));simp only[ledL];exact ae
end
section
open Go.V
def it22:List ItG:=[⟨⟨#[103,111,108,100]⟩,false,false,true,0,0,0⟩,⟨⟨#[111,114,101]⟩,false,false,false,0,0,0⟩,⟨⟨#[100,117,115,116]⟩,false,true,false,0,0,0⟩,⟨⟨#[103,101,109]⟩,false,false,false,0,0,0⟩]
def cat22:CatM:=⟨it22,[],[],[]⟩
def Ct:CatGood cat22:=by
 refine⟨by decide,by decide,by decide,by decide,?_,?_,?_,?_,by decide,by decide,by decide,by decide⟩
 ·intro x hx;simp only[cat22,it22,bz,aV,or_false] at hx;rcases hx with rfl|rfl|rfl|rfl<;>exact⟨lH (by decide +kernel),by decide,by decide⟩
 ·intro r hr;cases hr
 ·intro r hr;cases hr
 ·intro r hr;cases hr
def rB:cat22.Ok:=⟨(fun r hr=>by cases hr),(fun r hr=>by cases hr),(fun r hr=>by cases hr)⟩
def jx(bi:Nat):CatV:=⟨it22,some ⟨bi,0,none⟩,4,[],none,0,[],none,0,[],none,0⟩
def Fp(bi:Nat):(jx bi).B:=by
 refine⟨az rfl,az rfl,az rfl,az rfl,?_,?_,?_⟩<;>intro r hr<;>cases hr
attribute [local irreducible] G GO GP GPW GPK GF GE Ev Ef EfR Ent CB GB V.Enters
def tO{L:LH}:Tri ag 51 #[] L (fun v L'=>∃c:CatV,v=.agg c.cells.toArray∧(c.m=cat22∧c.B)∧L' = catP c::L):=by
 refine Tri.bd ?_;refine Hz ?_;intros;rename_i b0 bi;refine KX.d7 (vs:=[.agg (jx bi).cells.toArray]) (ResOk.cell rfl (by rfl) ResOk.nil) ?_ ⟨jx bi,rfl,⟨rfl,Fp bi⟩,rfl⟩;refine(Ent.g8 (b:=bi) (enc:=bU) (sz:=7) it22 rfl (fun _ _=>rfl) (az rfl)).trans ?_;refine(Ent.e7 txP).trans ((Ent.f7 cv 2 none).trans (Ent.trans (Ent.e8 (bQ _ _ _ _) (cB lm)) ?_));refine(Ent.e7 tbP).trans ((Ent.f7 cw 2 none).trans (Ent.trans (Ent.e8 (bQ _ _ _ _) (cB kf)) ?_));refine(Ent.e8 (mL (jx bi)) (mK (jx bi))).trans ?_;refine(Ent.e7 ruP).trans ((Ent.f7 bR 9 none).trans (Ent.trans (Ent.e8 (bQ _ _ _ _) (cB ji)) ?_));refine(Ent.e8 (pT (jx bi)) ((mL (jx bi)).and (mK (jx bi)))).trans ?_;refine(Ent.swap.trans (Ent.e8 (xv (jx bi)) ((pT (jx bi)).and ((mL (jx bi)).and (mK (jx bi)))))).trans ?_;exact Ent.d7 Ent.drop
def BS{L:LH}(sh:Int)(c:CatV)(a1:0≤sh∧sh<12)(hB:c.B)(h:CatGood c.m):Tri ag 23 #[ac sh,.agg c.cells.toArray] (catP c::bX::L) (fun v L'=>∃b,v=.tuple #[av b,ac 0]∧L' = LedR b (led0 sh c.m)::catP c::bX::L):=by
 obtain⟨h1,h2⟩:=a1;refine Tri.bd ?_;simp only[CatV.cells];refine Hz ?_;intros;rename_i b3;refine GO.ent (L':=catP c::bX::obj b3 tCat c.cells::L) (by simp only[CatV.cells];exact ae) ?_;refine GO.cr (Ei c hB h) ?_;simp only[CatV.cells];refine Hz ?_;intros;refine GO.ent (L':=catP c::bX::obj b3 tCat c.cells::L) (by simp only[CatV.cells];exact ae) ?_;refine GO.ca (vh c hB) ?_;rintro _ _⟨c',rfl,a0,rfl⟩;simp only[CatV.cells];refine GO.ef (Ef.d9 kvP Stk.v (.inl rfl)) ah ?_;rintro _ _⟨b1,rfl,rfl⟩;refine GO.ef (Ef.d9 kvI encN (.inl rfl)) ah ?_;rintro _ _⟨b2,rfl,rfl⟩;refine GO.ef (Ef.d9 kvI Stk.v (.inl rfl)) ah ?_;rintro _ _⟨b4,rfl,rfl⟩;refine GO.ef (Ef.d9 kvI Stk.v (.inl rfl)) ah ?_;rintro _ _⟨b5,rfl,rfl⟩;refine Hz ?_;intros;rename_i b6;refine KX.d7 an ?_ ⟨b6,rfl,rfl⟩;refine Ent.trans ?_ (mE (S:=led0 sh c.m) ⟨c',b1,b2,b4,b5,[],[],[],[],[],none,0,[],none,0⟩ ⟨a0,CatV.d7 a0 hB,fun _ _=>rfl,(fun _ h=>by cases h),fun _=>rfl,rfl,rfl,fun _=>rfl,fun _=>rfl⟩);simp only[ledL,fw,led0];refine(Ent.d9 aL 7 bB).trans (Ent.ofOsl.trans ((Ent.d9 aM 11 bY).trans (Ent.ofOsl.trans ?_)));refine(Ent.e7 (fun p:(Int×Int)×Stk=>stkP p.2)).trans ((Ent.e7 bK).trans ((Ent.e7 flP).trans ((Ent.e7 (fun p:Int×Stk=>stkP p.2)).trans ((Ent.e7 (fun p:Int×Stk=>stkP p.2)).trans ?_))));exact ae
