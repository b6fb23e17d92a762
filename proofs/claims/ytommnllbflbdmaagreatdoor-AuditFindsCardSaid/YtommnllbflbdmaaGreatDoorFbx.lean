/- Lemmas. -/
import Derived.Test.YtommnllbflbdmaaGreatDoorFbt
import Derived.Test.YtommnllbflbdmaaGreatDoorRows
import Derived.LaidMore
import Derived.Stop.Joined
set_option linter.all false
set_option maxHeartbeats 16000000
namespace Go.Proofs.YtommnllbflbdmaaGreatDoor
section
open Go.V
def Ei{sh:Int}{fl:List FlM}{mix:Int→Bool}{s:StM}{N:Nat}{W:Wk}{m:MvM}(h1:W.sunk.length≤W.flows.length)(h2:W.flows.length≤N)(h3:∀f∈W.flows,f.made.length≤N):(cC sh fl mix s W m).2.sunk.length≤(cC sh fl mix s W m).2.flows.length∧(cC sh fl mix s W m).2.flows.length≤W.flows.length+1∧∀f∈(cC sh fl mix s W m).2.flows,f.made.length≤N:=by
 have hn:∀f∈W.flows++[fk sh fl.length mix s W m],f.made.length≤N:=fun f hf=>by
  rcases List.mem_append.1 hf with h|h
  ·exact h3 f h
  ·rw[List.mem_singleton.1 h];show(cW s W m).length≤N;unfold cW;split
   ·omega
   ·exact ax _
 have hl:(W.flows++[fk sh fl.length mix s W m]).length=W.flows.length+1:=by rw[aq,aM]
 unfold cC;split
 ·exact⟨h1,bP _,h3⟩
 ·split
  ·exact⟨h1,bP _,h3⟩
  ·split
   ·refine⟨?_,Nat.le_of_eq hl,hn⟩;show(W.sunk++[cL sh fl.length W]).length≤(W.flows++[fk sh fl.length mix s W m]).length;rw[hl,aq,aM];omega
   ·split
    ·exact⟨h1,bP _,h3⟩
    ·refine⟨?_,Nat.le_of_eq hl,hn⟩;show W.sunk.length≤(W.flows++[fk sh fl.length mix s W m]).length;rw[hl];omega
def rL{sh:Int}{fl:List FlM}{mix:Int→Bool}{s:StM}{N:Nat}:∀(ms:List MvM) (W:Wk),W.sunk.length≤W.flows.length→W.flows.length+ms.length≤N→(∀f∈W.flows,f.made.length≤N)→∀f∈(dy sh fl mix s W ms).2.flows,f.made.length≤N
 | [],_,_,_,h=>h
 | m::ms,W,h1,h2,h3=>by
  have e:dy sh fl mix s W (m::ms)=if(cC sh fl mix s W m).1=0 then dy sh fl mix s (cC sh fl mix s W m).2 ms else((cC sh fl mix s W m).1,W):=rfl;rw[bD] at h2;obtain⟨g1,g2,g3⟩:=Ei (sh:=sh) (fl:=fl) (mix:=mix) (s:=s) (N:=N) (m:=m) h1 ab h3;rw[e];split
  ·exact rL ms _ g1 ab g3
  ·exact h3
def uL{S:LedM}{s:StM}(h:(gTry S s).1=0):gTry S s=dy S.shard S.flows (bF S.cat) (s.at (aP S)) (wk0 S) s.moves:=by
 by_cases h1:65536≤S.steps.length
 ·have e:gTry S s=(4,wk0 S):=by unfold gTry;rw[if_pos h1]
  rw[e] at h;exact absurd (show(4:Int)=0 from h) ae
 have h2:=kX h;unfold gTry;rw[if_neg h1,if_neg (fun q=>q h2)]
def LRep.made{sh:Int}{c:CatM}{S:LedM}(h:LRep sh c S):∀f∈S.flows,f.made.length≤64:=by
 induction h with
 | zero=>intro f hf;cases hf
 | @post S s _ h0 ih =>
  have e1:cM S s=gt S s:=if_pos h0;have hp:=kX h0;have hl:=hp.2.2.2.1.2;rw[e1];intro f hf;rcases List.mem_append.1 (show f∈S.flows++(gTry S s).2.flows from hf) with q|q
  ·exact ih f q
  ·rw[uL h0] at q;exact rL (N:=64) s.moves (wk0 S) (aB _) (by show 0+_≤64;omega) (fun f hf=>by cases hf) f q
def tm{a i:Int}:∀{l:List StV},(∀s∈l,lotsIn a i s.m.moves≤1)→stL a i (l.map StV.m)≤l.length
 | [],_=>aB _
 | s::l,h=>by
  have h1:=tm (l:=l) (fun u hu=>h u (aw _ hu));have h2:=h s au;show lotsIn a i s.m.moves+stL a i (l.map StV.m)≤l.length+1;omega
def GenR.lotsIn{sh:Int}{i:Nat}{S:LedM}{x:RLX}(h:GenR sh i S x)(a j:Int):∀s∈x.steps,lotsIn a j s.m.moves≤1:=fun s hs=>(h.st s hs).lots (h.ne s hs) a j
def GenR.stepsLen{sh:Int}{i:Nat}{S:LedM}{x:RLX}(h:GenR sh i S x):x.steps.length≤i:=by
 rw[h.lens.1];exact h.steps
def GenR.audS{sh:Int}{i:Nat}{S:LedM}{x:RLX}(h:GenR sh i S x)(hi:i≤19):AudS x.steps:=by
 have h1:=h.stepsLen;have h2:=ti h.st;exact⟨ab,fun s hs=>⟨(h.st s hs).inp,(h.st s hs).cap⟩,ab,fun a j=>cO (tm (h.lotsIn a j)) ab⟩
def GenR.flB{sh:Int}{i:Nat}{S:LedM}{x:RLX}(h:GenR sh i S x)(hi:i≤100):x.flows.length≤6400∧∀f∈x.flows,f.m.parts.length≤2047∧f.m.made.length≤64:=by
 obtain⟨k,hk,hl⟩:=h.led;obtain⟨e1,e2,e3,e4⟩:=h.lens;have e5:=h.steps;refine⟨ab,fun f hf=>?_⟩;have hm:f.m∈S.flows:=by rw[←h.rf.flows];exact alStd0List_mem_map_of_mem hf
 exact⟨(hl.g.fl f.m hm).2,h.rep.made f.m hm⟩
end
section
open Go.V
attribute [local irreducible] G GO GP GPW GPK Ev Ef EfR Ent CB GB V.Enters
end
section
open Go.V
attribute [local irreducible] G GO GP GPW GPK GF GE Ev Ef EfR Ent CB GB V.Enters
end
section
open Go.V
def yk{sh:Int}{c:CatM}(h:0≤sh∧sh<12):(led0 sh c).Ok:=⟨h,ax _,ax _,fun _ _=>⟨ax _,(fun _ hx=>by cases hx)⟩,fun _=>by show -(((0:Nat):Int)*1099511627776)≤(0:Int)∧(0:Int)≤1099511627776;omega⟩
def Cd{s:StV}(hk:s.kind=0∨s.kind=2)(hm:∃u,u.m.parts=[]∧s.moves=[u])(hc:1≤s.mcap)(hr:s.rule = -1):StIn s:=by
 obtain⟨u,hu,hm⟩:=hm;refine⟨?_,by rw[hm];show 1≤1000000;decide,by rw[hm];exact hc,by rw[hr];unfold I64;decide,fun m h=>?_⟩
 ·rcases hk with h|h
  ·exact .inl h
  ·exact .inr (.inr (.inr (.inl h)))
 ·rw[hm] at h;rw[List.mem_singleton.1 h,hu];decide
def exMv_ent{b:Nat}{f t n:Int}{L:LH}:Ent (obj b tMv [ac f,ac t,ac 0,ac n,ah none 0 0]::L) (isl aL 5 (some ⟨b,0,none⟩) [(⟨⟨f,t,0,n,[]⟩,none,0⟩:MvV)]::allP mvP [(⟨⟨f,t,0,n,[]⟩,none,0⟩:MvV)]::L) :=
 (Ent.f7 (enc:=aL) (sz:=5) (xs:=[(⟨⟨f,t,0,n,[]⟩,none,0⟩:MvV)]) (n:=1) rfl rfl (fun _ _=>rfl) ae).trans (Ent.freezeSl.trans (Ent.d7 ((Ent.e8 aj 3 none).trans (Ent.f8 (f:=mvP) (x:=(⟨⟨f,t,0,n,[]⟩,none,0⟩:MvV)) ix))))
attribute [local irreducible] G GO GP GPW GPK GF GE Ev Ef EfR Ent CB GB V.Enters
def mZ{L:LH}:Tri ai 16 #[] (bZ::L) (rtQ (.bool true) (bZ::L)):=by
 refine Tri.bd ?_;refine JM ?_;intros;refine GO.ca (uU) ?_;rintro _ _⟨c,rfl,⟨hc,hB⟩,rfl⟩;have c7:CatGood c.m:=hc▸EF;simp only[CatV.cells];refine JM ?_;intros;rename_i b1;refine GO.ent (L':=catP c::bZ::obj b1 tCat c.cells::L) (by simp only[CatV.cells];exact ag) ?_;refine GO.ca (Eb 0 c ae hB c7) ?_;rintro _ _⟨lb,rfl,rfl⟩;rw[hc];refine JM ?_;intros;rename_i a6;refine GO.ent (L':=LedR lb (led0 0 cat22)::stM (exVS none 0 (some ⟨a6,0,none⟩) 1)::stP (exVS none 0 (some ⟨a6,0,none⟩) 1)::catP c::bZ::obj b1 tCat c.cells::L) (exMv_ent.trans ag) ?_;refine GO.cr (vi lb (led0 0 cat22) (yk ae) sM (exVS none 0 (some ⟨a6,0,none⟩) 1) (Cd (.inl rfl) ⟨_,rfl,rfl⟩ (aB _) rfl) wu) ?_;rw[show ll (led0 0 cat22) (exVS none 0 (some ⟨a6,0,none⟩) 1).m=exL1 from Ce];refine GO.ent (L':=LedR lb exL1::catP c::bZ::obj b1 tCat c.cells::L) ag ?_;refine JM ?_;intros;rename_i a7;refine GO.ent (L':=LedR lb exL1::stM (exVT 3 none 0 (some ⟨a7,0,none⟩) 1)::stP (exVT 3 none 0 (some ⟨a7,0,none⟩) 1)::catP c::bZ::obj b1 tCat c.cells::L) (exMv_ent.trans ag) ?_;have b4:exL1.Ok:=by rw[←Ce];exact Hi (yk ae) wu
 refine GO.cr (vi lb exL1 b4 sM ({ exVT 3 none 0 (some ⟨a7,0,none⟩) 1 with id:=0 }:StV) (Cd (.inr rfl) ⟨_,rfl,rfl⟩ (aB _) rfl) wu) ?_;rw[show ll exL1 ({ exVT 3 none 0 (some ⟨a7,0,none⟩) 1 with id:=0 }:StV).m=exL2 from IQ];refine GO.ent (L':=LedR lb exL2::catP c::bZ::obj b1 tCat c.cells::L) ag ?_;refine JM ?_;intros
 have b5:∀s∈exL2.steps,s.moves.length≤64∧∀u∈s.moves,u.parts.length≤1000000:=by
  intro s hs;rcases List.mem_cons.1 hs with rfl|hs
  ·exact⟨by show 1≤64;decide,fun u hu=>by rw[List.mem_singleton.1 hu];show 0≤1000000;decide⟩
  ·rw[List.mem_singleton.1 hs];exact⟨by show 1≤64;decide,fun u hu=>by rw[List.mem_singleton.1 hu];show 0≤1000000;decide⟩
 have b3:∀f∈exL2.flows,f.parts.length≤1000000∧f.made.length≤1000000:=by
  intro f hf;rcases List.mem_cons.1 hf with rfl|hf
  ·exact⟨by show 0≤1000000;decide,by show 0≤1000000;decide⟩
  ·rw[List.mem_singleton.1 hf];exact⟨by show 1≤1000000;decide,by show 0≤1000000;decide⟩
 refine GO.ca (zm lb exL2 b5 (by show 2≤100000;decide)) ?_;rintro _ _⟨sad,scap,ss,rfl,c3,rfl⟩;have d4:ss.length=2:=by rw[←az (f:=StV.m),c3];rfl
 rw[d4];refine JM ?_;intros;refine GO.ent (L':=LedR lb exL2::osl aN 7 ba sad scap ss::bigO stO ss::catP c::bZ::obj b1 tCat c.cells::L) ag ?_;refine GO.ca (rN lb exL2 b3 (by show 2≤100000;decide)) ?_;rintro _ _⟨fad,fcap,fs,rfl,b8,rfl⟩;have b7:fs.length=2:=by rw[←az (f:=FlV.m),b8];rfl
 rw[b7];refine GO.d8 (gA (ad:=fad) (cap:=fcap) (xs:=fs) (enc:=aQ) (sz:=11) (E:=bE)) ?_;rintro⟨a8,_⟩;rw[b7] at a8;obtain⟨p0,c0,a0,k0,p1,c1,a1,k1,rfl⟩:=Ir c3;obtain⟨q0,d0,m0,e0,q1,d1,m1,e1,rfl⟩:=IM b8;generalize hs0:exVS p0 c0 a0 k0=s0 at *;generalize hs1:exVT 3 p1 c1 a1 k1=s1 at *;generalize hf0:(⟨exF0,q0,d0,m0,e0⟩:FlV)=f0 at *;generalize hf1:(⟨exF1 0,q1,d1,m1,e1⟩:FlV)=f1 at *;refine GO.ent (L':=osl aL 5 tMv s0.mad s0.mcap s0.moves::stP s0::osl aL 5 tMv s1.mad s1.mcap s1.moves::stP s1::osl aj 3 tLot f0.pad f0.pcap f0.m.parts::osl (encZ .i64) 1 tInt f0.mad f0.mcap f0.m.made::osl aj 3 tLot f1.pad f1.pcap f1.m.parts::osl (encZ .i64) 1 tInt f1.mad f1.mcap f1.m.made::osl aN 7 ba sad scap [s0,s1]::osl aQ 11 bE fad fcap [f0,f1]::catP c::(bZ::obj b1 tCat c.cells::L)) ?_ ?_
 ·refine(Ent.at (A:=bigO stO [s0,s1]) Eq).trans ?_;refine(Ent.at (A:=bigO flO [f0,f1]) Er).trans ?_;exact ag
 refine GO.d8 (gA (ad:=s0.mad) (cap:=s0.mcap) (xs:=s0.moves) (enc:=aL) (sz:=5) (E:=tMv)) ?_;rintro⟨b9,_⟩;refine GO.d8 (gA (ad:=s1.mad) (cap:=s1.mcap) (xs:=s1.moves) (enc:=aL) (sz:=5) (E:=tMv)) ?_;rintro⟨c2,_⟩;refine GO.ent Gp ?_;have a9:AudS [s0,s1]:=by subst hs0 hs1;exact Gs b9 c2
 have c5:AudFl [f0,f1]:=by subst hf0 hf1;exact Cf
 have d3:f1.m.parts.length=1:=by subst hf1;rfl
 have c9:s1.moves.length=1:=by subst hs1;rfl
 refine JM ?_;intros;have b2:c.m.Ok:=hc▸sM;have c6:∀s∈[s0,s1],s.moves.length≤1000000:=fun s hs=>(a9.inp s hs).1.len;refine GO.cr (qR c hB b2 sad fad scap fcap s0 s1 f0 f1 a9 c5 a8) ?_;rw[show audF 0 c.m [s0.m,s1.m] [f0.m,f1.m]=(0,0,0) by subst hs0 hs1 hf0 hf1;rw[hc];exact Js];simp only[fe];refine GO.e7 rfl rfl ?_;refine GO.ev (Ev.A3 (off:=0) (fs:=Tryz.prog.fieldsOf tFnd) (fd:=(Tryz.prog.fieldsOf tFnd)[0]!) krStd0 krStd0 krStd0 (fun _=>krStd0) rfl rfl) ae ?_;refine JM ?_;intros;refine GO.ca (Cx 4 c sad fad scap s0 s1 f0 f1 c6) ?_;rintro _ _⟨⟨tad,tcap⟩,rfl,rfl⟩;rw[show resT 4 [s0,s1]=(0,[5,0,0,0]) by subst hs0 hs1;exact JB];dsimp only;refine JM ?_;intros;refine GO.ent (L':=iR c sad fad s0 s1 f0 f1 (osl (encZ .i64) 1 tInt tad tcap [5,0,0,0]::bZ::obj b1 tCat c.cells::L)) (by simp only[iR];exact ag) ?_;refine GO.ca (yq 4 c sad fad scap s0 s1 f0 f1 (by subst hs0 hs1;show 2≤100000;decide)) ?_;rintro _ _⟨⟨b6,a5,hs⟩,⟨rfl,_,hh⟩,rfl⟩;have hH:=@JD p0 c0 a0 k0 p1 c1 a1 k1;rw[hs0,hs1] at hH;rw[if_pos hH.1] at hh;obtain rfl:hs=[(1,0,2),(2,0,3)]:=hh.unique hH.2 (fun _ _=>rfl);dsimp only;rw[hH.1];refine JM ?_;intros;have eF:([f0,f1]:List FlV)[Int.toNat 1]! = f1:=rfl;have eT:([5,0,0,0]:List Int).length=4:=rfl;have eH:([(1,0,2),(2,0,3)]:List Hd).length=2:=rfl;rw[eF];simp only[eT,eH];refine JM ?_;intros;have d2:(Int.toNat 0)<f1.m.parts.length:=by rw[d3];decide
 refine GO.efu (Ef.e9 (e:=((f1.m.parts[Int.toNat 0]!.1,1,f1.m.parts[Int.toNat 0]!.2.2):Lot)) rfl rfl aK rfl d2 ae) ?_;rintro _ _ rfl;obtain⟨f2,a2⟩:∃f,(⟨exF1 1,q1,d1,m1,e1⟩:FlV)=f:=⟨_,rfl⟩;have g1:f2.pad=f1.pad:=by subst hf1 a2;rfl
 have g2:f2.pcap=f1.pcap:=by subst hf1 a2;rfl
 have g3:f2.m.parts=f1.m.parts.set (Int.toNat 0) (f1.m.parts[Int.toNat 0]!.1,1,f1.m.parts[Int.toNat 0]!.2.2):=by subst hf1 a2;rfl
 have g4:f2.mad=f1.mad:=by subst hf1 a2;rfl
 have g5:f2.m.made=f1.m.made:=by subst hf1 a2;rfl
 have g6:[f0,f1].map aQ=[f0,f2].map aQ:=by subst hf1 a2;rfl
 have a4:AudFl [f0,f2]:=by subst hf0 a2;exact Cf
 refine GO.ent (L':=iR c sad fad s0 s1 f0 f2 (osl (encZ .i64) 1 tInt tad tcap [5,0,0,0]::osl ir 3 tHd b6 a5 [(1,0,2),(2,0,3)]::bZ::obj b1 tCat c.cells::L)) ?_ ?_
 ·simp only[iR];rw[g1,g2,g3,g4,g5];refine(Ent.at (A:=isl aQ 11 fad [f0,f1]) (Ent.n8 g6)).trans ?_;exact ag
 refine JM ?_;intros;refine GO.cr (qR c hB b2 sad fad scap fcap s0 s1 f0 f2 a9 a4 a8) ?_;rw[show audF 0 c.m [s0.m,s1.m] [f0.m,f2.m]=(20,0,1) by subst hs0 hs1 hf0 a2;rw[hc];exact Jr];simp only[fe];refine JM ?_;intros;rename_i c4;have eS:([s0,s1]:List StV)[Int.toNat 1]! = s1:=rfl;rw[eS];have c8:(Int.toNat 0)<s1.moves.length:=by rw[c9];decide
 refine JM ?_;intros;refine GO.efu (Ef.e9 (e:=(⟨⟨s1.moves[Int.toNat 0]!.m.frm,s1.moves[Int.toNat 0]!.m.to,s1.moves[Int.toNat 0]!.m.item,6,s1.moves[Int.toNat 0]!.m.parts⟩,s1.moves[Int.toNat 0]!.pad,s1.moves[Int.toNat 0]!.pcap⟩:MvV)) rfl rfl aK rfl c8 ae) ?_;rintro _ _ rfl;obtain⟨s2,a3⟩:∃s,exVT 6 p1 c1 a1 k1=s:=⟨_,rfl⟩;have d5:s2.mad=s1.mad:=by subst hs1 a3;rfl
 have d6:s2.mcap=s1.mcap:=by subst hs1 a3;rfl
 have e2:s2.moves=s1.moves.set (Int.toNat 0) ⟨⟨s1.moves[Int.toNat 0]!.m.frm,s1.moves[Int.toNat 0]!.m.to,s1.moves[Int.toNat 0]!.m.item,6,s1.moves[Int.toNat 0]!.m.parts⟩,s1.moves[Int.toNat 0]!.pad,s1.moves[Int.toNat 0]!.pcap⟩:=by subst hs1 a3;rfl
 have e3:[s0,s1].map aN=[s0,s2].map aN:=by subst hs1 a3;rfl
 have e4:∀y∈s2.moves,∃x∈s1.moves,mvP y=mvP x:=by
  subst hs1 a3;intro y hy;rw[List.mem_singleton.1 hy];exact⟨_,au,rfl⟩
 have b0:AudS [s0,s2]:=by subst hs0 hs1 a3;exact Gs b9 c2
 refine GO.ent (L':=iR c sad fad s0 s2 f0 f2 (osl (encZ .i64) 1 tInt tad tcap [5,0,0,0]::osl ir 3 tHd b6 a5 [(1,0,2),(2,0,3)]::bZ::obj c4 tFnd [ac 20,ac 0,ac 1]::obj b1 tCat c.cells::L)) ?_ ?_
 ·simp only[iR];refine(Ent.at (A:=isl aN 7 sad [s0,s1]) (Ent.n8 e3)).trans ?_;refine(Ent.at (A:=allP mvP s1.moves) (Ent.l7 e4)).trans ?_;rw[←e2,d5,d6];exact ag
 refine JM ?_;intros;refine GO.cr (qR c hB b2 sad fad scap fcap s0 s2 f0 f2 b0 a4 a8) ?_;rw[show audF 0 c.m [s0.m,s2.m] [f0.m,f2.m]=(10,0,1) by subst hs0 a3 hf0 a2;rw[hc];exact Jq];simp only[fe];refine JM ?_;intros;rename_i e5;exact KX.d7 an (by simp only[iR];exact ag) ⟨by rw[aU (show([(1,0,2),(2,0,3)]:List Hd)[Int.toNat 1]!.2.2=3 from rfl)];rfl,rfl⟩
end
section
open Go.V
def vp:∀{ss:List StV} {k:Nat},(∀s∈ss,s.moves.length≤k)→(fO ss).length≤k*ss.length
 | [],_,_=>ax _
 | s::ss,k,h=>by
  have h1:=vp (ss:=ss) (fun u hu=>h u (aw _ hu));have h2:=h s au;have e:fO (s::ss)=s.moves.map MvV.m++fO ss:=rfl;rw[e,aq,az,bD,fP];omega
structure StTs (ss:List StV):Prop where
 len:ss.length≤100
 mv:∀s∈ss,s.moves.length≤4
def StTs.tot{ss:List StV}(h:StTs ss):ss.length≤1000000∧(∀s∈ss,s.moves.length≤1000000)∧(fO ss).length≤100000:=by
 have h1:=h.len;have h2:=vp h.mv;exact⟨ab,fun s hs=>by have:=h.mv s hs;omega,ab⟩
def StG0.len{s:StV}(h:StG0 s):s.moves.length≤4:=h.sp.len
attribute [local irreducible] G GO GP GPW GPK GF GE Ev Ef EfR Ent CB GB V.Enters
end
section
open Go.V Go.ChangeShapes Go.WideShapes Go.ChangeAt Go.RowKit
abbrev laidK : List (String × DataW Unit) := [("worldmint/lexer.kinds", Rows.laid_worldmint_lexer_kinds)]
def gK : Tryz.prog.globalNamed "worldmint/lexer.kinds" = some 2 := krStd0
def tK:(Tryz.prog.globals[2]?).map (·.type)=some 359:=krStd0
def uK:Tryz.prog.underlying 359=some (.array 128 5):=krStd0
def uE:Tryz.prog.underlying 5=some (.int .u8):=krStd0
def cE:Tryz.prog.cellsOf 5=1:=krStd0
def Jl:(Rows.laid_worldmint_lexer_kinds:DataW Unit)=.agg (kindsL.map fun x=>.lit (.int .u8 x)):=by rfl
set_option maxRecDepth 100000 in
def HH(os:Os)(args:Array Value):laidMetH ai laidK ((World.doorLaid ai 400 os).forCall (fun _ _=>0) ⟨#[],args,[]⟩).memory :=
 laidMetH_of_parts3 (fuel:=8) (laidMet_of_run' 8 krStd0 krStd0) krStd0 krStd0
def Ed{W:World}(h:laidMetH ai laidK W):bZ (iv W) Hp.emp:=by
 rw[MakeChecks.laidMetH_plain _ _ _ krStd0] at h;obtain⟨ps,⟨g0,t0,a1,f0,p0,q0,a7,b0,b1,a4,_,_⟩,_,_⟩:=h;obtain rfl:=Option.some.inj (gK.symm.trans a7);obtain rfl:=Option.some.inj (tK.symm.trans b0);obtain⟨xs,m1,rfl,a2,a9,hn,a5⟩:=DataW.trod_array uK a4;simp only[Prod.mk.injEq] at a2;have hx:=a2.1;rw[Jl,DataW.agg.injEq] at hx;have b3:=tS
 have cell:∀i,i<128→a1[i]? = some (.int .u8 kindsL[i]!):=by
  intro i hi;have h0:=a5 i hi;obtain⟨x,a3⟩:∃x,xs[i]? = some x:=⟨xs[i]'(by omega),List.getElem?_eq_getElem ab⟩;rw[a3] at h0;obtain⟨k,e1,e2,_⟩:=DataW.trod_int uE h0;have hm:(xs.map (·.1))[i]? = some x.1:=by rw[List.getElem?_map,a3];rfl
  rw[←hx,List.getElem?_map,List.getElem?_eq_getElem ab] at hm;rw[e2] at hm;simp only[fm,Option.some.injEq,DataW.lit.injEq,Lit.int.injEq,true_and] at hm;rw[cE,Nat.mul_one] at e1
  have h1:(a1.toList.drop i)[0]? = some (.int .u8 k):=by
   have:=congrArg (fun l=>l[0]?) e1
   simpa [List.getElem?_take] using this
  rw[List.getElem?_drop,Nat.add_zero,Array.getElem?_toList] at h1;rw[h1,←hm,getElem!_of ab]
 refine⟨fun _ _=>rfl,.inr ?_⟩;have a0:=b1;simp only[World.var?,gK,Option.bind_some] at a0;split at a0
 case h_1 cur E fz hb =>
  obtain rfl:=Option.some.inj a0;refine⟨2,0,cur,E,fz,rfl,hb,?_⟩;intro i v hi;rw[dl]
  have a6:kindsL.flatMap (encZ .u8)=kindsL.map fun x=>.int .u8 x:=by
   have:∀l:List Int,l.flatMap (encZ .u8)=l.map fun x=>.int .u8 x:=by
    intro l;induction l with
    | nil=>rfl
    | cons a t ih=>rw[bI,ih];rfl
   exact this _
  rw[a6,List.getElem?_map] at hi;obtain⟨x,b2,rfl⟩:=Option.map_eq_some_iff.1 hi;obtain⟨a8,rfl⟩:=List.getElem?_eq_some_iff.1 b2;rw[cell i ab,getElem!_of a8]
 all_goals simp at a0
