/- Lemmas. -/
import Derived.Test.YtommnllbflbdmaaGreatDoorLbw
set_option linter.all false
set_option maxHeartbeats 16000000
namespace Go.Proofs.YtommnllbflbdmaaGreatDoor
section
open Go.V
theorem wl{sh:Int}{c:CatM}(h:0≤sh∧sh<12):(led0 sh c).Ok:=⟨h,ao _,ao _,fun _ _=>⟨ao _,(fun _ hx=>by cases hx)⟩,fun _=>by show -(((0:Nat):Int)*1099511627776)≤(0:Int)∧(0:Int)≤1099511627776;omega⟩
theorem zK{s:StV}(hk:s.kind=0∨s.kind=2)(hm:∃u,u.m.parts=[]∧s.moves=[u])(hc:1≤s.mcap)(hr:s.rule = -1):StIn s:=by
 obtain⟨u,hu,hm⟩:=hm;refine⟨?_,by rw[hm];show 1≤1000000;decide,by rw[hm];exact hc,by rw[hr];unfold I64;decide,fun m h=>?_⟩
 ·rcases hk with h|h
  ·exact .inl h
  ·exact .inr (.inr (.inr (.inl h)))
 ·rw[hm] at h;rw[List.mem_singleton.1 h,hu];decide
theorem exMv_ent{b:Nat}{f t n:Int}{L:LH}:Ent (obj b tMv [ab f,ab t,ab 0,ab n,.slice none 0 0]::L) (isl aM 5 (some ⟨b,0,none⟩) [(⟨⟨f,t,0,n,[]⟩,none,0⟩:MvV)]::allP mvP [(⟨⟨f,t,0,n,[]⟩,none,0⟩:MvV)]::L) :=
 (Ent.e8 (enc:=aM) (sz:=5) (xs:=[(⟨⟨f,t,0,n,[]⟩,none,0⟩:MvV)]) (n:=1) rfl rfl (fun _ _=>rfl) ae).trans (Ent.freezeSl.trans (Ent.d7 ((Ent.e9 an 3 none).trans (Ent.g7 (f:=mvP) (x:=(⟨⟨f,t,0,n,[]⟩,none,0⟩:MvV)) iA))))
attribute [local irreducible] G GO GP GPW GPK GF GE Ev Ef EfR Ent CB GB V.Enters
theorem wj{L:LH}:Tri ah 16 #[] (cI::L) (fun v L'=>v=.bool true∧L' = cI::L):=by
 refine Tri.body (args:=[]) 144 en16 Tryz.func16 rfl rfl rfl (by simp) ?_;repeat first|refine aa ?_|intro
 refine GO.ef (Ef.d7 (tr) rfl) ae ?_;rintro _ _⟨c,rfl,⟨hc,hB⟩,rfl⟩;have hcg:CatGood c.m:=hc▸BT;simp only[CatV.cells];repeat first|refine aa ?_|intro
 rename_i b1;refine GO.ent (L':=catP c::cI::obj b1 tCat c.cells::L) (by simp only[CatV.cells];exact ag) ?_;refine GO.ef (Ef.d7 (Br 0 c ae hB hcg) rfl) ae ?_;rintro _ _⟨lb,rfl,rfl⟩;rw[hc];repeat first|refine aa ?_|intro
 rename_i bm0;refine GO.ent (L':=LedR lb (led0 0 cat22)::stM (exVS none 0 (some ⟨bm0,0,none⟩) 1)::stP (exVS none 0 (some ⟨bm0,0,none⟩) 1)::catP c::cI::obj b1 tCat c.cells::L) (exMv_ent.trans ag) ?_;refine GO.ef (Ef.d7 (tJ lb (led0 0 cat22) (wl ae) rh (exVS none 0 (some ⟨bm0,0,none⟩) 1) (zK (.inl rfl) ⟨_,rfl,rfl⟩ (aB _) rfl) Ag) rfl) ae ?_;rintro _ _⟨rfl,rfl⟩;rw[show kA (led0 0 cat22) (exVS none 0 (some ⟨bm0,0,none⟩) 1).m=exL1 from zL];refine GO.ent (L':=LedR lb exL1::catP c::cI::obj b1 tCat c.cells::L) ag ?_;repeat first|refine aa ?_|intro
 rename_i bm1;refine GO.ent (L':=LedR lb exL1::stM (exVT 3 none 0 (some ⟨bm1,0,none⟩) 1)::stP (exVT 3 none 0 (some ⟨bm1,0,none⟩) 1)::catP c::cI::obj b1 tCat c.cells::L) (exMv_ent.trans ag) ?_;have hok1:exL1.Ok:=by rw[←zL];exact Ej (wl ae) Ag
 refine GO.ef (Ef.d7 (tJ lb exL1 hok1 rh ({ exVT 3 none 0 (some ⟨bm1,0,none⟩) 1 with id:=0 }:StV) (zK (.inr rfl) ⟨_,rfl,rfl⟩ (aB _) rfl) Ag) rfl) ae ?_;rintro _ _⟨rfl,rfl⟩;rw[show kA exL1 ({ exVT 3 none 0 (some ⟨bm1,0,none⟩) 1 with id:=0 }:StV).m=exL2 from Ge];refine GO.ent (L':=LedR lb exL2::catP c::cI::obj b1 tCat c.cells::L) ag ?_;repeat first|refine aa ?_|intro
 have hst2:∀s∈exL2.steps,s.moves.length≤64∧∀u∈s.moves,u.parts.length≤1000000:=by
  intro s hs;rcases List.mem_cons.1 hs with rfl|hs
  ·exact⟨by show 1≤64;decide,fun u hu=>by rw[List.mem_singleton.1 hu];show 0≤1000000;decide⟩
  ·rw[List.mem_singleton.1 hs];exact⟨by show 1≤64;decide,fun u hu=>by rw[List.mem_singleton.1 hu];show 0≤1000000;decide⟩
 have hfl2:∀f∈exL2.flows,f.parts.length≤1000000∧f.made.length≤1000000:=by
  intro f hf;rcases List.mem_cons.1 hf with rfl|hf
  ·exact⟨by show 0≤1000000;decide,by show 0≤1000000;decide⟩
  ·rw[List.mem_singleton.1 hf];exact⟨by show 1≤1000000;decide,by show 0≤1000000;decide⟩
 refine GO.ef (Ef.d7 (xi lb exL2 hst2 (by show 2≤100000;decide)) rfl) ae ?_;rintro _ _⟨sad,scap,ss,rfl,hss,rfl⟩;have hsl:ss.length=2:=by rw[←aG (f:=StV.m),hss];rfl
 rw[hsl];repeat first|refine aa ?_|intro
 refine GO.ent (L':=LedR lb exL2::osl aJ 7 bh sad scap ss::bigO stO ss::catP c::cI::obj b1 tCat c.cells::L) ag ?_;refine GO.ef (Ef.d7 (zd lb exL2 hfl2 (by show 2≤100000;decide)) rfl) ae ?_;rintro _ _⟨fad,fcap,fs,rfl,hfs,rfl⟩;have hfl:fs.length=2:=by rw[←aG (f:=FlV.m),hfs];rfl
 rw[hfl];refine GO.e8 (fI (ad:=fad) (cap:=fcap) (xs:=fs) (enc:=aL) (sz:=11) (E:=bz)) ?_;rintro⟨hfc,_⟩;rw[hfl] at hfc;obtain⟨p0,c0,a0,k0,p1,c1,a1,k1,rfl⟩:=Fx hss;obtain⟨q0,d0,m0,e0,q1,d1,m1,e1,rfl⟩:=Gb hfs;generalize hs0:exVS p0 c0 a0 k0=s0 at *;generalize hs1:exVT 3 p1 c1 a1 k1=s1 at *;generalize hf0:(⟨exF0,q0,d0,m0,e0⟩:FlV)=f0 at *;generalize hf1:(⟨exF1 0,q1,d1,m1,e1⟩:FlV)=f1 at *;refine GO.ent (L':=osl aM 5 tMv s0.mad s0.mcap s0.moves::stP s0::osl aM 5 tMv s1.mad s1.mcap s1.moves::stP s1::osl an 3 tLot f0.pad f0.pcap f0.m.parts::osl (encZ .i64) 1 tInt f0.mad f0.mcap f0.m.made::osl an 3 tLot f1.pad f1.pcap f1.m.parts::osl (encZ .i64) 1 tInt f1.mad f1.mcap f1.m.made::osl aJ 7 bh sad scap [s0,s1]::osl aL 11 bz fad fcap [f0,f1]::catP c::(cI::obj b1 tCat c.cells::L)) ?_ ?_
 ·refine(Ent.at (A:=bigO stO [s0,s1]) BC).trans ?_;refine(Ent.at (A:=bigO flO [f0,f1]) BD).trans ?_;exact ag
 refine GO.e8 (fI (ad:=s0.mad) (cap:=s0.mcap) (xs:=s0.moves) (enc:=aM) (sz:=5) (E:=tMv)) ?_;rintro⟨hk0,_⟩;refine GO.e8 (fI (ad:=s1.mad) (cap:=s1.mcap) (xs:=s1.moves) (enc:=aM) (sz:=5) (E:=tMv)) ?_;rintro⟨hk1,_⟩;refine GO.ent Dy ?_;have hAS:AudS [s0,s1]:=by subst hs0 hs1;exact DB hk0 hk1
 have hAF:AudFl [f0,f1]:=by subst hf0 hf1;exact zM
 have hpl:f1.m.parts.length=1:=by subst hf1;rfl
 have hml:s1.moves.length=1:=by subst hs1;rfl
 repeat first|refine aa ?_|intro
 have hco:c.m.Ok:=hc▸rh;have hb2:∀s∈[s0,s1],s.moves.length≤1000000:=fun s hs=>(hAS.inp s hs).1.len;refine GO.ef (Ef.d7 (pD c hB hco sad fad scap fcap s0 s1 f0 f1 hAS hAF hfc) rfl) ae ?_;rintro _ _⟨rfl,rfl⟩;rw[show audF 0 c.m [s0.m,s1.m] [f0.m,f1.m]=(0,0,0) by subst hs0 hs1 hf0 hf1;rw[hc];exact GJ];simp only[dT];refine GO.f7 rfl rfl ?_;refine GO.ev (Ev.C6 (off:=0) (fs:=Tryz.prog.fieldsOf tFnd) (fd:=(Tryz.prog.fieldsOf tFnd)[0]!) ap ap ap (fun _=>by kernel_rfl) rfl rfl) ae ?_;repeat first|refine aa ?_|intro
 refine GO.ef (Ef.d7 (Ad 4 c sad fad scap s0 s1 f0 f1 hb2) rfl) ae ?_;rintro _ _⟨⟨tad,tcap⟩,rfl,rfl⟩;rw[show resT 4 [s0,s1]=(0,[5,0,0,0]) by subst hs0 hs1;exact GW];dsimp only;repeat first|refine aa ?_|intro
 refine GO.ent (L':=iC c sad fad s0 s1 f0 f1 (osl (encZ .i64) 1 tInt tad tcap [5,0,0,0]::cI::obj b1 tCat c.cells::L)) (by simp only[iC];exact ag) ?_;refine GO.ef (Ef.d7 (wu 4 c sad fad scap s0 s1 f0 f1 (by subst hs0 hs1;show 2≤100000;decide)) rfl) ae ?_;rintro _ _⟨⟨had,hcap,hs⟩,⟨rfl,_,hh⟩,rfl⟩;have hH:=@GY p0 c0 a0 k0 p1 c1 a1 k1;rw[hs0,hs1] at hH;rw[if_pos hH.1] at hh;obtain rfl:hs=[(1,0,2),(2,0,3)]:=hh.unique hH.2 (fun _ _=>rfl);dsimp only;rw[hH.1];repeat first|refine aa ?_|intro
 have eF:([f0,f1]:List FlV)[Int.toNat 1]! = f1:=rfl;have eT:([5,0,0,0]:List Int).length=4:=rfl;have eH:([(1,0,2),(2,0,3)]:List Hd).length=2:=rfl;rw[eF];simp only[eT,eH];repeat first|refine aa ?_|intro
 have hp0:(Int.toNat 0)<f1.m.parts.length:=by rw[hpl];decide
 refine GO.efu (Ef.e8 (e:=((f1.m.parts[Int.toNat 0]!.1,1,f1.m.parts[Int.toNat 0]!.2.2):Lot)) rfl rfl (by rfl) rfl hp0 ae) ?_;rintro _ _ rfl;obtain⟨f2,hf2⟩:∃f,(⟨exF1 1,q1,d1,m1,e1⟩:FlV)=f:=⟨_,rfl⟩;have g1:f2.pad=f1.pad:=by subst hf1 hf2;rfl
 have g2:f2.pcap=f1.pcap:=by subst hf1 hf2;rfl
 have g3:f2.m.parts=f1.m.parts.set (Int.toNat 0) (f1.m.parts[Int.toNat 0]!.1,1,f1.m.parts[Int.toNat 0]!.2.2):=by subst hf1 hf2;rfl
 have g4:f2.mad=f1.mad:=by subst hf1 hf2;rfl
 have g5:f2.m.made=f1.m.made:=by subst hf1 hf2;rfl
 have g6:[f0,f1].map aL=[f0,f2].map aL:=by subst hf1 hf2;rfl
 have hAF2:AudFl [f0,f2]:=by subst hf0 hf2;exact zM
 refine GO.ent (L':=iC c sad fad s0 s1 f0 f2 (osl (encZ .i64) 1 tInt tad tcap [5,0,0,0]::osl gw 3 tHd had hcap [(1,0,2),(2,0,3)]::cI::obj b1 tCat c.cells::L)) ?_ ?_
 ·simp only[iC];rw[g1,g2,g3,g4,g5];refine(Ent.at (A:=isl aL 11 fad [f0,f1]) (Ent.m9 g6)).trans ?_;exact ag
 repeat first|refine aa ?_|intro
 refine GO.ef (Ef.d7 (pD c hB hco sad fad scap fcap s0 s1 f0 f2 hAS hAF2 hfc) rfl) ae ?_;rintro _ _⟨rfl,rfl⟩;rw[show audF 0 c.m [s0.m,s1.m] [f0.m,f2.m]=(20,0,1) by subst hs0 hs1 hf0 hf2;rw[hc];exact GI];simp only[dT];repeat first|refine aa ?_|intro
 rename_i b10;have eS:([s0,s1]:List StV)[Int.toNat 1]! = s1:=rfl;rw[eS];have hm0:(Int.toNat 0)<s1.moves.length:=by rw[hml];decide
 repeat first|refine aa ?_|intro
 refine GO.efu (Ef.e8 (e:=(⟨⟨s1.moves[Int.toNat 0]!.m.frm,s1.moves[Int.toNat 0]!.m.to,s1.moves[Int.toNat 0]!.m.item,6,s1.moves[Int.toNat 0]!.m.parts⟩,s1.moves[Int.toNat 0]!.pad,s1.moves[Int.toNat 0]!.pcap⟩:MvV)) rfl rfl (by rfl) rfl hm0 ae) ?_;rintro _ _ rfl;obtain⟨s2,hs2⟩:∃s,exVT 6 p1 c1 a1 k1=s:=⟨_,rfl⟩;have k1e:s2.mad=s1.mad:=by subst hs1 hs2;rfl
 have k2e:s2.mcap=s1.mcap:=by subst hs1 hs2;rfl
 have k3e:s2.moves=s1.moves.set (Int.toNat 0) ⟨⟨s1.moves[Int.toNat 0]!.m.frm,s1.moves[Int.toNat 0]!.m.to,s1.moves[Int.toNat 0]!.m.item,6,s1.moves[Int.toNat 0]!.m.parts⟩,s1.moves[Int.toNat 0]!.pad,s1.moves[Int.toNat 0]!.pcap⟩:=by subst hs1 hs2;rfl
 have k4e:[s0,s1].map aJ=[s0,s2].map aJ:=by subst hs1 hs2;rfl
 have k5e:∀y∈s2.moves,∃x∈s1.moves,mvP y=mvP x:=by
  subst hs1 hs2;intro y hy;rw[List.mem_singleton.1 hy];exact⟨_,aw,rfl⟩
 have hAS2:AudS [s0,s2]:=by subst hs0 hs1 hs2;exact DB hk0 hk1
 refine GO.ent (L':=iC c sad fad s0 s2 f0 f2 (osl (encZ .i64) 1 tInt tad tcap [5,0,0,0]::osl gw 3 tHd had hcap [(1,0,2),(2,0,3)]::cI::obj b10 tFnd [ab 20,ab 0,ab 1]::obj b1 tCat c.cells::L)) ?_ ?_
 ·simp only[iC];refine(Ent.at (A:=isl aJ 7 sad [s0,s1]) (Ent.m9 k4e)).trans ?_;refine(Ent.at (A:=allP mvP s1.moves) (Ent.m6 k5e)).trans ?_;rw[←k3e,k1e,k2e];exact ag
 repeat first|refine aa ?_|intro
 refine GO.ef (Ef.d7 (pD c hB hco sad fad scap fcap s0 s2 f0 f2 hAS2 hAF2 hfc) rfl) ae ?_;rintro _ _⟨rfl,rfl⟩;rw[show audF 0 c.m [s0.m,s2.m] [f0.m,f2.m]=(10,0,1) by subst hs0 hs2 hf0 hf2;rw[hc];exact GH];simp only[dT];repeat first|refine aa ?_|intro
 rename_i b11;exact KX.d7 ai (by simp only[iC];exact ag) ⟨by rw[aU (show([(1,0,2),(2,0,3)]:List Hd)[Int.toNat 1]!.2.2=3 from rfl)];rfl,rfl⟩
end
section
open Go.V
attribute [local irreducible] G GO GP GPW GPK Ev Ef EfR Ent CB GB V.Enters
abbrev yj:List Stp:=[.ev 0,.ev 1,.ev 2,.ev 3,.ev 4,.ev 5,.ev 6,.ev 7,.ev 8]
theorem gy{φ ψ:Prop}(k:ψ)(h:Hid ψ→φ:=by intro k;(with_reducible apply G.d8);first|refine G.d7 (N:=26) (id:=6) yj mixed ap (Hid.out k)):φ:=h ⟨k⟩
theorem uF{L:LH}(ad1 ad2:OA)(n1 n2 c1 c2:Nat)(xs ys:LL)[Rds L ad1 Lot an 3 xs][Rds L ad2 Lot an 3 ys](h1:n1=xs.length)(h2:n2=ys.length)(hl:ys.length≤1000000000) :
  Tri ah 107 #[.slice ad1 n1 c1,.slice ad2 n2 c2] L (fun v L'=>v=.bool (dB (xs=ys))∧L' = L):=by
 subst h1 h2;refine Tri.body (args:=[.slice ad1 xs.length c1,.slice ad2 ys.length c2]) 26 Kh Tryz.func107 rfl rfl rfl (by simp) ?_;by_cases he:xs.length=ys.length
 case neg =>
  rw[aF (fun h:xs=ys=>he (by rw[h]))];repeat first|refine aa ?_|intro _|refine gy ?_
  exact KX.d7 ai (Ent.refl _) ⟨rfl,rfl⟩
 have hlx:xs.length≤1000000000:=ac;repeat first|refine aa ?_|intro _|refine gy ?_
 refine G.loop (α:=Nat) (fun i=>i≤xs.length∧xs.take i=ys.take i) (fun i=>[(0,.slice ad1 xs.length c1),(1,.slice ad2 ys.length c2),(5,ab (i:Int))]) (fun _=>L) (fun i=>xs.length - i) 0 ⟨ao _,by simp⟩ aj (Ent.refl _) ?_;rintro i ⟨hi,ht⟩;by_cases hlt:i<xs.length
 case neg =>
  have e:xs=ys:=by
   rw[aD ac,aD ac] at ht;exact ht
  rw[aU e];repeat first|refine aa ?_|intro _|refine gy ?_
  exact KX.d7 ai (Ent.refl _) ⟨rfl,rfl⟩
 have hii:(i:Int).toNat=i:=ac;obtain⟨x,hx⟩:∃x,xs[i]! = x:=⟨_,rfl⟩;obtain⟨y,hy⟩:∃y,ys[i]! = y:=⟨_,rfl⟩;have hx2:xs[(i:Int).toNat]! = x:=by rw[hii];exact hx
 have hy2:ys[(i:Int).toNat]! = y:=by rw[hii];exact hy
 repeat first|refine aa ?_|intro _|refine gy ?_
 rw[hx2,hy2];refine GPW.evP (Ev.o9 (xs:=[x.1,x.2.1,x.2.2]) (ys:=[y.1,y.2.1,y.2.2]) (cs:=an x) (ds:=an y) (hc:=⟨rfl⟩) (hd:=⟨rfl⟩) rfl rfl rfl rfl) ae ?_;by_cases e:x=y
 ·rw[aF (fun h:¬ [x.1,x.2.1,x.2.2]=[y.1,y.2.1,y.2.2]=>h (by rw[e]))];repeat first|refine aa ?_|intro _|refine gy ?_
  refine⟨i+1,⟨ac,?_⟩,ac,?_,Ent.refl _⟩
  ·rw[aC hlt,aC ac,ht];rw[getElem!_of hlt] at hx;rw[getElem!_of ac] at hy;rw[hx,hy,e]
  ·rw[aP i];exact aj
 ·have e2:¬ [x.1,x.2.1,x.2.2]=[y.1,y.2.1,y.2.2]:=fun h=>e (by
   obtain⟨a1,a2,a3⟩:=x;obtain⟨b1,b2,b3⟩:=y;simpa using h)
  rw[aU e2,aF (fun h:xs=ys=>e (by rw[←hx,←hy,h]))];repeat first|refine aa ?_|intro _|refine gy ?_
  exact KX.d7 ai (Ent.refl _) ⟨rfl,rfl⟩
abbrev Bj:List Stp:=[.ev 0,.ev 1,.ev 2,.ev 3,.ev 4,.ev 5,.ev 6,.ev 7,.ev 8,.ev 9,.ev 10]
theorem cW{φ ψ:Prop}(k:ψ)(h:Hid ψ→φ:=by intro k;(with_reducible apply G.d8);first|refine G.d7 (N:=102) (id:=7) Bj mixed ap (Hid.out k)):φ:=h ⟨k⟩
theorem wD{L:LH}(f g:FlV)[Rds L f.pad Lot an 3 f.m.parts][Rds L g.pad Lot an 3 g.m.parts][Rds L f.mad Int (encZ .i64) 1 f.m.made][Rds L g.mad Int (encZ .i64) 1 g.m.made](h1:g.m.parts.length≤1000000000)(h2:g.m.made.length≤1000000000) :
  Tri ah 50 #[.agg (aL f).toArray,.agg (aL g).toArray] L (fun v L'=>v=.bool (dB (f.m=g.m))∧L' = L):=by
 refine Tri.body (args:=[.agg (aL f).toArray,.agg (aL g).toArray]) 102 en50 Tryz.func50 rfl rfl rfl (by simp) ?_;have hno:∀{p:Prop},¬p→(f.m=g.m→p)→dB (f.m=g.m)=false:=fun h q=>aF (fun r=>h (q r));simp only[aL];repeat first|refine aa ?_|intro _|refine cW ?_
 rename_i b2 b3;refine GO.ef (Ef.d7 (uF f.pad g.pad f.m.parts.length g.m.parts.length f.pcap g.pcap f.m.parts g.m.parts rfl rfl h1) rfl) ae ?_;rintro _ _⟨rfl,rfl⟩;by_cases cp:f.m.parts=g.m.parts
 case neg =>
  rw[aF cp];repeat first|refine aa ?_|intro _|refine cW ?_
  exact KX.d7 ai ag ⟨by rw[hno cp (fun q=>by rw[q])];rfl,rfl⟩
 rw[aU cp];by_cases cl:f.m.made.length=g.m.made.length
 case neg =>
  repeat first|refine aa ?_|intro _|refine cW ?_
  exact KX.d7 ai ag ⟨by rw[hno cl (fun q=>by rw[q])];rfl,rfl⟩
 repeat first|refine aa ?_|intro _|refine cW ?_
 refine G.loop (α:=Nat) (fun i=>i≤f.m.made.length∧f.m.made.take i=g.m.made.take i) (fun i=>[(2,au b2),(3,au b3),(6,ab (i:Int))]) (fun _=>obj b2 bz (aL f)::obj b3 bz (aL g)::L) (fun i=>f.m.made.length - i) 0 ⟨ao _,by simp⟩ aj (by simp only[aL];exact ag) ?_;rintro i ⟨hi,ht⟩;simp only[aL];by_cases hlt:i<f.m.made.length
 case pos =>
  have hii:(i:Int).toNat=i:=ac;by_cases e:f.m.made[(i:Int).toNat]! = g.m.made[(i:Int).toNat]!
  ·repeat first|refine aa ?_|intro _|refine cW ?_
   refine⟨i+1,⟨ac,?_⟩,ac,?_,by exact ag⟩
   ·rw[hii] at e;rw[aC hlt,aC ac,ht];rw[getElem!_of hlt,getElem!_of (show i<g.m.made.length by omega)] at e;rw[e]
   ·rw[aP i];exact aj
  ·repeat first|refine aa ?_|intro _|refine cW ?_
   exact KX.d7 ai ag ⟨by rw[hno e (fun q=>by rw[q])];rfl,rfl⟩
 have cm:f.m.made=g.m.made:=by
  rw[aD ac,aD ac] at ht;exact ht
 by_cases c0:f.m.id=g.m.id
 case neg =>
  repeat first|refine aa ?_|intro _|refine cW ?_
  exact KX.d7 ai ag ⟨by rw[hno c0 (fun q=>by rw[q])];first|rfl|(rw[aF c0];rfl),rfl⟩
 by_cases c1:f.m.step=g.m.step
 case neg =>
  repeat first|refine aa ?_|intro _|refine cW ?_
  exact KX.d7 ai ag ⟨by rw[hno c1 (fun q=>by rw[q])];first|rfl|(rw[aF c1];rfl),rfl⟩
 by_cases c2:f.m.kind=g.m.kind
 case neg =>
  repeat first|refine aa ?_|intro _|refine cW ?_
  exact KX.d7 ai ag ⟨by rw[hno c2 (fun q=>by rw[q])];first|rfl|(rw[aF c2];rfl),rfl⟩
 by_cases c3:f.m.tick=g.m.tick
 case neg =>
  repeat first|refine aa ?_|intro _|refine cW ?_
  exact KX.d7 ai ag ⟨by rw[hno c3 (fun q=>by rw[q])];first|rfl|(rw[aF c3];rfl),rfl⟩
 by_cases c4:f.m.actor=g.m.actor
 case neg =>
  repeat first|refine aa ?_|intro _|refine cW ?_
  exact KX.d7 ai ag ⟨by rw[hno c4 (fun q=>by rw[q])];first|rfl|(rw[aF c4];rfl),rfl⟩
 by_cases c5:f.m.frm=g.m.frm
 case neg =>
  repeat first|refine aa ?_|intro _|refine cW ?_
  exact KX.d7 ai ag ⟨by rw[hno c5 (fun q=>by rw[q])];first|rfl|(rw[aF c5];rfl),rfl⟩
 by_cases c6:f.m.to=g.m.to
 case neg =>
  repeat first|refine aa ?_|intro _|refine cW ?_
  exact KX.d7 ai ag ⟨by rw[hno c6 (fun q=>by rw[q])];first|rfl|(rw[aF c6];rfl),rfl⟩
 by_cases c7:f.m.item=g.m.item
 case neg =>
  repeat first|refine aa ?_|intro _|refine cW ?_
  exact KX.d7 ai ag ⟨by rw[hno c7 (fun q=>by rw[q])];first|rfl|(rw[aF c7];rfl),rfl⟩
 by_cases c8:f.m.n=g.m.n
 case neg =>
  repeat first|refine aa ?_|intro _|refine cW ?_
  exact KX.d7 ai ag ⟨by rw[hno c8 (fun q=>by rw[q])];first|rfl|(rw[aF c8];rfl),rfl⟩
 have e:f.m=g.m:=by
  obtain⟨m,_,_,_,_⟩:=f;obtain⟨m',_,_,_,_⟩:=g;cases m;cases m';simp only at c0 c1 c2 c3 c4 c5 c6 c7 c8 cp cm ⊢;subst c0 c1 c2 c3 c4 c5 c6 c7 c8 cp cm;rfl
 repeat first|refine aa ?_|intro _|refine cW ?_
 exact KX.d7 ai ag ⟨by rw[aU e,aU c8];rfl,rfl⟩
end
section
open Go.V
abbrev rl0A(sh:Int)(c:CatV):LV:=[ab sh,.slice c.iad c.items.length c.icap,.slice c.rad c.rules.length c.rcap,.slice c.tad c.tables.length c.tcap,.slice c.xad c.taxes.length c.xcap,.slice none 0 0,.slice none 0 0,.slice none 0 0]
theorem Bz{A B:List FlM}{n:Nat}(hn:n≤A.length)(hb:n≤B.length)(h:∀j,n≤j→j<A.length→j<B.length∧A[j]! = B[j]!):¬(B.length<A.length∨A.drop n≠(B.drop n).take (A.length - n)):=by
 have hl:A.length≤B.length:=by
  by_cases h2:n=A.length
  ·omega
  ·have:=(h (A.length - 1) ac ac).1
   omega
 rintro (q|q)
 ·omega
 ·refine q (dv ?_ fun j h1 h2=>?_)
  ·rw[aY,bR,bR];omega
  ·rw[bR] at h1;rw[dW,eG,eG];have:=(h (n+j) ac ac).2
   rwa [getElem!_of ac,getElem!_of ac] at this
theorem uc{A B:List FlM}{n j:Nat}(h1:n≤j)(h2:j<A.length)(h3:B.length≤j∨A[j]!≠B[j]!):B.length<A.length∨A.drop n≠(B.drop n).take (A.length - n):=by
 by_cases hl:B.length<A.length
 ·exact .inl hl
 refine .inr fun q=>?_;rcases h3 with h3|h3
 ·omega
 refine h3 ?_;have e:(A.drop n)[j - n]! = ((B.drop n).take (A.length - n))[j - n]!:=by rw[←q]
 rw[getElem!_of (by rw[bR];omega),getElem!_of (by rw[aY,bR];omega),dW,eG,eG] at e;rw[getElem!_of h2,getElem!_of ac];have e2:n+(j - n)=j:=ac;simpa only[e2] using e
attribute [local irreducible] G GO GP GPW GPK GF GE Ev Ef EfR Ent CB GB V.Enters
theorem Ap{L:LH}(sh:Int)(c:CatV)(hI:I64 sh)(hB:c.B)(h:CatGood c.m):Tri ah 49 #[ab sh,.agg c.cells.toArray] (catP c::L) (fun v L'=>(¬(0≤sh∧sh<12)∧v=.tuple #[.pointer none,ab 1]∧L' = L)∨((0≤sh∧sh<12)∧∃b,v=.tuple #[au b,ab 0]∧L' = obj b tRL (rl0A sh c)::catP c::L)):=by
 refine Tri.body (args:=[ab sh,.agg c.cells.toArray]) 22 en49 Tryz.func49 rfl rfl rfl (by simp) ?_;simp only[CatV.cells];by_cases h1:0≤sh
 case neg =>
  repeat first|refine aa ?_|intro
  exact KX.d7 ai ag (.inl ⟨fun q=>h1 q.1,rfl,rfl⟩)
 by_cases h2:11<sh
 ·repeat first|refine aa ?_|intro
  exact KX.d7 ai ag (.inl ⟨fun q=>by omega,rfl,rfl⟩)
 repeat first|refine aa ?_|intro
 rename_i b3;refine GO.ent (L':=catP c::obj b3 tCat [.slice c.iad c.items.length c.icap,.slice c.rad c.rules.length c.rcap,.slice c.tad c.tables.length c.tcap,.slice c.xad c.taxes.length c.xcap]::L) ag ?_;refine GO.ent catS_open ?_;refine GO.ef (Ef.d7 (Ci c hB h) rfl) ae ?_;rintro _ _⟨rfl,rfl⟩;simp only[catS];repeat first|refine aa ?_|intro
 rename_i b;exact KX.d7 ai ag (.inr ⟨⟨h1,ac⟩,b,rfl,rfl⟩)
abbrev lD:Nat:=44
abbrev yi:List Stp:=[.ev 0,.ev 1,.ev 2,.ev 3,.ev 4,.ev 5,.ev 6,.ev 7,.ev 8,.ev 9,.ev 10,.ev 11,.ev 12,.ev 13,.ev 14,.ev 15,.ef 16,.ev 17,.ev 18]
theorem dh{φ ψ:Prop}(k:ψ)(h:Hid ψ→φ:=by intro k;(with_reducible apply G.d8);first|refine G.d7 (N:=105) (id:=16) yi mixed ap (Hid.out k)):φ:=h ⟨k⟩
theorem sQ{L:LH}(sh:Int)(hI:I64 sh)(c:CatV)(hB:c.B)(hg:CatGood c.m)(hc:c.m.Ok)(sad:OA)(n scap:Nat)(ss:List StV)[hrs:Rds L sad StV aJ 7 ss](hn:n=ss.length)(hS:AudS ss)(hsP:∀s∈ss,Ent L (bA s::L))(fad:OA)(n2 fcap:Nat)(fs:List FlV)[hrf:Rds L fad FlV aL 11 fs](hn2:n2=fs.length)(hF:AudFl fs)(hfP:∀f∈fs,Ent L (flP f::L)) :
  Tri ah 15 #[ab sh,.agg c.cells.toArray,.slice sad n scap,.slice fad n2 fcap] (catP c::L) (fun v L'=>v=.agg (dT (audF sh c.m (ss.map StV.m) (fs.map FlV.m))).toArray∧L' = L):=by
 subst hn hn2;have hssl:=hS.len;refine Tri.body (args:=[ab sh,.agg c.cells.toArray,.slice sad ss.length scap,.slice fad fs.length fcap]) 105 en15 Tryz.func15 rfl rfl rfl (by simp) ?_;simp only[CatV.cells];repeat first|refine aa ?_|intro _|refine dh ?_
 rename_i b5 b8;refine GO.ent (L':=catP c::obj b5 tCat c.cells::obj b8 lD [ab 0,ab 0,ab 0]::L) (by simp only[CatV.cells];exact ag) ?_;refine GO.ef (Ef.d7 (Ap sh c hI hB hg) rfl) ae ?_;rintro _ _ (⟨h1,rfl,rfl⟩|⟨h1,b,rfl,rfl⟩)
 ·have e:audF sh c.m (ss.map StV.m) (fs.map FlV.m)=(1,sh,0):=if_neg h1;rw[e];repeat first|refine aa ?_|intro _|refine dh ?_
  exact KX.d7 (ResOk.cell rfl (by rfl) ResOk.nil) ag ⟨rfl,rfl⟩
 have e:audF sh c.m (ss.map StV.m) (fs.map FlV.m)=audG (fs.map FlV.m) 0 (led0 sh c.m) (ss.map StV.m):=if_pos h1;rw[e];have hL0:=wm h1 c.m;obtain⟨h11,h12⟩:=h1;repeat first|refine aa ?_|intro _|refine dh ?_
 refine G.loop (α:=Nat×RLX×LedM) (fun g=>g.1≤ss.length∧RF g.2.2 g.2.1∧LedA (stK ((ss.map StV.m).take g.1)) g.2.2∧g.2.2.shard=sh∧g.2.2.cat=c.m∧g.2.2.flows.length≤fs.length∧stK ((ss.map StV.m).take g.1)+stK ((ss.map StV.m).drop g.1)≤2000∧audG (fs.map FlV.m) 0 (led0 sh c.m) (ss.map StV.m)=audG (fs.map FlV.m) g.1 g.2.2 ((ss.map StV.m).drop g.1))
  (fun g=>[(0,ab sh),(2,.slice sad ss.length scap),(3,.slice fad fs.length fcap),(8,au b8),(9,au b),(11,ab g.2.2.flows.length),(12,ab (g.1:Int))]) (fun g=>rlL b sh g.2.1 (obj b8 lD [ab 0,ab 0,ab 0]::L)) (fun g=>ss.length - g.1) (0,⟨c,[],none,0,[],none,0,[],none,0⟩,led0 sh c.m) ⟨ao _,⟨rfl,hB,rfl,rfl,fun _ _=>rfl,fun _=>rfl,(fun s hs=>by cases hs),aB _,List.nodup_nil,(fun f hf=>by cases hf),bu _⟩,hL0,rfl,rfl,ao _,by have:=hS.k;show 0+stK (ss.map StV.m)≤2000;omega,rfl⟩ aj ?_ ?_
 ·refine(Ent.e7 rsP).trans ((Ent.e7 flP).trans ((Ent.e7 bA).trans ((Ent.d8 gg 3 tRS).trans ((Ent.d8 aL 11 bz).trans ((Ent.d8 aJ 7 bh).trans ?_)))));simp only[rlL,aK];exact ag
 rintro⟨i,x,S⟩ ⟨hi,hx,hA,hsh,hcm,hfl,hK,ha⟩;dsimp only at hi hx hA hsh hcm hfl hK ha ⊢;subst hsh;have hflS:=hA.g.flows;have hstS:=hA.g.steps;have hfm:(fs.map FlV.m).length=fs.length:=aG _;simp only[rlL,aK];by_cases hlt:i<ss.length
 case neg =>
  obtain rfl:i=ss.length:=ac;have hdr:(ss.map StV.m).drop ss.length=[]:=bP (by rw[aG];exact aB _);rw[hdr,rk,hfm] at ha;rw[ha];by_cases hq:S.flows.length<fs.length
  ·rw[if_pos hq];have hq2:(S.flows.length:Int)<(fs.length:Int):=ac;repeat first|refine aa ?_|intro _|refine dh ?_
   exact KX.d7 (ResOk.cell rfl (by rfl) ResOk.nil) ag ⟨rfl,rfl⟩
  ·rw[if_neg hq];have hq2:¬(S.flows.length:Int)<(fs.length:Int):=ac;repeat first|refine aa ?_|intro _|refine dh ?_
   exact KX.d7 (ResOk.cell rfl (by rfl) ResOk.nil) ag ⟨rfl,rfl⟩
 have hii:(i:Int).toNat=i:=aA i;have hlt' : (i:Int).toNat<ss.length:=ac;have hlm:i<(ss.map StV.m).length:=by rw[aG];exact hlt
 have hgm:(ss.map StV.m)[i]! = ss[(i:Int).toNat]!.m:=by rw[hii];exact eo StV.m hlt
 have hdr:(ss.map StV.m).drop i=ss[(i:Int).toNat]!.m::(ss.map StV.m).drop (i+1):=by rw[←hgm];exact fG hlm
 have htk:stK ((ss.map StV.m).take (i+1))=stK ((ss.map StV.m).take i)+mvK ss[(i:Int).toNat]!.m.moves:=by
  rw[vq hlm,hgm]
 rw[hdr,ku] at ha;rw[hdr] at hK;have hmem:=aI hlt';obtain⟨hin1,hin2⟩:=hS.inp _ hmem;have hsP1:=hsP _ hmem;refine G.ent (L':=stM ss[(i:Int).toNat]!::stP ss[(i:Int).toNat]!::rlL b S.shard x (obj b8 lD [ab 0,ab 0,ab 0]::L)) ((Ent.under (A:=rlL b S.shard x [obj b8 lD [ab 0,ab 0,ab 0]]) hsP1).trans Ent.andE) ?_;simp only[rlL,aK];repeat first|refine aa ?_|intro _|refine dh ?_
 generalize hse:ss[(i:Int).toNat]! = s at *;have hK2:stK (s.m::(ss.map StV.m).drop (i+1))=mvK s.m.moves+stK ((ss.map StV.m).drop (i+1)):=rfl;by_cases c1:s.id=S.shard*4294967296+(i:Int)
 case neg =>
  rw[if_pos (show s.m.id≠S.shard*4294967296+(i:Int) from c1)] at ha;rw[ha];repeat first|refine aa ?_|intro _|refine dh ?_
  exact KX.d7 (ResOk.cell rfl (by rfl) ResOk.nil) ag ⟨rfl,rfl⟩
 rw[if_neg (show ¬(s.m.id≠S.shard*4294967296+(i:Int)) from fun q=>q c1)] at ha;obtain⟨hA2,_⟩:=tg (s:=s.m) hA ac;obtain⟨z,hz⟩:=qq S s.m;have hzl:(cT S s.m).flows.length=S.flows.length+z.length:=by rw[hz,az]
 have hfl2:=hA2.g.flows;have hst2:=hA2.g.steps;repeat first|refine aa ?_|intro _|refine dh ?_
 refine GO.ent (L':=rlL b S.shard x (stM s::stP s::obj b8 lD [ab 0,ab 0,ab 0]::L)) (by simp only[rlL,aK];exact ag) ?_;rw[hse];refine GO.ef (Ef.d7 (qf b S (stK ((ss.map StV.m).take i)) hA.g (hcm▸hc) (hcm▸hg) s hin1 ac x hx) rfl) ae ?_;rintro _ _⟨rfl,x',hx',_,_,_,rfl⟩;by_cases he:(gTry S s.m).1=0
 case neg =>
  rw[if_pos he] at ha;rw[ha];generalize (gTry S s.m).1=er at *;simp only[rlL,aK];repeat first|refine aa ?_|intro _|refine dh ?_
  exact KX.d7 (ResOk.cell rfl (by rfl) ResOk.nil) ag ⟨rfl,rfl⟩
 rw[if_neg (fun q=>q he)] at ha;rw[he]
 have hxf' : x'.flows.length=(cT S s.m).flows.length:=by
  have:=congrArg List.length hx'.flows
  rwa [aG] at this
 simp only[rlL,aK];repeat first|refine aa ?_|intro _|refine dh ?_
 refine G.loop (α:=Nat) (fun k=>S.flows.length≤k∧k≤x'.flows.length∧(∀j,S.flows.length≤j→j<k→j<fs.length∧(cT S s.m).flows[j]! = (fs.map FlV.m)[j]!))
  (fun k=>[(0,ab S.shard),(2,.slice sad ss.length scap),(3,.slice fad fs.length fcap),(8,au b8),(9,au b),(11,ab (k:Int)),(12,ab (i:Int)),(13,ab (S.shard*4294967296+(i:Int)))]) (fun _=>rlL b S.shard x' (obj b8 lD [ab 0,ab 0,ab 0]::L)) (fun k=>x'.flows.length - k) S.flows.length ⟨aB _,ac,fun j h1 h2=>absurd h2 ac⟩ aj (by simp only[rlL,aK];exact ag) ?_
 rintro k ⟨hk1,hk2,hks⟩;simp only[rlL,aK];by_cases hk:k<x'.flows.length
 case neg =>
  have hgood:=Bz (A:=(cT S s.m).flows) (B:=fs.map FlV.m) (n:=S.flows.length) ac ac (fun j h1 h2=>by
   have:=hks j h1 ac
   exact⟨ac,this.2⟩)
  rw[if_neg hgood] at ha;have hke:k=(cT S s.m).flows.length:=ac
  have hfle:(cT S s.m).flows.length≤fs.length:=by
   by_cases q:fs.length<(cT S s.m).flows.length
   ·exact absurd (.inl (by rw[hfm];exact q)) hgood
   ·omega
  repeat first|refine aa ?_|intro _|refine dh ?_
  refine⟨(i+1,x',cT S s.m),⟨by dsimp only;omega,hx',by dsimp only;rw[htk];exact hA2,mT S s.m,(pb S s.m).trans hcm,hfle,by dsimp only;omega,ha⟩,by dsimp only;omega,?_,?_⟩
  ·dsimp only;rw[aP i,←hke];exact aj
  ·simp only[rlL,aK];exact ag
 have hkk:(k:Int).toNat=k:=aA k;have hk' : (k:Int).toNat<x'.flows.length:=ac;by_cases q1:k<fs.length
 case neg =>
  rw[if_pos (uc (j:=k) hk1 ac (.inl ac))] at ha;rw[ha];repeat first|refine aa ?_|intro _|refine dh ?_
  exact KX.d7 (ResOk.cell rfl (by rfl) ResOk.nil) ag ⟨rfl,rfl⟩
 have q1' : (k:Int).toNat<fs.length:=ac;have hf1:=aI hk';have hf2:=aI q1';have eA:(cT S s.m).flows[k]! = x'.flows[(k:Int).toNat]!.m:=by rw[←hx'.flows,hkk];exact eo FlV.m hk
 have eB:(fs.map FlV.m)[k]! = fs[(k:Int).toNat]!.m:=by rw[hkk];exact eo FlV.m q1
 obtain⟨hg1,hg2⟩:=hF.fl _ hf2;have hfP2:=hfP _ hf2;refine G.ent (L':=isl an 3 fs[(k:Int).toNat]!.pad fs[(k:Int).toNat]!.m.parts::isl (encZ .i64) 1 fs[(k:Int).toNat]!.mad fs[(k:Int).toNat]!.m.made::isl an 3 x'.flows[(k:Int).toNat]!.pad x'.flows[(k:Int).toNat]!.m.parts::isl (encZ .i64) 1 x'.flows[(k:Int).toNat]!.mad x'.flows[(k:Int).toNat]!.m.made::rlL b S.shard x' (obj b8 lD [ab 0,ab 0,ab 0]::L)) ?_ ?_
 ·refine((Ent.under (A:=rlL b S.shard x' [obj b8 lD [ab 0,ab 0,ab 0]]) hfP2).trans Ent.andE).trans (Ent.d7 (Ent.d7 ?_));show Ent (rlL b S.shard x' (obj b8 lD [ab 0,ab 0,ab 0]::L)) _;refine(Ent.at (A:=allP flP x'.flows) ((Ent.d9 (f:=flP) hf1).trans Ent.andE)).trans ?_;simp only[rlL,aK];exact ag
 simp only[rlL,aK];repeat first|refine aa ?_|intro _|refine dh ?_
 refine GPW.ef (Ef.d7 (wD x'.flows[(k:Int).toNat]! fs[(k:Int).toNat]! hg1 hg2) rfl) ae ?_;rintro _ _⟨rfl,rfl⟩;by_cases q2:x'.flows[(k:Int).toNat]!.m=fs[(k:Int).toNat]!.m
 ·rw[aU q2];repeat first|refine aa ?_|intro _|refine dh ?_
  refine⟨k+1,⟨ac,ac,fun j h1 h2=>?_⟩,ac,?_,by(try simp only[rlL,aK]);exact ag⟩
  ·by_cases hj:j<k
   ·exact hks j h1 hj
   ·obtain rfl:j=k:=ac;exact⟨q1,by rw[eA,eB];exact q2⟩
  ·rw[aP k];exact aj
 ·rw[aF q2];rw[if_pos (uc (j:=k) hk1 ac (.inr (by rw[eA,eB];exact q2)))] at ha;rw[ha];repeat first|refine aa ?_|intro _|refine dh ?_
  exact KX.d7 (ResOk.cell rfl (by rfl) ResOk.nil) ag ⟨rfl,rfl⟩
