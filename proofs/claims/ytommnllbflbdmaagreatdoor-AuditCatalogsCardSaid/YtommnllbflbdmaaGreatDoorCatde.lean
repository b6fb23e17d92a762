/- Lemmas. -/
import Derived.Test.YtommnllbflbdmaaGreatDoorCatdd
set_option linter.all false
set_option maxHeartbeats 16000000
namespace Go.Proofs.YtommnllbflbdmaaGreatDoor
section
open Go.V
attribute [local irreducible] G GO GP GPW GPK Ev Ef EfR Ent CB GB V.Enters
def wW{L:LH}(c:CatV)(hW:CatW c):Tri ai 83 #[aN c.cells] (catS c L) (fun v L'=>∃bn NN,v=ae (some ⟨bn,0,none⟩) 4 4∧(NN.map StrS.l=[c.items.map (·.name),c.rules.map (·.name),c.tables.map (·.name),c.taxes.map (·.name)]∧∀x∈NN,x.l.length≤x.cap)∧L' = isl lK 1 (some ⟨bn,0,none⟩) NN::allP strP NN::catS c L):=by
 have b9:=hW.it.1;have c4:=hW.ru.1;have c5:=hW.tb.1;have c6:=hW.tx.1;refine Tri.bd ?_;simp only[CatV.cells,catS];repeat first|refine G.sn 1 ?_|refine bF ?_|intro
 rename_i b1;repeat first|refine G.sm 2 ?_|refine bF ?_|intro
 refine G.d8 (α:=OA×Nat) (fun z=>c.items.length≤z.2) (fun z=>[(1,aq b1),(3,ae z.1 c.items.length z.2),(4,ae none 0 0),(5,ae none 0 0),(6,ae none 0 0)]) (fun z=>isl cx 1 z.1 (c.items.map (·.name))::obj b1 tCat [ae c.iad c.items.length c.icap,ae c.rad c.rules.length c.rcap,ae c.tad c.tables.length c.tcap,ae c.xad c.taxes.length c.xcap]::isl be 7 c.iad c.items::isl bj 9 c.rad c.rules::allP ruP c.rules::isl bK 2 c.tad c.tables::allP tbP c.tables::isl bN 2 c.xad c.taxes::allP txP c.taxes::L) ?_ ?_
 ·refine IF ?_;intros;refine G.loop (α:=Nat×OA×Nat) (fun z=>z.1≤c.items.length) (fun z=>[(1,aq b1),(3,ae z.2.1 z.1 z.2.2),(4,ae none 0 0),(5,ae none 0 0),(6,ae none 0 0),(7,ac (z.1:Int))]) (fun z=>osl cx 1 tStr z.2.1 z.2.2 ((c.items.take z.1).map (·.name))::obj b1 tCat [ae c.iad c.items.length c.icap,ae c.rad c.rules.length c.rcap,ae c.tad c.tables.length c.tcap,ae c.xad c.taxes.length c.xcap]::isl be 7 c.iad c.items::isl bj 9 c.rad c.rules::allP ruP c.rules::isl bK 2 c.tad c.tables::allP tbP c.tables::isl bN 2 c.xad c.taxes::allP txP c.taxes::L) (fun z=>c.items.length - z.1) (0,none,0) (az _) an (Ent.d8 cx 1 tStr) ?_;rintro⟨i,a4,a5⟩ hi;dsimp only at hi ⊢;have a9:=ig (fun x:ItG=>x.name) hi;by_cases b3:i<c.items.length
  case neg =>
   have a8:i=c.items.length:=ab;refine G.e8 (gg (ad:=a4)) ?_;rintro⟨a7,_⟩;rw[a9,a8] at a7;rw[aB ab,a8];refine IF ?_;intros;exact⟨(a4,a5),a7,an,Ent.frz a4⟩
  have b2:(i:Int).toNat=i:=ab;have e:=kz (fun x:ItG=>x.name) b3;refine IF ?_;intros;rw[b2];refine IF ?_;intros;refine GO.ef (Ef.d7 (enc:=cx) (e:=c.items[i]!.name) rfl rfl rfl a9.symm rfl aJ (kl _) ab ab) ag ?_;rintro _ _⟨b0,a6,rfl,rfl⟩;rw[e];refine IF ?_;intros;refine⟨(i+1,b0,a6),by dsimp only;omega,by dsimp only;omega,?_,by exact ah⟩;dsimp only;rw[aU i];rw[ig (fun x:ItG=>x.name) (ab:i+1≤c.items.length)];exact an
 rintro⟨a0,c0⟩ b5;dsimp only at b5 ⊢;repeat first|refine G.sm 6 ?_|refine bF ?_|intro
 refine G.d8 (α:=OA×Nat) (fun z=>c.rules.length≤z.2) (fun z=>[(1,aq b1),(3,ae a0 c.items.length c0),(4,ae z.1 c.rules.length z.2),(5,ae none 0 0),(6,ae none 0 0)]) (fun z=>isl cx 1 z.1 (c.rules.map (·.name))::isl cx 1 a0 (c.items.map (·.name))::obj b1 tCat [ae c.iad c.items.length c.icap,ae c.rad c.rules.length c.rcap,ae c.tad c.tables.length c.tcap,ae c.xad c.taxes.length c.xcap]::isl be 7 c.iad c.items::isl bj 9 c.rad c.rules::allP ruP c.rules::isl bK 2 c.tad c.tables::allP tbP c.tables::isl bN 2 c.xad c.taxes::allP txP c.taxes::L) ?_ ?_
 ·refine IF ?_;intros;refine G.loop (α:=Nat×OA×Nat) (fun z=>z.1≤c.rules.length) (fun z=>[(1,aq b1),(3,ae a0 c.items.length c0),(4,ae z.2.1 z.1 z.2.2),(5,ae none 0 0),(6,ae none 0 0),(8,ac (z.1:Int))]) (fun z=>osl cx 1 tStr z.2.1 z.2.2 ((c.rules.take z.1).map (·.name))::isl cx 1 a0 (c.items.map (·.name))::obj b1 tCat [ae c.iad c.items.length c.icap,ae c.rad c.rules.length c.rcap,ae c.tad c.tables.length c.tcap,ae c.xad c.taxes.length c.xcap]::isl be 7 c.iad c.items::isl bj 9 c.rad c.rules::allP ruP c.rules::isl bK 2 c.tad c.tables::allP tbP c.tables::isl bN 2 c.xad c.taxes::allP txP c.taxes::L) (fun z=>c.rules.length - z.1) (0,none,0) (az _) an (Ent.d8 cx 1 tStr) ?_;rintro⟨i,a4,a5⟩ hi;dsimp only at hi ⊢;have a9:=ig (fun x:RuV=>x.name) hi;by_cases b3:i<c.rules.length
  case neg =>
   have a8:i=c.rules.length:=ab;refine G.e8 (gg (ad:=a4)) ?_;rintro⟨a7,_⟩;rw[a9,a8] at a7;rw[aB ab,a8];refine IF ?_;intros;exact⟨(a4,a5),a7,an,Ent.frz a4⟩
  have b2:(i:Int).toNat=i:=ab;have e:=kz (fun x:RuV=>x.name) b3;refine IF ?_;intros;rw[b2];refine IF ?_;intros;refine GO.ef (Ef.d7 (enc:=cx) (e:=c.rules[i]!.name) rfl rfl rfl a9.symm rfl aJ (kl _) ab ab) ag ?_;rintro _ _⟨b0,a6,rfl,rfl⟩;rw[e];refine IF ?_;intros;refine⟨(i+1,b0,a6),by dsimp only;omega,by dsimp only;omega,?_,by exact ah⟩;dsimp only;rw[aU i];rw[ig (fun x:RuV=>x.name) (ab:i+1≤c.rules.length)];exact an
 rintro⟨a1,c1⟩ b6;dsimp only at b6 ⊢;repeat first|refine G.sm 10 ?_|refine bF ?_|intro
 refine G.d8 (α:=OA×Nat) (fun z=>c.tables.length≤z.2) (fun z=>[(1,aq b1),(3,ae a0 c.items.length c0),(4,ae a1 c.rules.length c1),(5,ae z.1 c.tables.length z.2),(6,ae none 0 0)]) (fun z=>isl cx 1 z.1 (c.tables.map (·.name))::isl cx 1 a1 (c.rules.map (·.name))::isl cx 1 a0 (c.items.map (·.name))::obj b1 tCat [ae c.iad c.items.length c.icap,ae c.rad c.rules.length c.rcap,ae c.tad c.tables.length c.tcap,ae c.xad c.taxes.length c.xcap]::isl be 7 c.iad c.items::isl bj 9 c.rad c.rules::allP ruP c.rules::isl bK 2 c.tad c.tables::allP tbP c.tables::isl bN 2 c.xad c.taxes::allP txP c.taxes::L) ?_ ?_
 ·refine IF ?_;intros;refine G.loop (α:=Nat×OA×Nat) (fun z=>z.1≤c.tables.length) (fun z=>[(1,aq b1),(3,ae a0 c.items.length c0),(4,ae a1 c.rules.length c1),(5,ae z.2.1 z.1 z.2.2),(6,ae none 0 0),(9,ac (z.1:Int))]) (fun z=>osl cx 1 tStr z.2.1 z.2.2 ((c.tables.take z.1).map (·.name))::isl cx 1 a1 (c.rules.map (·.name))::isl cx 1 a0 (c.items.map (·.name))::obj b1 tCat [ae c.iad c.items.length c.icap,ae c.rad c.rules.length c.rcap,ae c.tad c.tables.length c.tcap,ae c.xad c.taxes.length c.xcap]::isl be 7 c.iad c.items::isl bj 9 c.rad c.rules::allP ruP c.rules::isl bK 2 c.tad c.tables::allP tbP c.tables::isl bN 2 c.xad c.taxes::allP txP c.taxes::L) (fun z=>c.tables.length - z.1) (0,none,0) (az _) an (Ent.d8 cx 1 tStr) ?_;rintro⟨i,a4,a5⟩ hi;dsimp only at hi ⊢;have a9:=ig (fun x:TbV=>x.name) hi;by_cases b3:i<c.tables.length
  case neg =>
   have a8:i=c.tables.length:=ab;refine G.e8 (gg (ad:=a4)) ?_;rintro⟨a7,_⟩;rw[a9,a8] at a7;rw[aB ab,a8];refine IF ?_;intros;exact⟨(a4,a5),a7,an,Ent.frz a4⟩
  have b2:(i:Int).toNat=i:=ab;have e:=kz (fun x:TbV=>x.name) b3;refine IF ?_;intros;rw[b2];refine IF ?_;intros;refine GO.ef (Ef.d7 (enc:=cx) (e:=c.tables[i]!.name) rfl rfl rfl a9.symm rfl aJ (kl _) ab ab) ag ?_;rintro _ _⟨b0,a6,rfl,rfl⟩;rw[e];refine IF ?_;intros;refine⟨(i+1,b0,a6),by dsimp only;omega,by dsimp only;omega,?_,by exact ah⟩;dsimp only;rw[aU i];rw[ig (fun x:TbV=>x.name) (ab:i+1≤c.tables.length)];exact an
 rintro⟨a2,c2⟩ b7;dsimp only at b7 ⊢;repeat first|refine G.sm 14 ?_|refine bF ?_|intro
 refine G.d8 (α:=OA×Nat) (fun z=>c.taxes.length≤z.2) (fun z=>[(1,aq b1),(3,ae a0 c.items.length c0),(4,ae a1 c.rules.length c1),(5,ae a2 c.tables.length c2),(6,ae z.1 c.taxes.length z.2)]) (fun z=>isl cx 1 z.1 (c.taxes.map (·.name))::isl cx 1 a2 (c.tables.map (·.name))::isl cx 1 a1 (c.rules.map (·.name))::isl cx 1 a0 (c.items.map (·.name))::obj b1 tCat [ae c.iad c.items.length c.icap,ae c.rad c.rules.length c.rcap,ae c.tad c.tables.length c.tcap,ae c.xad c.taxes.length c.xcap]::isl be 7 c.iad c.items::isl bj 9 c.rad c.rules::allP ruP c.rules::isl bK 2 c.tad c.tables::allP tbP c.tables::isl bN 2 c.xad c.taxes::allP txP c.taxes::L) ?_ ?_
 ·refine IF ?_;intros;refine G.loop (α:=Nat×OA×Nat) (fun z=>z.1≤c.taxes.length) (fun z=>[(1,aq b1),(3,ae a0 c.items.length c0),(4,ae a1 c.rules.length c1),(5,ae a2 c.tables.length c2),(6,ae z.2.1 z.1 z.2.2),(10,ac (z.1:Int))]) (fun z=>osl cx 1 tStr z.2.1 z.2.2 ((c.taxes.take z.1).map (·.name))::isl cx 1 a2 (c.tables.map (·.name))::isl cx 1 a1 (c.rules.map (·.name))::isl cx 1 a0 (c.items.map (·.name))::obj b1 tCat [ae c.iad c.items.length c.icap,ae c.rad c.rules.length c.rcap,ae c.tad c.tables.length c.tcap,ae c.xad c.taxes.length c.xcap]::isl be 7 c.iad c.items::isl bj 9 c.rad c.rules::allP ruP c.rules::isl bK 2 c.tad c.tables::allP tbP c.tables::isl bN 2 c.xad c.taxes::allP txP c.taxes::L) (fun z=>c.taxes.length - z.1) (0,none,0) (az _) an (Ent.d8 cx 1 tStr) ?_;rintro⟨i,a4,a5⟩ hi;dsimp only at hi ⊢;have a9:=ig (fun x:TxV=>x.name) hi;by_cases b3:i<c.taxes.length
  case neg =>
   have a8:i=c.taxes.length:=ab;refine G.e8 (gg (ad:=a4)) ?_;rintro⟨a7,_⟩;rw[a9,a8] at a7;rw[aB ab,a8];refine IF ?_;intros;exact⟨(a4,a5),a7,an,Ent.frz a4⟩
  have b2:(i:Int).toNat=i:=ab;have e:=kz (fun x:TxV=>x.name) b3;refine IF ?_;intros;rw[b2];refine IF ?_;intros;refine GO.ef (Ef.d7 (enc:=cx) (e:=c.taxes[i]!.name) rfl rfl rfl a9.symm rfl aJ (kl _) ab ab) ag ?_;rintro _ _⟨b0,a6,rfl,rfl⟩;rw[e];refine IF ?_;intros;refine⟨(i+1,b0,a6),by dsimp only;omega,by dsimp only;omega,?_,by exact ah⟩;dsimp only;rw[aU i];rw[ig (fun x:TxV=>x.name) (ab:i+1≤c.taxes.length)];exact an
 rintro⟨a3,c3⟩ b8;dsimp only at b8 ⊢;refine IF ?_;intros;rename_i bn;obtain⟨NN,b4⟩:∃NN:List StrS,NN=[⟨c.items.map (·.name),a0,c0⟩,⟨c.rules.map (·.name),a1,c1⟩,⟨c.tables.map (·.name),a2,c2⟩,⟨c.taxes.map (·.name),a3,c3⟩]:=⟨_,rfl⟩;refine KX.d7 av ?_ ⟨bn,NN,rfl,⟨by rw[b4];rfl,?_⟩,rfl⟩
 ·refine(Ent.l5 (enc:=lK) (sz:=1) (b:=bn) NN (by rw[b4];simp[lK]) (fun x _=>rfl) (by rw[b4];exact ao rfl)).trans ?_;refine Ent.trans (B:=strP ⟨c.items.map (·.name),a0,c0⟩::strP ⟨c.rules.map (·.name),a1,c1⟩::strP ⟨c.tables.map (·.name),a2,c2⟩::strP ⟨c.taxes.map (·.name),a3,c3⟩::allP strP []::isl lK 1 (some ⟨bn,0,none⟩) NN::catS c L) ?_ ?_
  ·refine(Ent.e7 strP).trans ?_;simp only[strP,catS];exact ah
  ·refine(Ent.d7 (Ent.d7 (Ent.d7 (Ent.g9 sf)))).trans ((Ent.d7 (Ent.d7 (Ent.g9 sf))).trans ((Ent.d7 (Ent.g9 sf)).trans ((Ent.g9 sf).trans ?_)));rw[←b4];exact Ent.perm (List.Perm.swap _ _ _)
 ·rw[b4];intro x hx;simp only[bh,aH,or_false] at hx;rcases hx with rfl|rfl|rfl|rfl<;>(dsimp only;rw[aA];assumption)
def xd{ts:List TbV}(h:∀t∈ts,t.rows.length≤100):(lsT ts).length≤100*ts.length:=by
 unfold lsT;induction ts with
 | nil=>exact aI _
 | cons t ts ih =>
  have h1:=ih (fun t ht=>h t (aw _ ht));have h2:=h t (au);rw[bB,ax];simp only[lsW,aA,bE];omega
abbrev Cx:=ar8 [.ev 17,.ev 18,.ef 19,.ef 20,.ev 21]
def dc{φ ψ:Prop}(k:ψ)(h:Hid ψ→φ:=by intro k;(with_reducible apply G.d7);first|refine G.dr 67 5 Cx (Hid.out k)):φ:=h ⟨k⟩
def af1{φ ψ:Prop}(k:ψ)(h:Hid ψ→φ:=by intro k;(repeat (first|refine aa ?_|intro zzz|refine dc ?_));(repeat revert zzz);exact Hid.out k):φ:=h ⟨k⟩
def xe{L:LH}(c:CatV)(hW:CatW c):Tri ai 90 #[aN c.cells] (catS c L) (fun v L'=>∃ad cap,v=ae ad (lsR c.rules++lsT c.tables).length cap∧L' = isl iD 1 ad (lsR c.rules++lsT c.tables)::catS c L):=by
 have b7:=hW.ru.1;have b8:=hW.tb.1;refine Tri.bd ?_;simp only[CatV.cells,catS];repeat first|refine G.sn 1 ?_|refine bF ?_|intro _|refine dc ?_
 rename_i b1;repeat first|refine G.sm 2 ?_|refine bF ?_|intro _|refine dc ?_
 refine G.d8 (α:=OA×Nat) (fun _=>True) (fun z=>[(1,aq b1),(3,ae z.1 (lsR c.rules).length z.2)]) (fun z=>osl iD 1 rZ z.1 z.2 (lsR c.rules)::obj b1 tCat [ae c.iad c.items.length c.icap,ae c.rad c.rules.length c.rcap,ae c.tad c.tables.length c.tcap,ae c.xad c.taxes.length c.xcap]::isl be 7 c.iad c.items::isl bj 9 c.rad c.rules::allP ruP c.rules::isl bK 2 c.tad c.tables::allP tbP c.tables::isl bN 2 c.xad c.taxes::allP txP c.taxes::L) ?_ ?_
 ·refine af1 ?_;intros;refine G.loop (α:=Nat×OA×Nat) (fun z=>z.1≤c.rules.length) (fun z=>[(1,aq b1),(3,ae z.2.1 (lsR (c.rules.take z.1)).length z.2.2),(4,ac (z.1:Int))]) (fun z=>osl iD 1 rZ z.2.1 z.2.2 (lsR (c.rules.take z.1))::obj b1 tCat [ae c.iad c.items.length c.icap,ae c.rad c.rules.length c.rcap,ae c.tad c.tables.length c.tcap,ae c.xad c.taxes.length c.xcap]::isl be 7 c.iad c.items::isl bj 9 c.rad c.rules::allP ruP c.rules::isl bK 2 c.tad c.tables::allP tbP c.tables::isl bN 2 c.xad c.taxes::allP txP c.taxes::L) (fun z=>c.rules.length - z.1) (0,none,0) (az _) an (Ent.d8 iD 1 rZ) ?_;rintro⟨i,a4,a1⟩ hi;dsimp only at hi ⊢;by_cases a6:i<c.rules.length
  case neg =>
   rw[aB ab];refine af1 ?_;intros;exact⟨(a4,a1),trivial,an,Ent.refl _⟩
  have a5:(i:Int).toNat=i:=ab;have e:=Gd a6;have b9:=tG (c.rules.take i);have b5:(c.rules.take i).length=i:=by rw[bg];omega
  refine af1 ?_;intros;rename_i bs;refine GPW.ent (Ent.l5 (enc:=iD) (sz:=1) (b:=bs) [c.rules[(i:Int).toNat]!.take,c.rules[(i:Int).toNat]!.give,c.rules[(i:Int).toNat]!.back] (by simp[iD]) (fun x _=>rfl) (ao rfl)) ?_;have h3:([c.rules[(i:Int).toNat]!.take,c.rules[(i:Int).toNat]!.give,c.rules[(i:Int).toNat]!.back]).length=3:=rfl;refine GPW.ef (Ef.j0 (enc:=iD) rfl rfl rfl rfl h3.symm (fun e _=>sS e) ab ab) ag ?_;rintro _ _⟨a7,a2,rfl,rfl⟩;rw[a5,e];refine af1 ?_;intros;refine⟨(i+1,a7,a2),by dsimp only;omega,by dsimp only;omega,?_,by exact ah⟩;dsimp only;rw[aU i];exact an
 rintro⟨a0,c0⟩ _;dsimp only;have c1:=tG c.rules;refine af1 ?_;intros;refine G.loop (α:=Nat×OA×Nat) (fun z=>z.1≤c.tables.length) (fun z=>[(1,aq b1),(3,ae z.2.1 (lsR c.rules++lsT (c.tables.take z.1)).length z.2.2),(5,ac (z.1:Int))]) (fun z=>osl iD 1 rZ z.2.1 z.2.2 (lsR c.rules++lsT (c.tables.take z.1))::obj b1 tCat [ae c.iad c.items.length c.icap,ae c.rad c.rules.length c.rcap,ae c.tad c.tables.length c.tcap,ae c.xad c.taxes.length c.xcap]::isl be 7 c.iad c.items::isl bj 9 c.rad c.rules::allP ruP c.rules::isl bK 2 c.tad c.tables::allP tbP c.tables::isl bN 2 c.xad c.taxes::allP txP c.taxes::L) (fun z=>c.tables.length - z.1) (0,a0,c0) (az _) ?_ ?_ ?_
 ·dsimp only;rw[show lsT (c.tables.take 0)=[] from rfl,aO];exact an
 ·dsimp only;rw[show lsT (c.tables.take 0)=[] from rfl,aO];exact Ent.refl _
 rintro⟨i,a4,a1⟩ hi;dsimp only at hi ⊢;by_cases a6:i<c.tables.length
 case neg =>
  rw[aB ab];refine af1 ?_;intros;exact KX.d7 av ((Ent.frz a4).trans ah) ⟨a4,a1,rfl,rfl⟩
 have a5:(i:Int).toNat=i:=ab;have a3:=aL a6;have b5:(c.tables.take i).length=i:=by rw[bg];omega
 have b4:=xd (ts:=c.tables.take i) (fun t ht=>(hW.tb.2 t (cz ht)).len);obtain⟨t,ht⟩:∃t,c.tables[i]! = t:=⟨_,rfl⟩;have e:=Gc a6;rw[ht] at a3 e;have c2:t.rows.length≤100:=(hW.tb.2 t a3).len;have c3:(lsW t).length=t.rows.length:=by unfold lsW;simp
 refine G.ent (Ent.at (A:=allP tbP c.tables) ((Ent.d9 (f:=tbP) a3).trans Ent.andE)) ?_;refine af1 ?_;intros;refine G.loop (α:=Nat×OA×Nat) (fun z=>z.1≤t.rows.length) (fun z=>[(1,aq b1),(3,ae z.2.1 (lsR c.rules++lsT (c.tables.take i)++(lsW t).take z.1).length z.2.2),(5,ac (i:Int)),(6,ac (z.1:Int))]) (fun z=>osl iD 1 rZ z.2.1 z.2.2 (lsR c.rules++lsT (c.tables.take i)++(lsW t).take z.1)::isl du 2 t.ad t.rows::allP rwP t.rows::obj b1 tCat [ae c.iad c.items.length c.icap,ae c.rad c.rules.length c.rcap,ae c.tad c.tables.length c.tcap,ae c.xad c.taxes.length c.xcap]::isl be 7 c.iad c.items::isl bj 9 c.rad c.rules::allP ruP c.rules::isl bK 2 c.tad c.tables::allP tbP c.tables::isl bN 2 c.xad c.taxes::allP txP c.taxes::L) (fun z=>t.rows.length - z.1) (0,a4,a1) (az _) ?_ ?_ ?_
 ·dsimp only;rw[bC,aO];exact an
 ·dsimp only;rw[bC,aO];exact ah
 rintro⟨k,a9,a8⟩ hk;dsimp only at hk ⊢;by_cases b3:k<t.rows.length
 case neg =>
  have e3:(lsW t).take k=lsW t:=aB ab;rw[e3,aF,e];refine af1 ?_;intros;rw[a5,ht];refine af1 ?_;intros;refine⟨(i+1,a9,a8),by dsimp only;omega,by dsimp only;omega,?_,by exact ah⟩;dsimp only;rw[aU i];exact an
 have b0:(k:Int).toNat=k:=ab
 have e2:(lsW t).take k++[t.rows[k]!.give]=(lsW t).take (k+1):=by
  rw[aC ab,getElem!_of b3];simp[lsW]
 have b2:((lsW t).take k).length=k:=by rw[bg];omega
 have b6:(lsR c.rules++lsT (c.tables.take i)++(lsW t).take k).length=(lsR c.rules).length+(lsT (c.tables.take i)).length+k:=by rw[ax,ax,b2]
 refine af1 ?_;intros;rw[a5,ht];refine af1 ?_;intros;rw[a5,ht];refine af1 ?_;intros;rw[b0];refine af1 ?_;intros;refine GO.ef (Ef.d7 (enc:=iD) t.rows[k]!.give rfl rfl rfl rfl rfl aJ (sS _) ab ab) ag ?_;rintro _ _⟨a7,a2,rfl,rfl⟩;rw[aF,e2];refine af1 ?_;intros;refine⟨(k+1,a7,a2),by dsimp only;omega,by dsimp only;omega,?_,by exact ah⟩;dsimp only;rw[aU k];exact an
def ItF(x:ItG):Prop:=(if x.obj=true then x.mixed=false∧x.coin=false∧0≤x.bind∧x.bind≤2 else x.wear=0∧x.bind=0∧x.level=0)∧(x.obj=true→1≤x.wear∧x.wear≤1048576)∧0≤x.level∧x.level≤100
def RuF(r:RuV):Prop:=((r.back.l.length=0∨r.chance≠r.of_)∧(if r.spawn=true then r.take.l.length=0∧r.back.l.length=0∧r.level=0∧r.time=0∧r.chance=r.of_ else 0<r.take.l.length∨r.time≠0))∧(∀a∈r.back.l,ey r.back.l a.1≤ey r.take.l a.1)∧(0≤r.level∧r.level≤100)∧(0≤r.time∧r.time≤1000000)∧(1≤r.of_∧r.of_≤1000000)∧1≤r.chance∧r.chance≤r.of_
def TbF(t:TbV):Prop:=(0<t.rows.length∧t.rows.length≤64)∧∀r∈t.rows,1≤r.weight∧r.weight≤1099511627776
def TxF(t:TxV):Prop:=IsWord t.name→TxGood t.m
def NmF(l:List ByteArray):Prop:=(∀s∈l,IsWord s)∧l.Nodup
def SzF(c:CatV):Prop:=c.items.length≤64∧c.rules.length≤64∧c.tables.length≤32∧c.taxes.length≤32
structure CatF (c:CatV):Prop where
 sz:SzF c
 nm:∀l∈[c.items.map (·.name),c.rules.map (·.name),c.tables.map (·.name),c.taxes.map (·.name)],NmF l
 it:∀x∈c.items,ItF x
 ru:∀r∈c.rules,RuF r
 tb:∀t∈c.tables,TbF t
 tx:∀t∈c.taxes,TxF t
 ls:∀a∈lsR c.rules++lsT c.tables,fS c.items.length a.l
def gU{α:Type}[Inhabited α]{xs:List α}{i:Nat}(h:i<xs.length){q:α→Prop}(h1:∀x∈xs.take i,q x)(h2:q xs[i]!):∀x∈xs.take (i+1),q x:=by
 intro x hx;rw[aC h,←getElem!_of h] at hx;rcases List.mem_append.1 hx with hx|hx
 ·exact h1 x hx
 ·rw[List.mem_singleton.1 hx];exact h2
def Ht{xs:List ByteArray}{i:Nat}(h:i<xs.length)(h1:(xs.take i).Nodup)(h2:xs[i]!∉xs.take i):(xs.take (i+1)).Nodup:=by
 rw[aC h,←getElem!_of h];exact List.nodup_append.2 ⟨h1,by simp,fun a ha b hb e=>h2 (by rw[List.mem_singleton.1 hb] at e;exact e▸ha)⟩
def nm_W{c:CatV}(h:CatW c){NN:List StrS}(hN:NN.map StrS.l=[c.items.map (·.name),c.rules.map (·.name),c.tables.map (·.name),c.taxes.map (·.name)]∧∀x∈NN,x.l.length≤x.cap):NN.length=4∧∀x∈NN,x.l.length≤100∧x.l.length≤x.cap∧∀s∈x.l,NmB s:=by
 obtain⟨h1,h2⟩:=hN;obtain⟨⟨i1,i2⟩,⟨r1,r2⟩,⟨t1,t2⟩,x1,x2⟩:=h;refine⟨by have:=congrArg List.length h1;simpa using this,?_⟩;intro x hx;have hm:x.l∈NN.map StrS.l:=alStd0List_mem_map_of_mem hx;rw[h1] at hm;simp only[bh,aH,or_false] at hm;refine⟨?_,h2 x hx,?_⟩
 ·rcases hm with e|e|e|e<;>rw[e,aA]<;>omega
 ·intro s hs;rcases hm with e|e|e|e<;>rw[e] at hs<;>obtain⟨y,hy,rfl⟩:=List.mem_map.1 hs
  ·exact(i2 y hy).nm
  ·exact(r2 y hy).nm
  ·exact(t2 y hy).nm
  ·exact(x2 y hy).nm
def ls_W{c:CatV}(h:CatW c):∀a∈lsR c.rules++lsT c.tables,a.l.length≤10∧AmW a.l:=by
 intro a ha;rcases List.mem_append.1 ha with ha|ha
 ·obtain⟨r,hr,ha⟩:=List.mem_flatMap.1 ha;have hg:=h.ru.2 r hr;simp only[bh,aH,or_false] at ha;rcases ha with rfl|rfl|rfl
  ·exact⟨hg.take.2,hg.take.1⟩
  ·exact⟨hg.give.2,hg.give.1⟩
  ·exact⟨hg.back.2,hg.back.1⟩
 ·obtain⟨t,ht,ha⟩:=List.mem_flatMap.1 ha;obtain⟨w,hw,rfl⟩:=List.mem_map.1 ha;have:=(h.tb.2 t ht).rows w hw
  exact⟨this.2.2,this.2.1⟩
def Gx{l:List (Int×Int)}(h:∀j,j+1<l.length→l[j]!.1<l[j+1]!.1):l.Pairwise (fun a b=>a.1<b.1):=by
 rw[List.pairwise_iff_getElem];intro i j hi hj a0
 have key:∀m,i+1+m<l.length→l[i]!.1<l[i+1+m]!.1:=by
  intro m;induction m with
  | zero=>intro hm;exact h i hm
  | succ m ih =>
   intro hm;have q1:=ih ab;have q2:=h (i+1+m) ab;rw[show i+1+(m+1)=i+1+m+1 by omega];omega
 have:=key (j - (i+1)) ab
 rw[show i+1+(j - (i+1))=j by omega,getElem!_of hi,getElem!_of hj] at this;exact this
def errL:List Int:=[4,6,8,1,5]
def HG{i:Nat}(h:i<5):errL[i]!≠0:=by
 have:i=0∨i=1∨i=2∨i=3∨i=4:=ab;rcases this with rfl|rfl|rfl|rfl|rfl<;>decide
abbrev zS:=ar7 [.ev 13,.ev 14,.ef 15,.ev 16,.ev 17]
abbrev zR:=ar8 [.ev 17,.ev 18,.ev 19,.ev 20,.ev 21,.ev 22,.ev 23,.ev 24,.ev 25,.ev 26,.ev 27,.ev 28,.ev 29,.ev 30,.ev 31,.ev 32]
def aK{φ ψ:Prop}(k:ψ)(h:Hid ψ→φ:=by intro k;(with_reducible apply G.d7);first|refine G.dr 316 14 zS (Hid.out k)|refine G.dr 316 51 zR (Hid.out k)):φ:=h ⟨k⟩
def ag5{φ ψ:Prop}(k:ψ)(h:Hid ψ→φ:=by intro k;(repeat (first|refine aa ?_|intro zzz|refine aK ?_));(repeat revert zzz);exact Hid.out k):φ:=h ⟨k⟩
def Bp{L:LH}(c:CatV)(hW:CatW c):Tri ai 34 #[aN c.cells] (catS c L) (fun v L'=>∃e,v=ac e∧(e=0→CatF c)∧L' = catS c L):=by
 obtain⟨l1,i2⟩:=hW.it;obtain⟨l2,r2⟩:=hW.ru;obtain⟨l3,t2⟩:=hW.tb;obtain⟨l4,x2⟩:=hW.tx;refine Tri.bd ?_;simp only[CatV.cells,catS];repeat first|refine G.sn 1 ?_|refine bF ?_|intro _|refine aK ?_
 rename_i b1;refine G.d8 (α:=Bool) (fun f=>f=false→SzF c) (fun f=>[(1,aq b1),(3,.bool f)]) (fun _=>obj b1 tCat [ae c.iad c.items.length c.icap,ae c.rad c.rules.length c.rcap,ae c.tad c.tables.length c.tcap,ae c.xad c.taxes.length c.xcap]::isl be 7 c.iad c.items::isl bj 9 c.rad c.rules::allP ruP c.rules::isl bK 2 c.tad c.tables::allP tbP c.tables::isl bN 2 c.xad c.taxes::allP txP c.taxes::L) ?_ ?_
 ·by_cases z1:64<c.items.length
  ·refine ag5 ?_;intros;exact⟨true,fun h=>absurd h ag,an,Ent.refl _⟩
  by_cases z2:64<c.rules.length
  ·refine ag5 ?_;intros;exact⟨true,fun h=>absurd h ag,an,Ent.refl _⟩
  by_cases z3:32<c.tables.length
  ·refine ag5 ?_;intros;exact⟨true,fun h=>absurd h ag,an,Ent.refl _⟩
  refine ag5 ?_;intros;exact⟨dB ((32:Int)<(c.taxes.length:Int)),fun h=>by have:=iP h;exact⟨ab,ab,ab,ab⟩,an,Ent.refl _⟩
 intro a hA;refine ag5 ?_;intros;refine GO.ent (L':=catS c (obj b1 tCat [ae c.iad c.items.length c.icap,ae c.rad c.rules.length c.rcap,ae c.tad c.tables.length c.tcap,ae c.xad c.taxes.length c.xcap]::L)) (by simp only[catS];exact ah) ?_;refine GO.ca (wW c hW) ?_;rintro _ _⟨bn,NN,rfl,c5,rfl⟩;obtain⟨h9,f9⟩:=nm_W hW c5;simp only[catS];repeat first|refine G.sm 7 ?_|refine bF ?_|intro _|refine aK ?_
 refine G.d8 (α:=Bool×Bool) (fun z=>z.1=false→z.2=false→∀x∈NN,NmF x.l) (fun z=>[(1,aq b1),(3,.bool a),(4,.bool z.1),(5,.bool z.2),(6,.bool false),(7,.bool false)]) (fun _=>obj b1 tCat [ae c.iad c.items.length c.icap,ae c.rad c.rules.length c.rcap,ae c.tad c.tables.length c.tcap,ae c.xad c.taxes.length c.xcap]::isl be 7 c.iad c.items::isl bj 9 c.rad c.rules::allP ruP c.rules::isl bK 2 c.tad c.tables::allP tbP c.tables::isl bN 2 c.xad c.taxes::allP txP c.taxes::L) ?_ ?_
 ·refine ag5 ?_;intros;refine G.loop (α:=Nat×Bool×Bool) (fun z=>z.1≤4∧(z.2.1=false→z.2.2=false→∀x∈NN.take z.1,NmF x.l)) (fun z=>[(1,aq b1),(3,.bool a),(4,.bool z.2.1),(5,.bool z.2.2),(6,.bool false),(7,.bool false),(8,ae (some ⟨bn,0,none⟩) 4 4),(9,ac (z.1:Int))]) (fun _=>isl lK 1 (some ⟨bn,0,none⟩) NN::allP strP NN::obj b1 tCat [ae c.iad c.items.length c.icap,ae c.rad c.rules.length c.rcap,ae c.tad c.tables.length c.tcap,ae c.xad c.taxes.length c.xcap]::isl be 7 c.iad c.items::isl bj 9 c.rad c.rules::allP ruP c.rules::isl bK 2 c.tad c.tables::allP tbP c.tables::isl bN 2 c.xad c.taxes::allP txP c.taxes::L) (fun z=>4 - z.1) (0,false,false) ⟨az _,fun _ _ x hx=>absurd hx bH⟩ an ah ?_;rintro⟨i,b0,d0⟩ ⟨hi,b2⟩;dsimp only at hi b2;by_cases a5:i<4
  case neg =>
   rw[aB ab] at b2;refine ag5 ?_;intros;exact⟨(b0,d0),b2,an,by exact ah⟩
  have a6:(i:Int).toNat=i:=ab;have a0:NN[(i:Int).toNat]!∈NN:=aL ab;obtain⟨x1,x2,x3⟩:=f9 _ a0;refine G.ent (Ent.at (A:=allP strP NN) (Ent.d9 (f:=strP) a0)) ?_;dsimp only;refine ag5 ?_;intros;refine G.loop (α:=Nat×Bool×Bool) (fun z=>z.1≤NN[(i:Int).toNat]!.l.length∧(z.2.1=false→z.2.2=false→(b0=false∧d0=false)∧NmF (NN[(i:Int).toNat]!.l.take z.1))) (fun z=>[(1,aq b1),(3,.bool a),(4,.bool z.2.1),(5,.bool z.2.2),(6,.bool false),(7,.bool false),(8,ae (some ⟨bn,0,none⟩) 4 4),(9,ac (i:Int)),(10,ac (z.1:Int))]) (fun _=>isl cx 1 NN[(i:Int).toNat]!.ad NN[(i:Int).toNat]!.l::isl lK 1 (some ⟨bn,0,none⟩) NN::allP strP NN::obj b1 tCat [ae c.iad c.items.length c.icap,ae c.rad c.rules.length c.rcap,ae c.tad c.tables.length c.tcap,ae c.xad c.taxes.length c.xcap]::isl be 7 c.iad c.items::isl bj 9 c.rad c.rules::allP ruP c.rules::isl bK 2 c.tad c.tables::allP tbP c.tables::isl bN 2 c.xad c.taxes::allP txP c.taxes::L) (fun z=>NN[(i:Int).toNat]!.l.length - z.1) (0,b0,d0) ⟨az _,fun h1 h2=>⟨⟨h1,h2⟩,(fun s hs=>absurd hs bH),by simp⟩⟩ an (by unfold strP;exact ah) ?_;rintro⟨k,b,d⟩ ⟨hk,hq⟩;dsimp only at hk hq;by_cases a8:k<NN[(i:Int).toNat]!.l.length
  case neg =>
   rw[aB ab] at hq;refine ag5 ?_;intros;refine⟨(i+1,b,d),⟨by dsimp only;omega,fun h1 h2=>gU ab (b2 (hq h1 h2).1.1 (hq h1 h2).1.2) (by have:=(hq h1 h2).2;rw[a6] at this;exact this)⟩,by dsimp only;omega,?_,by exact ah⟩;dsimp only;rw[aU i];exact an
  have b3:(k:Int).toNat=k:=ab;have g4:NmB NN[(i:Int).toNat]!.l[(k:Int).toNat]!:=by rw[b3];exact x3 _ (aL a8)
  have i0:(NN[(i:Int).toNat]!.l.take k).length=k:=by rw[bg];omega
  dsimp only;repeat first|refine G.sn 13 ?_|refine bF ?_|intro _|refine aK ?_
  refine G.d8 (α:=Bool) (fun b'=>b' = false→b=false∧IsWord NN[(i:Int).toNat]!.l[(k:Int).toNat]!) (fun b'=>[(1,aq b1),(3,.bool a),(4,.bool b'),(5,.bool d),(6,.bool false),(7,.bool false),(8,ae (some ⟨bn,0,none⟩) 4 4),(9,ac (i:Int)),(10,ac (k:Int))]) (fun _=>isl cx 1 NN[(i:Int).toNat]!.ad NN[(i:Int).toNat]!.l::isl lK 1 (some ⟨bn,0,none⟩) NN::allP strP NN::obj b1 tCat [ae c.iad c.items.length c.icap,ae c.rad c.rules.length c.rcap,ae c.tad c.tables.length c.tcap,ae c.xad c.taxes.length c.xcap]::isl be 7 c.iad c.items::isl bj 9 c.rad c.rules::allP ruP c.rules::isl bK 2 c.tad c.tables::allP tbP c.tables::isl bN 2 c.xad c.taxes::allP txP c.taxes::L) ?_ ?_
  ·cases b
   case true =>
    refine ag5 ?_;intros;exact⟨true,fun h=>absurd h ag,an,Ent.refl _⟩
   refine ag5 ?_;intros;refine GO.ca (yk _ g4) ?_;rintro _ _⟨w,rfl,hw,rfl⟩;refine ag5 ?_;intros;exact⟨!w,fun h=>⟨rfl,hw (by simpa using h)⟩,an,Ent.refl _⟩
  intro b' d4;cases d
  case true =>
   refine ag5 ?_;intros;refine⟨(k+1,b',true),⟨by dsimp only;omega,fun _ h=>absurd h bH⟩,by dsimp only;omega,?_,by exact ah⟩;dsimp only;rw[aU k];exact an
  refine ag5 ?_;intros;refine GPW.ca (EH (hrd:=Rds.take (xs:=NN[(i:Int).toNat]!.l) inferInstance k) NN[(i:Int).toNat]!.ad (k:Int).toNat NN[(i:Int).toNat]!.cap (NN[(i:Int).toNat]!.l.take k) ab ab NN[(i:Int).toNat]!.l[(k:Int).toNat]!) ?_;rintro _ _⟨w,rfl,hw,rfl⟩;refine ag5 ?_;intros;refine⟨(k+1,b',w),⟨by dsimp only;omega,fun h1 h2=>?_⟩,by dsimp only;omega,?_,by exact ah⟩
  ·obtain⟨e1,e2⟩:=d4 h1;have hn:=hw h2;rw[b3] at e2 hn;obtain⟨g1,g2,g3⟩:=hq e1 rfl;exact⟨g1,gU a8 g2 e2,Ht a8 g3 hn⟩
  dsimp only;rw[aU k];exact an
 rintro⟨b,d⟩ c2;dsimp only at c2 ⊢;repeat first|refine G.sm 15 ?_|refine bF ?_|intro _|refine aK ?_
 refine G.d8 (α:=Bool×Bool) (fun z=>z.1=false→z.2=false→∀x∈c.items,ItF x) (fun z=>[(1,aq b1),(3,.bool a),(4,.bool b),(5,.bool d),(6,.bool z.1),(7,.bool z.2)]) (fun _=>obj b1 tCat [ae c.iad c.items.length c.icap,ae c.rad c.rules.length c.rcap,ae c.tad c.tables.length c.tcap,ae c.xad c.taxes.length c.xcap]::isl be 7 c.iad c.items::isl bj 9 c.rad c.rules::allP ruP c.rules::isl bK 2 c.tad c.tables::allP tbP c.tables::isl bN 2 c.xad c.taxes::allP txP c.taxes::L) ?_ ?_
 ·refine ag5 ?_;intros;refine G.loop (α:=Nat×Bool×Bool) (fun z=>z.1≤c.items.length∧(z.2.1=false→z.2.2=false→∀x∈c.items.take z.1,ItF x)) (fun z=>[(1,aq b1),(3,.bool a),(4,.bool b),(5,.bool d),(6,.bool z.2.1),(7,.bool z.2.2),(11,ac (z.1:Int))]) (fun _=>obj b1 tCat [ae c.iad c.items.length c.icap,ae c.rad c.rules.length c.rcap,ae c.tad c.tables.length c.tcap,ae c.xad c.taxes.length c.xcap]::isl be 7 c.iad c.items::isl bj 9 c.rad c.rules::allP ruP c.rules::isl bK 2 c.tad c.tables::allP tbP c.tables::isl bN 2 c.xad c.taxes::allP txP c.taxes::L) (fun z=>c.items.length - z.1) (0,false,false) ⟨az _,fun _ _ x hx=>absurd hx bH⟩ an ah ?_;rintro⟨i,e,f⟩ ⟨hi,hq⟩;dsimp only at hi hq;by_cases a5:i<c.items.length
  case neg =>
   rw[aB ab] at hq;refine ag5 ?_;intros;exact⟨(e,f),hq,an,Ent.refl _⟩
  have a6:(i:Int).toNat=i:=ab;have c0:=i2 _ (aL a5);dsimp only;repeat first|refine G.sn 18 ?_|refine bF ?_|intro _|refine aK ?_
  repeat first|refine G.sn 19 ?_|refine bF ?_|intro _|refine aK ?_
  rw[a6];obtain⟨x,hx⟩:∃x,c.items[i]! = x:=⟨_,rfl⟩;change ItS c.items[i]! at c0;have a4:∀e' f',(e' = false→f' = false→(e=false∧f=false)∧ItF x)→(fun z:Nat×Bool×Bool=>z.1≤c.items.length∧(z.2.1=false→z.2.2=false→∀x∈c.items.take z.1,ItF x)) (i+1,e',f'):=fun e' f' h=>⟨by dsimp only;omega,fun h1 h2=>gU a5 (hq (h h1 h2).1.1 (h h1 h2).1.2) (by rw[hx];exact(h h1 h2).2)⟩;rw[hx] at c0 ⊢;rename_i a9;refine G.d8 (α:=Int) (fun e0=>e0≠1→if x.obj=true then x.mixed=false∧x.coin=false∧0≤x.bind∧x.bind≤2 else x.wear=0∧x.bind=0∧x.level=0) (fun e0=>[(1,aq b1),(3,.bool a),(4,.bool b),(5,.bool d),(6,.bool e),(7,.bool f),(11,ac (i:Int)),(12,aq a9),(13,ac e0)]) (fun _=>obj a9 147 (be x)::obj b1 tCat [ae c.iad c.items.length c.icap,ae c.rad c.rules.length c.rcap,ae c.tad c.tables.length c.tcap,ae c.xad c.taxes.length c.xcap]::isl be 7 c.iad c.items::isl bj 9 c.rad c.rules::allP ruP c.rules::isl bK 2 c.tad c.tables::allP tbP c.tables::isl bN 2 c.xad c.taxes::allP txP c.taxes::L) ?_ ?_
  ·refine ag5 ?_;intros;refine GO.ca (sK x c0) ?_;rintro _ _⟨e0,rfl,b9,rfl⟩;refine ag5 ?_;intros;exact⟨e0,b9,an,by exact ah⟩
  intro e0 b9;refine G.d8 (α:=Bool) (fun e'=>e' = false→e=false∧if x.obj=true then x.mixed=false∧x.coin=false∧0≤x.bind∧x.bind≤2 else x.wear=0∧x.bind=0∧x.level=0) (fun e'=>[(1,aq b1),(3,.bool a),(4,.bool b),(5,.bool d),(6,.bool e'),(7,.bool f),(11,ac (i:Int)),(12,aq a9)]) (fun _=>obj a9 147 (be x)::obj b1 tCat [ae c.iad c.items.length c.icap,ae c.rad c.rules.length c.rcap,ae c.tad c.tables.length c.tcap,ae c.xad c.taxes.length c.xcap]::isl be 7 c.iad c.items::isl bj 9 c.rad c.rules::allP ruP c.rules::isl bK 2 c.tad c.tables::allP tbP c.tables::isl bN 2 c.xad c.taxes::allP txP c.taxes::L) ?_ ?_
  ·cases e
   case true =>
    refine ag5 ?_;intros;exact⟨true,fun h=>absurd h ag,an,Ent.refl _⟩
   refine ag5 ?_;intros;exact⟨dB (e0=1),fun h=>⟨rfl,b9 (iP h)⟩,an,Ent.refl _⟩
  intro e' a7;simp only[be];cases f
  case true =>
   refine ag5 ?_;intros;refine⟨(i+1,e',true),a4 e' true (fun _ h=>absurd h ag),by dsimp only;omega,?_,by exact ah⟩;dsimp only;rw[aU i];exact an
  by_cases q1:x.level<0
  ·refine ag5 ?_;intros;refine⟨(i+1,e',true),a4 e' true (fun _ h=>absurd h ag),by dsimp only;omega,?_,by exact ah⟩;dsimp only;rw[aU i];exact an
  by_cases q2:100<x.level
  ·refine ag5 ?_;intros;refine⟨(i+1,e',true),a4 e' true (fun _ h=>absurd h ag),by dsimp only;omega,?_,by exact ah⟩;dsimp only;rw[aU i];exact an
  by_cases ho:x.obj=true
  case neg =>
   have d3 : x.obj=false:=by simpa using ho
   rw[d3] at a7 ⊢;refine ag5 ?_;intros;refine⟨(i+1,e',false),a4 e' false (fun h _=>⟨⟨(a7 h).1,rfl⟩,by rw[ItF,d3];exact⟨(a7 h).2,fun h=>absurd h ag,ab⟩⟩),by dsimp only;omega,?_,by exact ah⟩;dsimp only;rw[aU i];exact an
  rw[ho] at a7 ⊢;by_cases q3:x.wear<1
  ·refine ag5 ?_;intros;refine⟨(i+1,e',true),a4 e' true (fun _ h=>absurd h ag),by dsimp only;omega,?_,by exact ah⟩;dsimp only;rw[aU i];exact an
  refine ag5 ?_;intros;refine⟨(i+1,e',dB (1048576<x.wear)),a4 e' _ (fun h h2=>⟨⟨(a7 h).1,rfl⟩,by have:=iP h2;rw[ItF,ho];exact⟨(a7 h).2,fun _=>by omega,ab⟩⟩),by dsimp only;omega,?_,by exact ah⟩;dsimp only;rw[aU i];exact an
 rintro⟨e,f⟩ c3;dsimp only at c3 ⊢;repeat first|refine G.sm 22 ?_|refine bF ?_|intro _|refine aK ?_
 refine G.d8 (α:=Bool×Bool×Bool) (fun z=>z.1=false→z.2.1=false→z.2.2=false→(a=false∧e=false∧f=false)∧∀x∈c.rules,RuF x) (fun z=>[(1,aq b1),(3,.bool z.1),(4,.bool b),(5,.bool d),(6,.bool z.2.1),(7,.bool z.2.2)]) (fun _=>obj b1 tCat [ae c.iad c.items.length c.icap,ae c.rad c.rules.length c.rcap,ae c.tad c.tables.length c.tcap,ae c.xad c.taxes.length c.xcap]::isl be 7 c.iad c.items::isl bj 9 c.rad c.rules::allP ruP c.rules::isl bK 2 c.tad c.tables::allP tbP c.tables::isl bN 2 c.xad c.taxes::allP txP c.taxes::L) ?_ ?_
 ·refine ag5 ?_;intros;refine G.loop (α:=Nat×Bool×Bool×Bool) (fun z=>z.1≤c.rules.length∧(z.2.1=false→z.2.2.1=false→z.2.2.2=false→(a=false∧e=false∧f=false)∧∀x∈c.rules.take z.1,RuF x)) (fun z=>[(1,aq b1),(3,.bool z.2.1),(4,.bool b),(5,.bool d),(6,.bool z.2.2.1),(7,.bool z.2.2.2),(14,ac (z.1:Int))]) (fun _=>obj b1 tCat [ae c.iad c.items.length c.icap,ae c.rad c.rules.length c.rcap,ae c.tad c.tables.length c.tcap,ae c.xad c.taxes.length c.xcap]::isl be 7 c.iad c.items::isl bj 9 c.rad c.rules::allP ruP c.rules::isl bK 2 c.tad c.tables::allP tbP c.tables::isl bN 2 c.xad c.taxes::allP txP c.taxes::L) (fun z=>c.rules.length - z.1) (0,a,e,f) ⟨az _,fun h1 h2 h3=>⟨⟨h1,h2,h3⟩,fun x hx=>absurd hx bH⟩⟩ an ah ?_;rintro⟨i,u,v,w⟩ ⟨hi,hq⟩;dsimp only at hi hq;by_cases a5:i<c.rules.length
  case neg =>
   rw[aB ab] at hq;refine ag5 ?_;intros;exact⟨(u,v,w),hq,an,Ent.refl _⟩
  have a6:(i:Int).toNat=i:=ab;have a0:=aL a5;have hr:=r2 _ a0;refine G.ent (Ent.at (A:=allP ruP c.rules) ((Ent.d9 (f:=ruP) a0).trans (Ent.andE.trans (Ent.d7 Ent.andE)))) ?_;dsimp only;refine ag5 ?_;intros;rw[a6];refine GO.ent (L':=isl aV 2 c.rules[i]!.take.ad c.rules[i]!.take.l::isl aV 2 c.rules[i]!.give.ad c.rules[i]!.give.l::isl aV 2 c.rules[i]!.back.ad c.rules[i]!.back.l::obj b1 tCat [ae c.iad c.items.length c.icap,ae c.rad c.rules.length c.rcap,ae c.tad c.tables.length c.tcap,ae c.xad c.taxes.length c.xcap]::isl be 7 c.iad c.items::isl bj 9 c.rad c.rules::allP ruP c.rules::isl bK 2 c.tad c.tables::allP tbP c.tables::isl bN 2 c.xad c.taxes::allP txP c.taxes::L) (by simp only[amS];exact ah) ?_;refine GO.ca (rp c.rules[i]! hr) ?_;rintro _ _⟨y1,y2,y3,rfl,hy,rfl⟩
  have a4:(fun z:Nat×Bool×Bool×Bool=>z.1≤c.rules.length∧(z.2.1=false→z.2.2.1=false→z.2.2.2=false→(a=false∧e=false∧f=false)∧∀x∈c.rules.take z.1,RuF x)) (i+1,(u || y1),(v || y2),(w || y3)):=by
   refine⟨by dsimp only;omega,fun h1 h2 h3=>?_⟩;obtain⟨h1,k1⟩:=Bool.or_eq_false_iff.1 h1;obtain⟨h2,k2⟩:=Bool.or_eq_false_iff.1 h2;obtain⟨h3,k3⟩:=Bool.or_eq_false_iff.1 h3;exact⟨(hq h1 h2 h3).1,gU a5 (hq h1 h2 h3).2 (hy k1 k2 k3)⟩
  cases u<;>cases v<;>cases w
  all_goals
   refine ag5 ?_;intros;refine⟨_,a4,by dsimp only;omega,?_,by exact ah⟩
   dsimp only[Bool.true_or,Bool.false_or]
   rw[aU i]
   exact an
 rintro⟨a1,e1,f1⟩ c6;dsimp only at c6 ⊢;repeat first|refine G.sm 29 ?_|refine bF ?_|intro _|refine aK ?_
 refine G.d8 (α:=Bool×Bool×Bool) (fun z=>z.1=false→z.2.1=false→z.2.2=false→(a1=false∧e1=false∧f1=false)∧∀x∈c.tables,TbF x) (fun z=>[(1,aq b1),(3,.bool z.1),(4,.bool b),(5,.bool d),(6,.bool z.2.1),(7,.bool z.2.2)]) (fun _=>obj b1 tCat [ae c.iad c.items.length c.icap,ae c.rad c.rules.length c.rcap,ae c.tad c.tables.length c.tcap,ae c.xad c.taxes.length c.xcap]::isl be 7 c.iad c.items::isl bj 9 c.rad c.rules::allP ruP c.rules::isl bK 2 c.tad c.tables::allP tbP c.tables::isl bN 2 c.xad c.taxes::allP txP c.taxes::L) ?_ ?_
 ·refine ag5 ?_;intros;refine G.loop (α:=Nat×Bool×Bool×Bool) (fun z=>z.1≤c.tables.length∧(z.2.1=false→z.2.2.1=false→z.2.2.2=false→(a1=false∧e1=false∧f1=false)∧∀x∈c.tables.take z.1,TbF x)) (fun z=>[(1,aq b1),(3,.bool z.2.1),(4,.bool b),(5,.bool d),(6,.bool z.2.2.1),(7,.bool z.2.2.2),(18,ac (z.1:Int))]) (fun _=>obj b1 tCat [ae c.iad c.items.length c.icap,ae c.rad c.rules.length c.rcap,ae c.tad c.tables.length c.tcap,ae c.xad c.taxes.length c.xcap]::isl be 7 c.iad c.items::isl bj 9 c.rad c.rules::allP ruP c.rules::isl bK 2 c.tad c.tables::allP tbP c.tables::isl bN 2 c.xad c.taxes::allP txP c.taxes::L) (fun z=>c.tables.length - z.1) (0,a1,e1,f1) ⟨az _,fun h1 h2 h3=>⟨⟨h1,h2,h3⟩,fun x hx=>absurd hx bH⟩⟩ an ah ?_;rintro⟨i,u,v,w⟩ ⟨hi,hq⟩;dsimp only at hi hq;by_cases a5:i<c.tables.length
  case neg =>
   rw[aB ab] at hq;refine ag5 ?_;intros;exact⟨(u,v,w),hq,an,Ent.refl _⟩
  have a6:(i:Int).toNat=i:=ab;have a0:=aL a5;have hr:=t2 _ a0;refine G.ent (Ent.at (A:=allP tbP c.tables) ((Ent.d9 (f:=tbP) a0).trans Ent.andE)) ?_;dsimp only;refine ag5 ?_;intros;rw[a6];refine GO.ent (L':=isl du 2 c.tables[i]!.ad c.tables[i]!.rows::obj b1 tCat [ae c.iad c.items.length c.icap,ae c.rad c.rules.length c.rcap,ae c.tad c.tables.length c.tcap,ae c.xad c.taxes.length c.xcap]::isl be 7 c.iad c.items::isl bj 9 c.rad c.rules::allP ruP c.rules::isl bK 2 c.tad c.tables::allP tbP c.tables::isl bN 2 c.xad c.taxes::allP txP c.taxes::L) ah ?_;refine GO.ca (qG c.tables[i]! hr) ?_;rintro _ _⟨y1,y2,y3,rfl,hy,rfl⟩
  have a4:(fun z:Nat×Bool×Bool×Bool=>z.1≤c.tables.length∧(z.2.1=false→z.2.2.1=false→z.2.2.2=false→(a1=false∧e1=false∧f1=false)∧∀x∈c.tables.take z.1,TbF x)) (i+1,(u || y1),(v || y2),(w || y3)):=by
   refine⟨by dsimp only;omega,fun h1 h2 h3=>?_⟩;obtain⟨h1,k1⟩:=Bool.or_eq_false_iff.1 h1;obtain⟨h2,k2⟩:=Bool.or_eq_false_iff.1 h2;obtain⟨h3,k3⟩:=Bool.or_eq_false_iff.1 h3;exact⟨(hq h1 h2 h3).1,gU a5 (hq h1 h2 h3).2 (hy k1 k2 k3)⟩
  cases u<;>cases v<;>cases w
  all_goals
   refine ag5 ?_;intros;refine⟨_,a4,by dsimp only;omega,?_,by exact ah⟩
   dsimp only[Bool.true_or,Bool.false_or]
   rw[aU i]
   exact an
 rintro⟨a2,e2,f2⟩ c7;dsimp only at c7 ⊢;repeat first|refine G.sm 36 ?_|refine bF ?_|intro _|refine aK ?_
 refine G.d8 (α:=Bool×Bool×Bool) (fun z=>z.1=false→z.2.1=false→z.2.2=false→(a2=false∧e2=false∧f2=false)∧∀x∈c.taxes,TxF x) (fun z=>[(1,aq b1),(3,.bool z.1),(4,.bool b),(5,.bool d),(6,.bool z.2.1),(7,.bool z.2.2)]) (fun _=>obj b1 tCat [ae c.iad c.items.length c.icap,ae c.rad c.rules.length c.rcap,ae c.tad c.tables.length c.tcap,ae c.xad c.taxes.length c.xcap]::isl be 7 c.iad c.items::isl bj 9 c.rad c.rules::allP ruP c.rules::isl bK 2 c.tad c.tables::allP tbP c.tables::isl bN 2 c.xad c.taxes::allP txP c.taxes::L) ?_ ?_
 ·refine ag5 ?_;intros;refine G.loop (α:=Nat×Bool×Bool×Bool) (fun z=>z.1≤c.taxes.length∧(z.2.1=false→z.2.2.1=false→z.2.2.2=false→(a2=false∧e2=false∧f2=false)∧∀x∈c.taxes.take z.1,TxF x)) (fun z=>[(1,aq b1),(3,.bool z.2.1),(4,.bool b),(5,.bool d),(6,.bool z.2.2.1),(7,.bool z.2.2.2),(22,ac (z.1:Int))]) (fun _=>obj b1 tCat [ae c.iad c.items.length c.icap,ae c.rad c.rules.length c.rcap,ae c.tad c.tables.length c.tcap,ae c.xad c.taxes.length c.xcap]::isl be 7 c.iad c.items::isl bj 9 c.rad c.rules::allP ruP c.rules::isl bK 2 c.tad c.tables::allP tbP c.tables::isl bN 2 c.xad c.taxes::allP txP c.taxes::L) (fun z=>c.taxes.length - z.1) (0,a2,e2,f2) ⟨az _,fun h1 h2 h3=>⟨⟨h1,h2,h3⟩,fun x hx=>absurd hx bH⟩⟩ an ah ?_;rintro⟨i,u,v,w⟩ ⟨hi,hq⟩;dsimp only at hi hq;by_cases a5:i<c.taxes.length
  case neg =>
   rw[aB ab] at hq;refine ag5 ?_;intros;exact⟨(u,v,w),hq,an,Ent.refl _⟩
  have a6:(i:Int).toNat=i:=ab;have a0:=aL a5;have hr:=x2 _ a0;refine G.ent (Ent.at (A:=allP txP c.taxes) (Ent.d9 (f:=txP) a0)) ?_;dsimp only;refine ag5 ?_;intros;rw[a6];refine GO.ent (L':=isl aV 2 c.taxes[i]!.ad c.taxes[i]!.brs::obj b1 tCat [ae c.iad c.items.length c.icap,ae c.rad c.rules.length c.rcap,ae c.tad c.tables.length c.tcap,ae c.xad c.taxes.length c.xcap]::isl be 7 c.iad c.items::isl bj 9 c.rad c.rules::allP ruP c.rules::isl bK 2 c.tad c.tables::allP tbP c.tables::isl bN 2 c.xad c.taxes::allP txP c.taxes::L) (by unfold txP;exact ah) ?_;refine GO.ca (rY c.taxes[i]! hr) ?_;rintro _ _⟨y1,y2,y3,rfl,hy,rfl⟩
  have a4:(fun z:Nat×Bool×Bool×Bool=>z.1≤c.taxes.length∧(z.2.1=false→z.2.2.1=false→z.2.2.2=false→(a2=false∧e2=false∧f2=false)∧∀x∈c.taxes.take z.1,TxF x)) (i+1,(u || y1),(v || y2),(w || y3)):=by
   refine⟨by dsimp only;omega,fun h1 h2 h3=>?_⟩;obtain⟨h1,k1⟩:=Bool.or_eq_false_iff.1 h1;obtain⟨h2,k2⟩:=Bool.or_eq_false_iff.1 h2;obtain⟨h3,k3⟩:=Bool.or_eq_false_iff.1 h3;exact⟨(hq h1 h2 h3).1,gU a5 (hq h1 h2 h3).2 (hy k1 k2 k3)⟩
  cases u<;>cases v<;>cases w
  all_goals
   refine ag5 ?_;intros;refine⟨_,a4,by dsimp only;omega,?_,by exact ah⟩
   dsimp only[Bool.true_or,Bool.false_or]
   rw[aU i]
   exact an
 rintro⟨a3,e3,f3⟩ c8;dsimp only at c8 ⊢;refine ag5 ?_;intros;refine GO.ent (L':=catS c (obj b1 tCat [ae c.iad c.items.length c.icap,ae c.rad c.rules.length c.rcap,ae c.tad c.tables.length c.tcap,ae c.xad c.taxes.length c.xcap]::L)) (by simp only[catS];exact ah) ?_;refine GO.ca (xe c hW) ?_;rintro _ _⟨al,cl,rfl,rfl⟩;simp only[catS];have d2:=ls_W hW;have d1:∀{L:LH},Ent (allP ruP c.rules::allP tbP c.tables::L) (allP amS (lsR c.rules++lsT c.tables)::allP ruP c.rules::allP tbP c.tables::L):=EA _ (fun _ h=>h)
 have f5:(lsR c.rules++lsT c.tables).length≤100000:=by
  have q1:=tG c.rules;have q2:=xd (ts:=c.tables) (fun t ht=>(t2 t ht).len);rw[ax];omega
 have d5:(∀a∈lsR c.rules++lsT c.tables,fS c.items.length a.l)→(∀a∈lsR c.rules++lsT c.tables,fS c.items.length a.l):=id;generalize hls:lsR c.rules++lsT c.tables=ls at d2 d1 f5;repeat first|refine G.sm 44 ?_|refine bF ?_|intro _|refine aK ?_
 refine G.d8 (α:=Bool×Bool) (fun z=>z.1=false→z.2=false→(e3=false∧f3=false)∧∀x∈ls,fS c.items.length x.l) (fun z=>[(1,aq b1),(3,.bool a3),(4,.bool b),(5,.bool d),(6,.bool z.1),(7,.bool z.2)]) (fun _=>obj b1 tCat [ae c.iad c.items.length c.icap,ae c.rad c.rules.length c.rcap,ae c.tad c.tables.length c.tcap,ae c.xad c.taxes.length c.xcap]::isl be 7 c.iad c.items::isl bj 9 c.rad c.rules::allP ruP c.rules::isl bK 2 c.tad c.tables::allP tbP c.tables::isl bN 2 c.xad c.taxes::allP txP c.taxes::L) ?_ ?_
 ·refine ag5 ?_;intros;refine G.loop (α:=Nat×Bool×Bool) (fun z=>z.1≤ls.length∧(z.2.1=false→z.2.2=false→(e3=false∧f3=false)∧∀x∈ls.take z.1,fS c.items.length x.l)) (fun z=>[(1,aq b1),(3,.bool a3),(4,.bool b),(5,.bool d),(6,.bool z.2.1),(7,.bool z.2.2),(26,ae al ls.length cl),(27,ac (z.1:Int))]) (fun _=>allP amS ls::isl iD 1 al ls::obj b1 tCat [ae c.iad c.items.length c.icap,ae c.rad c.rules.length c.rcap,ae c.tad c.tables.length c.tcap,ae c.xad c.taxes.length c.xcap]::isl be 7 c.iad c.items::isl bj 9 c.rad c.rules::allP ruP c.rules::isl bK 2 c.tad c.tables::allP tbP c.tables::isl bN 2 c.xad c.taxes::allP txP c.taxes::L) (fun z=>ls.length - z.1) (0,e3,f3) ⟨az _,fun h1 h2=>⟨⟨h1,h2⟩,fun x hx=>absurd hx bH⟩⟩ an (Ent.trans (B:=allP ruP c.rules::allP tbP c.tables::isl iD 1 al ls::obj b1 tCat [ae c.iad c.items.length c.icap,ae c.rad c.rules.length c.rcap,ae c.tad c.tables.length c.tcap,ae c.xad c.taxes.length c.xcap]::isl be 7 c.iad c.items::isl bj 9 c.rad c.rules::isl bK 2 c.tad c.tables::isl bN 2 c.xad c.taxes::allP txP c.taxes::L) ah (d1.trans ah)) ?_;rintro⟨i,e,f⟩ ⟨hi,hq⟩;dsimp only at hi hq;by_cases a5:i<ls.length
  case neg =>
   rw[aB ab] at hq;refine ag5 ?_;intros;exact⟨(e,f),hq,an,by exact ah⟩
  have a6:(i:Int).toNat=i:=ab;have a0:ls[(i:Int).toNat]!∈ls:=aL ab;obtain⟨g3,g1⟩:=d2 _ a0;refine G.ent (Ent.at (A:=allP amS ls) (Ent.d9 (f:=amS) a0)) ?_;dsimp only;refine ag5 ?_;intros;refine G.loop (α:=Nat×Bool×Bool) (fun z=>z.1≤ls[(i:Int).toNat]!.l.length∧(z.2.1=false→z.2.2=false→(e=false∧f=false)∧(∀y∈ls[(i:Int).toNat]!.l.take z.1,0≤y.1∧y.1<c.items.length∧1≤y.2∧y.2≤1099511627776)∧∀j,j+1<z.1→ls[(i:Int).toNat]!.l[j]!.1<ls[(i:Int).toNat]!.l[j+1]!.1)) (fun z=>[(1,aq b1),(3,.bool a3),(4,.bool b),(5,.bool d),(6,.bool z.2.1),(7,.bool z.2.2),(26,ae al ls.length cl),(27,ac (i:Int)),(28,ac (z.1:Int))]) (fun _=>isl aV 2 ls[(i:Int).toNat]!.ad ls[(i:Int).toNat]!.l::allP amS ls::isl iD 1 al ls::obj b1 tCat [ae c.iad c.items.length c.icap,ae c.rad c.rules.length c.rcap,ae c.tad c.tables.length c.tcap,ae c.xad c.taxes.length c.xcap]::isl be 7 c.iad c.items::isl bj 9 c.rad c.rules::allP ruP c.rules::isl bK 2 c.tad c.tables::allP tbP c.tables::isl bN 2 c.xad c.taxes::allP txP c.taxes::L) (fun z=>ls[(i:Int).toNat]!.l.length - z.1) (0,e,f) ⟨az _,fun h1 h2=>⟨⟨h1,h2⟩,(fun x hx=>absurd hx bH),fun j hj=>by dsimp only at hj;omega⟩⟩ an ah ?_;rintro⟨k,u,v⟩ ⟨hk,hr⟩;dsimp only at hk hr;by_cases a8:k<ls[(i:Int).toNat]!.l.length
  case neg =>
   have f0:k=ls[(i:Int).toNat]!.l.length:=ab;rw[aB ab,f0] at hr;refine ag5 ?_;intros;refine⟨(i+1,u,v),⟨by dsimp only;omega,fun h1 h2=>?_⟩,by dsimp only;omega,?_,by exact ah⟩
   ·obtain⟨⟨p1,p2⟩,p3,p4⟩:=hr h1 h2;have hs:fS c.items.length ls[(i:Int).toNat]!.l:=⟨p3,Gx p4⟩;rw[a6] at hs;exact⟨(hq p1 p2).1,gU a5 (hq p1 p2).2 hs⟩
   dsimp only;rw[aU i];exact an
  have b3:(k:Int).toNat=k:=ab;have g5:ls[(i:Int).toNat]!.l[(k:Int).toNat]! = ls[(i:Int).toNat]!.l[k]!:=by rw[b3]
  have a4:∀u' v',(u' = false→v' = false→(u=false∧v=false)∧(0≤ls[(i:Int).toNat]!.l[k]!.1∧ls[(i:Int).toNat]!.l[k]!.1<c.items.length∧1≤ls[(i:Int).toNat]!.l[k]!.2∧ls[(i:Int).toNat]!.l[k]!.2≤1099511627776)∧(0<k→ls[(i:Int).toNat]!.l[k - 1]!.1<ls[(i:Int).toNat]!.l[k]!.1))→(fun z:Nat×Bool×Bool=>z.1≤ls[(i:Int).toNat]!.l.length∧(z.2.1=false→z.2.2=false→(e=false∧f=false)∧(∀y∈ls[(i:Int).toNat]!.l.take z.1,0≤y.1∧y.1<c.items.length∧1≤y.2∧y.2≤1099511627776)∧∀j,j+1<z.1→ls[(i:Int).toNat]!.l[j]!.1<ls[(i:Int).toNat]!.l[j+1]!.1)) (k+1,u',v'):=by
   intro u' v' h;refine⟨by dsimp only;omega,fun h1 h2=>?_⟩;obtain⟨⟨p1,p2⟩,p3,p4⟩:=h h1 h2;obtain⟨q1,q2,q3⟩:=hr p1 p2;refine⟨q1,gU a8 q2 p3,fun j hj=>?_⟩;dsimp only at hj;by_cases e6:j+1<k
   ·exact q3 j e6
   ·have d6:j=k - 1:=ab;rw[show j+1=k by omega,d6];exact p4 ab
  dsimp only;repeat first|refine G.sn 50 ?_|refine bF ?_|intro _|refine aK ?_
  repeat first|refine G.sn 51 ?_|refine bF ?_|intro _|refine aK ?_
  simp only[aV];rw[g5];obtain⟨y,hy⟩:∃y,ls[(i:Int).toNat]!.l[k]! = y:=⟨_,rfl⟩;rw[hy] at a4 ⊢;rename_i c1;refine G.d8 (α:=Bool) (fun u'=>u' = false→u=false∧0≤y.1∧y.1<c.items.length∧(0<k→ls[(i:Int).toNat]!.l[k - 1]!.1<y.1)) (fun u'=>[(1,aq b1),(3,.bool a3),(4,.bool b),(5,.bool d),(6,.bool u'),(7,.bool v),(26,ae al ls.length cl),(27,ac (i:Int)),(28,ac (k:Int)),(29,aq c1)]) (fun _=>obj c1 81 [ac y.1,ac y.2]::isl aV 2 ls[(i:Int).toNat]!.ad ls[(i:Int).toNat]!.l::allP amS ls::isl iD 1 al ls::obj b1 tCat [ae c.iad c.items.length c.icap,ae c.rad c.rules.length c.rcap,ae c.tad c.tables.length c.tcap,ae c.xad c.taxes.length c.xcap]::isl be 7 c.iad c.items::isl bj 9 c.rad c.rules::allP ruP c.rules::isl bK 2 c.tad c.tables::allP tbP c.tables::isl bN 2 c.xad c.taxes::allP txP c.taxes::L) ?_ ?_
  ·cases u
   case true =>
    refine ag5 ?_;intros;exact⟨true,fun h=>absurd h ag,an,by exact ah⟩
   by_cases w1:y.1<0
   ·refine ag5 ?_;intros;exact⟨true,fun h=>absurd h ag,an,by exact ah⟩
   by_cases w2:(c.items.length:Int)≤y.1
   ·refine ag5 ?_;intros;exact⟨true,fun h=>absurd h ag,an,by exact ah⟩
   rcases fD k with h0|h0
   ·refine ag5 ?_;intros;exact⟨false,fun _=>⟨rfl,ab,ab,fun h=>by omega⟩,an,by exact ah⟩
   ·have g0:((k:Int) - 1).toNat=k - 1:=ab;refine ag5 ?_;intros;rw[g0];refine ag5 ?_;intros;exact⟨dB (y.1≤ls[(i:Int).toNat]!.l[k - 1]!.1),fun h=>⟨rfl,ab,ab,fun _=>by have:=iP h;omega⟩,an,by exact ah⟩
  intro u' b4;cases v
  case true =>
   refine ag5 ?_;intros;refine⟨(k+1,u',true),a4 u' true (fun _ h=>absurd h ag),by dsimp only;omega,?_,by exact ah⟩;dsimp only;rw[aU k];exact an
  by_cases w1:y.2<1
  ·refine ag5 ?_;intros;refine⟨(k+1,u',true),a4 u' true (fun _ h=>absurd h ag),by dsimp only;omega,?_,by exact ah⟩;dsimp only;rw[aU k];exact an
  refine ag5 ?_;intros;refine⟨(k+1,u',dB (1099511627776<y.2)),a4 u' _ (fun h1 h2=>⟨⟨(b4 h1).1,rfl⟩,⟨(b4 h1).2.1,(b4 h1).2.2.1,ab,by have:=iP h2;omega⟩,(b4 h1).2.2.2⟩),by dsimp only;omega,?_,by exact ah⟩;dsimp only;rw[aU k];exact an
 rintro⟨e4,f4⟩ c4;dsimp only at c4 ⊢
 have b8:a3=false→b=false→d=false→e4=false→f4=false→CatF c:=by
  intro k1 k2 k3 k4 k5;obtain⟨⟨k6,k7⟩,s1⟩:=c4 k4 k5;obtain⟨⟨k8,k9,g6⟩,s2⟩:=c8 k1 k6 k7;obtain⟨⟨g7,g8,h4⟩,s3⟩:=c7 k8 k9 g6;obtain⟨⟨h5,h6,h7⟩,s4⟩:=c6 g7 g8 h4;refine⟨hA h5,fun l hl=>?_,c3 h6 h7,s4,s3,s2,by rw[hls];exact s1⟩;rw[←c5.1] at hl;obtain⟨x,hx,rfl⟩:=List.mem_map.1 hl;exact c2 k2 k3 x hx
 refine ag5 ?_;intros;rename_i b5 b6;obtain⟨FL,b7⟩:∃FL:List Bool,FL=[a3,b,d,e4,f4]:=⟨_,rfl⟩;have f6:FL.length=5:=by rw[b7];rfl
 have h8:errL.length=5:=rfl;refine G.ent (Ent.l5 (enc:=Dg) (sz:=1) (b:=b5) FL (by rw[b7];simp[Dg]) (fun x _=>rfl) (by rw[f6];exact ao rfl)) ?_;refine G.ent (Ent.l5 (enc:=encZ .i64) (sz:=1) (b:=b6) errL (by simp[encZ,errL]) (fun x _=>rfl) (ao rfl)) ?_;refine G.loop (α:=Nat) (fun i=>i≤5∧∀j,j<i→FL[j]! = false) (fun i=>[(30,ae (some ⟨b5,0,none⟩) 5 5),(31,ae (some ⟨b6,0,none⟩) 5 5),(32,ac (i:Int))]) (fun _=>isl Dg 1 (some ⟨b5,0,none⟩) FL::isl (encZ .i64) 1 (some ⟨b6,0,none⟩) errL::isl be 7 c.iad c.items::isl bj 9 c.rad c.rules::allP ruP c.rules::isl bK 2 c.tad c.tables::allP tbP c.tables::isl bN 2 c.xad c.taxes::allP txP c.taxes::L) (fun i=>5 - i) 0 ⟨az _,fun j hj=>by omega⟩ an ah ?_;rintro i ⟨hi,hq⟩;by_cases a5:i<5
 case neg =>
  refine ag5 ?_;intros;refine KX.d7 av ah ⟨_,rfl,fun _=>?_,rfl⟩;rw[b7] at hq;exact b8 (hq 0 ab) (hq 1 ab) (hq 2 ab) (hq 3 ab) (hq 4 ab)
 have a6:(i:Int).toNat=i:=ab;by_cases hf:FL[i]! = true
 ·have f7:=HG a5;refine ag5 ?_;intros;rw[a6,hf];refine ag5 ?_;intros;rw[a6];exact KX.en ⟨_,rfl,fun h=>absurd h f7,rfl⟩
 have c9 : FL[i]! = false:=by simpa using hf
 refine ag5 ?_;intros;rw[a6,c9];refine ag5 ?_;intros;refine⟨i+1,⟨ab,fun j hj=>?_⟩,ab,?_,by exact ah⟩
 ·by_cases e5:j<i
  ·exact hq j e5
  ·rw[show j=i by omega];exact c9
 rw[aU i];exact an
def Fl{c:CatV}(hW:CatW c)(h:CatF c):CatGood c.m:=by
 obtain⟨⟨z1,z2,z3,z4⟩,hn,hi,hr,ht,hx,hl⟩:=h;have n1:NmF (c.items.map (·.name)):=hn _ bH;have n2:NmF (c.rules.map (·.name)):=hn _ bH;have n3:NmF (c.tables.map (·.name)):=hn _ bH;have n4:NmF (c.taxes.map (·.name)):=hn _ bH;have e2:(c.m.rules.map (·.name))=c.rules.map (·.name):=by simp only[CatV.m,eM];rfl
 have e3:(c.m.tables.map (·.name))=c.tables.map (·.name):=by simp only[CatV.m,eM];rfl
 have e4:(c.m.taxes.map (·.name))=c.taxes.map (·.name):=by simp only[CatV.m,eM];rfl
 refine⟨z1,by simp only[CatV.m,aA];exact z2,by simp only[CatV.m,aA];exact z3,by simp only[CatV.m,aA];exact z4,?_,?_,?_,?_,n1.2,by rw[e2];exact n2.2,by rw[e3];exact n3.2,by rw[e4];exact n4.2⟩
 ·intro x hx;obtain⟨f1,f2,f3⟩:=hi x hx;exact⟨n1.1 _ (alStd0List_mem_map_of_mem hx),f1,f2,f3⟩
 ·intro r' a1;simp only[CatV.m] at a1;obtain⟨r,hm,rfl⟩:=List.mem_map.1 a1;obtain⟨⟨f1,f2⟩,f3,f4⟩:=hr r hm;have hs:=hW.ru.2 r hm;have g:∀a∈[r.take,r.give,r.back],fS c.items.length a.l:=fun a ha=>hl a (List.mem_append.2 (.inl (List.mem_flatMap.2 ⟨r,hm,ha⟩)));have q1:=hs.take.2;have q2:=hs.give.2;have q3:=hs.back.2;exact⟨n2.1 _ (alStd0List_mem_map_of_mem hm),⟨by show r.take.l.length+r.give.l.length≤64;omega,by show r.take.l.length+r.back.l.length≤64;omega⟩,g r.take bH,g r.give bH,g r.back bH,⟨f1,f2⟩,f3,f4⟩
 ·intro t' a0;simp only[CatV.m] at a0;obtain⟨t,hm,rfl⟩:=List.mem_map.1 a0;obtain⟨⟨f1,f2⟩,f3⟩:=ht t hm;refine⟨n3.1 _ (alStd0List_mem_map_of_mem hm),⟨by simp only[TbV.m,aA];exact f1,by simp only[TbV.m,aA];exact f2⟩,fun w' a2=>?_⟩;simp only[TbV.m] at a2;obtain⟨w,hw,rfl⟩:=List.mem_map.1 a2;exact⟨f3 w hw,hl w.give (List.mem_append.2 (.inr (List.mem_flatMap.2 ⟨t,hm,alStd0List_mem_map_of_mem hw⟩)))⟩
 ·intro t' a0;simp only[CatV.m] at a0;obtain⟨t,hm,rfl⟩:=List.mem_map.1 a0;exact hx t hm (n4.1 _ (alStd0List_mem_map_of_mem hm))
def ym{L:LH}(c:CatV)(hW:CatW c):Tri ai 34 #[aN c.cells] (catS c L) (fun v L'=>∃e,v=ac e∧(e=0→CatGood c.m)∧L' = catS c L) :=
 (Bp c hW).mono (fun _ _ ⟨e,h1,h2,h3⟩=>⟨e,h1,fun h=>Fl hW (h2 h),h3⟩)
