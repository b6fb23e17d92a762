/- Lemmas. -/
import Derived.Test.YtommnllbflbdmaaGreatDoorCatbk
set_option linter.all false
set_option maxHeartbeats 16000000
namespace Go.Proofs.YtommnllbflbdmaaGreatDoor
open Go.V
attribute [local irreducible] G GO GP GPW GPK Ev Ef EfR Ent CB GB V.Enters
def mvAP(k:Nat)(kind:Int)(m:MvM):Prop:=(0≤m.item∧m.item<k)∧(1≤m.n∧m.n≤1099511627776)∧accP m.frm∧accP m.to∧m.frm≠m.to∧fx kind m
def oC{k:Nat}{kind:Int}{m:MvM}(h:0≤kind∧kind≤10):mvAP k kind m↔CI k (kM kind) m∧(kind≠4→kind≠10→mC kind m):=by
 have e:kM kind=true↔kind=5∨kind=7∨kind=9:=by unfold kM;rw[eY,decide_eq_true_iff]
 have hp:=@partsA_iff m.parts m.n;unfold mvAP CI GN accP;by_cases h5:kind=5
 ·subst h5;rw[if_pos (e.2 (.inl rfl)),←hp,show mC 5 m↔m.frm=0 from Iff.rfl,show fx 5 m↔m.frm=0∧fI m.parts m.n from Iff.rfl];constructor
  ·rintro⟨a,b,c,d,f,g1,g2⟩;exact⟨⟨⟨a,b,f,ab⟩,g2⟩,fun _ _=>g1⟩
  ·rintro⟨⟨⟨a,b,f,c⟩,g2⟩,g1⟩;exact⟨a,b,ab,ab,f,g1 ag ag,g2⟩
 by_cases h7:kind=7
 ·subst h7;rw[if_pos (e.2 (.inr (.inl rfl))),←hp,show mC 7 m↔0<m.frm from Iff.rfl,show fx 7 m↔m.frm≠0∧fI m.parts m.n from Iff.rfl];constructor
  ·rintro⟨a,b,c,d,f,g1,g2⟩;exact⟨⟨⟨a,b,f,ab⟩,g2⟩,fun _ _=>by omega⟩
  ·rintro⟨⟨⟨a,b,f,c⟩,g2⟩,g1⟩;have:=g1 ag ag
   exact⟨a,b,ab,ab,f,ab,g2⟩
 by_cases h9:kind=9
 ·subst h9;rw[if_pos (e.2 (.inr (.inr rfl))),←hp,show mC 9 m↔0<m.to from Iff.rfl,show fx 9 m↔m.to≠0∧fI m.parts m.n from Iff.rfl];constructor
  ·rintro⟨a,b,c,d,f,g1,g2⟩;exact⟨⟨⟨a,b,f,ab⟩,g2⟩,fun _ _=>by omega⟩
  ·rintro⟨⟨⟨a,b,f,c⟩,g2⟩,g1⟩;have:=g1 ag ag
   exact⟨a,b,ab,ab,f,ab,g2⟩
 rw[if_neg (fun q=>by rcases e.1 q with q|q|q<;>omega)];unfold mC fx;by_cases h0:kind=0
 ·rw[if_pos h0,if_pos (.inl h0)];constructor
  ·rintro⟨a,b,c,d,f,g1,g2⟩;exact⟨⟨⟨a,b,f,ab⟩,g2⟩,fun _ _=>g1⟩
  ·rintro⟨⟨⟨a,b,f,c⟩,g2⟩,g1⟩;exact⟨a,b,ab,ab,f,g1 ab ab,g2⟩
 rw[if_neg h0,if_neg (show ¬(kind=0∨kind=5) from fun q=>q.elim h0 h5)];by_cases h1:kind=1∨kind=6
 ·rw[if_pos h1,if_pos h1];constructor
  ·rintro⟨a,b,c,d,f,g1,g2⟩;exact⟨⟨⟨a,b,f,ab⟩,g2⟩,fun _ _=>g1⟩
  ·rintro⟨⟨⟨a,b,f,c⟩,g2⟩,g1⟩;exact⟨a,b,ab,ab,f,g1 ab ab,g2⟩
 simp only[if_neg h1,if_neg h7,if_neg h9,if_neg h5];by_cases h2:kind=2∨kind=3∨kind=8
 ·rw[if_pos h2];constructor
  ·rintro⟨a,b,c,d,f,g1,g3,g2⟩;exact⟨⟨⟨a,b,f,ab⟩,g2⟩,fun _ _=>by omega⟩
  ·rintro⟨⟨⟨a,b,f,c⟩,g2⟩,g1⟩;have:=g1 ab ab
   exact⟨a,b,ab,ab,f,ab,ab,g2⟩
 rw[if_neg h2];constructor
 ·rintro⟨a,b,c,d,f,g2⟩;exact⟨⟨⟨a,b,f,ab⟩,g2⟩,fun _ _=>by omega⟩
 ·rintro⟨⟨⟨a,b,f,c⟩,g2⟩,g1⟩;exact⟨a,b,ab,ab,f,g2⟩
def jo(rules:List RuM)(s:StM):Prop:=if s.kind=4 then gS rules s.rule s.times s.moves else if s.kind=10 then iF s else s.rule = -1∧s.times=0
def possG_A{c:CatM}{now:Int}{s:StM}:gu c now s↔(0≤s.kind∧s.kind≤10)∧accP s.actor∧(now≤s.tick∧s.tick≤1099511627776)∧(1≤s.moves.length∧s.moves.length≤64)∧(∀m∈s.moves,mvAP c.items.length s.kind m)∧jo c.rules s:=by
 unfold gu DO jo;constructor
 ·rintro⟨h1,h2,h3,h4,h5,h6⟩;refine⟨h1,h2,h3,h4,fun m hm=>(oC h1).2 ⟨h5 m hm,fun g4 a0=>?_⟩,?_⟩
  ·rw[if_neg g4,if_neg a0] at h6;exact h6.1 m hm
  ·by_cases g4:s.kind=4
   ·rw[if_pos g4] at h6 ⊢;exact h6
   ·rw[if_neg g4] at h6 ⊢;by_cases a0:s.kind=10
    ·rw[if_pos a0] at h6 ⊢;exact h6
    ·rw[if_neg a0] at h6 ⊢;exact h6.2
 ·rintro⟨h1,h2,h3,h4,h5,h6⟩;refine⟨h1,h2,h3,h4,fun m hm=>((oC h1).1 (h5 m hm)).1,?_⟩;by_cases g4:s.kind=4
  ·rw[if_pos g4] at h6 ⊢;exact h6
  ·rw[if_neg g4] at h6 ⊢;by_cases a0:s.kind=10
   ·rw[if_pos a0] at h6 ⊢;exact h6
   ·rw[if_neg a0] at h6 ⊢;exact⟨fun m hm=>((oC h1).1 (h5 m hm)).2 g4 a0,h6⟩
def nC{L:LH}(n:Int):Tri ai 147 #[ac n] L (rtQ (.bool (dB (accP n))) L):=by
 refine Tri.bd ?_;by_cases h1:0≤n
 ·refine IF ?_;intros;exact KX.d7 av (Ent.refl _) ⟨by rw[fU (show accP n↔n≤1073741824 from⟨fun q=>q.2,fun q=>⟨h1,q⟩⟩)];rfl,rfl⟩
 ·refine IF ?_;intros;exact KX.d7 av (Ent.refl _) ⟨by rw[aM (show ¬accP n from fun q=>h1 q.1)];rfl,rfl⟩
abbrev zC:=ar6 [.ev 10,.ev 11,.ef 12,.ev 13,.ev 14,.ev 15,.ev 16,.ev 17,.ev 18,.ev 19,.ev 20,.ev 21,.ev 22,.ev 23,.ev 24,.ev 25,.ev 26,.ev 27,.ev 28,.ev 29,.ev 30,.ev 31,.ev 32,.ev 33,.ev 34,.ev 35,.ev 36,.ev 37,.ev 38,.ev 39,.ev 40]
abbrev zB:=ar8 [.ev 17,.ev 18,.ev 19,.ev 20,.ev 21,.ev 22,.ev 23,.ev 24,.ev 25,.ev 26,.ev 27,.ef 28,.ev 29,.ev 30,.ev 31,.ev 32,.ev 33,.ev 34,.ef 35,.ev 36,.ev 37,.ev 38,.ev 39,.ev 40,.ev 41,.ev 42,.ev 43,.ev 44,.ev 45,.ev 46,.ev 47,.ev 48,.ef 49,.ev 50,.ev 51]
def QO{φ ψ:Prop}(k:ψ)(h:Hid ψ→φ:=by intro k;(repeat (first|refine aa ?_|intro zzz|refine G.dr 128 2 zC ?_|refine G.dr 128 7 zB ?_));(repeat revert zzz);exact Hid.out k):φ:=h ⟨k⟩
def Dy{L R:LH}{b:Nat}{sh:Int}{x:BkX}[hp:PickObj L b tBk (bP sh x) R](s:StV)[d0:Rds L s.mad MvV aT 5 s.moves](hc:x.cat.m.Ok)(hB:x.cat.B)(b7:s.moves.length≤1000000)(a7:s.moves.length≤s.mcap)(b9:∀m∈s.moves,m.m.parts.length≤9223372036854775807)(hI:I64 s.rule) :
  Tri ai 101 #[aq b,aN (aX s)] (catP x.cat::stP s::L) (rtQ (.bool (dB (gu x.cat.m x.tick s.m))) (catP x.cat::stP s::L)):=by
 have b5:x.cat.m.items.length=x.cat.items.length:=by simp[CatV.m]
 have b2:=hB.items;have a8:s.m.moves=s.moves.map MvV.m:=rfl;have b6:∀{i:Nat},i<s.moves.length→s.moves[i]!.m∈s.m.moves:=fun hi=>by rw[a8];exact alStd0List_mem_map_of_mem (aL hi)
 have hl:s.m.moves.length=s.moves.length:=by rw[a8,aA]
 have hA:=possG_A (c:=x.cat.m) (now:=x.tick) (s:=s.m);rw[b5,hl] at hA;have a2:∀{p:Prop},¬p→(gu x.cat.m x.tick s.m→p)→dB (gu x.cat.m x.tick s.m)=false:=fun h q=>aM (fun r=>h (q r));refine Tri.bd ?_;by_cases a9:0≤s.kind
 case neg =>
  refine QO ?_;intros;exact KX.d7 av ah ⟨by rw[a2 a9 (fun h=>(hA.1 h).1.1)];rfl,rfl⟩
 by_cases b0:s.kind≤10
 case neg =>
  refine QO ?_;intros;exact KX.d7 av ah ⟨by rw[a2 b0 (fun h=>(hA.1 h).1.2)];rfl,rfl⟩
 refine QO ?_;intros;refine GPW.ef (Ef.d8 rfl rfl (nC s.actor)) ag ?_;rintro _ _⟨rfl,rfl⟩;by_cases h2:accP s.actor
 case neg =>
  rw[aM h2];refine QO ?_;intros;exact KX.d7 av ah ⟨by rw[a2 h2 (fun h=>(hA.1 h).2.1)];rfl,rfl⟩
 rw[aZ h2];by_cases h3:x.tick≤s.tick
 case neg =>
  refine QO ?_;intros;exact KX.d7 av ah ⟨by rw[a2 h3 (fun h=>(hA.1 h).2.2.1.1)];rfl,rfl⟩
 by_cases h4:s.tick≤1099511627776
 case neg =>
  refine QO ?_;intros;exact KX.d7 av ah ⟨by rw[a2 h4 (fun h=>(hA.1 h).2.2.1.2)];rfl,rfl⟩
 by_cases h5:1≤s.moves.length
 case neg =>
  refine QO ?_;intros;exact KX.d7 av ah ⟨by rw[a2 h5 (fun h=>(hA.1 h).2.2.2.1.1)];rfl,rfl⟩
 by_cases h6:s.moves.length≤64
 case neg =>
  refine QO ?_;intros;exact KX.d7 av ah ⟨by rw[a2 h6 (fun h=>(hA.1 h).2.2.2.1.2)];rfl,rfl⟩
 refine QO ?_;intros;rename_i b3;refine G.loop (α:=Nat) (fun i=>i≤s.moves.length∧∀j,j<i→mvAP x.cat.items.length s.kind s.moves[j]!.m) (fun i=>[(0,aq b),(3,aq b3),(5,.func (.func 147) #[] #[]),(50,ae s.mad s.moves.length s.mcap),(51,ac s.moves.length),(52,ac (i:Int))]) (fun _=>obj b3 cQ (aX s)::catP x.cat::stP s::L) (fun i=>s.moves.length - i) 0 ⟨az _,fun j hj=>absurd hj (dU j)⟩ an ah ?_;rintro i ⟨hi,a5⟩;by_cases c9:i<s.moves.length
 case pos =>
  have b4:(i:Int).toNat=i:=aD i;have a3 : (i:Int).toNat<s.moves.length:=ab;have c0:=b9 _ (aL a3);have a1:∀{p:Prop},¬p→(mvAP x.cat.items.length s.kind s.moves[(i:Int).toNat]!.m→p)→dB (gu x.cat.m x.tick s.m)=false:=fun h q=>a2 h (fun r=>q ((hA.1 r).2.2.2.2.1 _ (b6 a3)));refine G.ent (L':=isl ay 3 s.moves[(i:Int).toNat]!.pad s.moves[(i:Int).toNat]!.m.parts::obj b3 cQ (aX s)::catP x.cat::stP s::L) ((Ent.at (A:=stP s) (tr a3)).trans ah) ?_;by_cases c1:0≤s.moves[(i:Int).toNat]!.m.item
  case neg =>
   refine QO ?_;intros;exact KX.d7 av ah ⟨by rw[a1 c1 (fun q=>q.1.1)];rfl,rfl⟩
  by_cases c2:s.moves[(i:Int).toNat]!.m.item<x.cat.items.length
  case neg =>
   refine QO ?_;intros;exact KX.d7 av ah ⟨by rw[a1 c2 (fun q=>q.1.2)];rfl,rfl⟩
  by_cases c3:1≤s.moves[(i:Int).toNat]!.m.n
  case neg =>
   refine QO ?_;intros;exact KX.d7 av ah ⟨by rw[a1 c3 (fun q=>q.2.1.1)];rfl,rfl⟩
  by_cases c4:s.moves[(i:Int).toNat]!.m.n≤1099511627776
  case neg =>
   refine QO ?_;intros;exact KX.d7 av ah ⟨by rw[a1 c4 (fun q=>q.2.1.2)];rfl,rfl⟩
  refine QO ?_;intros;refine GPW.ef (Ef.d8 rfl rfl (nC s.moves[(i:Int).toNat]!.m.frm)) ag ?_;rintro _ _⟨rfl,rfl⟩;by_cases c5:accP s.moves[(i:Int).toNat]!.m.frm
  case neg =>
   rw[aM c5];refine QO ?_;intros;exact KX.d7 av ah ⟨by rw[a1 c5 (fun q=>q.2.2.1)];rfl,rfl⟩
  rw[aZ c5];refine QO ?_;intros;refine GPW.ef (Ef.d8 rfl rfl (nC s.moves[(i:Int).toNat]!.m.to)) ag ?_;rintro _ _⟨rfl,rfl⟩;by_cases c6:accP s.moves[(i:Int).toNat]!.m.to
  case neg =>
   rw[aM c6];refine QO ?_;intros;exact KX.d7 av ah ⟨by rw[a1 c6 (fun q=>q.2.2.2.1)];rfl,rfl⟩
  rw[aZ c6];by_cases c7:s.moves[(i:Int).toNat]!.m.frm=s.moves[(i:Int).toNat]!.m.to
  case pos =>
   refine QO ?_;intros;exact KX.d7 av ah ⟨by rw[a1 (p:=¬s.moves[(i:Int).toNat]!.m.frm=s.moves[(i:Int).toNat]!.m.to) (fun q=>q c7) (fun q=>q.2.2.2.2.1)];rfl,rfl⟩
  refine QO ?_;intros;refine GPW.cr (DA s.kind s.moves[(i:Int).toNat]! c0) ?_;by_cases c8:fx s.kind s.moves[(i:Int).toNat]!.m
  case neg =>
   rw[aM c8];refine QO ?_;intros;exact KX.d7 av ah ⟨by rw[a1 c8 (fun q=>q.2.2.2.2.2)];rfl,rfl⟩
  rw[aZ c8];refine QO ?_;intros;refine⟨i+1,⟨ab,fun j hj=>?_⟩,ab,?_,by exact ah⟩
  ·rcases dl j i with h|h
   ·exact a5 j h
   ·obtain rfl:j=i:=ab;rw[b4] at c1 c2 c3 c4 c5 c6 c7 c8;exact⟨⟨c1,c2⟩,⟨c3,c4⟩,c5,c6,c7,c8⟩
  ·rw[aU i];exact an
 obtain rfl:i=s.moves.length:=ab
 have a4:∀m∈s.m.moves,mvAP x.cat.items.length s.m.kind m:=fun m hm=>by
  rw[a8] at hm;obtain⟨u,hu,rfl⟩:=List.mem_map.1 hm;obtain⟨j,hj,rfl⟩:=List.mem_iff_getElem.1 hu;have:=a5 j hj
  rw[getElem!_of hj] at this;exact this
 have a0:gu x.cat.m x.tick s.m↔jo x.cat.m.rules s.m:=⟨fun h=>(hA.1 h).2.2.2.2.2,fun h=>hA.2 ⟨⟨a9,b0⟩,h2,⟨h3,h4⟩,⟨h5,h6⟩,a4,h⟩⟩;unfold jo at a0;by_cases b1:s.kind=4
 ·rw[if_pos (show s.m.kind=4 from b1)] at a0;refine QO ?_;intros;refine GO.ent (Ent.at (A:=catP x.cat) (Ent.refl _)) ?_;refine GO.cr (vm (b:=b) (sh:=sh) (x:=x) s hc hB h6 a7 hI) ?_;refine QO ?_;intros;exact KX.d7 av ah ⟨by rw[fU a0];rfl,rfl⟩
 rw[if_neg (show ¬s.m.kind=4 from b1)] at a0;by_cases a6:s.kind=10
 ·rw[if_pos (show s.m.kind=10 from a6)] at a0
  have b8:∀m∈s.moves,0≤m.m.n:=fun m hm=>by
   have:=(a4 m.m (alStd0List_mem_map_of_mem hm)).2.1.1
   omega
  refine QO ?_;intros;refine GO.cr (qI s b8 b7) ?_;refine QO ?_;intros;exact KX.d7 av ah ⟨by rw[fU a0];rfl,rfl⟩
 rw[if_neg (show ¬s.m.kind=10 from a6)] at a0;by_cases h7:s.rule = -1
 ·refine QO ?_;intros;exact KX.d7 av ah ⟨by rw[fU (a0.trans ⟨fun q=>q.2,fun q=>⟨h7,q⟩⟩)];rfl,rfl⟩
 ·refine QO ?_;intros;exact KX.d7 av ah ⟨by rw[aM (fun q=>h7 (a0.1 q).1)];rfl,rfl⟩
end Go.Proofs.YtommnllbflbdmaaGreatDoor
namespace Go.V
section
variable {P:Program}{N:Nat}{ops:Array Oper}{done:List Nat}{plan:List Stp}{pend:List PE}{env:Env}{L:LH}{K:Post}
def GP.fct{φ:Prop}(h:∀θ R w,Sat θ (L++R) w→φ)(k:φ→GP P N ops done plan pend env L K):GP P N ops done plan pend env L K:=fun hK hp hs a0 θ Y a w S i a1 a2=>let ⟨_,_,_,s⟩:=i;k (h θ _ w s) hK hp hs a0 θ Y a w S i a1 a2
def GPW.fct{s:Stp}{a0:Option Tmp}{op:Op}{ty:TypeId}{φ:Prop}(h:∀θ R w,Sat θ (L++R) w→φ)(k:φ→GPW P N ops done s plan a0 op ty pend env L K):GPW P N ops done s plan a0 op ty pend env L K:=fun pos af g h1 h2=>GP.fct h (fun hφ=>k hφ pos af g h1 h2)
end
end Go.V
namespace Go.Proofs.YtommnllbflbdmaaGreatDoor
open Go.V
attribute [local irreducible] G GO GP GPW GPK Ev Ef EfR Ent CB GB V.Enters
def bk0(c:CatV)(ms mt mi mr:Nat):BkX:=⟨c,ms,mt,mi,mr,0,0,[],[],[],[],[],none,0⟩
def vd{L:LH}(sh:Int)(c:CatV) :
  Tri ai 45 #[ac sh,aN c.cells] (catP c::L) (fun v L'=>∃b ms mt mi mr,v=aq b∧L' = bkL b sh (bk0 c ms mt mi mr) L):=by
 refine Tri.bd ?_;simp only[CatV.cells];refine IF ?_;intros;refine GO.ef (Ef.e8 kvP Stk.v (.inl rfl)) ag ?_;rintro _ _⟨ms,rfl,rfl⟩;refine IF ?_;intros;refine GO.ef (Ef.e8 kvI encN (.inl rfl)) ag ?_;rintro _ _⟨mt,rfl,rfl⟩;refine IF ?_;intros;refine GO.ef (Ef.e8 kvI Stk.v (.inl rfl)) ag ?_;rintro _ _⟨mi,rfl,rfl⟩;refine IF ?_;intros;refine GO.ef (Ef.e8 kvI Stk.v (.inl rfl)) ag ?_;rintro _ _⟨mr,rfl,rfl⟩;refine IF ?_;intros;rename_i b;refine KX.d7 av ?_ ⟨b,ms,mt,mi,mr,rfl,rfl⟩;simp only[bkL,bP,bk0];refine Ent.trans (Ent.l8 fO) (Ent.trans (Ent.l8 fO) (Ent.trans (Ent.d8 bT 11 dz) ?_));refine Ent.trans (Ent.e7 (fun p:(Int×Int)×Stk=>stkP p.2)) (Ent.trans (Ent.e7 flP) ?_);exact ah
end Go.Proofs.YtommnllbflbdmaaGreatDoor
namespace Go.V
section
variable {P:Program}{L:LH}{env:Env}{ty:TypeId}
def Ev.A3{t:TypeId}{x hi mx:Operand}{ad:OA}{n c E sz bb:Nat}{z:LV}{k k' : IntKind}{j:Int}[ht:TySl P t E sz bb z](hx:evE env x=some (.slice ad n c))(hh:evE env hi=some (.int k j))(hm:evE env mx=some (.int k' j))(h0:0≤j)(h1:j≤c):Ev P L env (.slice t x none (some hi) (some mx)) ty (.slice ad j.toNat j.toNat) :=
 Ev.mk (fun _ _ _ w ea _ _ _ _ _=>by
  obtain⟨ii,z0,i1,i2,i3,i4,i5⟩:=ht.parts;have h2:j≤(j.toNat:Int):=ab;simp[execOp,aP ea hx,aP ea hh,aP ea hm,Instr.sliceAt,Instr.slice,run_underlying ht.under,Instr.sliceBounds,Instr.sliceBound,asIntOf,h0,h1,h2,sizeOf,typeInfo,i1];rw[if_pos ab];cases ad<;>simp[Addr.add])
end
end Go.V
namespace Go.Proofs.YtommnllbflbdmaaGreatDoor
section
open Go.V
attribute [local irreducible] G GO GP GPW GPK Ev Ef EfR Ent CB GB V.Enters
def jw{L:LH}(ad:OA)(n c:Nat)(h:n≤c):Tri ai 157 #[ae ad n c] L (rtQ (ae ad n n) L):=by
 refine Tri.bd ?_;refine IF ?_;intros;refine GO.ev (Ev.A3 rfl rfl rfl ab ab) ag ?_;rw[aD];refine IF ?_;intros;exact KX.en ⟨rfl,rfl⟩
end
section
open Go.V
structure MvA (kind:Int) (m:MvM):Prop where
 g:MvG m
 imp:kind=5→m.frm=0
 st:kind=5∨kind=7∨kind=9→fI m.parts m.n
def ul{m:MvM}{kind:Int}{k:Nat}(hk:0≤kind∧kind≤10)(h:mvAP k kind m):MvA kind m:=by
 obtain⟨h1,h2⟩:=(oC hk).1 h;obtain⟨h3,h4⟩:=h1;have e:kM kind=true↔kind=5∨kind=7∨kind=9:=by unfold kM;rw[eY,decide_eq_true_iff]
 refine⟨⟨h3.2.1,h3.2.2.1,?_⟩,fun h5=>?_,fun hs=>?_⟩
 ·split at h4
  ·exact .inr h4
  ·exact .inl (aW h4)
 ·have:=h2 ab ab
  unfold mC at this;rwa [if_pos (.inr h5)] at this
 ·rw[if_pos (e.2 hs)] at h4;exact partsA_iff.2 h4
def qS(fl:List FlM)(f:FlM):fg (fl++[f])=fg fl++(if f.kind=5 then f.parts else[]):=by
 unfold fg;rw[dG,cZ];by_cases h:f.kind=5
 ·rw[if_pos h,cO (by simpa using h)];simp
 ·rw[if_neg h,cP (by simpa using h)];simp
def qN(fl:List FlM)(f:FlM):eG (fl++[f])=eG fl++(if f.kind=9∧f.frm=0 then f.parts else[]):=by
 unfold eG;rw[dG,cZ];by_cases h:f.kind=9∧f.frm=0
 ·rw[if_pos h,cO (by simpa using h)];simp
 ·rw[if_neg h,cP (by simpa using h)];simp
structure WkA (sh:Int) (fl:List FlM) (k:Nat) (W:Wk):Prop where
 g:WkG sh fl k W
 fa:FlA (fl++W.flows)
 fn:FlN sh (fl++W.flows)
 il:(fg (fl++W.flows)).length≤k
 rl:(eG (fl++W.flows)).length≤k
def pP{mix:Int→Bool}{s:StM}{W:Wk}{m:MvM}(hm:MvA s.kind m)(h:s.kind=5∨(s.kind=9∧m.frm=0)):gPts mix s W m=m.parts:=by
 have h0:m.frm=0:=by
  rcases h with h|h
  ·exact hm.imp h
  ·exact h.2
 unfold gPts;rw[if_pos h0,if_pos ab]
def tP{sh:Int}{fl:List FlM}{mix:Int→Bool}{s:StM}{W:Wk}{k:Nat}{m:MvM}(a2:0≤sh)(h:WkA sh fl k W)(hm:MvA s.kind m)(hk:k+m.parts.length≤2000)(he:(dA sh fl mix s W m).1=0):WkA sh fl (k+m.parts.length+1) (dA sh fl mix s W m).2:=by
 obtain⟨g1,g2⟩:=rD a2 h.g hm.g hk he
 have a0:gErr sh (fl++W.flows) s W m=0:=by
  unfold dA at he;by_cases h1:gErr sh (fl++W.flows) s W m≠0
  ·rw[if_pos h1] at he;exact absurd he h1
  ·exact Classical.not_not.1 h1
 obtain⟨p1,_⟩:=EP (mix:=mix) h.g hm.g hk a0;have il:=h.il;have rl:=h.rl;refine⟨g1,?_,?_,?_,?_⟩
 ·rw[g2,←aF];intro f hf;rcases List.mem_append.1 hf with hf|hf
  ·exact h.fa f hf
  ·rw[List.mem_singleton.1 hf];refine⟨p1,fun hq=>?_⟩;show Apart (gPts mix s W m);rw[pP hm hq];exact(hm.st (by rcases hq with hq|hq;exact .inl hq;exact .inr (.inr hq.1))).2.1
 ·rw[g2,←aF];intro j hj;rw[ax,aG] at hj;by_cases a1:j<(fl++W.flows).length
  ·have:=h.fn j a1
   rw[getElem!_of a1] at this;rw[getElem!_of (by rw[ax,aG];omega),dR a1];exact this
  ·obtain rfl:j=(fl++W.flows).length:=ab;rw[getElem!_of (by simp only[ax,aG];omega),fh (aI _)];simp only[Nat.sub_self,List.getElem_cons_zero];refine⟨?_,hm.g.n⟩;show db sh fl.length W=_;unfold db;rw[ax];omega
 ·rw[g2,←aF,qS,ax]
  have e:(if(fW sh fl.length mix s W m).kind=5 then(fW sh fl.length mix s W m).parts else[]).length≤m.parts.length:=by
   split
   ·rename_i hq;show(gPts mix s W m).length≤_;rw[pP hm (.inl hq)];exact aI _
   ·exact az _
  omega
 ·rw[g2,←aF,qN,ax]
  have e:(if(fW sh fl.length mix s W m).kind=9∧(fW sh fl.length mix s W m).frm=0 then(fW sh fl.length mix s W m).parts else[]).length≤m.parts.length:=by
   split
   ·rename_i hq;show(gPts mix s W m).length≤_;rw[pP hm (.inr hq)];exact aI _
   ·exact az _
  omega
def lotsIn(a i:Int):List MvM→Nat
 | []=>0
 | m::ms=>((if m.to=a∧m.item=i then 1 else 0)+(if m.frm=a∧m.item=i then m.parts.length else 0))+lotsIn a i ms
def kA(a i:Int):∀x y:List MvM,lotsIn a i (x++y)=lotsIn a i x+lotsIn a i y
 | [],y=>by show lotsIn a i y=0+lotsIn a i y;omega
 | m::x,y=>by
  have:=kA a i x y
  show((if m.to=a∧m.item=i then 1 else 0)+(if m.frm=a∧m.item=i then m.parts.length else 0))+lotsIn a i (x++y)=((if m.to=a∧m.item=i then 1 else 0)+(if m.frm=a∧m.item=i then m.parts.length else 0))+lotsIn a i x+lotsIn a i y;omega
def uu(a i:Int):∀ms:List MvM,lotsIn a i ms≤mvK ms
 | []=>aI _
 | m::ms=>by
  have:=uu a i ms
  show((if m.to=a∧m.item=i then 1 else 0)+(if m.frm=a∧m.item=i then m.parts.length else 0))+lotsIn a i ms≤(m.parts.length+1)+mvK ms;split<;>split<;>omega
def Gn{sh:Int}{fl:List FlM}{mix:Int→Bool}{W:Wk}{k:Nat}{m:MvM}(h:WkG sh fl k W)(hm:MvG m)(a i:Int):(gStk mix W m a i).length≤(W.stk a i).length+(if m.frm=a∧m.item=i then m.parts.length else 0):=by
 unfold gStk;by_cases h0:m.frm=0
 ·rw[if_pos h0];exact dX _ _
 rw[if_neg h0];unfold upd2;by_cases ha:a=m.frm∧i=m.item
 case neg =>
  rw[if_neg ha];exact dX _ _
 rw[if_pos ha,if_pos ⟨ha.1.symm,ha.2.symm⟩];obtain⟨rfl,rfl⟩:=ha;unfold sO;by_cases hp:m.parts=[]
 ·rw[if_pos hp];exact cN (ld _ _ _).2 (dX _ _)
 ·rw[if_neg hp];have hs:=h.stk m.frm m.item;exact(AA (⟨aI _,hs.ok,hs.apt⟩:StkG (W.stk m.frm m.item).length _ _) hm.lots).len
def uG{sh:Int}{fl:List FlM}{mix:Int→Bool}{s:StM}{W:Wk}{k:Nat}{m:MvM}(h:WkG sh fl k W)(hm:MvG m)(he:(dA sh fl mix s W m).1=0)(a i:Int):((dA sh fl mix s W m).2.stk a i).length≤(W.stk a i).length+lotsIn a i [m]:=by
 have h9:=Gn (mix:=mix) h hm a i;have e1:lotsIn a i [m]=((if m.to=a∧m.item=i then 1 else 0)+(if m.frm=a∧m.item=i then m.parts.length else 0))+0:=rfl;rw[e1];unfold dA at he ⊢;by_cases h1:gErr sh (fl++W.flows) s W m≠0
 ·rw[if_pos h1] at he;exact absurd he h1
 rw[if_neg h1] at he ⊢;by_cases h2:cX W m>1099511627776
 ·rw[if_pos h2] at he;exact absurd (show(4:Int)=0 from he) ag
 rw[if_neg h2] at he ⊢;by_cases h3:m.to=0
 ·rw[if_pos h3];dsimp only;omega
 rw[if_neg h3] at he ⊢;by_cases h4:4096≤(gStk mix W m m.to m.item).length
 ·rw[if_pos h4] at he;exact absurd (show(4:Int)=0 from he) ag
 rw[if_neg h4];dsimp only;unfold upd2;by_cases ha:a=m.to∧i=m.item
 ·rw[if_pos ha,if_pos ⟨ha.1.symm,ha.2.symm⟩];obtain⟨rfl,rfl⟩:=ha;have:=kP (gStk mix W m m.to m.item) (db sh fl.length W,0,m.n)
  omega
 ·rw[if_neg ha];omega
structure LedA (k:Nat) (S:LedM):Prop where
 g:LedG k S
 fa:FlA S.flows
 fn:FlN S.shard S.flows
 il:(fg S.flows).length≤k
 rl:(eG S.flows).length≤k
def vo{k:Nat}{S:LedM}(h:LedA k S):WkA S.shard S.flows k (wk0 S):=by
 have e:S.flows++(wk0 S).flows=S.flows:=aO _;refine⟨Gy h.g,?_,?_,?_,?_⟩
 ·rw[e];exact h.fa
 ·rw[e];exact h.fn
 ·rw[e];exact h.il
 ·rw[e];exact h.rl
def xy{sh:Int}{fl:List FlM}{mix:Int→Bool}{s:StM}(a1:0≤sh):∀{ms:List MvM} {W:Wk} {k:Nat},WkA sh fl k W→(∀m∈ms,MvA s.kind m)→k+mvK ms≤2000→(ew sh fl mix s W ms).1=0→WkA sh fl (k+mvK ms) (ew sh fl mix s W ms).2∧∀a i,((ew sh fl mix s W ms).2.stk a i).length≤(W.stk a i).length+lotsIn a i ms
 | [],_,_,h,_,_,_=>⟨h,fun _ _=>aI _⟩
 | m::ms,W,k,h,hm,hk,he=>by
  have e:ew sh fl mix s W (m::ms)=if(dA sh fl mix s W m).1=0 then ew sh fl mix s (dA sh fl mix s W m).2 ms else((dA sh fl mix s W m).1,W):=rfl;have ek:mvK (m::ms)=(m.parts.length+1)+mvK ms:=rfl;rw[e] at he ⊢;by_cases h1:(dA sh fl mix s W m).1=0
  ·rw[if_pos h1] at he ⊢;have a0:=hm m au;obtain⟨i1,i2⟩:=xy a1 (ms:=ms) (tP a1 h a0 ab h1) (fun x hx=>hm x (aw _ hx)) ab he;refine⟨by rw[ek,←dP,←dP];exact i1,fun a i=>?_⟩;have g1:=i2 a i;have g2:=uG h.g a0.g h1 a i;have g3:lotsIn a i (m::ms)=lotsIn a i [m]+lotsIn a i ms:=kA a i [m] ms;omega
  ·rw[if_neg h1] at he;exact absurd he h1
def ot{c:CatM}{now:Int}{s:StM}(h:gu c now s):∀m∈s.moves,MvA s.kind m:=fun m hm=>ul h.1 ((possG_A.1 h).2.2.2.2.1 m hm)
def qA{k:Nat}{S:LedM}{s:StM}(h:LedA k S)(hk:k+mvK s.moves≤2000):LedA (k+mvK s.moves) (cS S s)∧∀a i,((cS S s).stk a i).length≤(S.stk a i).length+lotsIn a i s.moves:=by
 have g0:=HA h.g hk;have il:=h.il;have rl:=h.rl;by_cases he:(gTry S s).1=0
 case neg =>
  have e:cS S s=S:=if_neg he;rw[e] at g0 ⊢;exact⟨⟨g0,h.fa,h.fn,ab,ab⟩,fun a i=>dX _ _⟩
 have e:cS S s=gZ S s:=if_pos he;rw[e] at g0 ⊢;by_cases h1:65536≤S.steps.length
 ·have e:gTry S s=(4,wk0 S):=by unfold gTry;rw[if_pos h1]
  rw[e] at he;exact absurd (show(4:Int)=0 from he) ag
 by_cases h2:gu S.cat S.now s
 case neg =>
  have e:gTry S s=(1,wk0 S):=by unfold gTry;rw[if_neg h1,if_pos h2]
  rw[e] at he;exact absurd (show(1:Int)=0 from he) ag
 have e:gTry S s=ew S.shard S.flows (cu S.cat) (s.at (bu S)) (wk0 S) s.moves:=by unfold gTry;rw[if_neg h1,if_neg (fun q=>q h2)]
 rw[e] at he;obtain⟨g1,g2⟩:=xy (ms:=s.moves) (s:=s.at (bu S)) h.g.shard.1 (vo h) (ot h2) hk he;rw[←e] at g1 g2;exact⟨⟨g0,g1.fa,g1.fn,g1.il,g1.rl⟩,g2⟩
end
section
open Go.V
attribute [local irreducible] G GO GP GPW GPK Ev Ef EfR Ent CB GB V.Enters
structure BkI (S:LedM) (fl:List FlM) (ia ra:LL1) (f:Int→Int→LL1) (t:Int→Int) (x:BkX):Prop where
 cat:x.cat.m=S.cat
 catB:x.cat.B
 count:x.count=S.steps.length
 tick:x.tick=S.now
 flows:x.flows.map (·.m)=fl
 stk:∀a i,(eU x.stk (a,i)).lots=f a i
 cap:∀a i,(f a i).length≤(eU x.stk (a,i)).cap
 tot:∀i,(glk x.tot i).getD 0=t i
 imp:lS x.imp ia
 ret:lS x.ret ra
def uk{l:LL1}{f g:Nat→Int}(h:∀k,k<l.length→f k=g k):divF l f l.length=divF l g l.length∧divR l f l.length=divR l g l.length:=by
 have e1:(List.range l.length).map (pcF l f)=(List.range l.length).map (pcF l g):=dm (fun k hk=>by unfold pcF;rw[h k (List.mem_range.1 hk)]);have e2:(List.range l.length).map (pcR l f)=(List.range l.length).map (pcR l g):=dm (fun k hk=>by unfold pcR;rw[h k (List.mem_range.1 hk)]);unfold divF divR;rw[e1,e2];exact⟨rfl,rfl⟩
def nh(n:Nat)(f:Nat→Int){k:Nat}(h:k<n):((List.range n).map f)[k]! = f k:=by
 rw[getElem!_of (by simpa using h)];simp
def mu{m:List ((Int×Int)×Stk)}{k q:Int×Int}{s:Stk}:eU (gins m k s) q=if q=k then s else eU m q:=by
 unfold eU;rw[jQ];split<;>rfl
def iaOf(s:StM)(m:MvM):LL1:=if s.kind=5 then m.parts else[]
def raOf(s:StM)(m:MvM):LL1:=if s.kind=9∧m.frm=0 then m.parts else[]
abbrev zA:=ar3 [.ef 4,.ev 5,.ev 6]
abbrev zy:=ar3 [.ef 4,.ev 5,.ev 6]
abbrev zx:=ar4 [.ev 6]
abbrev wI:=ar4 [.ef 6]
abbrev wH:=ar6 []
abbrev wG:=ar4 [.ef 6]
def Rp{φ ψ:Prop}(k:ψ)(h:Hid ψ→φ:=by intro k;(repeat (first|refine aa ?_|intro zzz|refine G.dr 122 2 zA ?_|refine G.dr 122 4 zy ?_|refine G.dr 122 8 zx ?_|refine G.dr 122 13 wI ?_|refine G.dr 122 24 wH ?_|refine G.dr 122 27 wG ?_));(repeat revert zzz);exact Hid.out k):φ:=h ⟨k⟩
def yx{L:LH}(b:Nat)(S:LedM)(hS:0≤S.shard∧S.shard<12)(k:Nat)(x:BkX)(W:Wk)(e0:S.flows.length+W.flows.length≤8000000)(hx:BkI S (S.flows++W.flows) (fg (S.flows++W.flows)) (eG (S.flows++W.flows)) W.stk W.tot x)(hW:WkA S.shard S.flows k W)(s:StM)(m:MvV)(hm:MvA s.kind m.m)(hk:k+m.m.parts.length≤2000)(d1:0≤m.m.item∧m.m.item<S.cat.items.length)(hb:∀p∈m.m.parts,p.1≤9223372036854775807)(b0:(W.stk m.m.frm m.m.item).length<20) :
  Tri ai 102 #[aq b,ac s.kind,aN (aT m)] (isl ay 3 m.pad m.m.parts::bkL b S.shard x L) (fun v L' =>
   (gErr S.shard (S.flows++W.flows) s W m.m=0∧∃pad cap x',v=.tuple #[ae pad (gPts (cu S.cat) s W m.m).length cap,ac 0]∧BkI S (S.flows++W.flows) (fg (S.flows++W.flows)++iaOf s m.m) (eG (S.flows++W.flows)++raOf s m.m) (gStk (cu S.cat) W m.m) W.tot x'∧L' = isl ay 3 pad (gPts (cu S.cat) s W m.m)::bkL b S.shard x' L) ∨
   (gErr S.shard (S.flows++W.flows) s W m.m≠0∧∃ad n c,v=.tuple #[ae ad n c,ac (gErr S.shard (S.flows++W.flows) s W m.m)]∧L' = L)):=by
 have a0:=hm.g.lots
 have e6:x.flows.length=S.flows.length+W.flows.length:=by
  have:=congrArg List.length hx.flows
  rwa [aA,ax] at this
 have e4:=hW.il;have e5:=hW.rl;have b3:=uz hW.fa;have b9:=ui hW.fa;obtain⟨⟨frm,to,item,mn,parts⟩,pad,pcap⟩:=m;dsimp only at hm hk d1 hb b0 a0 ⊢;refine Tri.bd (args:=[aq b,ac s.kind,aN (aT ⟨⟨frm,to,item,mn,parts⟩,pad,pcap⟩)]) ?_;simp only[aT,bkL,bP];by_cases h0:frm=0
 ·subst h0;have c0:gStk (cu S.cat) W ⟨0,to,item,mn,parts⟩=W.stk:=by unfold gStk;rw[if_pos rfl]
  rw[c0];by_cases h5:s.kind=5
  ·have eE:gErr S.shard (S.flows++W.flows) s W ⟨0,to,item,mn,parts⟩=arrG S.shard (S.flows++W.flows) parts:=by unfold gErr;rw[if_pos rfl,if_pos h5]
   have eP:gPts (cu S.cat) s W ⟨0,to,item,mn,parts⟩=parts:=by unfold gPts;rw[if_pos rfl,if_pos (.inl h5)]
   have eI:iaOf s ⟨0,to,item,mn,parts⟩=parts:=if_pos h5;have eR:raOf s ⟨0,to,item,mn,parts⟩=[]:=if_neg ab;have a6:=hm.st (.inl h5);rw[eE,eP,eI,eR,←AS hW.fa a0 a6.2.1,aO];refine Rp ?_;intros;(first|refine GPW.ef (Ef.call (rB (L:=[isl ay 3 pad parts]) b S.shard x (fg (S.flows++W.flows)) hx.imp ab b3 ⟨⟨0,to,item,mn,parts⟩,pad,pcap⟩ a0 hb gn) rfl cT) ag ?_);rintro _ _⟨_,⟨c5,rfl,a9,rfl⟩,hL⟩;simp only[ak,aj] at hL;subst hL;dsimp only at a9;simp only[bP];by_cases he:impG S.shard parts (fg (S.flows++W.flows))=0
   ·rw[he];refine Rp ?_;intros;refine KX.d7 av ?_ (.inl ⟨rfl,pad,pcap,{ x with imp:=c5 },rfl,⟨hx.cat,hx.catB,hx.count,hx.tick,hx.flows,hx.stk,hx.cap,hx.tot,a9 he,hx.ret⟩,rfl⟩);simp only[bkL,bP];exact ah
   ·refine Rp ?_;intros;exact KX.en (.inr ⟨he,pad,parts.length,pcap,rfl,rfl⟩)
  by_cases h9:s.kind=9
  ·have eE:gErr S.shard (S.flows++W.flows) s W ⟨0,to,item,mn,parts⟩=revG (S.flows++W.flows) item parts:=by unfold gErr;rw[if_pos rfl,if_neg h5,if_pos h9]
   have eP:gPts (cu S.cat) s W ⟨0,to,item,mn,parts⟩=parts:=by unfold gPts;rw[if_pos rfl,if_pos (.inr h9)]
   have eI:iaOf s ⟨0,to,item,mn,parts⟩=[]:=if_neg h5;have eR:raOf s ⟨0,to,item,mn,parts⟩=parts:=if_pos ⟨h9,rfl⟩;have a6:=hm.st (.inr (.inr h9));rw[eE,eP,eI,eR,←AH hS.1 hW.fa hW.fn item a0 a6.2.1,aO];refine Rp ?_;intros;(first|refine GPW.ef (Ef.call (rq (L:=[isl ay 3 pad parts]) b S.shard hS x ab (eG (S.flows++W.flows)) hx.ret ab b9 ⟨⟨0,to,item,mn,parts⟩,pad,pcap⟩ a0 hb gn) rfl cT) ag ?_);rintro _ _⟨_,⟨c6,rfl,a9,rfl⟩,hL⟩;simp only[ak,aj] at hL;subst hL;dsimp only at a9;rw[hx.flows] at a9 ⊢;simp only[bP];by_cases he:retG S.shard (S.flows++W.flows) item parts (eG (S.flows++W.flows))=0
   ·rw[he];refine Rp ?_;intros;refine KX.d7 av ?_ (.inl ⟨rfl,pad,pcap,{ x with ret:=c6 },rfl,⟨hx.cat,hx.catB,hx.count,hx.tick,hx.flows,hx.stk,hx.cap,hx.tot,hx.imp,a9 he⟩,rfl⟩);simp only[bkL,bP];exact ah
   ·refine Rp ?_;intros;exact KX.en (.inr ⟨he,pad,parts.length,pcap,rfl,rfl⟩)
  have eE:gErr S.shard (S.flows++W.flows) s W ⟨0,to,item,mn,parts⟩=0:=by unfold gErr;rw[if_pos rfl,if_neg h5,if_neg h9]
  have eP:gPts (cu S.cat) s W ⟨0,to,item,mn,parts⟩=[]:=by unfold gPts;rw[if_pos rfl,if_neg ab]
  have eI:iaOf s ⟨0,to,item,mn,parts⟩=[]:=if_neg h5;have eR:raOf s ⟨0,to,item,mn,parts⟩=[]:=if_neg ab;rw[eE,eP,eI,eR,aO,aO];refine Rp ?_;intros;refine KX.d7 av ?_ (.inl ⟨rfl,none,0,x,rfl,hx,rfl⟩);refine Ent.trans ?_ (Ent.f8 ay 3 none);exact ah
 have eI:iaOf s ⟨frm,to,item,mn,parts⟩=[]:=if_neg (fun q=>h0 (hm.imp q));have eR:raOf s ⟨frm,to,item,mn,parts⟩=[]:=if_neg (fun q=>h0 q.2);rw[eI,eR,aO,aO];have hG:=hW.g.stk frm item;have c7:=hG.len;have a4:=hG.lots;have a5:=hx.stk frm item;rw[←a5] at b0 c7 a4;have hw:∀q∈(eU x.stk (frm,item)).lots,LotW q:=fun q hq=>(a4 q hq).w;have b6:=hm.g.n;dsimp only at b6;refine G.ent (L':=stkP (eU x.stk (frm,item))::isl be 7 x.cat.iad x.cat.items::isl ay 3 pad parts::bkL b S.shard x L) ?_ ?_
 ·refine(Ent.at (A:=catP x.cat) rL).trans ?_;refine(Ent.at (A:=allP (fun p:(Int×Int)×Stk=>stkP p.2) x.stk) (na (frm,item))).trans ?_;simp only[bkL,bP];exact ah
 have c4:∀(sk:Stk) (l:LL1),sk.lots=l→sk.lots.length≤sk.cap→gStk (cu S.cat) W ⟨frm,to,item,mn,parts⟩=upd2 W.stk frm item l→BkI S (S.flows++W.flows) (fg (S.flows++W.flows)) (eG (S.flows++W.flows)) (gStk (cu S.cat) W ⟨frm,to,item,mn,parts⟩) W.tot { x with stk:=gins x.stk (frm,item) sk }:=fun sk l e1 e2 e3=>by
  refine⟨hx.cat,hx.catB,hx.count,hx.tick,hx.flows,fun a i=>?_,fun a i=>?_,hx.tot,hx.imp,hx.ret⟩
  ·dsimp only;rw[mu,e3];unfold upd2;by_cases q:a=frm∧i=item
   ·rw[if_pos q,if_pos (by rw[q.1,q.2])];exact e1
   ·rw[if_neg q,if_neg (fun r=>q ⟨congrArg Prod.fst r,congrArg Prod.snd r⟩)];exact hx.stk a i
  ·dsimp only;rw[mu,e3];unfold upd2;by_cases q:a=frm∧i=item
   ·rw[if_pos q,if_pos (by rw[q.1,q.2]),←e1];exact e2
   ·rw[if_neg q,if_neg (fun r=>q ⟨congrArg Prod.fst r,congrArg Prod.snd r⟩)];exact hx.cap a i
 simp only[bkL,bP];have hv:=nM x.stk (frm,item);generalize hske:eU x.stk (frm,item)=sk at *;obtain⟨sad,scap,lots⟩:=sk;simp only[Stk.v] at hv;dsimp only at a5 b0 c7 a4 hw;refine Rp ?_;intros;refine GO.ev (Ev.n8 rfl rfl) ag ?_;refine Rp ?_;intros;refine GPW.evL (Ev.d8 rfl rfl) ag ?_;rw[hv];by_cases hp:parts.length=0
 case neg =>
  have a7:parts≠[]:=fun q=>hp (by rw[q];rfl)
  have a6:fI parts mn:=by
   rcases hm.g.parts with q|q
   ·exact absurd q a7
   ·exact partsA_iff.2 q
  have eE:gErr S.shard (S.flows++W.flows) s W ⟨frm,to,item,mn,parts⟩=if lsum parts - OO parts lots=0 then 0 else 10:=by
   unfold gErr;rw[if_neg h0,if_neg a7];have c8:=nV a6.1 a6.2.1 (own:=W.stk frm item) ⟨fun z hz=>a4 z (by rw[a5];exact hz),by rw[←a5];omega⟩ hG.apt;by_cases q:iy parts (W.stk frm item)
   ·rw[if_pos q,a5,if_pos (c8.1 q)]
   ·rw[if_neg q,a5,if_neg (fun r=>q (c8.2 r))]
  have eP:gPts (cu S.cat) s W ⟨frm,to,item,mn,parts⟩=parts:=by unfold gPts;rw[if_neg h0,if_neg a7]
  have eL:gStk (cu S.cat) W ⟨frm,to,item,mn,parts⟩=upd2 W.stk frm item (fq lots parts):=by unfold gStk sO;rw[if_neg h0,if_neg a7,a5]
  rw[eE,eP];refine Rp ?_;intros;refine GO.ca (vz sad lots.length scap lots pad parts.length pcap parts rfl rfl a4 ab a0 a6.1.2 a6.2.1) ?_;rintro _ _⟨a1,c2,rfl,rfl⟩;by_cases hq:lsum parts - OO parts lots=0
  case neg =>
   rw[aM hq,if_neg hq];refine Rp ?_;intros;exact KX.d7 av ah (.inr ⟨by decide,none,0,0,rfl,rfl⟩)
  rw[aZ hq,if_pos hq];refine GO.d8 (gg (ad:=a1) (cap:=c2) (xs:=fq lots parts) (enc:=ay) (sz:=3) (E:=tLot)) ?_;rintro⟨a3,_⟩;refine Rp ?_;intros;refine GPW.efu (Ef.e9 (enc:=Stk.v) (e:=(⟨a1,c2,fq lots parts⟩:Stk)) rfl rfl rfl rfl) ?_;rintro _ _⟨rfl,rfl⟩;refine Rp ?_;intros;refine KX.d7 av ?_ (.inl ⟨rfl,pad,pcap,_,rfl,c4 ⟨a1,c2,fq lots parts⟩ (fq lots parts) rfl a3 eL,rfl⟩);refine(Ent.frz a1).trans ?_;refine(Ent.at (A:=allP (fun p:(Int×Int)×Stk=>stkP p.2) x.stk) (Ent.refl _)).trans ?_;refine(Ent.at (A:=stkP ⟨a1,c2,fq lots parts⟩) (jj (k:=(frm,item)))).trans ?_;simp only[bkL,bP];exact ah
 have a7:parts=[]:=aW hp;have eE:gErr S.shard (S.flows++W.flows) s W ⟨frm,to,item,mn,parts⟩=if lsum lots<mn then 10 else 0:=by unfold gErr;rw[if_neg h0,if_pos a7,a5]
 have eP:gPts (cu S.cat) s W ⟨frm,to,item,mn,parts⟩=iO (cu S.cat item) lots mn:=by unfold gPts;rw[if_neg h0,if_pos a7,a5]
 have eL:gStk (cu S.cat) W ⟨frm,to,item,mn,parts⟩=upd2 W.stk frm item (fV (cu S.cat item) lots mn):=by unfold gStk sO;rw[if_neg h0,if_pos a7,a5]
 have d2:item<x.cat.items.length:=by
  have e:x.cat.m.items.length=x.cat.items.length:=by simp[CatV.m]
  rw[hx.cat] at e;omega
 have b7:cu S.cat item=x.cat.items[item.toNat]!.mixed:=by
  unfold cu;rw[←hx.cat];rfl
 rw[b7] at eP eL;rw[eE,eP];refine Rp ?_;intros;rename_i b5 b8;refine G.loop (α:=Nat) (fun i=>i≤lots.length) (fun i=>[(0,aq b),(5,aq b5),(8,aq b8),(9,ae sad lots.length scap),(12,ac (lsum (lots.take i))),(80,ae sad lots.length scap),(81,ac lots.length),(82,ac (i:Int))]) (fun _=>obj b8 116 [ac frm,ac item]::obj b5 tMv [ac frm,ac to,ac item,ac mn,ae pad parts.length pcap]::isl ay 3 sad lots::isl be 7 x.cat.iad x.cat.items::bkL b S.shard x L) (fun i=>lots.length - i) 0 (az _) an (by simp only[bkL,bP];exact ah) ?_;intro i hi;by_cases d3:i<lots.length
 case pos =>
  have d0:(i:Int).toNat=i:=aD i;have b4 : (i:Int).toNat<lots.length:=ab;have d6:=jH a4 i ab;have c9:=fC lots d3;have d5:=a4 _ (aL b4);unfold LotOk at d5;simp only[bkL,bP];refine Rp ?_;intros;refine⟨i+1,ab,ab,?_,by exact ah⟩;rw[c9,aU i,show lots[i]! = lots[(i:Int).toNat]! by rw[d0]];exact an
 obtain rfl:i=lots.length:=ab;rw[jA];simp only[bkL,bP];by_cases hq:lsum lots<mn
 ·rw[if_pos hq];refine Rp ?_;intros;exact KX.d7 av ah (.inr ⟨by decide,none,0,0,rfl,rfl⟩)
 rw[if_neg hq]
 have d4:lots≠[]:=fun q=>by
  rw[q,iC] at hq;omega
 have b1:∀(mx:Bool) (k:Nat),k<lots.length→(if mx=true then shC lots mn k else fuC lots mn k)=tkC mx lots mn k:=fun mx k _=>by
  unfold tkC;cases mx
  ·rw[if_neg ag,if_neg (fun q=>absurd q.1 ag)]
  ·rw[if_pos rfl,if_pos ⟨rfl,ab⟩]
 cases hmx:x.cat.items[item.toNat]!.mixed with
 | true =>
  rw[hmx] at eL;refine Rp ?_;intros;rw[hmx];refine Rp ?_;intros;refine GO.ef (Ef.d8 rfl rfl (qH sad lots.length scap lots mn rfl b0 a4 d4 ab ab b6.2)) ag ?_;rintro _ _⟨b2,c1,rfl,rfl⟩;refine Rp ?_;intros;refine GO.ca (uR sad lots.length scap lots b2 lots.length c1 ((List.range lots.length).map (shC lots mn)) rfl bH ab bH hw (fun k hk=>by rw[nh _ _ hk,show shC lots mn k=tkC true lots mn k from b1 true k hk];exact pi true lots mn a4 ab ab k hk)) ?_;rintro _ _⟨a1,c2,a2,c3,rfl,rfl⟩;have a8:=uk (l:=lots) (f:=fun k=>((List.range lots.length).map (shC lots mn))[k]!) (g:=tkC true lots mn) (fun k hk=>by rw[nh _ _ hk,show shC lots mn k=tkC true lots mn k from b1 true k hk]);rw[a8.1,a8.2,show divF lots (tkC true lots mn) lots.length=iO true lots mn from rfl,show divR lots (tkC true lots mn) lots.length=fV true lots mn from rfl];clear a8;refine GO.d8 (gg (ad:=a2) (cap:=c3) (xs:=fV true lots mn) (enc:=ay) (sz:=3) (E:=tLot)) ?_;rintro⟨a3,_⟩;refine Rp ?_;intros;refine GPW.efu (Ef.e9 (enc:=Stk.v) (e:=(⟨a2,c3,fV true lots mn⟩:Stk)) rfl rfl rfl rfl) ?_;rintro _ _⟨rfl,rfl⟩;refine Rp ?_;intros;refine KX.d7 av ?_ (.inl ⟨rfl,a1,c2,_,rfl,c4 ⟨a2,c3,fV true lots mn⟩ (fV true lots mn) rfl a3 eL,rfl⟩);refine(Ent.frz a1).trans ((Ent.frz a2).trans ?_);refine(Ent.at (A:=allP (fun p:(Int×Int)×Stk=>stkP p.2) x.stk) (Ent.refl _)).trans ?_;refine(Ent.at (A:=stkP ⟨a2,c3,fV true lots mn⟩) (jj (k:=(frm,item)))).trans ?_;simp only[bkL,bP];exact ah
 | false =>
  rw[hmx] at eL;refine Rp ?_;intros;rw[hmx];refine Rp ?_;intros;refine GO.ef (Ef.d8 rfl rfl (Af sad lots.length scap lots mn rfl ab hw ab b6.2)) ag ?_;rintro _ _⟨b2,c1,rfl,rfl⟩;refine Rp ?_;intros;refine GO.ca (uR sad lots.length scap lots b2 lots.length c1 ((List.range lots.length).map (fuC lots mn)) rfl bH ab bH hw (fun k hk=>by rw[nh _ _ hk,show fuC lots mn k=tkC false lots mn k from b1 false k hk];exact pi false lots mn a4 ab ab k hk)) ?_;rintro _ _⟨a1,c2,a2,c3,rfl,rfl⟩;have a8:=uk (l:=lots) (f:=fun k=>((List.range lots.length).map (fuC lots mn))[k]!) (g:=tkC false lots mn) (fun k hk=>by rw[nh _ _ hk,show fuC lots mn k=tkC false lots mn k from b1 false k hk]);rw[a8.1,a8.2,show divF lots (tkC false lots mn) lots.length=iO false lots mn from rfl,show divR lots (tkC false lots mn) lots.length=fV false lots mn from rfl];clear a8;refine GO.d8 (gg (ad:=a2) (cap:=c3) (xs:=fV false lots mn) (enc:=ay) (sz:=3) (E:=tLot)) ?_;rintro⟨a3,_⟩;refine Rp ?_;intros;refine GPW.efu (Ef.e9 (enc:=Stk.v) (e:=(⟨a2,c3,fV false lots mn⟩:Stk)) rfl rfl rfl rfl) ?_;rintro _ _⟨rfl,rfl⟩;refine Rp ?_;intros;refine KX.d7 av ?_ (.inl ⟨rfl,a1,c2,_,rfl,c4 ⟨a2,c3,fV false lots mn⟩ (fV false lots mn) rfl a3 eL,rfl⟩);refine(Ent.frz a1).trans ((Ent.frz a2).trans ?_);refine(Ent.at (A:=allP (fun p:(Int×Int)×Stk=>stkP p.2) x.stk) (Ent.refl _)).trans ?_;refine(Ent.at (A:=stkP ⟨a2,c3,fV false lots mn⟩) (jj (k:=(frm,item)))).trans ?_;simp only[bkL,bP];exact ah
def vF(m:List (Int×Int))(k d:Int):((@List.lookup _ _ instBEqOfDecidableEq k m).map encN).getD (ac d)=ac ((glk m k).getD d):=by
 unfold glk;cases @List.lookup _ _ instBEqOfDecidableEq k m<;>rfl
def AU(m:List (Int×Int))(k v q:Int):(glk (gins m k v) q).getD 0=if q=k then v else(glk m q).getD 0:=by
 rw[jQ];split<;>rfl
def rW(t:Int→Int)(f:FlM):Int:=t f.item+(if f.frm=0 then f.n else 0) - (if f.to=0 then f.n else 0)
abbrev zw:=ar6 [.ef 10]
abbrev zv:=ar6 [.ef 10]
abbrev zu:=ar5 []
abbrev zt:=ar4 [.ef 6,.ef 7,.ev 8,.ev 9,.ef 10]
abbrev wF:=ar5 []
def cj{φ ψ:Prop}(k:ψ)(h:Hid ψ→φ:=by intro k;(with_reducible apply G.d7);first|refine G.dr 85 2 zw (Hid.out k)|refine G.dr 85 4 zv (Hid.out k)|refine G.dr 85 5 zu (Hid.out k)|refine G.dr 85 7 zt (Hid.out k)|refine G.dr 85 11 wF (Hid.out k)):φ:=h ⟨k⟩
def RR{φ ψ:Prop}(k:ψ)(h:Hid ψ→φ:=by intro k;(repeat (first|refine aa ?_|intro zzz|refine cj ?_));(repeat revert zzz);exact Hid.out k):φ:=h ⟨k⟩
def Ax{L:LH}(b:Nat)(S:LedM)(x:BkX)(fl:List FlM)(ia ra:LL1)(g:Int→Int→LL1)(t:Int→Int)(hx:BkI S fl ia ra g t x)(b7:fl.length≤8000000)(fv:FlV)(hn:1≤fv.m.n∧fv.m.n≤1099511627776)(ht : -(9000000000000000000 - 1099511627776*4)≤t fv.m.item∧t fv.m.item≤1099511627776)(hg:(g fv.m.to fv.m.item).length≤5000) :
  Tri ai 104 #[aq b,aN (bT fv)] (isl ay 3 fv.pad fv.m.parts::isl (encZ .i64) 1 fv.mad fv.m.made::bkL b S.shard x L) (fun v L' =>
   ((1099511627776<rW t fv.m∨(fv.m.to≠0∧4096≤(g fv.m.to fv.m.item).length))∧v=ac 4∧L' = L) ∨
   (¬(1099511627776<rW t fv.m∨(fv.m.to≠0∧4096≤(g fv.m.to fv.m.item).length))∧v=ac 0∧∃x',BkI S (fl++[fv.m]) ia ra (if fv.m.to=0 then g else upd2 g fv.m.to fv.m.item (g fv.m.to fv.m.item++[(fv.m.id,0,fv.m.n)])) (upd t fv.m.item (rW t fv.m)) x'∧L' = bkL b S.shard x' L)):=by
 have c3:x.flows.length=fl.length:=by
  have:=congrArg List.length hx.flows
  rwa [aA] at this
 obtain⟨⟨id,step,kind,tick,actor,frm,to,item,n,parts,made⟩,pad,pcap,mad,mcap⟩:=fv;dsimp only at hn ht hg ⊢;obtain⟨b8,b9⟩:=hn;obtain⟨c1,c2⟩:=ht;generalize hT:rW t ⟨id,step,kind,tick,actor,frm,to,item,n,parts,made⟩=T;unfold rW at hT;dsimp only at hT;refine Tri.bd (args:=[aq b,aN (bT ⟨⟨id,step,kind,tick,actor,frm,to,item,n,parts,made⟩,pad,pcap,mad,mcap⟩)]) ?_;simp only[bT,bkL,bP];repeat first|refine G.sm 1 ?_|refine bF ?_|intro _|refine cj ?_
 rename_i b3;have c0:∀(z:BkX),Ent (obj b3 dz [ac id,ac step,ac kind,ac tick,ac actor,ac frm,ac to,ac item,ac n,ae pad parts.length pcap,ae mad made.length mcap]::isl ay 3 pad parts::isl (encZ .i64) 1 mad made::bkL b S.shard z L) L:=fun z=>by simp only[bkL,bP];exact ah
 refine G.d8 (α:=List (Int×Int)) (fun m=>∀i,(glk m i).getD 0=if i=item then t item+(if frm=0 then n else 0) else t i) (fun _=>[(0,aq b),(3,aq b3)]) (fun m=>obj b3 dz [ac id,ac step,ac kind,ac tick,ac actor,ac frm,ac to,ac item,ac n,ae pad parts.length pcap,ae mad made.length mcap]::isl ay 3 pad parts::isl (encZ .i64) 1 mad made::bkL b S.shard { x with tot:=m } L) ?_ ?_
 ·by_cases h0:frm=0
  ·have hv:=vF x.tot item 0;rw[hx.tot item] at hv;refine RR ?_;intros;refine GPW.evL (Ev.d8 rfl rfl) ag ?_;rw[hv];refine RR ?_;intros;refine GPW.efu (Ef.e9 (enc:=encN) (e:=t item+n) rfl rfl rfl rfl) ?_;rintro _ _⟨rfl,rfl⟩;refine RR ?_;intros;refine⟨gins x.tot item (t item+n),fun i=>?_,an,by simp only[bkL,bP];exact ah⟩;rw[AU,if_pos h0,hx.tot i]
  ·refine RR ?_;intros;refine⟨x.tot,fun i=>?_,an,by simp only[bkL,bP];exact ah⟩;rw[if_neg h0,hx.tot i];split
   ·rename_i e;rw[e,Int.add_zero]
   ·rfl
 intro m1 b1;simp only[bkL,bP];refine G.d8 (α:=List (Int×Int)) (fun m=>∀i,(glk m i).getD 0=if i=item then T else t i) (fun _=>[(0,aq b),(3,aq b3)]) (fun m=>obj b3 dz [ac id,ac step,ac kind,ac tick,ac actor,ac frm,ac to,ac item,ac n,ae pad parts.length pcap,ae mad made.length mcap]::isl ay 3 pad parts::isl (encZ .i64) 1 mad made::bkL b S.shard { x with tot:=m } L) ?_ ?_
 ·have a8:=b1 item;rw[if_pos rfl] at a8;by_cases h0:to=0
  ·rw[if_pos h0] at hT;have hv:=vF m1 item 0;rw[a8] at hv;have b6:0≤(if frm=0 then n else 0)∧(if frm=0 then n else 0)≤n:=by split<;>omega
   generalize (if frm=0 then n else 0)=nn at *;refine RR ?_;intros;refine GPW.evL (Ev.d8 rfl rfl) ag ?_;rw[hv];refine RR ?_;intros;refine GPW.efu (Ef.e9 (enc:=encN) (e:=t item+nn - n) rfl rfl rfl rfl) ?_;rintro _ _⟨rfl,rfl⟩;refine RR ?_;intros;refine⟨gins m1 item (t item+nn - n),fun i=>?_,an,by simp only[bkL,bP];exact ah⟩;rw[AU,hT,b1 i];split<;>rfl
  ·rw[if_neg h0] at hT;refine RR ?_;intros;refine⟨m1,fun i=>?_,an,by simp only[bkL,bP];exact ah⟩;rw[b1 i,←hT,Int.sub_zero]
 intro m2 b4;clear b1
 have b5 : -9000000000000000000≤T∧T≤1099511627776*3:=by
  rw[←hT];split<;>split<;>omega
 simp only[bkL,bP];have a8:=b4 item;rw[if_pos rfl] at a8;have hv:=vF m2 item 0;rw[a8] at hv;refine RR ?_;intros;refine GPW.evL (Ev.d8 rfl rfl) ag ?_;rw[hv];by_cases a2:1099511627776<T
 ·refine RR ?_;intros;exact KX.en (.inl ⟨.inl a2,rfl,rfl⟩)
 have hI:∀(m:List ((Int×Int)×Stk)) (g2:Int→Int→LL1) (ad:OA) (cp:Nat),(∀a i,(eU m (a,i)).lots=g2 a i)→(∀a i,(g2 a i).length≤(eU m (a,i)).cap)→BkI S (fl++[⟨id,step,kind,tick,actor,frm,to,item,n,parts,made⟩]) ia ra g2 (upd t item T) { x with tot:=m2,stk:=m,flows:=x.flows++[⟨⟨id,step,kind,tick,actor,frm,to,item,n,parts,made⟩,pad,pcap,mad,mcap⟩],fad:=ad,fcap:=cp }:=fun m g2 ad cp e1 e2 =>
  ⟨hx.cat,hx.catB,hx.count,hx.tick,by dsimp only;rw[aR,hx.flows];rfl,e1,e2,fun i=>by dsimp only;rw[b4 i];rfl,hx.imp,hx.ret⟩
 refine RR ?_;intros;refine GPW.ef (Ef.d7 (enc:=bT) (e:=⟨⟨id,step,kind,tick,actor,frm,to,item,n,parts,made⟩,pad,pcap,mad,mcap⟩) rfl rfl rfl rfl rfl aJ (jT _) ab ab) ag ?_;rintro _ _⟨a7,a4,rfl,rfl⟩
 have a5:∀(M:LH),Ent (isl ay 3 pad parts::isl (encZ .i64) 1 mad made::allP flP x.flows::M) (allP flP (x.flows++[⟨⟨id,step,kind,tick,actor,frm,to,item,n,parts,made⟩,pad,pcap,mad,mcap⟩])::M):=fun M=>by
  refine(Ent.e8 (bI _ _ _ _) (bI _ _ _ _)).trans ?_;exact ix (f:=flP) (e:=⟨⟨id,step,kind,tick,actor,frm,to,item,n,parts,made⟩,pad,pcap,mad,mcap⟩) lr
 by_cases h0:to=0
 ·rw[if_pos h0];refine RR ?_;intros;refine KX.d7 av ?_ (.inr ⟨fun q=>q.elim a2 (fun r=>r.1 h0),rfl,_,hI x.stk g a7 a4 hx.stk hx.cap,rfl⟩);simp only[bkL,bP];refine(Ent.at (A:=allP flP x.flows) (Ent.refl _)).trans ?_;refine(Ent.at (A:=isl (encZ .i64) 1 mad made) (Ent.refl _)).trans ?_;refine(Ent.at (A:=isl ay 3 pad parts) (a5 _)).trans ?_;exact ah
 rw[if_neg h0];have a9:=hx.stk to item;have a3:=hx.cap to item;rw[←a9] at a3 hg
 have b0:∀(sk:Stk),sk.lots=g to item++[(id,0,n)]→sk.lots.length≤sk.cap→BkI S (fl++[⟨id,step,kind,tick,actor,frm,to,item,n,parts,made⟩]) ia ra (upd2 g to item (g to item++[(id,0,n)])) (upd t item T) { x with tot:=m2,stk:=gins x.stk (to,item) sk,flows:=x.flows++[⟨⟨id,step,kind,tick,actor,frm,to,item,n,parts,made⟩,pad,pcap,mad,mcap⟩],fad:=a7,fcap:=a4 }:=fun sk e1 e2=>by
  refine hI _ _ _ _ (fun a i=>?_) (fun a i=>?_)
  ·rw[mu];unfold upd2;by_cases q:a=to∧i=item
   ·rw[if_pos q,if_pos (by rw[q.1,q.2])];exact e1
   ·rw[if_neg q,if_neg (fun r=>q ⟨congrArg Prod.fst r,congrArg Prod.snd r⟩)];exact hx.stk a i
  ·rw[mu];unfold upd2;by_cases q:a=to∧i=item
   ·rw[if_pos q,if_pos (by rw[q.1,q.2]),←e1];exact e2
   ·rw[if_neg q,if_neg (fun r=>q ⟨congrArg Prod.fst r,congrArg Prod.snd r⟩)];exact hx.cap a i
 rw[←a9] at b0 ⊢;have a6:=nM x.stk (to,item);refine RR ?_;intros;refine GO.ev (Ev.n8 rfl rfl) ag ?_;refine GO.ent (Ent.at (A:=allP (fun p:(Int×Int)×Stk=>stkP p.2) x.stk) (na (to,item))) ?_;generalize hske:eU x.stk (to,item)=sk at *;obtain⟨sad,scap,lots⟩:=sk;simp only[Stk.v] at a6;dsimp only at a9 a3 hg b0 ⊢;refine RR ?_;intros;refine GPW.evL (Ev.d8 rfl rfl) ag ?_;rw[a6];by_cases hl:4096≤lots.length
 ·refine RR ?_;intros;exact KX.en (.inl ⟨.inr ⟨h0,hl⟩,rfl,rfl⟩)
 repeat first|refine G.sn 13 ?_|refine bF ?_|intro _|refine cj ?_
 refine G.ent (Ent.at (A:=stkP ⟨sad,scap,lots⟩) (Ent.n5 (E:=tLot) (by simp only[maxLen];omega))) ?_;dsimp only;apply G.seq;refine G.f8 mixed krStd0 ?_;refine GF.evP (i:=0) rfl krStd0 (Ev.move rfl) ag ?_;refine GF.evP (i:=1) rfl krStd0 (Ev.nilCheck rfl) ag ?_;refine GF.evP (i:=2) rfl krStd0 (Ev.fieldAddr rfl) ag ?_;refine GF.evL (i:=3) rfl krStd0 (Ev.d9 rfl rfl) ag ?_;refine GF.evL (i:=4) rfl krStd0 (Ev.e7 rfl aJ) ag ?_;refine GF.evP (i:=5) rfl krStd0 (Ev.move rfl) ag ?_;refine GF.evP (i:=6) rfl krStd0 (Ev.nilCheck rfl) ag ?_;refine GF.evP (i:=7) rfl krStd0 (Ev.fieldAddr rfl) ag ?_;refine GF.evL (i:=8) rfl krStd0 (Ev.d9 rfl rfl) ag ?_;refine GF.evL (i:=9) rfl krStd0 (Ev.e7 rfl aJ) ag ?_;refine GF.evL (i:=10) rfl krStd0 (Ev.d8 rfl rfl) ag ?_;rw[a6];refine GF.evP (i:=12) rfl krStd0 (Ev.fieldAddr rfl) ag ?_;refine GF.evL (i:=13) rfl krStd0 (Ev.d9 rfl rfl) ag ?_;refine GF.evP (i:=14) rfl krStd0 (Ev.fieldAddr rfl) ag ?_;refine GF.evL (i:=15) rfl krStd0 (Ev.d9 rfl rfl) ag ?_;refine GF.evP (i:=16) rfl krStd0 (Ev.build rfl rfl) ag ?_;refine GF.d7 11 17 krStd0 ?_ ?_
 ·refine GE.ef rfl (Ef.d9 (jw sad lots.length scap a3) rfl) ag ?_;rintro _ _⟨rfl,rfl⟩;refine⟨(by intro pe hp;simp only[bh,aH,or_false] at hp;rcases hp with rfl|rfl|rfl|rfl|rfl|rfl|rfl<;>first|exact Ev.d9 rfl rfl|exact Ev.e7 rfl aJ|(rw[←a6];exact Ev.d8 rfl rfl)),?_⟩;refine GF.plan [.ef 17,.ef 18,.ef 19] krStd0 rfl ?_;refine RR ?_;intros;refine GPK.keep (by rw[←a6];exact Ev.d8 rfl rfl) ?_;refine RR ?_;intros;refine GPW.ef (Ef.l5 (enc:=ay) (e:=((id,0,n):Lot)) rfl rfl rfl rfl rfl aJ (dH _) ab ab) ag ?_;rintro _ _⟨a1,a0,rfl,rfl⟩;refine RR ?_;intros;refine GPW.fct (Bb (ad:=a1) (cap:=a0) (xs:=lots++[((id,0,n):Lot)]) (enc:=ay) (sz:=3) (E:=tLot)) ?_;rintro⟨b2,_⟩;refine GPW.efu (Ef.e9 (enc:=Stk.v) (e:=(⟨a1,a0,lots++[((id,0,n):Lot)]⟩:Stk)) rfl rfl rfl rfl) ?_;rintro _ _⟨rfl,rfl⟩;refine RR ?_;intros;refine KX.d7 av ?_ (.inr ⟨fun q=>q.elim a2 (fun r=>hl r.2),rfl,_,b0 ⟨a1,a0,lots++[((id,0,n):Lot)]⟩ (by rw[a9]) b2,rfl⟩);simp only[bkL,bP];refine(Ent.at (A:=allP flP x.flows) (Ent.refl _)).trans ?_;refine(Ent.at (A:=isl (encZ .i64) 1 mad made) (Ent.refl _)).trans ?_;refine(Ent.at (A:=isl ay 3 pad parts) (a5 _)).trans ?_;refine(Ent.at (A:=asl ay 3 tLot a1 a0 (lots++[((id,0,n):Lot)])) Ent.n9).trans ?_;refine(Ent.at (A:=allP (fun p:(Int×Int)×Stk=>stkP p.2) x.stk) (Ent.refl _)).trans ?_;refine(Ent.at (A:=isl ay 3 a1 (lots++[((id,0,n):Lot)])) (jj (s:=⟨a1,a0,lots++[((id,0,n):Lot)]⟩) (k:=(to,item)))).trans ?_;exact ah
 ·refine GE.ef rfl (Ef.lit rfl rfl ag rfl) ag ?_;rintro _ _⟨bl,rfl,rfl⟩;refine⟨(by intro pe hp;simp only[bh,aH,or_false] at hp;rcases hp with rfl|rfl|rfl|rfl|rfl|rfl|rfl<;>first|exact Ev.d9 rfl rfl|exact Ev.e7 rfl aJ|(rw[←a6];exact Ev.d8 rfl rfl)),?_⟩;refine GF.plan [.ef 11,.ef 18,.ef 19] krStd0 rfl ?_;refine RR ?_;intros;refine GPW.cr (jw sad lots.length scap a3) ?_;refine RR ?_;intros;refine GPW.ef (Ef.l5 (enc:=ay) (e:=((id,0,n):Lot)) rfl rfl rfl rfl rfl aJ (dH _) ab ab) ag ?_;rintro _ _⟨a1,a0,rfl,rfl⟩;refine RR ?_;intros;refine GPW.fct (Bb (ad:=a1) (cap:=a0) (xs:=lots++[((id,0,n):Lot)]) (enc:=ay) (sz:=3) (E:=tLot)) ?_;rintro⟨b2,_⟩;refine GPW.efu (Ef.e9 (enc:=Stk.v) (e:=(⟨a1,a0,lots++[((id,0,n):Lot)]⟩:Stk)) rfl rfl rfl rfl) ?_;rintro _ _⟨rfl,rfl⟩;refine RR ?_;intros;refine KX.d7 av ?_ (.inr ⟨fun q=>q.elim a2 (fun r=>hl r.2),rfl,_,b0 ⟨a1,a0,lots++[((id,0,n):Lot)]⟩ (by rw[a9]) b2,rfl⟩);simp only[bkL,bP];refine(Ent.at (A:=allP flP x.flows) (Ent.refl _)).trans ?_;refine(Ent.at (A:=isl (encZ .i64) 1 mad made) (Ent.refl _)).trans ?_;refine(Ent.at (A:=isl ay 3 pad parts) (a5 _)).trans ?_;refine(Ent.at (A:=asl ay 3 tLot a1 a0 (lots++[((id,0,n):Lot)])) Ent.n9).trans ?_;refine(Ent.at (A:=allP (fun p:(Int×Int)×Stk=>stkP p.2) x.stk) (Ent.refl _)).trans ?_;refine(Ent.at (A:=isl ay 3 a1 (lots++[((id,0,n):Lot)])) (jj (s:=⟨a1,a0,lots++[((id,0,n):Lot)]⟩) (k:=(to,item)))).trans ?_;exact ah
