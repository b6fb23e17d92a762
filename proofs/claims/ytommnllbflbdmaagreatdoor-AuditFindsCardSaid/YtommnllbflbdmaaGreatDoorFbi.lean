/- Lemmas. -/
import Derived.Test.YtommnllbflbdmaaGreatDoorFbe
import Derived.Defers
import Derived.Recover
set_option linter.all false
set_option maxHeartbeats 4000000
namespace Go.Proofs.YtommnllbflbdmaaGreatDoor
section
open Go.V
def GQ(l:LL):∀a b:LL,OO l (a++b)=OO l a+OO l b
 | [],b=>by show OO l b=0+OO l b;omega
 | x::a,b=>by
  have:=GQ l a b
  show OV l x+OO l (a++b)=OV l x+OO l a+OO l b;omega
def xX(y:Lot)(f a n m:Int)(hn:0≤n)(hm:0≤m)(hy:0≤y.2.2):ov y (f,a,n+m)=ov y (f,a,n)+ov y (f,a+n,m):=by
 unfold ov;dsimp only;split<;>omega
def zg(f a n m:Int)(hn:0≤n)(hm:0≤m):∀l:LL,(∀y∈l,LotOk y)→OV l (f,a,n+m)=OV l (f,a,n)+OV l (f,a+n,m)
 | [],_=>rfl
 | y::l,h=>by
  have hy:=h y au;unfold LotOk at hy;have h1:=xX y f a n m hn hm ab;have h2:=zg f a n m hn hm l (fun z hz=>h z (aw _ hz));show ov y _+OV l _=(ov y _+OV l _)+(ov y _+OV l _);omega
def zh(f a:Int):∀l:LL,(∀y∈l,LotOk y)→OV l (f,a,0)=0
 | [],_=>rfl
 | y::l,h=>by
  have h2:=zh f a l (fun z hz=>h z (aw _ hz))
  have h1:ov y (f,a,0)=0:=by
   unfold ov;dsimp only;split<;>omega
  show ov y _+OV l _=0;omega
def GM(l:LL)(x:Lot):∀(s:LL) (k:Nat),k<s.length→OO l (s.set k x)=OO l s - OV l s[k]! + OV l x
 | y::s,0,_=>by
  show OV l x+OO l s=OV l y+OO l s - OV l y+OV l x;omega
 | y::s,k+1,h=>by
  have:=GM l x s k (by simpa using h)
  show OV l y+OO l (s.set k x)=OV l y+OO l s - OV l s[k]! + OV l x;omega
def Cq{l:LL}(hl:∀y∈l,LotOk y):∀(r out:LL),(∀z∈r,LotW z)→(∀z∈out,LotW z)→OO l (r.foldl aZ out)=OO l out+OO l r
 | [],out,_,_=>by show OO l out=OO l out+0;omega
 | x::r,out,h1,h2=>by
  have hx:=h1 x au;have ih:=Cq hl r (aZ out x) (fun z hz=>h1 z (aw _ hz)) (rh h2 hx)
  have e:OO l (aZ out x)=OO l out+OV l x:=by
   unfold aZ;by_cases c0:x.2.2=0
   ·rw[if_pos c0];have:=zh x.1 x.2.1 l hl
    rw[show((x.1,x.2.1,0):Lot)=x by rw[←c0]] at this;omega
   ·rw[if_neg c0];by_cases c1:out.length≠0∧ky x out[out.length - 1]!
    ·rw[if_pos c1,GM l _ out _ ab];have hb:=h2 _ (aJ (ab:out.length - 1<out.length));have hc:=lcont_iff.1 c1.2;generalize out[out.length - 1]! = b at *;unfold LotW at hb hx;have:=zg b.1 b.2.1 b.2.2 x.2.2 ab ab l hl
     rw[←hc.2,←hc.1] at this;rw[←hc.1,this];show OO l out - OV l b+(OV l (x.1,b.2.1,b.2.2)+OV l x)=OO l out+OV l x;rw[show((x.1,b.2.1,b.2.2):Lot)=b by rw[hc.1]];omega
    ·rw[if_neg c1,GQ];show OO l out+(OV l x+0)=_;omega
  show OO l (r.foldl aZ (aZ out x))=OO l out+(OV l x+OO l r);omega
def Cp{w:Lot}:∀{l:LL},(∀q∈l,ov q w=0)→OV l w=0
 | [],_=>rfl
 | q::l,h=>by
  have h1:=h q au;have h2:=Cp (l:=l) (fun p hp=>h p (aw _ hp));show ov q w+OV l w=0;omega
def vU{w:Lot}:∀{l:LL} {y:Lot},(∀z∈l,LotOk z)→Apart l→y∈l→0≤w.2.2→w.1=y.1→y.2.1≤w.2.1→w.2.1+w.2.2≤y.2.1+y.2.2→OV l w=w.2.2
 | z::l,y,hl,ha,hy,h0,h1,h2,h3=>by
  obtain⟨a1,a2⟩:=List.pairwise_cons.1 ha;have hz:=hl z au;unfold LotOk at hz;have a0:∀q∈l,LotOk q:=fun q hq=>hl q (aw _ hq);show ov z w+OV l w=w.2.2;rcases List.mem_cons.1 hy with rfl|hy
  ·have e1:ov y w=w.2.2:=by
    unfold ov;rw[if_pos h1.symm];omega
   have e2:OV l w=0:=by
    refine Cp (fun q hq=>?_);have g1:=a1 q hq;have g2:=a0 q hq;unfold apart at g1;unfold LotOk at g2;unfold ov;split<;>omega
   omega
  ·have ih:=vU a0 a2 hy h0 h1 h2 h3;have g1:=a1 y hy;have a3:=a0 y hy;unfold LotOk at a3;unfold apart at g1
   have e1:ov z w=0:=by
    unfold ov;split<;>omega
   omega
def vV{l:LL}(hl:∀z∈l,LotOk z)(ha:Apart l):∀{s:LL},(∀w∈s,LotOk w∧∃y∈l,w.1=y.1∧y.2.1≤w.2.1∧w.2.1+w.2.2≤y.2.1+y.2.2)→OO l s=lsum s
 | [],_=>by rw[ik];rfl
 | w::s,h=>by
  obtain⟨h1,y,hy,h2,h3,h4⟩:=h w au;have ih:=vV hl ha (s:=s) (fun q hq=>h q (aw _ hq));unfold LotOk at h1;have e:=vU hl ha hy ab h2 h3 h4;rw[gI];show OV l w+OO l s=_;omega
def Hq{a:LL}(h:∀x∈a,LotOk x){p:Lot}(hp:LotOk p):lsum (gQ a [p])=OV (setL a) p:=by
 have hs:=(lD h).2
 have a1:Apart (setL a):=by
  have:=(lE h a.length (aB _)).1
  rw[bC] at this;exact xa this
 have a3:∀x∈[p],LotOk x:=fun x hx=>by rw[List.mem_singleton.1 hx];exact hp
 have e0:gr a [p]=(subL (setL a) p).foldl aZ []:=oC _ _;have hX:=(kR h a3).1
 have a0:∀w∈subL (setL a) p,LotOk w∧∃y∈setL a,w.1=y.1∧y.2.1≤w.2.1∧w.2.1+w.2.2≤y.2.1+y.2.2:=fun w hw=>by
  obtain⟨y,hy,g1,g2,g3,g4⟩:=mN hp hs hw;exact⟨g1,y,hy,g2,g3,g4⟩
 have a2:Apart (gr a [p]):=by
  rw[e0];refine lj ?_ (fun z hz=>?_)
  ·rw[al];exact(mD hp hs a1).1
  ·rw[al] at hz;have:=(a0 z hz).1
   unfold LotOk at this;omega
 have e1:lsum (gQ a [p])=lsum (setL a) - OO (setL a) (gr a [p]):=nl hs hX a2
 have e2:OO (setL a) (gr a [p])=OO (setL a) (subL (setL a) p):=by
  rw[e0,Cq hs _ _ (fun z hz=>(a0 z hz).1.w) (fun z hz=>absurd hz aV)];show 0+_=_;omega
 rw[e1,e2,vV hs a1 a0,rW hp hs];omega
def uj{l:LL}{p:Lot}(hl:∀y∈l,LotOk y)(hp:LotOk p):OV l p≠0↔∃y∈l,¬apart y p:=by
 constructor
 ·intro h;refine Classical.byContradiction (fun q=>h ?_);have a0:∀y∈l,apart y p:=fun y hy=>Classical.byContradiction (fun r=>q ⟨y,hy,r⟩);clear h q;induction l with
  | nil=>rfl
  | cons y l ih =>
   have h1:=(qY (hl y au) hp).2 (a0 y au);have h2:=ih (fun z hz=>hl z (aw _ hz)) (fun z hz=>a0 z (aw _ hz));show ov y p+OV l p=0;omega
 ·rintro⟨y,hy,hn⟩ e;exact hn ((qY (hl y hy) hp).1 (uX e y hy))
def oV{a:LL}(h:∀x∈a,LotOk x)(ha:Apart a){p:Lot}(hp:LotOk p):gQ a [p]≠[]↔∃y∈a,y.1=p.1∧ovP p y:=by
 have hs:=(lD h).2;have a1:∀x∈[p],LotOk x:=fun x hx=>by rw[List.mem_singleton.1 hx];exact hp
 have a0:∀z∈gQ a [p],LotOk z:=(wJ hs (kR h a1).1).1;have e:=Hq h hp;obtain⟨_,_,g3,_⟩:=lE h a.length (aB _);rw[bC] at g3;have e2:OV (setL a) p=OV a p:=(g3 ((mT h).2 ha)).2 p hp
 have e3:gQ a [p]≠[]↔OV a p≠0:=by
  rw[←e2,←e];constructor
  ·intro h2 h3;have:=jy a0 (List.length_pos_iff.2 h2)
   omega
  ·intro h2 h3;rw[h3,ik] at h2;exact h2 rfl
 rw[e3,uj h hp];constructor
 ·rintro⟨y,hy,hn⟩;refine⟨y,hy,?_⟩;unfold apart at hn;unfold ovP;omega
 ·rintro⟨y,hy,h1,h2⟩;refine⟨y,hy,?_⟩;unfold ovP at h2;unfold apart;omega
end
section
open Go.V
attribute [local irreducible] G GO GP GPW GPK Ev Ef EfR Ent CB GB V.Enters
structure TkG (x:RLX) (mix:Int→Bool) (W:Wk) (m:MvM) (st:List RStk):Prop where
 lots:∀a i,(dR st a i).lots=gStk mix W m a i
 sum:∀i,rsum st i=rsum x.stks i - (if m.frm≠0∧i=m.item then m.n else 0)
 ok:rOk st
 len:st.length≤x.stks.length+1
 dist:ki x.stks→ki st
def HC{sh:Int}{fl:List FlM}{s:StM}{W:Wk}{m:MvM}{mixed:Bool}{k:Nat}{id:Int}(hw:StkG k id (W.stk m.frm m.item))(hm:MvG m)(h0:¬m.frm=0)(he:gErr sh fl s W m=0):lsum (if m.parts=[] then eU mixed (W.stk m.frm m.item) m.n else dS (W.stk m.frm m.item) m.parts)=lsum (W.stk m.frm m.item) - m.n:=by
 have hn:=hm.n;unfold gErr at he;rw[if_neg h0] at he;by_cases hp:m.parts=[]
 ·rw[if_pos hp] at he ⊢;by_cases hq:lsum (W.stk m.frm m.item)<m.n
  ·rw[if_pos hq] at he;exact absurd he ae
  ·exact FQ hw.lots ab ab
 ·rw[if_neg hp] at he ⊢;by_cases hq:fx m.parts (W.stk m.frm m.item)
  ·rcases hm.parts with g|⟨_,g2,g3⟩
   ·exact absurd g hp
   ·rw[Cu hq hw.apt (g3.trans g2.symm),g2]
  ·rw[if_neg hq] at he;exact absurd he ae
def lx(fl:List FlV):Prop:=∀f∈fl,f.m.kind=5→f.m.frm=0→f.m.parts.length≤f.pcap
abbrev Ds:=aH1 [.ef 8,.ef 9]
abbrev Dr:=aH3 [.ef 13,.ev 14,.ev 15,.ev 16,.ev 17,.ev 18,.ev 19,.ev 20]
abbrev Ac:=aG9 [.ev 4,.ef 5,.ev 6,.ev 7]
abbrev Ab:=aG9 [.ef 4,.ev 5,.ev 6]
def SX{φ ψ:Prop}(k:ψ)(h:Hid ψ→φ:=by intro k;(repeat (first|refine aa ?_|intro zzz|refine G.dr 88 7 Ds ?_|refine G.dr 88 9 Dr ?_|refine G.dr 88 15 Ac ?_|refine G.dr 88 17 Ab ?_));(repeat revert zzz);exact Hid.out k):φ:=h ⟨k⟩
def xl{L:LH}(b:Nat)(sh:Int)(x:RLX)(W:Wk)(s:StM)(m:MvV)(kb:Nat)(id:Int)(hB:x.cat.B)(hO:rOk x.stks)(hl:x.stks.length≤9000000)(b0:FlOk x.flows)(a2:∀a i,(dR x.stks a i).lots=W.stk a i)(hW:∀a i,StkG kb id (W.stk a i))(c4:kb+m.m.parts.length≤2000)(hi:0≤m.m.item∧m.m.item<x.cat.items.length)(hf:accP m.m.frm)(hm:MvG m.m)(hc:m.m.parts.length≤m.pcap)(b1:∀p∈m.m.parts,p.1≤9223372036854775807) :
  Tri ai 138 #[ay b,ac s.kind,aO (aL m)] (rlL b sh x (isl aj 3 m.pad m.m.parts::L)) (fun v L' =>
   (gErr sh (x.flows.map FlV.m) s W m.m≠0∧∃pd n c,v=.tuple #[ah pd n c,ac (gErr sh (x.flows.map FlV.m) s W m.m)]∧L' = rlL b sh x L) ∨
   (gErr sh (x.flows.map FlV.m) s W m.m=0∧∃pad pcap st a5 a1,v=.tuple #[ah pad (gPts (mixR x) s W m.m).length pcap,ac 0]∧TkG x (mixR x) W m.m st∧(s.kind=5→m.m.frm=0→(gPts (mixR x) s W m.m).length≤pcap) ∧
    L' = isl aj 3 pad (gPts (mixR x) s W m.m)::rlL b sh { x with stks:=st,sad:=a5,scap:=a1 } L)):=by
 have c3:=hB.items;obtain⟨b9,c0⟩:=hi;obtain⟨c5,b2⟩:=hm.n;obtain⟨b7,b8⟩:=hf;obtain⟨o1,o2⟩:=oM hO m.m.frm m.m.item;have a3:=hm.lots;have a6:=hW m.m.frm m.m.item;have a0:=fun (e:¬m.m.frm=0) (he:gErr sh (x.flows.map FlV.m) s W m.m=0)=>HC (mixed:=mixR x m.m.item) a6 hm e he;have a8:=a2 m.m.frm m.m.item;rw[←a8] at a6 a0;have c6:=a6.len;refine Tri.bd ?_;by_cases h0:m.m.frm=0
 ·have a9:TkG x (mixR x) W m.m x.stks:=⟨fun a i=>by unfold gStk;rw[if_pos h0];exact a2 a i,fun i=>by rw[if_neg (fun q=>q.1 h0),fE],hO,ab,fun h=>h⟩;by_cases h5:s.kind=5
  ·have e1:gErr sh (x.flows.map FlV.m) s W m.m=arrG sh (x.flows.map FlV.m) m.m.parts:=by unfold gErr;rw[if_pos h0,if_pos h5]
   have e2:gPts (mixR x) s W m.m=m.m.parts:=by unfold gPts;rw[if_pos h0,if_pos (.inl h5)]
   rw[e1,e2];simp only[rlL];refine SX ?_;intros;rename_i b5;refine GPW.ent (L':=rlL b sh x (isl aj 3 m.pad m.m.parts::obj b5 tMv (aL m)::L)) (by simp only[rlL];exact ag) ?_;refine GPW.cr (xv b sh x b0 m.pad m.m.parts.length m.pcap m.m.parts rfl hc a3 b1 ab) ?_;simp only[rlL];refine SX ?_;intros;by_cases he:arrG sh (x.flows.map FlV.m) m.m.parts=0
   ·refine KX.d7 an ?_ (.inr ⟨he,m.pad,m.pcap,x.stks,x.sad,x.scap,by rw[he];rfl,a9,fun _ _=>hc,rfl⟩);exact ag
   ·refine KX.d7 an ?_ (.inl ⟨he,m.pad,m.m.parts.length,m.pcap,rfl,rfl⟩);exact ag
  by_cases h9:s.kind=9
  ·have e1:gErr sh (x.flows.map FlV.m) s W m.m=revG (x.flows.map FlV.m) m.m.item m.m.parts:=by unfold gErr;rw[if_pos h0,if_neg h5,if_pos h9]
   have e2:gPts (mixR x) s W m.m=m.m.parts:=by unfold gPts;rw[if_pos h0,if_pos (.inr h9)]
   rw[e1,e2];simp only[rlL];refine SX ?_;intros;rename_i b5;refine GPW.ent (L':=rlL b sh x (isl aj 3 m.pad m.m.parts::obj b5 tMv (aL m)::L)) (by simp only[rlL];exact ag) ?_;refine GPW.cr (xj b sh x b0 m hc a3 ab) ?_;simp only[rlL];refine SX ?_;intros;by_cases he:revG (x.flows.map FlV.m) m.m.item m.m.parts=0
   ·refine KX.d7 an ?_ (.inr ⟨he,m.pad,m.pcap,x.stks,x.sad,x.scap,by rw[he];rfl,a9,fun _ _=>hc,rfl⟩);exact ag
   ·refine KX.d7 an ?_ (.inl ⟨he,m.pad,m.m.parts.length,m.pcap,rfl,rfl⟩);exact ag
  have e1:gErr sh (x.flows.map FlV.m) s W m.m=0:=by unfold gErr;rw[if_pos h0,if_neg h5,if_neg h9]
  have e2:gPts (mixR x) s W m.m=[]:=by unfold gPts;rw[if_pos h0,if_neg (fun q=>q.elim h5 h9)]
  rw[e1,e2];simp only[rlL];refine SX ?_;intros;refine KX.d7 an ?_ (.inr ⟨(by first|rfl|trivial),none,0,x.stks,x.sad,x.scap,rfl,a9,fun q=>absurd q h5,rfl⟩);refine Ent.trans ?_ (Ent.e8 aj 3 none);exact ag
 have b6 : 0<m.m.frm:=ab;refine G.ent (L':=stkP (dR x.stks m.m.frm m.m.item)::isl dD 7 x.cat.iad x.cat.items::rlL b sh x (isl aj 3 m.pad m.m.parts::L)) ?_ ?_
 ·simp only[rlL];refine(Ent.at (A:=catP x.cat) pu).trans ?_;refine(Ent.at (A:=allP rsP x.stks) (qe m.m.frm m.m.item)).trans ?_;exact ag
 simp only[rlL];refine SX ?_;intros;refine GO.cr (nL (b:=b) (sh:=sh) (x:=x) m.m.frm m.m.item ab) ?_
 have a4:∀{ad2:OA} {c2:Nat} {l:LL},lV (mixR x) W m.m=l→lsum l=lsum (dR x.stks m.m.frm m.m.item).lots - m.m.n→StkG 2000 id l→TkG x (mixR x) W m.m (rset x.stks m.m.frm m.m.item ⟨ad2,c2,l⟩):=fun {ad2 c2 l} e hs hg=>by
  refine⟨fun a i=>?_,fun i=>?_,?_,sd _ _ _ _,pZ⟩
  ·unfold gStk;rw[if_neg h0,oL,e];unfold upd2;split
   ·rfl
   ·exact a2 a i
  ·rw[pY];dsimp only;by_cases hq:i=m.m.item
   ·rw[if_pos hq,if_pos ⟨h0,hq⟩,hs];omega
   ·rw[if_neg hq,if_neg (fun q=>hq q.2)];omega
  ·intro u hu;rcases rZ hu with h|h
   ·exact hO u h
   ·rw[h];exact⟨by have:=hg.len;dsimp only;omega,hg.lots⟩
 by_cases hp:m.m.parts=[]
 ·have b4:m.m.parts.length=0:=by rw[hp];rfl
  have e1:gErr sh (x.flows.map FlV.m) s W m.m=if lsum (W.stk m.m.frm m.m.item)<m.m.n then 10 else 0:=by unfold gErr;rw[if_neg h0,if_pos hp]
  have e2:gPts (mixR x) s W m.m=gW (mixR x m.m.item) (W.stk m.m.frm m.m.item) m.m.n:=by unfold gPts;rw[if_neg h0,if_pos hp]
  have e3:lV (mixR x) W m.m=eU (mixR x m.m.item) (W.stk m.m.frm m.m.item) m.m.n:=by unfold lV;rw[if_pos hp]
  rw[e1] at a0 ⊢;rw[if_pos hp] at a0;rw[e2];rw[e3] at a4;rw[←a8] at a4 a0 ⊢;generalize hsk:dR x.stks m.m.frm m.m.item=sk at *;refine SX ?_;intros;refine GPW.ent (Ent.at (A:=stkP sk) (Ent.refl _)) ?_;refine GPW.ca (CK sk.ad sk.cap sk.lots m.m.n (mixR x m.m.item) o1 o2 ab b2) ?_;rintro _ _ (⟨h1,rfl,rfl⟩|⟨h1,a7,c1,ad2,c2,rfl,rfl⟩)
  ·rw[if_pos h1];refine SX ?_;intros;refine KX.d7 an ?_ (.inl ⟨by decide,none,0,0,rfl,rfl⟩);exact ag
  ·rw[if_neg ab] at a0 ⊢;have hT:=a4 (ad2:=ad2) (c2:=c2) rfl (a0 h0 rfl) ((BW a6 o1 ab h1).mono ab (bB _));refine SX ?_;intros;rename_i b3
   refine GO.ent (L':=rlL b sh x (stkP ⟨ad2,c2,eU (mixR x m.m.item) sk.lots m.m.n⟩::isl aj 3 a7 (gW (mixR x m.m.item) sk.lots m.m.n)::obj b3 tMv (aL m)::L)) (by
    refine(Ent.frz a7).trans ((Ent.frz ad2).trans ?_);simp only[rlL];exact ag) ?_
   refine GO.ca (oK b sh x m.m.frm m.m.item ⟨ad2,c2,eU (mixR x m.m.item) sk.lots m.m.n⟩ ab) ?_;rintro _ _⟨a5,a1,rfl⟩;simp only[rlL];refine SX ?_;intros;refine KX.d7 an ?_ (.inr ⟨(by first|rfl|trivial),a7,c1,rset x.stks m.m.frm m.m.item ⟨ad2,c2,eU (mixR x m.m.item) sk.lots m.m.n⟩,a5,a1,rfl,hT,fun _ q=>absurd q h0,rfl⟩);exact ag
 have b4:0<m.m.parts.length:=List.length_pos_iff.2 hp;have e1:gErr sh (x.flows.map FlV.m) s W m.m=if fx m.m.parts (W.stk m.m.frm m.m.item) then 0 else 10:=by unfold gErr;rw[if_neg h0,if_neg hp]
 have e2:gPts (mixR x) s W m.m=m.m.parts:=by unfold gPts;rw[if_neg h0,if_neg hp]
 have e3:lV (mixR x) W m.m=dS (W.stk m.m.frm m.m.item) m.m.parts:=by unfold lV;rw[if_neg hp]
 rw[e1] at a0 ⊢;rw[if_neg hp] at a0;rw[e2];rw[e3] at a4;rw[←a8] at a4 a0 ⊢;generalize hsk:dR x.stks m.m.frm m.m.item=sk at *;rename_i b5;refine GO.ent (L':=isl aj 3 sk.ad sk.lots::rlL b sh x (isl aj 3 m.pad m.m.parts::obj b5 tMv (aL m)::L)) (by simp only[rlL];exact ag) ?_;simp only[rlL];refine SX ?_;intros;refine GO.cr (pV m.pad m.m.parts.length m.pcap m.m.parts sk.ad sk.lots.length sk.cap sk.lots rfl rfl ab ab) ?_;by_cases hq:fx m.m.parts sk.lots
 case neg =>
  rw[aH hq,if_neg hq];refine SX ?_;intros;refine KX.d7 an ?_ (.inl ⟨by decide,none,0,0,rfl,rfl⟩);exact ag
 rw[if_pos hq] at a0;rw[aU hq,if_pos hq];refine SX ?_;intros;refine GPW.ca (pF sk.ad sk.lots.length sk.cap sk.lots m.pad m.m.parts.length m.pcap m.m.parts rfl rfl hq.2.1 hq.1) ?_;rintro _ _⟨ad2,c2,rfl,rfl⟩;have hT:=a4 (ad2:=ad2) (c2:=c2) rfl (a0 h0 rfl) ((uq a6 a3).mono ab (bB _));refine SX ?_;intros
 refine GPW.ent (L':=rlL b sh x (stkP ⟨ad2,c2,dS sk.lots m.m.parts⟩::isl aj 3 m.pad m.m.parts::obj b5 tMv (aL m)::L)) (by
  refine(Ent.frz ad2).trans ?_;simp only[rlL];exact ag) ?_
 refine GPW.ca (oK b sh x m.m.frm m.m.item ⟨ad2,c2,dS sk.lots m.m.parts⟩ ab) ?_;rintro _ _⟨a5,a1,rfl⟩;simp only[rlL];refine SX ?_;intros;refine KX.d7 an ?_ (.inr ⟨(by first|rfl|trivial),m.pad,m.pcap,rset x.stks m.m.frm m.m.item ⟨ad2,c2,dS sk.lots m.m.parts⟩,a5,a1,rfl,hT,fun _ q=>absurd q h0,rfl⟩);exact ag
abbrev Dz:=aH4 [.ev 17,.ev 18,.ev 19,.ev 20,.ev 21,.ev 22,.ev 23,.ev 24,.ev 25,.ev 26,.ev 27,.ev 28,.ev 29,.ev 30,.ev 31,.ev 32,.ev 33,.ev 34,.ev 35,.ev 36,.ef 37,.ef 38]
abbrev Dy:=aH4 [.ev 17,.ev 18,.ev 19,.ev 20,.ev 21]
abbrev Al:=aH2 [.ef 10,.ef 11,.ev 12,.ef 13]
abbrev Ak:=aH0 [.ev 6,.ev 8,.ev 9,.ef 7,.ev 10,.ev 11,.ev 12]
abbrev Aj:=aG9 [.ev 4,.ev 6,.ev 7,.ev 8,.ev 9,.ev 10,.ef 5,.ef 11,.ev 12]
abbrev Ai:=aH0 [.ef 6,.ef 7,.ev 8,.ev 9,.ef 10]
def bY{φ ψ:Prop}(k:ψ)(h:Hid ψ→φ:=by intro k;(with_reducible apply G.d7);first|refine G.dr 169 1 Dz (Hid.out k)|refine G.dr 169 9 Dy (Hid.out k)|refine G.dr 169 10 Al (Hid.out k)|refine G.dr 169 11 Ak (Hid.out k)|refine G.dr 169 14 Aj (Hid.out k)|refine G.dr 169 18 Ai (Hid.out k)):φ:=h ⟨k⟩
def Tn{φ ψ:Prop}(k:ψ)(h:Hid ψ→φ:=by intro k;(repeat (first|refine aa ?_|intro zzz|refine bY ?_));(repeat revert zzz);exact Hid.out k):φ:=h ⟨k⟩
def zA{L:LH}(b:Nat)(S:LedM)(j1:0≤S.shard∧S.shard<12)(k9:S.steps.length≤65536)(k8:S.flows.length≤4194304)(i0:FlG S.flows)(y:RLX)(W:Wk)(kb:Nat)(s:StV)(m:MvV)(hR:RW S y W)(hO:WkG S.shard S.flows kb W)(i4:kb+m.m.parts.length≤2000)(k3:W.flows.length<64)(h:rk y.cat.items.length m.m)(hm:MvG m.m)(f1:m.m.parts.length≤m.pcap)(i1:∀p∈m.m.parts,p.1≤9223372036854775807) :
  Tri ai 94 #[ay b,aO (aN s),aO (aL m)] (rlL b S.shard y (isl aj 3 m.pad m.m.parts::L)) (fun v L'=>∃y',v=ac (cC S.shard S.flows (bF S.cat) (s.m.at (aP S)) W m.m).1 ∧
   ((y'.cat=y.cat∧y'.steps=y.steps∧y'.tad=y.tad∧y'.tcap=y.tcap∧(lx y.flows→lx y'.flows))∧((cC S.shard S.flows (bF S.cat) (s.m.at (aP S)) W m.m).1=0→RW S y' (cC S.shard S.flows (bF S.cat) (s.m.at (aP S)) W m.m).2))∧L' = rlL b S.shard y' L):=by
 obtain⟨k6,k7⟩:=j1;obtain⟨i6,k4⟩:=hm.n;have h6:=hm.ne;obtain⟨c9,_,_,i3,j3,f2,j4⟩:=h;have c7:y.flows.map FlV.m=S.flows++W.flows:=hR.flows
 have f0:FlOk y.flows:=by
  have g0:=congrArg List.length c7;rw[az,aq] at g0;refine⟨ab,fun f hf=>?_⟩;have f2:f.m∈S.flows++W.flows:=by rw[←c7];exact alStd0List_mem_map_of_mem hf
  rcases List.mem_append.1 f2 with q|q
  ·exact i0 _ q
  ·exact hO.flows _ q
 have j5:y.flows.length=S.flows.length+W.flows.length:=by
  have:=congrArg List.length hR.flows
  rwa [az,aq] at this
 have j6:y.steps.length=S.steps.length:=by rw[←hR.steps];simp
 have l1:=hR.len;have a8:S.shard*4294967296+(y.steps.length:Int)=aP S:=by unfold aP;rw[j6]
 have c6:S.shard*4294967296+(y.flows.length:Int)=cL S.shard S.flows.length W:=by unfold cL;rw[j5];omega
 have b9:mixR y=bF S.cat:=by funext i;unfold mixR bF;rw[←hR.cat];rfl
 refine Tri.bd ?_;simp only[rlL];refine Tn ?_;intros;rename_i b4 b5 b7;refine GO.ent (L':=rlL b S.shard y (isl aj 3 m.pad m.m.parts::obj b7 bE [ac (S.shard*4294967296+(y.flows.length:Int)),ac (S.shard*4294967296+(y.steps.length:Int)),ac s.kind,ac s.tick,ac s.actor,ac m.m.frm,ac m.m.to,ac m.m.item,ac m.m.n,ah none 0 0,ah none 0 0]::obj b4 ba (aN s)::obj b5 tMv (aL m)::L)) (by simp only[rlL];exact ag) ?_;refine GO.ca (xl b S.shard y W (s.m.at (aP S)) m kb (cL S.shard S.flows.length W) hR.catB hR.ok ab f0 hR.lots hO.stk i4 c9 ⟨i3,f2⟩ hm f1 i1) ?_;rw[hR.flows];rintro _ _ (⟨h1,pd,pn,pc,rfl,rfl⟩|⟨h1,pad,pcap,st,a1,a0,rfl,hT,c4,rfl⟩)
 ·have e:cC S.shard S.flows (bF S.cat) (s.m.at (aP S)) W m.m=(gErr S.shard (S.flows++W.flows) (s.m.at (aP S)) W m.m,W):=by unfold cC;rw[if_pos h1]
  rw[e];generalize gErr S.shard (S.flows++W.flows) (s.m.at (aP S)) W m.m=er at *;refine Tn ?_;intros;exact KX.d7 an (by simp only[rlL];exact ag) ⟨y,rfl,⟨⟨rfl,rfl,rfl,rfl,fun q=>q⟩,fun q=>absurd q h1⟩,rfl⟩
 have i5:cC S.shard S.flows (bF S.cat) (s.m.at (aP S)) W m.m=if cw W m.m>1099511627776 then(4,W)
   else if m.m.to=0 then(0,⟨gStk (bF S.cat) W m.m,upd W.tot m.m.item (cw W m.m),W.flows++[fk S.shard S.flows.length (bF S.cat) (s.m.at (aP S)) W m.m],W.sunk++[cL S.shard S.flows.length W]⟩)
   else if 4096≤(gStk (bF S.cat) W m.m m.m.to m.m.item).length then(4,W)
   else(0,⟨upd2 (gStk (bF S.cat) W m.m) m.m.to m.m.item (aZ (gStk (bF S.cat) W m.m m.m.to m.m.item) (cL S.shard S.flows.length W,0,m.m.n)),upd W.tot m.m.item (cw W m.m),W.flows++[fk S.shard S.flows.length (bF S.cat) (s.m.at (aP S)) W m.m],W.sunk⟩):=by unfold cC;rw[if_neg (fun q=>q h1)]
 have h2:∀a i,(dR st a i).lots=gStk (bF S.cat) W m.m a i:=by
  intro a i;rw[hT.lots,b9]
 have d4:∀i,rsum st i=W.tot i - (if m.m.frm≠0∧i=m.m.item then m.m.n else 0):=fun i=>by rw[hT.sum,hR.sum]
 have j2:=hT.len;have c0:=hT.ok;have d3:=hT.dist hR.dist;clear hT;rw[b9] at c4;rw[b9];rw[i5];generalize hpts:gPts (bF S.cat) (s.m.at (aP S)) W m.m=pts at *;simp only[rlL,aI];repeat first|refine G.sm 6 ?_|refine bV ?_|intro _|refine bY ?_
 refine G.d8 (α:=OA×Nat) (fun _=>True) (fun _=>[(0,ay b),(4,ay b4),(5,ay b5),(6,ac 0),(7,ay b7)]) (fun g=>obj b7 bE [ac (S.shard*4294967296+(y.flows.length:Int)),ac (S.shard*4294967296+(y.steps.length:Int)),ac s.kind,ac s.tick,ac s.actor,ac m.m.frm,ac m.m.to,ac m.m.item,ac m.m.n,ah pad pts.length pcap,ah g.1 (cW (s.m.at (aP S)) W m.m).length g.2]::isl (encZ .i64) 1 g.1 (cW (s.m.at (aP S)) W m.m)::isl aj 3 pad pts::rlL b S.shard { y with stks:=st,sad:=a1,scap:=a0 } (obj b4 ba (aN s)::obj b5 tMv (aL m)::L)) ?_ ?_
 ·by_cases e5:m.m.frm=0∧s.kind=4
  case pos =>
   obtain⟨e3,e4⟩:=e5;have e:cW (s.m.at (aP S)) W m.m=gX (aP S) y.flows:=by unfold cW;rw[if_pos ⟨e3,.inl e4⟩,hR.sunk]
   rw[e];simp only[rlL,aI];refine Tn ?_;intros;refine G.loop (α:=Nat×OA×Nat) (fun g=>g.1≤y.flows.length) (fun g=>[(0,ay b),(4,ay b4),(5,ay b5),(6,ac 0),(7,ay b7),(10,ac (g.1:Int))]) (fun g=>obj b7 bE [ac (S.shard*4294967296+(y.flows.length:Int)),ac (S.shard*4294967296+(y.steps.length:Int)),ac s.kind,ac s.tick,ac s.actor,ac m.m.frm,ac m.m.to,ac m.m.item,ac m.m.n,ah pad pts.length pcap,ah g.2.1 (gX (aP S) (y.flows.take g.1)).length g.2.2]::osl (encZ .i64) 1 tInt g.2.1 g.2.2 (gX (aP S) (y.flows.take g.1))::isl aj 3 pad pts::rlL b S.shard { y with stks:=st,sad:=a1,scap:=a0 } (obj b4 ba (aN s)::obj b5 tMv (aL m)::L)) (fun g=>y.flows.length - g.1) (0,none,0) (ax _) av ?_ ?_
   ·have e0:gX (aP S) (y.flows.take 0)=[]:=by simp[gX]
    dsimp only;rw[e0];refine(Ent.d8 (encZ .i64) 1 tInt).trans ?_;simp only[rlL,aI];exact ag
   rintro⟨k,mad,mcap⟩ f9;dsimp only at f9 ⊢;simp only[rlL,aI];by_cases d6:k<y.flows.length
   case neg =>
    obtain rfl:k=y.flows.length:=ab;rw[bC];refine Tn ?_;intros;refine⟨(mad,mcap),trivial,av,?_⟩;refine(Ent.frz mad).trans ?_;simp only[rlL,aI];exact ag
   have b8:(k:Int).toNat=k:=aC k;have g3 : (k:Int).toNat<y.flows.length:=ab;have a6:=td (aP S) y.flows d6;have g4:=vb (aP S) (y.flows.take k);rw[bg] at g4;by_cases g1:y.flows[(k:Int).toNat]!.m.step=S.shard*4294967296+(y.steps.length:Int)
   ·by_cases g2:y.flows[(k:Int).toNat]!.m.to=0
    ·refine Tn ?_;intros;refine GPW.ef (Ef.d7 (enc:=encZ .i64) (e:=y.flows[(k:Int).toNat]!.m.id) rfl rfl rfl rfl rfl aK (by simp[encZ,Value.oneCell']) ab ab) ae ?_;rintro _ _⟨c1,a9,rfl,rfl⟩;refine Tn ?_;intros;rw[b8] at *;rw[if_pos ⟨g1.trans a8,g2⟩] at a6;refine⟨(k+1,c1,a9),by dsimp only;omega,by dsimp only;omega,?_,?_⟩
     ·dsimp only;rw[aY k];exact av
     ·dsimp only;rw[a6];exact ag
    ·refine Tn ?_;intros;rw[b8] at *;rw[if_neg (fun q=>g2 q.2)] at a6;refine⟨(k+1,mad,mcap),by dsimp only;omega,by dsimp only;omega,?_,?_⟩
     ·dsimp only;rw[aY k];exact av
     ·dsimp only;rw[a6];exact ag
   ·refine Tn ?_;intros;rw[b8] at *;rw[if_neg (fun q=>g1 (q.1.trans a8.symm))] at a6;refine⟨(k+1,mad,mcap),by dsimp only;omega,by dsimp only;omega,?_,?_⟩
    ·dsimp only;rw[aY k];exact av
    ·dsimp only;rw[a6];exact ag
  by_cases e6:m.m.frm=0∧s.kind=10
  case pos =>
   obtain⟨e3,e4⟩:=e6;have e:cW (s.m.at (aP S)) W m.m=gX (aP S) y.flows:=by unfold cW;rw[if_pos ⟨e3,.inr e4⟩,hR.sunk]
   rw[e];simp only[rlL,aI];refine Tn ?_;intros;refine G.loop (α:=Nat×OA×Nat) (fun g=>g.1≤y.flows.length) (fun g=>[(0,ay b),(4,ay b4),(5,ay b5),(6,ac 0),(7,ay b7),(10,ac (g.1:Int))]) (fun g=>obj b7 bE [ac (S.shard*4294967296+(y.flows.length:Int)),ac (S.shard*4294967296+(y.steps.length:Int)),ac s.kind,ac s.tick,ac s.actor,ac m.m.frm,ac m.m.to,ac m.m.item,ac m.m.n,ah pad pts.length pcap,ah g.2.1 (gX (aP S) (y.flows.take g.1)).length g.2.2]::osl (encZ .i64) 1 tInt g.2.1 g.2.2 (gX (aP S) (y.flows.take g.1))::isl aj 3 pad pts::rlL b S.shard { y with stks:=st,sad:=a1,scap:=a0 } (obj b4 ba (aN s)::obj b5 tMv (aL m)::L)) (fun g=>y.flows.length - g.1) (0,none,0) (ax _) av ?_ ?_
   ·have e0:gX (aP S) (y.flows.take 0)=[]:=by simp[gX]
    dsimp only;rw[e0];refine(Ent.d8 (encZ .i64) 1 tInt).trans ?_;simp only[rlL,aI];exact ag
   rintro⟨k,mad,mcap⟩ f9;dsimp only at f9 ⊢;simp only[rlL,aI];by_cases d6:k<y.flows.length
   case neg =>
    obtain rfl:k=y.flows.length:=ab;rw[bC];refine Tn ?_;intros;refine⟨(mad,mcap),trivial,av,?_⟩;refine(Ent.frz mad).trans ?_;simp only[rlL,aI];exact ag
   have b8:(k:Int).toNat=k:=aC k;have g3 : (k:Int).toNat<y.flows.length:=ab;have a6:=td (aP S) y.flows d6;have g4:=vb (aP S) (y.flows.take k);rw[bg] at g4;by_cases g1:y.flows[(k:Int).toNat]!.m.step=S.shard*4294967296+(y.steps.length:Int)
   ·by_cases g2:y.flows[(k:Int).toNat]!.m.to=0
    ·refine Tn ?_;intros;refine GPW.ef (Ef.d7 (enc:=encZ .i64) (e:=y.flows[(k:Int).toNat]!.m.id) rfl rfl rfl rfl rfl aK (by simp[encZ,Value.oneCell']) ab ab) ae ?_;rintro _ _⟨c1,a9,rfl,rfl⟩;refine Tn ?_;intros;rw[b8] at *;rw[if_pos ⟨g1.trans a8,g2⟩] at a6;refine⟨(k+1,c1,a9),by dsimp only;omega,by dsimp only;omega,?_,?_⟩
     ·dsimp only;rw[aY k];exact av
     ·dsimp only;rw[a6];exact ag
    ·refine Tn ?_;intros;rw[b8] at *;rw[if_neg (fun q=>g2 q.2)] at a6;refine⟨(k+1,mad,mcap),by dsimp only;omega,by dsimp only;omega,?_,?_⟩
     ·dsimp only;rw[aY k];exact av
     ·dsimp only;rw[a6];exact ag
   ·refine Tn ?_;intros;rw[b8] at *;rw[if_neg (fun q=>g1 (q.1.trans a8.symm))] at a6;refine⟨(k+1,mad,mcap),by dsimp only;omega,by dsimp only;omega,?_,?_⟩
    ·dsimp only;rw[aY k];exact av
    ·dsimp only;rw[a6];exact ag
  case neg =>
   have e:cW (s.m.at (aP S)) W m.m=[]:=by
    unfold cW
    exact if_neg (fun h=>by
     obtain⟨h3,h4⟩:=h;rcases h4 with h4|h4
     ·exact e5 ⟨h3,h4⟩
     ·exact e6 ⟨h3,h4⟩)
   rw[e];simp only[rlL,aI];refine Tn ?_;intros;refine G.loop (α:=Unit) (fun _=>True) (fun _=>[(0,ay b),(4,ay b4),(5,ay b5),(6,ac 0),(7,ay b7),(10,ac 0)]) (fun _=>obj b7 bE [ac (S.shard*4294967296+(y.flows.length:Int)),ac (S.shard*4294967296+(y.steps.length:Int)),ac s.kind,ac s.tick,ac s.actor,ac m.m.frm,ac m.m.to,ac m.m.item,ac m.m.n,ah pad pts.length pcap,ah none 0 0]::isl aj 3 pad pts::rlL b S.shard { y with stks:=st,sad:=a1,scap:=a0 } (obj b4 ba (aN s)::obj b5 tMv (aL m)::L)) (fun _=>0) () trivial av ?_ ?_
   ·simp only[rlL,aI];exact ag
   rintro _ _;simp only[rlL,aI];by_cases d6:(0:Int)<(y.flows.length:Int)
   ·by_cases h0:m.m.frm=0
    ·have j8:¬s.kind=4:=fun h=>e5 ⟨h0,h⟩;have j9:¬s.kind=10:=fun h=>e6 ⟨h0,h⟩;refine Tn ?_;intros;refine⟨(none,0),trivial,av,?_⟩;refine Ent.trans ?_ (Ent.d7 (Ent.e8 (encZ .i64) 1 none));simp only[rlL,aI];exact ag
    ·refine Tn ?_;intros;refine⟨(none,0),trivial,av,?_⟩;refine Ent.trans ?_ (Ent.d7 (Ent.e8 (encZ .i64) 1 none));simp only[rlL,aI];exact ag
   ·refine Tn ?_;intros;refine⟨(none,0),trivial,av,?_⟩;refine Ent.trans ?_ (Ent.d7 (Ent.e8 (encZ .i64) 1 none));simp only[rlL,aI];exact ag
 rintro⟨mad,mcap⟩ _;dsimp only;have k5:=hO.tot m.m.item
 have g6:∀a i,(gStk (bF S.cat) W m.m a i).length≤4096∧∀x∈gStk (bF S.cat) W m.m a i,LotOk x:=fun a i=>by
  have g:=tW (mix:=bF S.cat) hO hm ab h1 a i;have:=g.len
  exact⟨ab,g.lots⟩
 refine G.d8 (α:=Unit) (fun _=>¬cw W m.m>1099511627776) (fun _=>[(0,ay b),(4,ay b4),(5,ay b5),(6,ac 0),(7,ay b7)]) (fun _=>rlL b S.shard { y with stks:=st,sad:=a1,scap:=a0 } (obj b7 bE [ac (S.shard*4294967296+(y.flows.length:Int)),ac (S.shard*4294967296+(y.steps.length:Int)),ac s.kind,ac s.tick,ac s.actor,ac m.m.frm,ac m.m.to,ac m.m.item,ac m.m.n,ah pad pts.length pcap,ah mad (cW (s.m.at (aP S)) W m.m).length mcap]::isl (encZ .i64) 1 mad (cW (s.m.at (aP S)) W m.m)::isl aj 3 pad pts::obj b4 ba (aN s)::obj b5 tMv (aL m)::L)) ?_ ?_
 ·by_cases h0:m.m.frm=0
  ·have h8:=d4 m.m.item;rw[if_neg (fun q=>q.1 h0),fE] at h8;have i7:cw W m.m=rsum st m.m.item+m.m.n:=by unfold cw;rw[if_pos h0,if_neg (fun q=>h6 (h0.trans q.symm)),h8];omega
   simp only[rlL,aI];refine Tn ?_;intros;refine GPW.ent (L':=rlL b S.shard { y with stks:=st,sad:=a1,scap:=a0 } (obj b7 bE [ac (S.shard*4294967296+(y.flows.length:Int)),ac (S.shard*4294967296+(y.steps.length:Int)),ac s.kind,ac s.tick,ac s.actor,ac m.m.frm,ac m.m.to,ac m.m.item,ac m.m.n,ah pad pts.length pcap,ah mad (cW (s.m.at (aP S)) W m.m).length mcap]::isl (encZ .i64) 1 mad (cW (s.m.at (aP S)) W m.m)::isl aj 3 pad pts::obj b4 ba (aN s)::obj b5 tMv (aL m)::L)) (by simp only[rlL,aI];exact ag) ?_;refine GPW.cr (Fm b S.shard { y with stks:=st,sad:=a1,scap:=a0 } m.m.item fi c0 fi) ?_;simp only[rlL,aI];rw[i7];by_cases b1:rsum st m.m.item+m.m.n>1099511627776
   ·rw[if_pos b1];refine Tn ?_;intros;exact KX.d7 an ag ⟨{ y with stks:=st,sad:=a1,scap:=a0 },rfl,⟨⟨rfl,rfl,rfl,rfl,fun q=>q⟩,fun q=>absurd (show(4:Int)=0 from q) ab⟩,rfl⟩
   ·refine Tn ?_;intros;exact⟨(),b1,av,by exact ag⟩
  ·simp only[rlL,aI];refine Tn ?_;intros;refine⟨(),?_,av,by exact ag⟩;unfold cw;rw[if_neg h0];split<;>omega
 rintro _ b1;rw[if_neg b1];refine G.d8 (α:=List RStk×OA×Nat) (fun g=>¬(m.m.to≠0∧4096≤(gStk (bF S.cat) W m.m m.m.to m.m.item).length)∧(∀a i,(dR g.1 a i).lots=if m.m.to≠0 then upd2 (gStk (bF S.cat) W m.m) m.m.to m.m.item (aZ (gStk (bF S.cat) W m.m m.m.to m.m.item) (cL S.shard S.flows.length W,0,m.m.n)) a i else gStk (bF S.cat) W m.m a i)∧(∀i,rsum g.1 i=rsum st i+(if m.m.to≠0∧i=m.m.item then m.m.n else 0))∧rOk g.1∧g.1.length≤st.length+1∧ki g.1) (fun _=>[(0,ay b),(4,ay b4),(5,ay b5),(6,ac 0),(7,ay b7)]) (fun g=>rlL b S.shard { y with stks:=g.1,sad:=g.2.1,scap:=g.2.2 } (obj b7 bE [ac (S.shard*4294967296+(y.flows.length:Int)),ac (S.shard*4294967296+(y.steps.length:Int)),ac s.kind,ac s.tick,ac s.actor,ac m.m.frm,ac m.m.to,ac m.m.item,ac m.m.n,ah pad pts.length pcap,ah mad (cW (s.m.at (aP S)) W m.m).length mcap]::isl (encZ .i64) 1 mad (cW (s.m.at (aP S)) W m.m)::isl aj 3 pad pts::obj b4 ba (aN s)::obj b5 tMv (aL m)::L)) ?_ ?_
 ·by_cases h0:m.m.to=0
  ·simp only[rlL,aI];refine Tn ?_;intros;refine⟨(st,a1,a0),⟨fun q=>q.1 h0,?_,?_,c0,by dsimp only;omega,d3⟩,av,by exact ag⟩
   ·intro a i;rw[if_neg (fun q=>q h0)];exact h2 a i
   ·intro i;rw[if_neg (fun q=>q.1 h0),gd]
  have j7 : 0<m.m.to:=ab;obtain⟨o1,o2⟩:=g6 m.m.to m.m.item;have i2:=h2 m.m.to m.m.item;rw[if_neg h0];refine G.ent (L':=stkP (dR st m.m.to m.m.item)::rlL b S.shard { y with stks:=st,sad:=a1,scap:=a0 } (obj b7 bE [ac (S.shard*4294967296+(y.flows.length:Int)),ac (S.shard*4294967296+(y.steps.length:Int)),ac s.kind,ac s.tick,ac s.actor,ac m.m.frm,ac m.m.to,ac m.m.item,ac m.m.n,ah pad pts.length pcap,ah mad (cW (s.m.at (aP S)) W m.m).length mcap]::isl (encZ .i64) 1 mad (cW (s.m.at (aP S)) W m.m)::isl aj 3 pad pts::obj b4 ba (aN s)::obj b5 tMv (aL m)::L)) ?_ ?_
  ·simp only[rlL,aI];refine(Ent.at (A:=allP rsP st) (qe m.m.to m.m.item)).trans ?_;exact ag
  simp only[rlL,aI];refine Tn ?_;intros;refine GPW.cr (nL (b:=b) (sh:=S.shard) (x:={ y with stks:=st,sad:=a1,scap:=a0 }) m.m.to m.m.item fi) ?_;dsimp only;rw[←i2] at o1 o2 ⊢;generalize hsk:dR st m.m.to m.m.item=sk at *
  have d1:LotOk (S.shard*4294967296+(y.flows.length:Int),0,m.m.n):=by
   unfold LotOk;dsimp only;omega
  have i8:=oY (f:=S.shard*4294967296+(y.flows.length:Int)) (n:=m.m.n) o2 i6;have i9:(aZ sk.lots (S.shard*4294967296+(y.flows.length:Int),0,m.m.n)).length=sk.lots.length+1:=by rw[i8];simp
  refine Tn ?_;intros;refine GPW.ent (Ent.at (A:=stkP sk) (Ent.refl _)) ?_;refine GPW.ca (lQ sk.ad sk.lots.length sk.cap sk.lots (S.shard*4294967296+(y.flows.length:Int),0,m.m.n) rfl ab (fun q hq=>(o2 q hq).w) d1.w) ?_;rintro _ _⟨ad2,c2,rfl,rfl⟩;by_cases h5:4096≤sk.lots.length
  ·rw[if_pos h5];refine Tn ?_;intros;exact KX.d7 an ag ⟨{ y with stks:=st,sad:=a1,scap:=a0 },rfl,⟨⟨rfl,rfl,rfl,rfl,fun q=>q⟩,fun q=>absurd (show(4:Int)=0 from q) ab⟩,rfl⟩
  refine Tn ?_;intros
  refine GO.ent (L':=rlL b S.shard { y with stks:=st,sad:=a1,scap:=a0 } (stkP ⟨ad2,c2,aZ sk.lots (S.shard*4294967296+(y.flows.length:Int),0,m.m.n)⟩::obj b7 bE [ac (S.shard*4294967296+(y.flows.length:Int)),ac (S.shard*4294967296+(y.steps.length:Int)),ac s.kind,ac s.tick,ac s.actor,ac m.m.frm,ac m.m.to,ac m.m.item,ac m.m.n,ah pad pts.length pcap,ah mad (cW (s.m.at (aP S)) W m.m).length mcap]::isl (encZ .i64) 1 mad (cW (s.m.at (aP S)) W m.m)::isl aj 3 pad pts::obj b4 ba (aN s)::obj b5 tMv (aL m)::L)) (by
   refine(Ent.frz ad2).trans ?_;simp only[rlL,aI];exact ag) ?_
  refine GO.ca (oK b S.shard { y with stks:=st,sad:=a1,scap:=a0 } m.m.to m.m.item ⟨ad2,c2,aZ sk.lots (S.shard*4294967296+(y.flows.length:Int),0,m.m.n)⟩ fi) ?_;rintro _ _⟨h9,e2,rfl⟩;simp only[rlL,aI];refine Tn ?_;intros;refine⟨(rset st m.m.to m.m.item ⟨ad2,c2,aZ sk.lots (S.shard*4294967296+(y.flows.length:Int),0,m.m.n)⟩,h9,e2),⟨fun q=>h5 q.2,?_,?_,?_,sd _ _ _ _,pZ d3⟩,av,by exact ag⟩
  ·intro a i;dsimp only;rw[if_pos h0,oL];unfold upd2;rw[←c6];split
   ·rfl
   ·exact h2 a i
  ·intro i;dsimp only;rw[pY,hsk];by_cases hq:i=m.m.item
   ·rw[if_pos hq,if_pos ⟨h0,hq⟩];dsimp only;rw[oW];dsimp only;omega
   ·rw[if_neg hq,if_neg (fun q=>hq q.2)]
  ·intro u hu;rcases rZ hu with h|h
   ·exact c0 u h
   ·rw[h];dsimp only;exact⟨ab,oX o2 d1.w⟩
 rintro⟨b0,a5,a3⟩ ⟨h7,d5,b6,d2,d0,a7⟩;dsimp only at h7 d5 b6 d2 d0 a7 ⊢;have b3:fk S.shard S.flows.length (bF S.cat) (s.m.at (aP S)) W m.m=⟨cL S.shard S.flows.length W,aP S,s.kind,s.tick,s.actor,m.m.frm,m.m.to,m.m.item,m.m.n,pts,cW (s.m.at (aP S)) W m.m⟩:=by unfold fk;rw[hpts];rfl
 generalize fk S.shard S.flows.length (bF S.cat) (s.m.at (aP S)) W m.m=fl at *
 have c3:aQ (flV fl pad pcap mad mcap)=[ac (S.shard*4294967296+(y.flows.length:Int)),ac (S.shard*4294967296+(y.steps.length:Int)),ac s.kind,ac s.tick,ac s.actor,ac m.m.frm,ac m.m.to,ac m.m.item,ac m.m.n,ah pad pts.length pcap,ah mad (cW (s.m.at (aP S)) W m.m).length mcap]:=by
  rw[b3,c6,a8];rfl
 have f4:fl.made=cW (s.m.at (aP S)) W m.m:=by rw[b3]
 have c8:fl.parts=pts:=by rw[b3]
 have f5:fl.step=aP S:=by rw[b3]
 have f6:fl.to=m.m.to:=by rw[b3]
 have f3:fl.id=cL S.shard S.flows.length W:=by rw[b3]
 have g5:=te (aP S) y.flows (flV fl pad pcap mad mcap);rw[←c3,←f4,←c8];simp only[rlL,aI];refine Tn ?_;intros;refine GPW.ef (Ef.d7 (enc:=aQ) (e:=flV fl pad pcap mad mcap) rfl rfl rfl rfl rfl aK (fZ _) ab ab) ae ?_;rintro _ _⟨a4,a2,rfl,rfl⟩;refine Tn ?_;intros
 have e1 : RW S { y with stks:=b0,sad:=a5,scap:=a3,flows:=y.flows++[flV fl pad pcap mad mcap],fad:=a4,fcap:=a2 } ⟨if m.m.to≠0 then upd2 (gStk (bF S.cat) W m.m) m.m.to m.m.item (aZ (gStk (bF S.cat) W m.m m.m.to m.m.item) (cL S.shard S.flows.length W,0,m.m.n)) else gStk (bF S.cat) W m.m,upd W.tot m.m.item (cw W m.m),W.flows++[fl],if m.m.to=0 then W.sunk++[cL S.shard S.flows.length W] else W.sunk⟩:=by
  refine⟨hR.cat,hR.catB,hR.steps,?_,?_,?_,d2,?_,a7,?_⟩
  ·dsimp only;rw[aW,hR.flows,aF];rfl
  ·intro a i;dsimp only;rw[d5];split<;>rfl
  ·intro i;dsimp only;rw[b6,d4];unfold upd cw;by_cases hq:i=m.m.item
   ·subst hq;rw[if_pos rfl];by_cases q1:m.m.frm=0
    ·have q2:m.m.to≠0:=fun q=>h6 (q1.trans q.symm);rw[if_neg (fun q=>q.1 q1),if_pos ⟨q2,rfl⟩,if_pos q1,if_neg q2];omega
    ·by_cases q2:m.m.to=0
     ·rw[if_pos ⟨q1,rfl⟩,if_neg (fun q=>q.1 q2),if_neg q1,if_pos q2];omega
     ·rw[if_pos ⟨q1,rfl⟩,if_pos ⟨q2,rfl⟩,if_neg q1,if_neg q2];omega
   ·rw[if_neg hq,if_neg (fun q=>hq q.2),if_neg (fun q=>hq q.2)];omega
  ·simp only[aq,bD,cB];omega
  ·dsimp only;rw[g5];dsimp only[flV];rw[f5,f6,f3,hR.sunk];by_cases q:m.m.to=0
   ·rw[if_pos ⟨rfl,q⟩,if_pos q]
   ·rw[if_neg (fun x=>q x.2),if_neg q]
 have c5:Ent (isl (encZ .i64) 1 mad fl.made::isl aj 3 pad fl.parts::obj b tRL (aI S.shard { y with stks:=b0,sad:=a5,scap:=a3,flows:=y.flows++[flV fl pad pcap mad mcap],fad:=a4,fcap:=a2 })::osl gY 3 tRS a5 a3 b0::osl aQ 11 bE a4 a2 (y.flows++[flV fl pad pcap mad mcap])::osl aN 7 ba y.tad y.tcap y.steps::catP y.cat::allP rsP b0::allP flP y.flows::allP cH y.steps::L) (rlL b S.shard { y with stks:=b0,sad:=a5,scap:=a3,flows:=y.flows++[flV fl pad pcap mad mcap],fad:=a4,fcap:=a2 } L):=by
  refine(Ent.at (A:=isl aj 3 pad fl.parts) (Ent.refl _)).trans ?_;refine(Ent.at (A:=isl (encZ .i64) 1 mad fl.made) (Ent.refl _)).trans ?_;refine Ent.trans (B:=isl aj 3 pad fl.parts::isl (encZ .i64) 1 mad fl.made::allP flP y.flows::obj b tRL (aI S.shard { y with stks:=b0,sad:=a5,scap:=a3,flows:=y.flows++[flV fl pad pcap mad mcap],fad:=a4,fcap:=a2 })::osl gY 3 tRS a5 a3 b0::osl aQ 11 bE a4 a2 (y.flows++[flV fl pad pcap mad mcap])::osl aN 7 ba y.tad y.tcap y.steps::catP y.cat::allP rsP b0::allP cH y.steps::L) ag ?_;refine(Ent.e9 (bM _ _ _ _) (bM _ _ _ _)).trans ?_;refine(nI (f:=flP) (e:=flV fl pad pcap mad mcap) jK).trans ?_;simp only[rlL];exact ag
 have b2:lx y.flows→lx (y.flows++[flV fl pad pcap mad mcap]):=fun hq f hf=>by
  rcases List.mem_append.1 hf with h1|h1
  ·exact hq f h1
  ·rw[List.mem_singleton.1 h1];dsimp only[flV];intro k1 k2;rw[c8];refine c4 ?_ ?_
   ·rw[b3] at k1;exact k1
   ·rw[b3] at k2;exact k2
 by_cases h0:m.m.to=0
 ·rw[if_pos h0];rw[if_neg (fun q=>q h0),if_pos h0] at e1;exact KX.d7 an (Ent.trans ag c5) ⟨{ y with stks:=b0,sad:=a5,scap:=a3,flows:=y.flows++[flV fl pad pcap mad mcap],fad:=a4,fcap:=a2 },rfl,⟨⟨rfl,rfl,rfl,rfl,b2⟩,fun _=>e1⟩,rfl⟩
 ·rw[if_neg h0,if_neg (fun q=>h7 ⟨h0,q⟩)];rw[if_pos h0,if_neg h0] at e1;exact KX.d7 an (Ent.trans ag c5) ⟨{ y with stks:=b0,sad:=a5,scap:=a3,flows:=y.flows++[flV fl pad pcap mad mcap],fad:=a4,fcap:=a2 },rfl,⟨⟨rfl,rfl,rfl,rfl,b2⟩,fun _=>e1⟩,rfl⟩
def mvK:List MvM→Nat
 | []=>0
 | m::ms=>(m.parts.length+1)+mvK ms
def oT:∀(a b:List MvM),mvK (a++b)=mvK a+mvK b
 | [],b=>by show mvK b=0+mvK b;omega
 | m::a,b=>by
  have:=oT a b
  show(m.parts.length+1)+mvK (a++b)=(m.parts.length+1)+mvK a+mvK b;omega
def sx{ms:List MvM}{i:Nat}(h:i<ms.length):mvK (ms.take (i+1))=mvK (ms.take i)+(ms[i]!.parts.length+1):=by
 rw[aG h,oT,getElem!_of h];rfl
def yc(ms:List MvM)(i:Nat):mvK (ms.take i)≤mvK ms:=by
 have h:=oT (ms.take i) (ms.drop i);rw[dj] at h;omega
def dy(sh:Int)(fl:List FlM)(mix:Int→Bool)(s:StM)(W:Wk):List MvM→Int×Wk
 | []=>(0,W)
 | m::ms=>if(cC sh fl mix s W m).1=0 then dy sh fl mix s (cC sh fl mix s W m).2 ms else((cC sh fl mix s W m).1,W)
noncomputable def gTry(S:LedM)(s:StM):Int×Wk :=
 if 65536≤S.steps.length then(4,wk0 S)
 else if ¬fL S.cat S.now s then(1,wk0 S)
 else dy S.shard S.flows (bF S.cat) (s.at (aP S)) (wk0 S) s.moves
noncomputable def gt(S:LedM)(s:StM):LedM:={ S with stk:=(gTry S s).2.stk,tot:=(gTry S s).2.tot,steps:=S.steps++[s.at (aP S)],flows:=S.flows++(gTry S s).2.flows }
noncomputable def cM(S:LedM)(s:StM):LedM:=if(gTry S s).1=0 then gt S s else S
noncomputable def gRes(S:LedM)(s:StM):Int:=if(gTry S s).1=0 then aP S else 0
structure LedG (k:Nat) (S:LedM):Prop where
 shard:0≤S.shard∧S.shard<12
 steps:S.steps.length≤65536
 flows:S.flows.length≤64*S.steps.length
 stk:∀a i,StkG k (S.shard*4294967296+S.flows.length) (S.stk a i)
 tot:∀i,-((S.flows.length:Int)*1099511627776)≤S.tot i∧S.tot i≤1099511627776
 fl:FlG S.flows
def Cs{k:Nat}{S:LedM}(h:LedG k S):WkG S.shard S.flows (k+mvK ([]:List MvM)) (wk0 S):=by
 have e:cL S.shard S.flows.length (wk0 S)=S.shard*4294967296+S.flows.length:=by
  show S.shard*4294967296+(S.flows.length:Int)+((0:Nat):Int)=_;omega
 refine⟨fun a i=>by rw[e];exact h.stk a i,fun i=>?_,aB _,fun f hf=>by cases hf⟩;have:=h.tot i
 show -(((S.flows.length:Int)+((0:Nat):Int))*1099511627776)≤S.tot i∧S.tot i≤1099511627776;omega
def qB{sh:Int}{fl:List FlM}{mix:Int→Bool}{s:StM}(a0:0≤sh):∀{ms:List MvM} {W:Wk} {k:Nat},WkG sh fl k W→(∀m∈ms,MvG m)→k+mvK ms≤2000→(dy sh fl mix s W ms).1=0→WkG sh fl (k+mvK ms) (dy sh fl mix s W ms).2∧(dy sh fl mix s W ms).2.flows.length=W.flows.length+ms.length
 | [],_,_,h,_,_,_=>⟨h,rfl⟩
 | m::ms,W,k,h,hm,hk,he=>by
  have e:dy sh fl mix s W (m::ms)=if(cC sh fl mix s W m).1=0 then dy sh fl mix s (cC sh fl mix s W m).2 ms else((cC sh fl mix s W m).1,W):=rfl;have ek:mvK (m::ms)=(m.parts.length+1)+mvK ms:=rfl;rw[e] at he ⊢;by_cases h1:(cC sh fl mix s W m).1=0
  ·rw[if_pos h1] at he ⊢;obtain⟨g1,g2⟩:=ph a0 h (hm m au) ab h1;obtain⟨i1,i2⟩:=qB a0 (ms:=ms) g1 (fun x hx=>hm x (aw _ hx)) ab he;refine⟨by rw[ek,←dw,←dw];exact i1,?_⟩;rw[i2,g2,aq,aM,bD];omega
  ·rw[if_neg h1] at he;exact absurd he h1
def rK{sh:Int}{fl:List FlM}{mix:Int→Bool}{s:StM}:∀(ms:List MvM) (W:Wk),(∀f∈W.flows,f.step=s.id)→∀f∈(dy sh fl mix s W ms).2.flows,f.step=s.id
 | [],_,h=>h
 | m::ms,W,h=>by
  have e:dy sh fl mix s W (m::ms)=if(cC sh fl mix s W m).1=0 then dy sh fl mix s (cC sh fl mix s W m).2 ms else((cC sh fl mix s W m).1,W):=rfl;rw[e];split
  ·refine rK ms _ ?_
   have hn:∀f∈W.flows++[fk sh fl.length mix s W m],f.step=s.id:=fun f hf=>by
    rcases List.mem_append.1 hf with h1|h1
    ·exact h f h1
    ·rw[List.mem_singleton.1 h1];rfl
   unfold cC;split
   ·exact h
   ·split
    ·exact h
    ·split
     ·exact hn
     ·split
      ·exact h
      ·exact hn
  ·exact h
def Ge{S:LedM}{s:StM}:∀f∈(gTry S s).2.flows,f.step=aP S:=by
 unfold gTry;split
 ·intro f hf;cases hf
 ·split
  ·intro f hf;cases hf
  ·exact rK (s:=s.at (aP S)) s.moves (wk0 S) (fun f hf=>by cases hf)
def Eg{S:LedM}{s:StM}:aP (gt S s)=aP S+1:=by
 unfold aP gt;simp only[aq,bD,cB];omega
def vD{S:LedM}{s:StM}(hp:fL S.cat S.now s)(h0:0≤S.now):0≤(gt S s).now:=by
 unfold LedM.now gt;simp only[List.getLast?_append,List.getLast?_singleton];have:=hp.2.2.1
 show 0≤s.tick;omega
def Hj{c:CatM}{now:Int}{s:StM}(h:fL c now s):∀m∈s.moves,MvG m:=fun m hm=>by
 have a0:=h.2.2.2.2.1 m hm;refine⟨a0.1.2.1,a0.1.2.2.1,?_⟩;have h3:=a0.2;split at h3
 ·exact .inr h3
 ·exact .inl (aX h3)
def IJ{k:Nat}{S:LedM}{s:StM}(h:LedG k S)(hk:k+mvK s.moves≤2000):LedG (k+mvK s.moves) (cM S s):=by
 unfold cM;by_cases he:(gTry S s).1=0
 case neg =>
  rw[if_neg he];exact⟨h.shard,h.steps,h.flows,fun a i=>(h.stk a i).mono ab (bB _),h.tot,h.fl⟩
 rw[if_pos he];have a3:=h.steps;have a2:=h.flows;by_cases h1:65536≤S.steps.length
 ·have e:gTry S s=(4,wk0 S):=by unfold gTry;rw[if_pos h1]
  rw[e] at he;exact absurd (show(4:Int)=0 from he) ae
 by_cases h2:fL S.cat S.now s
 case neg =>
  have e:gTry S s=(1,wk0 S):=by unfold gTry;rw[if_neg h1,if_pos h2]
  rw[e] at he;exact absurd (show(1:Int)=0 from he) ae
 have e:gTry S s=dy S.shard S.flows (bF S.cat) (s.at (aP S)) (wk0 S) s.moves:=by unfold gTry;rw[if_neg h1,if_neg (fun q=>q h2)]
 have a1:=h2.2.2.2.1;rw[e] at he;obtain⟨g1,g2⟩:=qB h.shard.1 (Cs h) (Hj h2) (by show k+0+_≤_;omega) he;unfold gt;rw[e];have e0:(wk0 S).flows.length=0:=rfl;rw[e0,dl] at g2
 have a0:cL S.shard S.flows.length (dy S.shard S.flows (bF S.cat) (s.at (aP S)) (wk0 S) s.moves).2=S.shard*4294967296+((S.flows++(dy S.shard S.flows (bF S.cat) (s.at (aP S)) (wk0 S) s.moves).2.flows).length:Int):=by
  unfold cL;rw[aq];omega
 refine⟨h.shard,?_,?_,fun a i=>?_,fun i=>?_,fun f hf=>?_⟩
 ·show(S.steps++[_]).length≤_;rw[aq,aM];omega
 ·show(S.flows++_).length≤64*(S.steps++[_]).length;rw[aq,aq,aM,g2];omega
 ·dsimp only;rw[←a0];exact g1.stk a i
 ·have:=g1.tot i
  dsimp only;rw[aq];omega
 ·rcases List.mem_append.1 (show f∈S.flows++_ from hf) with q|q
  ·exact h.fl f q
  ·exact g1.flows f q
structure StInG (s:StV):Prop where
 len:s.moves.length≤1000000
 rule:I64 s.rule
 parts:∀m∈s.moves,m.m.parts.length≤9223372036854775807
 cap:∀m∈s.moves,m.m.parts.length≤m.pcap
 bd:∀m∈s.moves,∀p∈m.m.parts,p.1≤9223372036854775807
abbrev Ah:=aH0 [.ev 6,.ef 7,.ev 8]
abbrev Ag:=aH2 [.ev 10,.ev 11,.ef 12]
abbrev Af:=aH0 [.ef 6,.ef 7,.ev 8,.ev 9,.ef 10]
def TR{φ ψ:Prop}(k:ψ)(h:Hid ψ→φ:=by intro k;(repeat (first|refine aa ?_|intro zzz|refine G.dr 79 10 Ah ?_|refine G.dr 79 15 Ag ?_|refine G.dr 79 16 Af ?_));(repeat revert zzz);exact Hid.out k):φ:=h ⟨k⟩
def zx{L:LH}(b:Nat)(S:LedM)(k:Nat)(hS:LedG k S)(hc:S.cat.Ok)(hg:CatGood S.cat)(s:StV)(hs:StInG s)(hk:k+mvK s.m.moves≤2000)(x:RLX)(hF:RF S x) :
  Tri ai 38 #[ay b,aO (aN s)] (rlL b S.shard x (stM s::stP s::L)) (fun v L'=>v=.tuple #[ac (gRes S s.m),ac (gTry S s.m).1]∧∃x',RF (cM S s.m) x'∧((gTry S s.m).1=0→x'.steps=x.steps++[s.at (aP S)])∧((gTry S s.m).1≠0→x'.steps=x.steps)∧(lx x.flows→lx x'.flows)∧L' = rlL b S.shard x' (stM s::stP s::L)):=by
 obtain⟨b8,d2⟩:=hS.shard;have d3:=hS.steps;have d4:=hS.flows;have d0:=hs.len;refine Tri.bd ?_;simp only[rlL];have c4:x.steps.length=S.steps.length:=by rw[←hF.steps];simp
 have e0:x.flows.length=S.flows.length:=by rw[←hF.flows];simp
 have e4:=hF.len;have b0:=hF.cat;have b7:=Iv hF;have d6:=hF.now;have c6:S.shard*4294967296+(x.steps.length:Int)=aP S:=by unfold aP;rw[c4]
 by_cases h1:65536≤S.steps.length
 ·have e:gTry S s.m=(4,wk0 S):=by unfold gTry;rw[if_pos h1]
  have e1:cM S s.m=S:=if_neg (by rw[e];dsimp only;omega);have e2:gRes S s.m=0:=if_neg (by rw[e];dsimp only;omega);rw[e1,e2,e];refine TR ?_;intros;exact KX.d7 an ag ⟨rfl,x,hF,fun q=>absurd (show(4:Int)=0 from q) ae,fun _=>rfl,fun q=>q,rfl⟩
 refine TR ?_;intros;rename_i b3;refine GO.ent (L':=catP x.cat::stP s::rlL b S.shard x (obj b3 ba (aN s)::stM s::stP s::L)) ?_ ?_
 ·refine(Ent.at (A:=catP x.cat) (Ent.dup (kr x.cat).1)).trans ?_;refine(Ent.at (A:=stP s) (Ent.dup (kf _ _))).trans ?_;simp only[rlL];exact ag
 simp only[rlL];refine GO.cr (zy (b:=b) (sh:=S.shard) (x:=x) s (b0▸hg) (b0▸hc) hF.catB ab d0 hs.parts hs.rule) ?_;rw[b0,b7];by_cases h2:fL S.cat S.now s.m
 case neg =>
  have e:gTry S s.m=(1,wk0 S):=by unfold gTry;rw[if_neg h1,if_pos h2]
  have e1:cM S s.m=S:=if_neg (by rw[e];dsimp only;omega);have e2:gRes S s.m=0:=if_neg (by rw[e];dsimp only;omega);rw[e1,e2,e,aH h2];refine TR ?_;intros;exact KX.d7 an ag ⟨rfl,x,hF,fun q=>absurd (show(1:Int)=0 from q) ae,fun _=>rfl,fun q=>q,rfl⟩
 have e:gTry S s.m=dy S.shard S.flows (bF S.cat) (s.m.at (aP S)) (wk0 S) s.m.moves:=by unfold gTry;rw[if_neg h1,if_neg (fun h=>h h2)]
 rw[aU h2];have c8:s.moves.length≤64:=by have:=h2.2.2.2.1.2;simpa [StV.m] using this
 refine TR ?_;intros;refine GO.ent (L':=rlL b S.shard x (obj b3 ba (aN s)::stM s::stP s::L)) (by simp only[rlL];exact ag) ?_;refine GO.ca (zC b S.shard x ab ab ab) ?_;rintro _ _⟨bw,xw,rfl,⟨w1,w2,w3,w4⟩,rfl⟩;rw[w2,w3];have a3:gX (aP S) x.flows=[]:=Fb (fun f hf=>hF.fstep _ (by rw[←hF.flows];exact alStd0List_mem_map_of_mem hf));have c5:RW S x (wk0 S):=⟨hF.cat,hF.catB,hF.steps,by rw[hF.flows];exact(aR _).symm,hF.lots,hF.sum,hF.ok,hF.len,hF.dist,a3⟩;simp only[rlL,aI];refine TR ?_;intros
 refine G.loop (α:=Nat×RLX×Wk) (fun g=>g.1≤s.moves.length∧RW S g.2.1 g.2.2∧WkG S.shard S.flows (k+mvK (s.m.moves.take g.1)) g.2.2∧g.2.2.flows.length=g.1∧(g.2.1.cat=x.cat∧g.2.1.steps=x.steps∧g.2.1.tad=x.tad∧g.2.1.tcap=x.tcap∧(lx x.flows→lx g.2.1.flows))∧dy S.shard S.flows (bF S.cat) (s.m.at (aP S)) (wk0 S) s.m.moves=dy S.shard S.flows (bF S.cat) (s.m.at (aP S)) g.2.2 (s.m.moves.drop g.1))
  (fun g=>[(0,ay b),(3,ay b3),(4,ac 0),(5,ac 0),(7,ay bw),(8,ac (g.1:Int))])
  (fun g=>obj bw tRL (aI S.shard xw)::osl gY 3 tRS xw.sad xw.scap x.stks::osl aQ 11 bE xw.fad xw.fcap x.flows::allP rsP x.stks::allP flP x.flows::rlL b S.shard g.2.1 (obj b3 ba (aN s)::stM s::stP s::L)) (fun g=>s.moves.length - g.1) (0,x,wk0 S) ⟨ax _,c5,Cs hS,rfl,⟨rfl,rfl,rfl,rfl,fun q=>q⟩,rfl⟩ av ?_ ?_
 ·refine(Ent.at (A:=allP rsP x.stks) (Ent.dup (kf _ _))).trans ?_;refine(Ent.at (A:=allP flP x.flows) (Ent.dup (kf _ _))).trans ?_;simp only[rlL,aI];exact ag
 rintro⟨i,y,W⟩ ⟨hi,hR,hO,b9,⟨y1,y2,y3,y4,y5⟩,a2⟩;dsimp only at hi hR hO b9 y1 y2 y3 y4 y5 a2 ⊢
 have e5:y.flows.length=S.flows.length+W.flows.length:=by
  have:=congrArg List.length hR.flows
  rwa [az,aq] at this
 have e6:y.steps.length=S.steps.length:=by rw[y2];exact c4
 by_cases b1:i<s.moves.length
 case neg =>
  have b2:s.m.moves.drop i=[]:=bG (by show(s.moves.map MvV.m).length≤i;rw[az];omega);rw[b2] at a2;have e3:gTry S s.m=(0,W):=by rw[e,a2];rfl
  have he:(gTry S s.m).1=0:=by rw[e3]
  have e1:cM S s.m=gt S s.m:=if_pos he;have e2:gRes S s.m=aP S:=if_pos he;have a7:S.shard*4294967296+(y.steps.length:Int)=aP S:=by rw[y2];exact c6
  have d1:(gt S s.m).flows=S.flows++W.flows:=by unfold gt;rw[e3]
  rw[e1,e2,he];have a6:([ac (S.shard*4294967296+(y.steps.length:Int)),ac s.kind,ac s.actor,ac s.tick,ac s.rule,ac s.times,ah s.mad s.moves.length s.mcap]:LV)=aN (s.at (aP S)):=by rw[←a7];rfl
  simp only[rlL,aI];refine TR ?_;intros;refine GPW.ef (Ef.d7 (enc:=aN) (e:=s.at (aP S)) rfl rfl a6 rfl rfl aK (a6▸jz _) ab ab) ae ?_;rintro _ _⟨a4,a0,rfl,rfl⟩;refine TR ?_;intros;rw[a7];refine KX.d7 an ?_ ⟨rfl,{ y with steps:=y.steps++[s.at (aP S)],tad:=a4,tcap:=a0 },⟨hR.cat,hR.catB,?_,?_,?_,?_,hR.ok,hR.len,hR.dist,?_,vD h2 ab⟩,fun _=>by dsimp only;rw[y2],fun q=>absurd rfl q,y5,rfl⟩
  ·refine(Ent.at (A:=stM s) (Ent.dup (np s).1)).trans ?_;refine(Ent.d7 (Ent.at (A:=stP s) (Ent.dup (kf _ _)))).trans ?_;refine Ent.trans (B:=stM s::stP s::allP cH y.steps::obj b tRL (aI S.shard { y with steps:=y.steps++[s.at (aP S)],tad:=a4,tcap:=a0 })::osl gY 3 tRS y.sad y.scap y.stks::osl aQ 11 bE y.fad y.fcap y.flows::osl aN 7 ba a4 a0 (y.steps++[s.at (aP S)])::catP y.cat::allP rsP y.stks::allP flP y.flows::stM s::stP s::L) ag ?_;refine(Ent.e9 (np s) (cQ ix)).trans ?_;refine(nI (f:=cH) (e:=s.at (aP S)) kN).trans ?_;simp only[rlL];exact ag
  ·show(y.steps++[s.at (aP S)]).map StV.m=S.steps++[s.m.at (aP S)];rw[aW,hR.steps];rfl
  ·show y.flows.map FlV.m=(gt S s.m).flows;rw[d1,hR.flows]
  ·intro a i;show(dR y.stks a i).lots=(gTry S s.m).2.stk a i;rw[e3];exact hR.lots a i
  ·intro i;show rsum y.stks i=(gTry S s.m).2.tot i;rw[e3];exact hR.sum i
  ·intro f hf;rw[Eg];rcases List.mem_append.1 (show f∈S.flows++(gTry S s.m).2.flows from hf) with h3|h3
   ·have:=hF.fstep f h3
    omega
   ·have:=Ge f h3
    omega
 have c7:(i:Int).toNat=i:=aC i;have c9 : (i:Int).toNat<s.moves.length:=ab;have b4:s.moves[i]!.m=s.m.moves[i]!:=(dI MvV.m b1).symm;have b5:i<s.m.moves.length:=by show i<(s.moves.map MvV.m).length;rw[az];exact b1
 have b2:s.m.moves.drop i=s.moves[i]!.m::s.m.moves.drop (i+1):=by rw[b4];exact ej b5
 have a1:=h2.2.2.2.2.1 s.moves[i]!.m (by rw[b4];exact aJ b5)
 have a5:rk y.cat.items.length s.moves[i]!.m:=by
  have h3:=a1.1;rw[←b0] at h3;rw[y1];exact h3
 have c1:MvG s.moves[i]!.m:=⟨a1.1.2.1,a1.1.2.2.1,by
  have h3:=a1.2;split at h3
  ·exact .inr h3
  ·exact .inl (aX h3)⟩
 have a8:=aJ b1;have c0:=sx b5;have d5:=yc s.m.moves (i+1);rw[←b4] at c0;rw[b2] at a2;have b6:dy S.shard S.flows (bF S.cat) (s.m.at (aP S)) W (s.moves[i]!.m::s.m.moves.drop (i+1))=if(cC S.shard S.flows (bF S.cat) (s.m.at (aP S)) W s.moves[i]!.m).1=0 then dy S.shard S.flows (bF S.cat) (s.m.at (aP S)) (cC S.shard S.flows (bF S.cat) (s.m.at (aP S)) W s.moves[i]!.m).2 (s.m.moves.drop (i+1)) else((cC S.shard S.flows (bF S.cat) (s.m.at (aP S)) W s.moves[i]!.m).1,W):=rfl;rw[b6] at a2;have c2:=ph (sh:=S.shard) (mix:=bF S.cat) (s:=s.m.at (aP S)) (m:=s.moves[i]!.m) b8 hO c1 ab;have a9:=zA (L:=obj bw tRL (aI S.shard xw)::osl gY 3 tRS xw.sad xw.scap x.stks::osl aQ 11 bE xw.fad xw.fcap x.flows::allP rsP x.stks::allP flP x.flows::obj b3 ba (aN s)::stM s::stP s::L) b S hS.shard d3 ab hS.fl y W (k+mvK (s.m.moves.take i)) s s.moves[i]! hR hO ab ab a5 c1 (hs.cap _ a8) (hs.bd _ a8);generalize cC S.shard S.flows (bF S.cat) (s.m.at (aP S)) W s.moves[i]!.m=r at *;simp only[rlL,aI];refine TR ?_;intros;rw[c7];refine GPW.ent (L':=rlL b S.shard y (isl aj 3 s.moves[i]!.pad s.moves[i]!.m.parts::obj bw tRL (aI S.shard xw)::osl gY 3 tRS xw.sad xw.scap x.stks::osl aQ 11 bE xw.fad xw.fcap x.flows::allP rsP x.stks::allP flP x.flows::obj b3 ba (aN s)::stM s::stP s::L)) ((Ent.at (A:=stP s) (od b1)).trans (by simp only[rlL,aI];exact ag)) ?_;refine GPW.ca (a9) ?_;rintro _ _⟨y',rfl,⟨⟨z1,z2,z3,z4,z5⟩,hz⟩,rfl⟩;by_cases hr:r.1=0
 ·rw[if_pos hr] at a2;simp only[rlL,aI];refine TR ?_;intros;refine⟨(i+1,y',r.2),⟨by dsimp only;omega,hz hr,(by dsimp only;rw[c0,←dw,←dw];exact(c2 hr).1),(by dsimp only;rw[(c2 hr).2,aq,aM,b9]),⟨z1.trans y1,z2.trans y2,z3.trans y3,z4.trans y4,fun q=>z5 (y5 q)⟩,a2⟩,by dsimp only;omega,?_,?_⟩
  ·dsimp only;rw[aY i];exact av
  ·simp only[rlL,aI];exact ag
 ·rw[if_neg hr] at a2;have e3:gTry S s.m=(r.1,W):=by rw[e,a2]
  have c3:¬(gTry S s.m).1=0:=by rw[e3];exact hr
  have e1:cM S s.m=S:=if_neg c3;have e2:gRes S s.m=0:=if_neg c3;rw[e1,e2,e3];dsimp only;simp only[rlL,aI];refine TR ?_;intros;refine KX.d7 an ?_ ⟨rfl,{ y' with stks:=x.stks,sad:=xw.sad,scap:=xw.scap,flows:=x.flows,fad:=xw.fad,fcap:=xw.fcap },⟨?_,?_,?_,hF.flows,hF.lots,hF.sum,hF.ok,hF.len,hF.dist,hF.fstep,hF.now⟩,fun q=>absurd q hr,fun _=>z2.trans y2,fun q=>q,rfl⟩
  ·simp only[rlL,aI];rw[show x.stks.length=xw.stks.length by rw[w2],show x.flows.length=xw.flows.length by rw[w3]];exact ag
  ·show y'.cat.m=_;rw[z1,y1];exact hF.cat
  ·show y'.cat.B;rw[z1,y1];exact hF.catB
  ·show y'.steps.map StV.m=_;rw[z2,y2];exact hF.steps
end
end Go.Proofs.YtommnllbflbdmaaGreatDoor
namespace Go.V
section
section
variable {P:Program}{N:Nat}{env:Env}{L:LH}{K:Post}{ty:TypeId}
def Enters.go{f:FuncId}(h:Enters P f)(args:Array Value)(w:World):(callFunc f args).run P w=.ok (.enter f args) w:=h args w
def EndR(θ:Th)(R:LH)(pr:Value→LH→Prop)(pp:List PanicEntry→LH→Prop):Ending→World→Prop
 | .returned v,w=>∃L',pr v L'∧Sat θ (L'++R) w
 | .panicked ch,w=>∃L',pp ch L'∧Sat θ (L'++R) w
 | .outgrown,_=>False
structure TriE (P:Program) (f:FuncId) (args:Array Value) (L:LH) (pr:Value→LH→Prop) (pp:List PanicEntry→LH→Prop):Prop where
 enters:Enters P f
 calls:∀θ R w,Sat θ (L++R) w→Calls P f args w (EndR θ R pr pp)
def TriE.mono{f:FuncId}{args:Array Value}{pr a1 : Value→LH→Prop}{pp a0 : List PanicEntry→LH→Prop}(h:TriE P f args L pr pp)(h1:∀v L,pr v L→a1 v L)(h2:∀v L,pp v L→a0 v L):TriE P f args L a1 a0 :=
 ⟨h.enters,fun θ R w s=>(h.calls θ R w s).mono fun e w' he=>by
  cases e with
  | returned v=>obtain⟨L',a,b⟩:=he;exact⟨L',h1 _ _ a,b⟩
  | panicked v=>obtain⟨L',a,b⟩:=he;exact⟨L',h2 _ _ a,b⟩
  | outgrown=>exact he⟩
def TriE.pre{f:FuncId}{args:Array Value}{L' : LH}{pr:Value→LH→Prop}{pp:List PanicEntry→LH→Prop}(h:TriE P f args L' pr pp)(hl:Ent L L'):TriE P f args L pr pp :=
 ⟨h.enters,fun θ R w s=>h.calls θ R w (hl θ R w s)⟩
def uk(P:Program)(N:Nat)(rs:List ResultVar)(pr:Value→LH→Prop)(pp:List PanicEntry→LH→Prop):Post:=fun e env L=>match e with
 | .ret | .normal=>∀θ R w,Sat θ (L++R) w→∃vs L',ResOk P N env L rs vs∧Sat θ (L'++R) w∧pr (resV vs) L'
 | .panic ch=>∃L',Ent L L'∧pp ch L'
 | _=>False
def KX.l8{rs:List ResultVar}{pr:Value→LH→Prop}{pp:List PanicEntry→LH→Prop}{vs:LV}{L' : LH}(h1:ResOk P N env L rs vs)(h2:Ent L L')(h3:pr (resV vs) L'):uk P N rs pr pp .normal env L:=fun θ R w s=>⟨vs,L',h1,h2 θ R w s,h3⟩
def KX.e9{rs:List ResultVar}{pr:Value→LH→Prop}{pp:List PanicEntry→LH→Prop}{ch:List PanicEntry}{L' : LH}(h2:Ent L L')(h3:pp ch L'):uk P N rs pr pp (.panic ch) env L:=⟨L',h2,h3⟩
def KX.e8{n:Env→LH→Prop}{ch:List PanicEntry}(h:K (.panic ch) env L):Post.seq n K (.panic ch) env L:=h
def KX.d9{id:Nat}{ch:List PanicEntry}(h:K (.panic ch) env L):Post.inBlock id K (.panic ch) env L:=h
def my{fn:Func}{tmps:Array Value}{R:Ending→World→Prop}{θ:Th}{Y:LH}{u:FrameMode}(hu:u≠.run):∀(M:List Nat) (w:World),Sat θ (mkH M++Y) w→(∀w',Sat θ Y w'→LeavesIn Fence.wide 0 P fn tmps R [] u w')→LeavesInM Fence.wide 0 P fn tmps R (mkD M) u w
 | [],w,s,h=>h w s
 | D::M,w,s,h=>by
  have s0:Sat θ (own D (.deferred (some []))::(mkH M++Y)) w:=s;have hb:=s0.own_heap;refine⟨hu,.inl ⟨D,{ w with heap:=w.heap.setIfInBounds D (.deferred none) },rfl,?_,?_⟩⟩
  ·simp[Instr.takeDeferred,getObj,setObj,Sem.run,hb,bind,Sem.bind,pure]
  ·have a0:D<w.heap.size:=(Array.getElem?_eq_some_iff.1 hb).1
   have s1:Sat θ (own D (.deferred none)::(mkH M++Y)) { w with heap:=w.heap.setIfInBounds D (.deferred none) }:=by
    refine s0.update ⟨s.1.tape,s.1.os,s.1.output,s.1.drawn⟩ (by simp[a0]) ?_;intro k x hk hx;simp only[Array.getElem?_setIfInBounds];rw[if_neg (fun e=>hk e.symm)];exact hx
   exact my hu M _ s1.tail h
def EnvOk.d7{fn:Func}{args:LV}(hN:fn.ntmps=N)(a1 : args.length≤N):EnvOk N (env0 args 0) { tmps:=args.toArray++Array.replicate (fn.ntmps - args.toArray.size) undef,defers:=[] }:=by
 refine⟨by simp[hN];omega,?_⟩;intro t v ht;rw[rQ] at ht;simp at ht;have a0:t<args.length:=(List.getElem?_eq_some_iff.1 ht).1;rw[Array.getElem?_append_left (by simpa using a0)];simpa using ht
def TriE.body{f:FuncId}{fn:Func}{c:Code}{args:LV}{pr:Value→LH→Prop}{pp:List PanicEntry→LH→Prop}{rs:List ResultVar}(N:Nat)
  (he:Enters P f) (hf:P.funcs[f]? = some fn) (hb:fn.body=some c) (hr:fn.results=rs.toArray) (hN:fn.ntmps=N) (a6 : args.length≤N)
  (h:G P N c (env0 args 0) L (uk P N rs pr pp)):TriE P f args.toArray L pr pp:=by
 refine⟨he,fun θ R w s=>(callsIn_wide (n:=0)).1 (callsIn_of_wp_marks hf hb trivial ?_)⟩;refine wpIn_mono (h none θ R _ w (fun l hl=>by cases hl) ⟨[],EnvOk.d7 hN a6,rfl,s⟩) ?_;rintro e a' w' ⟨a3,L',⟨M,a5,hm,s'⟩,hex⟩
 have s1:Sat θ (mkH M++(L'++R)) w':=s'.perm (by
  rw[←aF,←aF];exact List.perm_append_comm.append_right R)
 have a2:(∀θ R w,Sat θ (L'++R) w→∃vs L'',ResOk P N a3 L' rs vs∧Sat θ (L''++R) w∧pr (resV vs) L'')→LeavesInM Fence.wide 0 P fn a'.tmps (EndR θ R pr pp) a'.defers .returning w':=by
  intro a4;rw[hm];refine my ce M w' s1 fun w₂ s₂=>?_;obtain⟨vs,L'',a7,a1,a0⟩:=a4 θ R w₂ s₂;exact⟨_,kh (P:=P) a5 s₂ hr a7,L'',a0,a1⟩
 cases e with
 | ret=>exact a2 hex
 | normal=>exact a2 hex
 | panic ch =>
  obtain⟨L'',a1,a0⟩:=hex;show LeavesInM Fence.wide 0 P fn a'.tmps (EndR θ R pr pp) a'.defers (.panicking ch) w';rw[hm];refine my ce M w' s1 fun w₂ s₂=>?_;exact⟨L'',a0,a1 θ R w₂ s₂⟩
 | exit id=>exact hex.elim
 | goto l=>exact hex.elim
 | outgrown=>exact hex.elim
def GO.panic{a1:Array Oper}{rest:List Oper}{x:Operand}{t:TypeId}{v:Value}{pos:String}{af:Array Edge}(hx:evE env x=some (.iface t v))(h:K (.panic [{ v:=.iface t v,recovered:=false }]) env L):GO P N a1 (⟨none,.panic x,ty,pos,af,none⟩::rest) env L K:=by
 intro r θ Y a w hr i;refine wpListIn_plain rfl fun K' hK=>mC (fun c hc=>by cases hc) ?_
 have a0:(execOp a.eval ⟨none,.panic x,ty,pos,af,none⟩).run P w=.halt (.panic (.iface t v)) w:=by
  simp[execOp,aT i.agr hx,Instr.panic,goPanic]
 rw[Oper.wp,a0,Oper.upon_panic];exact⟨env,L,i,h⟩
def Ev.j0{t:TypeId}{x:Operand}{n:Nat}{v:Value}[ht:TyIS P t n](hx:evE env x=some v):Ev P L env (.makeInterface t x) ty (.iface t v) :=
 Ev.mk (fun θ R ρ w ea s _ _ _ _=>by
  simp[execOp,aT ea hx,Instr.makeInterface,run_underlying ht.under])
def Ev.B8{t xt:TypeId}{x:Operand}{n:Nat}{v:Value}[ht:TyIS P t n](hx:evE env x=some (.iface t v)):Ev P L env (.typeAssert x xt t true) ty (.tuple #[v,.bool true]) :=
 Ev.mk (fun θ R ρ w ea s _ _ _ _=>by
  simp[execOp,aT ea hx,Instr.typeAssert,run_underlying ht.under])
def Ev.B7{t xt:TypeId}{x:Operand}{n:Nat}{z:Value}[ht:TyIS P t n](hz:(P.info? t).map (·.zero)=some (some z))(hx:evE env x=some .nilIface):Ev P L env (.typeAssert x xt t true) ty (.tuple #[z,.bool false]) :=
 Ev.mk (fun θ R ρ w ea s _ _ _ _=>by
  cases hi:P.info? t with
  | none=>rw[hi] at hz;cases hz
  | some i =>
   rw[hi] at hz;simp at hz;simp[execOp,aT ea hx,Instr.typeAssert,run_underlying ht.under,zeroValue,typeInfo,hi,hz])
structure AtD (N:Nat) (env:Env) (L:LH) (θ:Th) (R:LH) (D:List Deferred) (a:Act) (w:World):Prop where
 eok:EnvOk N env a
 def_:a.defers=D
 sat:Sat θ (L++R) w
def AtD.ent{θ:Th}{R:LH}{D:List Deferred}{a:Act}{w:World}{L' : LH}(h:AtD N env L θ R D a w)(hl:Ent L L'):AtD N env L' θ R D a w:=⟨h.eok,h.def_,hl θ R w h.sat⟩
def ES{a0:Array Oper}{Q:Exit→Act→World→Prop}{θ:Th}{R:LH}{D:List Deferred}{a:Act}{w:World}{rest:List Oper}{d:Nat}{op:Op}{pos:String}{af:Array Edge}{post:Value→LH→Prop}(i:AtD N env L θ R D a w)(he:Ef P L env op ty post)(hd:d<N)
  (h:∀v L' a' w',post v L'→AtD N ((d,v)::env) L' θ R D a' w'→wpList P a0 Q rest a' w'):wpList P a0 Q (⟨some d,op,ty,pos,af,none⟩::rest) a w :=
 wpList_plain rfl fun K' hK=>he θ R a w _ K' Q i.eok.agr i.sat rfl rfl fun v L' w' hp s'=>hK _ _ (h v L' _ w' hp ⟨i.eok.put hd _,i.def_,s'⟩)
def Ii{a0:Array Oper}{Q:Exit→Act→World→Prop}{θ:Th}{R:LH}{D:List Deferred}{a:Act}{w:World}{rest:List Oper}{op:Op}{pos:String}{af:Array Edge}{post:Value→LH→Prop}(i:AtD N env L θ R D a w)(he:Ef P L env op ty post)
  (h:∀v L' a' w',post v L'→AtD N env L' θ R D a' w'→wpList P a0 Q rest a' w'):wpList P a0 Q (⟨none,op,ty,pos,af,none⟩::rest) a w :=
 wpList_plain rfl fun K' hK=>he θ R a w _ K' Q i.eok.agr i.sat rfl rfl fun v L' w' hp s'=>hK _ _ (h v L' _ w' hp ⟨i.eok,i.def_,s'⟩)
def wG{a0:Array Oper}{Q:Exit→Act→World→Prop}{θ:Th}{R:LH}{D:List Deferred}{a:Act}{w:World}{rest:List Oper}{d:Nat}{op:Op}{pos:String}{af:Array Edge}{v:Value}(i:AtD N env L θ R D a w)(he:Ev P L env op ty v)(hd:d<N)
  (h:∀a' w',AtD N ((d,v)::env) L θ R D a' w'→wpList P a0 Q rest a' w'):wpList P a0 Q (⟨some d,op,ty,pos,af,none⟩::rest) a w :=
 ES i he.ef hd (by rintro _ _ a' w' ⟨rfl,rfl⟩ i';exact h a' w' i')
def ET{a1:Array Oper}{Q:Exit→Act→World→Prop}{θ:Th}{R:LH}{D:List Deferred}{a:Act}{w:World}{rest:List Oper}{x:Operand}{fv:Fn}{cap:Array Value}{pos:String}{af:Array Edge}(i:AtD N env L θ R D a w)(hx:evE env x=some (.func fv #[] cap))
  (h:∀a' w',AtD N env L θ R ({ target:=.fn fv cap,args:=#[] }::D) a' w'→wpList P a1 Q rest a' w'):wpList P a1 Q (⟨none,.defer { callee:=.value x,args:=#[],argTypes:=#[] },ty,pos,af,none⟩::rest) a w:=by
 refine wpList_plain rfl fun K' hK=>?_
 have a0:(execOp a.eval ⟨none,.defer { callee:=.value x,args:=#[],argTypes:=#[] },ty,pos,af,none⟩).run P w=.ok (.defer { target:=.fn fv cap,args:=#[] }) w:=by
  simp[execOp,resolve,Deferred.ofValue,aT i.eok.agr hx]
 rw[Oper.wp,a0,Oper.upon_defer];refine hK _ _ (h _ w ⟨⟨i.eok.size,i.eok.at_⟩,?_,i.sat⟩);show _::a.defers=_;rw[i.def_]
def EU{a1:Array Oper}{Q:Exit→Act→World→Prop}{θ:Th}{R:LH}{D:List Deferred}{a:Act}{w:World}{rest:List Oper}{d:Nat}{x:Operand}{f:FuncId}{cap:LV}{ats:Array TypeId}{pr:Value→LH→Prop}{pp:List PanicEntry→LH→Prop}{pre R' : LH}{pos:String}{af:Array Edge}(i:AtD N env L θ R D a w)(c:TriE P f cap.toArray pre pr pp)(hx:evE env x=some (.func (.func f) #[] cap.toArray))(hL:Ent L (pre++R'))(hd:d<N)
  (h:∀v L' a' w',pr v L'→AtD N ((d,v)::env) (L'++R') θ R D a' w'→wpList P a1 Q rest a' w')
  (h2:∀ch L' w',pp ch L'→AtD N env (L'++R') θ R D a w'→Q (.panic ch) a w'):wpList P a1 Q (⟨some d,.call { callee:=.value x,args:=#[],argTypes:=ats },ty,pos,af,none⟩::rest) a w:=by
 refine wpList_plain rfl fun K' hK=>?_
 have a0:(execOp a.eval ⟨some d,.call { callee:=.value x,args:=#[],argTypes:=ats },ty,pos,af,none⟩).run P w=.ok (.enter f cap.toArray) w:=by
  simp[execOp,resolve,Deferred.ofValue,invoke,aT i.eok.agr hx];exact c.enters _ _
 rw[Oper.wp,a0,Oper.upon_enter]
 have s0:Sat θ (pre++(R'++R)) w:=by
  rw[←aF];exact hL θ R w i.sat
 refine(c.calls θ (R'++R) w s0).mono ?_;rintro e w' he;cases e with
 | returned v =>
  obtain⟨L',hp,s'⟩:=he;exact hK _ _ (h v L' _ w' hp ⟨i.eok.put hd _,i.def_,by rw[aF];exact s'⟩)
 | panicked ch =>
  obtain⟨L',hp,s'⟩:=he;exact h2 ch L' w' hp ⟨i.eok,i.def_,by rw[aF];exact s'⟩
 | outgrown=>exact he.elim
def ER{a0:Array Oper}{Q:Exit→Act→List Frame→World→Prop}{cs:List Frame}{a:Act}{w:World}{rest:List Nat}{i:Nat}{o:Oper}(ho:a0[i]? = some o)(hg:o.guard=none)(h:o.wp P a w (fun a' w'=>wpOpsS P a0 Q rest a' cs w') (fun e a' w'=>Q e a' cs w')):wpOpsS P a0 Q (i::rest) a cs w:=by
 unfold wpOpsS;simp only[ho,Region.wanted,hg,if_true];unfold Oper.wp at h;split
 ·rename_i w' hr;rw[hr] at h;exact h.elim
 ·exact h
def wF{a0:Array Oper}{Q:Exit→Act→List Frame→World→Prop}{cs:List Frame}{θ:Th}{R:LH}{D:List Deferred}{a:Act}{w:World}{rest:List Nat}{i d:Nat}{op:Op}{pos:String}{af:Array Edge}{post:Value→LH→Prop}(ho:a0[i]? = some ⟨some d,op,ty,pos,af,none⟩)(s:AtD N env L θ R D a w)(he:Ef P L env op ty post)(hd:d<N)
  (h:∀v L' a' w',post v L'→AtD N ((d,v)::env) L' θ R D a' w'→wpOpsS P a0 Q rest a' cs w'):wpOpsS P a0 Q (i::rest) a cs w :=
 ER ho rfl (he θ R a w _ _ _ s.eok.agr s.sat rfl rfl fun v L' w' hp s'=>h v L' _ w' hp ⟨s.eok.put hd _,s.def_,s'⟩)
def un{a0:Array Oper}{Q:Exit→Act→List Frame→World→Prop}{cs:List Frame}{θ:Th}{R:LH}{D:List Deferred}{a:Act}{w:World}{rest:List Nat}{i:Nat}{op:Op}{pos:String}{af:Array Edge}{post:Value→LH→Prop}(ho:a0[i]? = some ⟨none,op,ty,pos,af,none⟩)(s:AtD N env L θ R D a w)(he:Ef P L env op ty post)
  (h:∀v L' a' w',post v L'→AtD N env L' θ R D a' w'→wpOpsS P a0 Q rest a' cs w'):wpOpsS P a0 Q (i::rest) a cs w :=
 ER ho rfl (he θ R a w _ _ _ s.eok.agr s.sat rfl rfl fun v L' w' hp s'=>h v L' _ w' hp ⟨s.eok,s.def_,s'⟩)
def jm{a0:Array Oper}{Q:Exit→Act→List Frame→World→Prop}{cs:List Frame}{θ:Th}{R:LH}{D:List Deferred}{a:Act}{w:World}{rest:List Nat}{i d:Nat}{op:Op}{pos:String}{af:Array Edge}{v:Value}(ho:a0[i]? = some ⟨some d,op,ty,pos,af,none⟩)(s:AtD N env L θ R D a w)(he:Ev P L env op ty v)(hd:d<N)
  (h:∀a' w',AtD N ((d,v)::env) L θ R D a' w'→wpOpsS P a0 Q rest a' cs w'):wpOpsS P a0 Q (i::rest) a cs w :=
 wF ho s he.ef hd (by rintro _ _ a' w' ⟨rfl,rfl⟩ i';exact h a' w' i')
def BP{a:Act}{w:World}{d:Option Tmp}{pos:String}{af:Array Edge}:(execOp a.eval ⟨d,.call { callee:=.builtin .recover,args:=#[],argTypes:=#[] },ty,pos,af,none⟩).run P w=.ok .recover w:=by
 simp[execOp,resolve,invoke,builtin]
def Ih{a0:Array Oper}{Q:Exit→Act→List Frame→World→Prop}{cs a1 : List Frame}{θ:Th}{R:LH}{D:List Deferred}{a:Act}{w:World}{rest:List Nat}{i d:Nat}{v:Value}{pos:String}{af:Array Edge}(ho:a0[i]? = some ⟨some d,.call { callee:=.builtin .recover,args:=#[],argTypes:=#[] },ty,pos,af,none⟩)(s:AtD N env L θ R D a w)(hr:recoverD cs=some (v,a1))(hd:d<N)
  (h:∀a' w',AtD N ((d,v)::env) L θ R D a' w'→wpOpsS P a0 Q rest a' a1 w'):wpOpsS P a0 Q (i::rest) a cs w:=by
 unfold wpOpsS;simp only[ho,Region.wanted,if_true,BP,hr];exact h _ _ ⟨s.eok.put hd _,s.def_,s.sat⟩
def GU{a0:Array Oper}{Q:Exit→Act→List Frame→World→Prop}{cs:List Frame}{θ:Th}{R:LH}{D:List Deferred}{a:Act}{w:World}{rest:List Nat}{i d:Nat}{pos:String}{af:Array Edge}(ho:a0[i]? = some ⟨some d,.call { callee:=.builtin .recover,args:=#[],argTypes:=#[] },ty,pos,af,none⟩)(s:AtD N env L θ R D a w)(hr:recoverD cs=none)(hd:d<N)
  (h:∀a' w',AtD N ((d,.nilIface)::env) L θ R D a' w'→wpOpsS P a0 Q rest a' cs w'):wpOpsS P a0 Q (i::rest) a cs w:=by
 unfold wpOpsS;simp only[ho,Region.wanted,if_true,BP,hr];exact h _ _ ⟨s.eok.put hd _,s.def_,s.sat⟩
end
end
section
section
variable {P:Program}{L:LH}{env:Env}{ty:TypeId}
def Ev.C6{t yt:TypeId}{x y:Operand}{k:IntKind}{a:Int}(hx:evE env x=some (ac a))(hy:evE env y=some (.int k 32)):Ev P L env (.binOp .shr t x y yt) ty (ac (a / 4294967296)):=by
 have h:=Ev.shr (P:=P) (L:=L) (ty:=ty) (t:=t) (yt:=yt) hx hy ae
 have e:a.fdiv (2 ^ min (32:Int).toNat IntKind.i64.bits)=a / 4294967296:=by
  rw[show(2:Int) ^ min (32:Int).toNat IntKind.i64.bits=4294967296 by decide];exact Int.fdiv_eq_ediv_of_nonneg a ae
 rw[e] at h;exact h
def Ev.n9{t yt:TypeId}{x y:Operand}{k:IntKind}{a:Int}(hx:evE env x=some (ac a))(hy:evE env y=some (.int k 32))(h0 : -2147483648≤a)(h1:a≤2147483647):Ev P L env (.binOp .shl t x y yt) ty (ac (a*4294967296)):=by
 have h:=Ev.shl (P:=P) (L:=L) (ty:=ty) (t:=t) (yt:=yt) hx hy ae
 have e:IntKind.i64.wrap (a*2 ^ min (32:Int).toNat IntKind.i64.bits)=a*4294967296:=by
  rw[show(2:Int) ^ min (32:Int).toNat IntKind.i64.bits=4294967296 by decide];exact kC ab ab
 rw[e] at h;exact h
