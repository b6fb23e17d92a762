/- Lemmas. -/
import Derived.Test.YtommnllbflbdmaaGreatDoorLbe
import Derived.Defers
import Derived.Recover
set_option linter.all false
set_option maxHeartbeats 4000000
namespace Go.Proofs.YtommnllbflbdmaaGreatDoor
section
open Go.V
theorem DV(l:LL):∀a b:LL,OO l (a++b)=OO l a+OO l b
 | [],b=>by show OO l b=0+OO l b;omega
 | x::a,b=>by
  have:=DV l a b
  show OV l x+OO l (a++b)=OV l x+OO l a+OO l b;omega
theorem El(y:Lot)(f a n m:Int)(hn:0≤n)(hm:0≤m)(hy:0≤y.2.2):ov y (f,a,n+m)=ov y (f,a,n)+ov y (f,a+n,m):=by
 unfold ov;dsimp only;split<;>omega
theorem xb(f a n m:Int)(hn:0≤n)(hm:0≤m):∀l:LL,(∀y∈l,LotOk y)→OV l (f,a,n+m)=OV l (f,a,n)+OV l (f,a+n,m)
 | [],_=>rfl
 | y::l,h=>by
  have hy:=h y aw;unfold LotOk at hy;have h1:=El y f a n m hn hm ac;have h2:=xb f a n m hn hm l (fun z hz=>h z (av _ hz));show ov y _+OV l _=(ov y _+OV l _)+(ov y _+OV l _);omega
theorem xc(f a:Int):∀l:LL,(∀y∈l,LotOk y)→OV l (f,a,0)=0
 | [],_=>rfl
 | y::l,h=>by
  have h2:=xc f a l (fun z hz=>h z (av _ hz))
  have h1:ov y (f,a,0)=0:=by
   unfold ov;dsimp only;split<;>omega
  show ov y _+OV l _=0;omega
theorem DT(l:LL)(x:Lot):∀(s:LL) (k:Nat),k<s.length→OO l (s.set k x)=OO l s - OV l s[k]! + OV l x
 | y::s,0,_=>by
  show OV l x+OO l s=OV l y+OO l s - OV l y+OV l x;omega
 | y::s,k+1,h=>by
  have:=DT l x s k (by simpa using h)
  show OV l y+OO l (s.set k x)=OV l y+OO l s - OV l s[k]! + OV l x;omega
theorem zW{l:LL}(hl:∀y∈l,LotOk y):∀(r out:LL),(∀z∈r,LotW z)→(∀z∈out,LotW z)→OO l (r.foldl be out)=OO l out+OO l r
 | [],out,_,_=>by show OO l out=OO l out+0;omega
 | x::r,out,h1,h2=>by
  have hx:=h1 x aw;have ih:=zW hl r (be out x) (fun z hz=>h1 z (av _ hz)) (pO h2 hx)
  have e:OO l (be out x)=OO l out+OV l x:=by
   unfold be;by_cases c0:x.2.2=0
   ·rw[if_pos c0];have:=xc x.1 x.2.1 l hl
    rw[show((x.1,x.2.1,0):Lot)=x by rw[←c0]] at this;omega
   ·rw[if_neg c0];by_cases c1:out.length≠0∧kB x out[out.length - 1]!
    ·rw[if_pos c1,DT l _ out _ ac];have hb:=h2 _ (aI (show out.length - 1<out.length by omega));have hc:=lcont_iff.1 c1.2;generalize out[out.length - 1]! = b at *;unfold LotW at hb hx;have:=xb b.1 b.2.1 b.2.2 x.2.2 ac ac l hl
     rw[←hc.2,←hc.1] at this;rw[←hc.1,this];show OO l out - OV l b+(OV l (x.1,b.2.1,b.2.2)+OV l x)=OO l out+OV l x;rw[show((x.1,b.2.1,b.2.2):Lot)=b by rw[hc.1]];omega
    ·rw[if_neg c1,DV];show OO l out+(OV l x+0)=_;omega
  show OO l (r.foldl be (be out x))=OO l out+(OV l x+OO l r);omega
theorem zV{w:Lot}:∀{l:LL},(∀q∈l,ov q w=0)→OV l w=0
 | [],_=>rfl
 | q::l,h=>by
  have h1:=h q aw;have h2:=zV (l:=l) (fun p hp=>h p (av _ hp));show ov q w+OV l w=0;omega
theorem um{w:Lot}:∀{l:LL} {y:Lot},(∀z∈l,LotOk z)→Apart l→y∈l→0≤w.2.2→w.1=y.1→y.2.1≤w.2.1→w.2.1+w.2.2≤y.2.1+y.2.2→OV l w=w.2.2
 | z::l,y,hl,ha,hy,h0,h1,h2,h3=>by
  obtain⟨a1,a2⟩:=List.pairwise_cons.1 ha;have hz:=hl z aw;unfold LotOk at hz;have hl2:∀q∈l,LotOk q:=fun q hq=>hl q (av _ hq);show ov z w+OV l w=w.2.2;rcases List.mem_cons.1 hy with rfl|hy
  ·have e1:ov y w=w.2.2:=by
    unfold ov;rw[if_pos h1.symm];omega
   have e2:OV l w=0:=by
    refine zV (fun q hq=>?_);have g1:=a1 q hq;have g2:=hl2 q hq;unfold apart at g1;unfold LotOk at g2;unfold ov;split<;>omega
   omega
  ·have ih:=um hl2 a2 hy h0 h1 h2 h3;have g1:=a1 y hy;have hy2:=hl2 y hy;unfold LotOk at hy2;unfold apart at g1
   have e1:ov z w=0:=by
    unfold ov;split<;>omega
   omega
theorem un{l:LL}(hl:∀z∈l,LotOk z)(ha:Apart l):∀{s:LL},(∀w∈s,LotOk w∧∃y∈l,w.1=y.1∧y.2.1≤w.2.1∧w.2.1+w.2.2≤y.2.1+y.2.2)→OO l s=lsum s
 | [],_=>by rw[iv];rfl
 | w::s,h=>by
  obtain⟨h1,y,hy,h2,h3,h4⟩:=h w aw;have ih:=un hl ha (s:=s) (fun q hq=>h q (av _ hq));unfold LotOk at h1;have e:=um hl ha hy ac h2 h3 h4;rw[gF];show OV l w+OO l s=_;omega
theorem Ep{a:LL}(h:∀x∈a,LotOk x){p:Lot}(hp:LotOk p):lsum (ge a [p])=OV (setL a) p:=by
 have hs:=(kL h).2
 have hap:Apart (setL a):=by
  have:=(kM h a.length (aB _)).1
  rw[bG] at this;exact Ed this
 have hpp:∀x∈[p],LotOk x:=fun x hx=>by rw[List.mem_singleton.1 hx];exact hp
 have e0:fF a [p]=(subL (setL a) p).foldl be []:=nv _ _;have hX:=(ki h hpp).1
 have hin:∀w∈subL (setL a) p,LotOk w∧∃y∈setL a,w.1=y.1∧y.2.1≤w.2.1∧w.2.1+w.2.2≤y.2.1+y.2.2:=fun w hw=>by
  obtain⟨y,hy,g1,g2,g3,g4⟩:=na hp hs hw;exact⟨g1,y,hy,g2,g3,g4⟩
 have hXa:Apart (fF a [p]):=by
  rw[e0];refine kz ?_ (fun z hz=>?_)
  ·rw[aq];exact(lE hp hs hap).1
  ·rw[aq] at hz;have:=(hin z hz).1
   unfold LotOk at this;omega
 have e1:lsum (ge a [p])=lsum (setL a) - OO (setL a) (fF a [p]):=mu hs hX hXa
 have e2:OO (setL a) (fF a [p])=OO (setL a) (subL (setL a) p):=by
  rw[e0,zW hs _ _ (fun z hz=>(hin z hz).1.w) (fun z hz=>absurd hz aT)];show 0+_=_;omega
 rw[e1,e2,un hs hap hin,qD hp hs];omega
theorem GK{l:LL}{p:Lot}(hl:∀y∈l,LotOk y)(hp:LotOk p):OV l p≠0↔∃y∈l,¬apart y p:=by
 constructor
 ·intro h;refine Classical.byContradiction (fun q=>h ?_);have hall:∀y∈l,apart y p:=fun y hy=>Classical.byContradiction (fun r=>q ⟨y,hy,r⟩);clear h q;induction l with
  | nil=>rfl
  | cons y l ih =>
   have h1:=(pK (hl y aw) hp).2 (hall y aw);have h2:=ih (fun z hz=>hl z (av _ hz)) (fun z hz=>hall z (av _ hz));show ov y p+OV l p=0;omega
 ·rintro⟨y,hy,hn⟩ e;exact hn ((pK (hl y hy) hp).1 (tw e y hy))
theorem nP{a:LL}(h:∀x∈a,LotOk x)(ha:Apart a){p:Lot}(hp:LotOk p):ge a [p]≠[]↔∃y∈a,y.1=p.1∧ovP p y:=by
 have hs:=(kL h).2;have hpp:∀x∈[p],LotOk x:=fun x hx=>by rw[List.mem_singleton.1 hx];exact hp
 have hok:∀z∈ge a [p],LotOk z:=(vg hs (ki h hpp).1).1;have e:=Ep h hp;obtain⟨_,_,g3,_⟩:=kM h a.length (aB _);rw[bG] at g3;have e2:OV (setL a) p=OV a p:=(g3 ((lY h).2 ha)).2 p hp
 have e3:ge a [p]≠[]↔OV a p≠0:=by
  rw[←e2,←e];constructor
  ·intro h2 h3;have:=jw hok (List.length_pos_iff.2 h2)
   omega
  ·intro h2 h3;rw[h3,iv] at h2;exact h2 rfl
 rw[e3,GK h hp];constructor
 ·rintro⟨y,hy,hn⟩;refine⟨y,hy,?_⟩;unfold apart at hn;unfold ovP;omega
 ·rintro⟨y,hy,h1,h2⟩;refine⟨y,hy,?_⟩;unfold ovP at h2;unfold apart;omega
end
section
open Go.V
attribute [local irreducible] G GO GP GPW GPK Ev Ef EfR Ent CB GB V.Enters
structure TkG (x:RLX) (mix:Int→Bool) (W:Wk) (m:MvM) (st:List RStk):Prop where
 lots:∀a i,(dG st a i).lots=gStk mix W m a i
 sum:∀i,rsum st i=rsum x.stks i - (if m.frm≠0∧i=m.item then m.n else 0)
 ok:rOk st
 len:st.length≤x.stks.length+1
 dist:jC x.stks→jC st
theorem EE{sh:Int}{fl:List FlM}{s:StM}{W:Wk}{m:MvM}{mixed:Bool}{k:Nat}{id:Int}(hw:StkG k id (W.stk m.frm m.item))(hm:MvG m)(h0:¬m.frm=0)(he:gErr sh fl s W m=0):lsum (if m.parts=[] then eJ mixed (W.stk m.frm m.item) m.n else eh (W.stk m.frm m.item) m.parts)=lsum (W.stk m.frm m.item) - m.n:=by
 have hn:=hm.n;unfold gErr at he;rw[if_neg h0] at he;by_cases hp:m.parts=[]
 ·rw[if_pos hp] at he ⊢;by_cases hq:lsum (W.stk m.frm m.item)<m.n
  ·rw[if_pos hq] at he;exact absurd he ae
  ·exact CZ hw.lots ac ac
 ·rw[if_neg hp] at he ⊢;by_cases hq:fT m.parts (W.stk m.frm m.item)
  ·rcases hm.parts with g|⟨_,g2,g3⟩
   ·exact absurd g hp
   ·rw[Aa hq hw.apt (g3.trans g2.symm),g2]
  ·rw[if_neg hq] at he;exact absurd he ae
def kI(fl:List FlV):Prop:=∀f∈fl,f.m.kind=5→f.m.frm=0→f.m.parts.length≤f.pcap
abbrev AZ:List Stp:=[.ev 0,.ev 1,.ev 2,.ev 3,.ev 4,.ev 5,.ev 6,.ev 7,.ef 8,.ef 9]
abbrev AY:List Stp:=[.ev 0,.ev 1,.ev 2,.ev 3,.ev 4,.ev 5,.ev 6,.ev 7,.ev 8,.ev 9,.ev 10,.ev 11,.ev 12,.ef 13,.ev 14,.ev 15,.ev 16,.ev 17,.ev 18,.ev 19,.ev 20]
abbrev xU:List Stp:=[.ev 0,.ev 1,.ev 2,.ev 3,.ev 4,.ef 5,.ev 6,.ev 7]
abbrev xT:List Stp:=[.ev 0,.ev 1,.ev 2,.ev 3,.ef 4,.ev 5,.ev 6]
theorem dj{φ ψ:Prop}(k:ψ)(h:Hid ψ→φ:=by intro k;(with_reducible apply G.d8);first|refine G.d7 (N:=88) (id:=7) AZ mixed ap (Hid.out k)|refine G.d7 (N:=88) (id:=9) AY mixed ap (Hid.out k)|refine G.d7 (N:=88) (id:=15) xU mixed ap (Hid.out k)|refine G.d7 (N:=88) (id:=17) xT mixed ap (Hid.out k)):φ:=h ⟨k⟩
theorem vB{L:LH}(b:Nat)(sh:Int)(x:RLX)(W:Wk)(s:StM)(m:MvV)(kb:Nat)(id:Int)(hB:x.cat.B)(hO:rOk x.stks)(hl:x.stks.length≤9000000)(hfl:FlOk x.flows)(hlots:∀a i,(dG x.stks a i).lots=W.stk a i)(hW:∀a i,StkG kb id (W.stk a i))(hkb:kb+m.m.parts.length≤2000)(hi:0≤m.m.item∧m.m.item<x.cat.items.length)(hf:accP m.m.frm)(hm:MvG m.m)(hc:m.m.parts.length≤m.pcap)(hbp:∀p∈m.m.parts,p.1≤9223372036854775807) :
  Tri ah 138 #[au b,ab s.kind,.agg (aM m).toArray] (rlL b sh x (isl an 3 m.pad m.m.parts::L)) (fun v L' =>
   (gErr sh (x.flows.map FlV.m) s W m.m≠0∧∃pd n c,v=.tuple #[.slice pd n c,ab (gErr sh (x.flows.map FlV.m) s W m.m)]∧L' = rlL b sh x L) ∨
   (gErr sh (x.flows.map FlV.m) s W m.m=0∧∃pad pcap st ad' cap',v=.tuple #[.slice pad (gPts (mixR x) s W m.m).length pcap,ab 0]∧TkG x (mixR x) W m.m st∧(s.kind=5→m.m.frm=0→(gPts (mixR x) s W m.m).length≤pcap) ∧
    L' = isl an 3 pad (gPts (mixR x) s W m.m)::rlL b sh { x with stks:=st,sad:=ad',scap:=cap' } L)):=by
 have hil:=hB.items;obtain⟨hi1,hi2⟩:=hi;obtain⟨hn1,hn2⟩:=hm.n;obtain⟨hf1,hf2⟩:=hf;obtain⟨o1,o2⟩:=nH hO m.m.frm m.m.item;have hlot:=hm.lots;have hww:=hW m.m.frm m.m.item;have hsum:=fun (e:¬m.m.frm=0) (he:gErr sh (x.flows.map FlV.m) s W m.m=0)=>EE (mixed:=mixR x m.m.item) hww hm e he;have hlk:=hlots m.m.frm m.m.item;rw[←hlk] at hww hsum;have hpl:=hww.len;refine Tri.body (args:=[au b,ab s.kind,.agg (aM m).toArray]) 88 JJ Tryz.func138 rfl rfl rfl (by simp) ?_;by_cases h0:m.m.frm=0
 ·have hst:TkG x (mixR x) W m.m x.stks:=⟨fun a i=>by unfold gStk;rw[if_pos h0];exact hlots a i,fun i=>by rw[if_neg (fun q=>q.1 h0),fj],hO,ac,fun h=>h⟩;by_cases h5:s.kind=5
  ·have e1:gErr sh (x.flows.map FlV.m) s W m.m=arrG sh (x.flows.map FlV.m) m.m.parts:=by unfold gErr;rw[if_pos h0,if_pos h5]
   have e2:gPts (mixR x) s W m.m=m.m.parts:=by unfold gPts;rw[if_pos h0,if_pos (.inl h5)]
   rw[e1,e2];simp only[rlL];repeat first|refine aa ?_|intro _|refine dj ?_
   rename_i b5;refine GPW.ent (L':=rlL b sh x (isl an 3 m.pad m.m.parts::obj b5 tMv (aM m)::L)) (by simp only[rlL];exact ag) ?_;refine GPW.ef (Ef.d7 (vI b sh x hfl m.pad m.m.parts.length m.pcap m.m.parts rfl hc hlot hbp ac) rfl) ae ?_;rintro _ _⟨rfl,rfl⟩;simp only[rlL];repeat first|refine aa ?_|intro _|refine dj ?_
   by_cases he:arrG sh (x.flows.map FlV.m) m.m.parts=0
   ·refine KX.d7 ai ?_ (.inr ⟨he,m.pad,m.pcap,x.stks,x.sad,x.scap,by rw[he];rfl,hst,fun _ _=>hc,rfl⟩);exact ag
   ·refine KX.d7 ai ?_ (.inl ⟨he,m.pad,m.m.parts.length,m.pcap,rfl,rfl⟩);exact ag
  by_cases h9:s.kind=9
  ·have e1:gErr sh (x.flows.map FlV.m) s W m.m=revG (x.flows.map FlV.m) m.m.item m.m.parts:=by unfold gErr;rw[if_pos h0,if_neg h5,if_pos h9]
   have e2:gPts (mixR x) s W m.m=m.m.parts:=by unfold gPts;rw[if_pos h0,if_pos (.inr h9)]
   rw[e1,e2];simp only[rlL];repeat first|refine aa ?_|intro _|refine dj ?_
   rename_i b5;refine GPW.ent (L':=rlL b sh x (isl an 3 m.pad m.m.parts::obj b5 tMv (aM m)::L)) (by simp only[rlL];exact ag) ?_;refine GPW.ef (Ef.d7 (vz b sh x hfl m hc hlot ac) rfl) ae ?_;rintro _ _⟨rfl,rfl⟩;simp only[rlL];repeat first|refine aa ?_|intro _|refine dj ?_
   by_cases he:revG (x.flows.map FlV.m) m.m.item m.m.parts=0
   ·refine KX.d7 ai ?_ (.inr ⟨he,m.pad,m.pcap,x.stks,x.sad,x.scap,by rw[he];rfl,hst,fun _ _=>hc,rfl⟩);exact ag
   ·refine KX.d7 ai ?_ (.inl ⟨he,m.pad,m.m.parts.length,m.pcap,rfl,rfl⟩);exact ag
  have e1:gErr sh (x.flows.map FlV.m) s W m.m=0:=by unfold gErr;rw[if_pos h0,if_neg h5,if_neg h9]
  have e2:gPts (mixR x) s W m.m=[]:=by unfold gPts;rw[if_pos h0,if_neg (fun q=>q.elim h5 h9)]
  rw[e1,e2];simp only[rlL];repeat first|refine aa ?_|intro _|refine dj ?_
  refine KX.d7 ai ?_ (.inr ⟨(by first|rfl|trivial),none,0,x.stks,x.sad,x.scap,rfl,hst,fun q=>absurd q h5,rfl⟩);refine Ent.trans ?_ (Ent.e9 an 3 none);exact ag
 have h0' : 0<m.m.frm:=ac;refine G.ent (L':=stkP (dG x.stks m.m.frm m.m.item)::isl bS 7 x.cat.iad x.cat.items::rlL b sh x (isl an 3 m.pad m.m.parts::L)) ?_ ?_
 ·simp only[rlL];refine(Ent.at (A:=catP x.cat) rg).trans ?_;refine(Ent.at (A:=allP rsP x.stks) (oM m.m.frm m.m.item)).trans ?_;exact ag
 simp only[rlL];repeat first|refine aa ?_|intro _|refine dj ?_
 refine GO.ef (Ef.d7 (mN (b:=b) (sh:=sh) (x:=x) m.m.frm m.m.item ac) rfl) ae ?_;rintro _ _⟨rfl,rfl⟩
 have hup:∀{ad2:OA} {c2:Nat} {l:LL},kY (mixR x) W m.m=l→lsum l=lsum (dG x.stks m.m.frm m.m.item).lots - m.m.n→StkG 2000 id l→TkG x (mixR x) W m.m (rset x.stks m.m.frm m.m.item ⟨ad2,c2,l⟩):=fun {ad2 c2 l} e hs hg=>by
  refine⟨fun a i=>?_,fun i=>?_,?_,qG _ _ _ _,oK⟩
  ·unfold gStk;rw[if_neg h0,nG,e];unfold upd2;split
   ·rfl
   ·exact hlots a i
  ·rw[oJ];dsimp only;by_cases hq:i=m.m.item
   ·rw[if_pos hq,if_pos ⟨h0,hq⟩,hs];omega
   ·rw[if_neg hq,if_neg (fun q=>hq q.2)];omega
  ·intro u hu;rcases qF hu with h|h
   ·exact hO u h
   ·rw[h];exact⟨by have:=hg.len;dsimp only;omega,hg.lots⟩
 by_cases hp:m.m.parts=[]
 ·have hp0:m.m.parts.length=0:=by rw[hp];rfl
  have e1:gErr sh (x.flows.map FlV.m) s W m.m=if lsum (W.stk m.m.frm m.m.item)<m.m.n then 10 else 0:=by unfold gErr;rw[if_neg h0,if_pos hp]
  have e2:gPts (mixR x) s W m.m=gN (mixR x m.m.item) (W.stk m.m.frm m.m.item) m.m.n:=by unfold gPts;rw[if_neg h0,if_pos hp]
  have e3:kY (mixR x) W m.m=eJ (mixR x m.m.item) (W.stk m.m.frm m.m.item) m.m.n:=by unfold kY;rw[if_pos hp]
  rw[e1] at hsum ⊢;rw[if_pos hp] at hsum;rw[e2];rw[e3] at hup;rw[←hlk] at hup hsum ⊢;generalize hsk:dG x.stks m.m.frm m.m.item=sk at *;repeat first|refine aa ?_|intro _|refine dj ?_
  refine GPW.ent (Ent.at (A:=stkP sk) (Ent.refl _)) ?_;refine GPW.ef (Ef.d7 (Ao sk.ad sk.cap sk.lots m.m.n (mixR x m.m.item) o1 o2 ac hn2) rfl) ae ?_;rintro _ _ (⟨h1,rfl,rfl⟩|⟨h1,ad1,c1,ad2,c2,rfl,rfl⟩)
  ·rw[if_pos h1];repeat first|refine aa ?_|intro _|refine dj ?_
   refine KX.d7 ai ?_ (.inl ⟨by decide,none,0,0,rfl,rfl⟩);exact ag
  ·rw[if_neg ac] at hsum ⊢;have hT:=hup (ad2:=ad2) (c2:=c2) rfl (hsum h0 rfl) ((zC hww o1 ac h1).mono ac (bu _));repeat first|refine aa ?_|intro _|refine dj ?_
   rename_i b3
   refine GO.ent (L':=rlL b sh x (stkP ⟨ad2,c2,eJ (mixR x m.m.item) sk.lots m.m.n⟩::isl an 3 ad1 (gN (mixR x m.m.item) sk.lots m.m.n)::obj b3 tMv (aM m)::L)) (by
    refine(Ent.frz ad1).trans ((Ent.frz ad2).trans ?_);simp only[rlL];exact ag) ?_
   refine GO.ef (Ef.d7 (nF b sh x m.m.frm m.m.item ⟨ad2,c2,eJ (mixR x m.m.item) sk.lots m.m.n⟩ ac) rfl) ae ?_;rintro _ _⟨ad',cap',rfl⟩;simp only[rlL];repeat first|refine aa ?_|intro _|refine dj ?_
   refine KX.d7 ai ?_ (.inr ⟨(by first|rfl|trivial),ad1,c1,rset x.stks m.m.frm m.m.item ⟨ad2,c2,eJ (mixR x m.m.item) sk.lots m.m.n⟩,ad',cap',rfl,hT,fun _ q=>absurd q h0,rfl⟩);exact ag
 have hp0:0<m.m.parts.length:=List.length_pos_iff.2 hp;have e1:gErr sh (x.flows.map FlV.m) s W m.m=if fT m.m.parts (W.stk m.m.frm m.m.item) then 0 else 10:=by unfold gErr;rw[if_neg h0,if_neg hp]
 have e2:gPts (mixR x) s W m.m=m.m.parts:=by unfold gPts;rw[if_neg h0,if_neg hp]
 have e3:kY (mixR x) W m.m=eh (W.stk m.m.frm m.m.item) m.m.parts:=by unfold kY;rw[if_neg hp]
 rw[e1] at hsum ⊢;rw[if_neg hp] at hsum;rw[e2];rw[e3] at hup;rw[←hlk] at hup hsum ⊢;generalize hsk:dG x.stks m.m.frm m.m.item=sk at *;rename_i b5;refine GO.ent (L':=isl an 3 sk.ad sk.lots::rlL b sh x (isl an 3 m.pad m.m.parts::obj b5 tMv (aM m)::L)) (by simp only[rlL];exact ag) ?_;simp only[rlL];repeat first|refine aa ?_|intro _|refine dj ?_
 refine GO.ef (Ef.d7 (oG m.pad m.m.parts.length m.pcap m.m.parts sk.ad sk.lots.length sk.cap sk.lots rfl rfl ac ac) rfl) ae ?_;rintro _ _⟨rfl,rfl⟩;by_cases hq:fT m.m.parts sk.lots
 case neg =>
  rw[aF hq,if_neg hq];repeat first|refine aa ?_|intro _|refine dj ?_
  refine KX.d7 ai ?_ (.inl ⟨by decide,none,0,0,rfl,rfl⟩);exact ag
 rw[if_pos hq] at hsum;rw[aU hq,if_pos hq];repeat first|refine aa ?_|intro _|refine dj ?_
 refine GPW.ef (Ef.d7 (om sk.ad sk.lots.length sk.cap sk.lots m.pad m.m.parts.length m.pcap m.m.parts rfl rfl hq.2.1 hq.1) rfl) ae ?_;rintro _ _⟨ad2,c2,rfl,rfl⟩;have hT:=hup (ad2:=ad2) (c2:=c2) rfl (hsum h0 rfl) ((sF hww hlot).mono ac (bu _));repeat first|refine aa ?_|intro _|refine dj ?_
 refine GPW.ent (L':=rlL b sh x (stkP ⟨ad2,c2,eh sk.lots m.m.parts⟩::isl an 3 m.pad m.m.parts::obj b5 tMv (aM m)::L)) (by
  refine(Ent.frz ad2).trans ?_;simp only[rlL];exact ag) ?_
 refine GPW.ef (Ef.d7 (nF b sh x m.m.frm m.m.item ⟨ad2,c2,eh sk.lots m.m.parts⟩ ac) rfl) ae ?_;rintro _ _⟨ad',cap',rfl⟩;simp only[rlL];repeat first|refine aa ?_|intro _|refine dj ?_
 refine KX.d7 ai ?_ (.inr ⟨(by first|rfl|trivial),m.pad,m.pcap,rset x.stks m.m.frm m.m.item ⟨ad2,c2,eh sk.lots m.m.parts⟩,ad',cap',rfl,hT,fun _ q=>absurd q h0,rfl⟩);exact ag
abbrev Bg:List Stp:=[.ev 0,.ev 1,.ev 2,.ev 3,.ev 4,.ev 5,.ev 6,.ev 7,.ev 8,.ev 9,.ev 10,.ev 11,.ev 12,.ev 13,.ev 14,.ev 15,.ev 16,.ev 17,.ev 18,.ev 19,.ev 20,.ev 21,.ev 22,.ev 23,.ev 24,.ev 25,.ev 26,.ev 27,.ev 28,.ev 29,.ev 30,.ev 31,.ev 32,.ev 33,.ev 34,.ev 35,.ev 36,.ef 37,.ef 38]
abbrev Bf:List Stp:=[.ev 0,.ev 1,.ev 2,.ev 3,.ev 4,.ev 5,.ev 6,.ev 7,.ev 8,.ev 9,.ev 10,.ev 11,.ev 12,.ev 13,.ev 14,.ev 15,.ev 16,.ev 17,.ev 18,.ev 19,.ev 20,.ev 21]
abbrev ye:List Stp:=[.ev 0,.ev 1,.ev 2,.ev 3,.ev 4,.ev 5,.ev 6,.ev 7,.ev 8,.ev 9,.ef 10,.ef 11,.ev 12,.ef 13]
abbrev yd:List Stp:=[.ev 0,.ev 1,.ev 2,.ev 3,.ev 4,.ev 5,.ev 6,.ev 8,.ev 9,.ef 7,.ev 10,.ev 11,.ev 12]
abbrev yc:List Stp:=[.ev 0,.ev 1,.ev 2,.ev 3,.ev 4,.ev 6,.ev 7,.ev 8,.ev 9,.ev 10,.ef 5,.ef 11,.ev 12]
abbrev yb:List Stp:=[.ev 0,.ev 1,.ev 2,.ev 3,.ev 4,.ev 5,.ef 6,.ef 7,.ev 8,.ev 9,.ef 10]
theorem bM{φ ψ:Prop}(k:ψ)(h:Hid ψ→φ:=by intro k;(with_reducible apply G.d8);first|refine G.d7 (N:=169) (id:=1) Bg mixed ap (Hid.out k)|refine G.d7 (N:=169) (id:=9) Bf mixed ap (Hid.out k)|refine G.d7 (N:=169) (id:=10) ye mixed ap (Hid.out k)|refine G.d7 (N:=169) (id:=11) yd mixed ap (Hid.out k)|refine G.d7 (N:=169) (id:=14) yc mixed ap (Hid.out k)|refine G.d7 (N:=169) (id:=18) yb mixed ap (Hid.out k)):φ:=h ⟨k⟩
theorem xq{L:LH}(b:Nat)(S:LedM)(hsh:0≤S.shard∧S.shard<12)(hss:S.steps.length≤65536)(hsf:S.flows.length≤4194304)(hFl:FlG S.flows)(y:RLX)(W:Wk)(kb:Nat)(s:StV)(m:MvV)(hR:RW S y W)(hO:WkG S.shard S.flows kb W)(hkb:kb+m.m.parts.length≤2000)(hWf:W.flows.length<64)(h:pS y.cat.items.length m.m)(hm:MvG m.m)(hcap:m.m.parts.length≤m.pcap)(hbp:∀p∈m.m.parts,p.1≤9223372036854775807) :
  Tri ah 94 #[au b,.agg (aJ s).toArray,.agg (aM m).toArray] (rlL b S.shard y (isl an 3 m.pad m.m.parts::L)) (fun v L'=>∃y',v=ab (dq S.shard S.flows (bK S.cat) (s.m.at (aR S)) W m.m).1 ∧
   ((y'.cat=y.cat∧y'.steps=y.steps∧y'.tad=y.tad∧y'.tcap=y.tcap∧(kI y.flows→kI y'.flows))∧((dq S.shard S.flows (bK S.cat) (s.m.at (aR S)) W m.m).1=0→RW S y' (dq S.shard S.flows (bK S.cat) (s.m.at (aR S)) W m.m).2))∧L' = rlL b S.shard y' L):=by
 obtain⟨hs1,hs2⟩:=hsh;obtain⟨hn1,hn2⟩:=hm.n;have hne:=hm.ne;obtain⟨hitem,_,_,hf1,hto1,hf2,hto2⟩:=h;have hfl2:y.flows.map FlV.m=S.flows++W.flows:=hR.flows
 have hFlO:FlOk y.flows:=by
  have hlen:=congrArg List.length hfl2;rw[aG,az] at hlen;refine⟨ac,fun f hf=>?_⟩;have hf2:f.m∈S.flows++W.flows:=by rw[←hfl2];exact alStd0List_mem_map_of_mem hf
  rcases List.mem_append.1 hf2 with q|q
  ·exact hFl _ q
  ·exact hO.flows _ q
 have hyf:y.flows.length=S.flows.length+W.flows.length:=by
  have:=congrArg List.length hR.flows
  rwa [aG,az] at this
 have hys:y.steps.length=S.steps.length:=by rw[←hR.steps];simp
 have hyl:=hR.len;have hsid:S.shard*4294967296+(y.steps.length:Int)=aR S:=by unfold aR;rw[hys]
 have hfid:S.shard*4294967296+(y.flows.length:Int)=cN S.shard S.flows.length W:=by unfold cN;rw[hyf];omega
 have hmix:mixR y=bK S.cat:=by funext i;unfold mixR bK;rw[←hR.cat];rfl
 refine Tri.body (args:=[au b,.agg (aJ s).toArray,.agg (aM m).toArray]) 169 en94 Tryz.func94 rfl rfl rfl (by simp) ?_;simp only[rlL];repeat first|refine aa ?_|intro _|refine bM ?_
 rename_i b4 b5 b7;refine GO.ent (L':=rlL b S.shard y (isl an 3 m.pad m.m.parts::obj b7 bz [ab (S.shard*4294967296+(y.flows.length:Int)),ab (S.shard*4294967296+(y.steps.length:Int)),ab s.kind,ab s.tick,ab s.actor,ab m.m.frm,ab m.m.to,ab m.m.item,ab m.m.n,.slice none 0 0,.slice none 0 0]::obj b4 bh (aJ s)::obj b5 tMv (aM m)::L)) (by simp only[rlL];exact ag) ?_;refine GO.ef (Ef.d7 (vB b S.shard y W (s.m.at (aR S)) m kb (cN S.shard S.flows.length W) hR.catB hR.ok ac hFlO hR.lots hO.stk hkb hitem ⟨hf1,hf2⟩ hm hcap hbp) rfl) ae ?_;rw[hR.flows];rintro _ _ (⟨h1,pd,pn,pc,rfl,rfl⟩|⟨h1,pad,pcap,st,sad',scap',rfl,hT,hcp5,rfl⟩)
 ·have e:dq S.shard S.flows (bK S.cat) (s.m.at (aR S)) W m.m=(gErr S.shard (S.flows++W.flows) (s.m.at (aR S)) W m.m,W):=by unfold dq;rw[if_pos h1]
  rw[e];generalize gErr S.shard (S.flows++W.flows) (s.m.at (aR S)) W m.m=er at *;repeat first|refine aa ?_|intro _|refine bM ?_
  exact KX.d7 ai (by simp only[rlL];exact ag) ⟨y,rfl,⟨⟨rfl,rfl,rfl,rfl,fun q=>q⟩,fun q=>absurd q h1⟩,rfl⟩
 have hmv:dq S.shard S.flows (bK S.cat) (s.m.at (aR S)) W m.m=if dd W m.m>1099511627776 then(4,W)
   else if m.m.to=0 then(0,⟨gStk (bK S.cat) W m.m,upd W.tot m.m.item (dd W m.m),W.flows++[fq S.shard S.flows.length (bK S.cat) (s.m.at (aR S)) W m.m],W.sunk++[cN S.shard S.flows.length W]⟩)
   else if 4096≤(gStk (bK S.cat) W m.m m.m.to m.m.item).length then(4,W)
   else(0,⟨upd2 (gStk (bK S.cat) W m.m) m.m.to m.m.item (be (gStk (bK S.cat) W m.m m.m.to m.m.item) (cN S.shard S.flows.length W,0,m.m.n)),upd W.tot m.m.item (dd W m.m),W.flows++[fq S.shard S.flows.length (bK S.cat) (s.m.at (aR S)) W m.m],W.sunk⟩):=by unfold dq;rw[if_neg (fun q=>q h1)]
 have hts:∀a i,(dG st a i).lots=gStk (bK S.cat) W m.m a i:=by
  intro a i;rw[hT.lots,hmix]
 have hsum:∀i,rsum st i=W.tot i - (if m.m.frm≠0∧i=m.m.item then m.m.n else 0):=fun i=>by rw[hT.sum,hR.sum]
 have hstl:=hT.len;have hsto:=hT.ok;have hstd:=hT.dist hR.dist;clear hT;rw[hmix] at hcp5;rw[hmix];rw[hmv];generalize hpts:gPts (bK S.cat) (s.m.at (aR S)) W m.m=pts at *;simp only[rlL,aK];repeat first|((fail_if_success (with_reducible refine G.e7 6 ?_));(with_reducible apply G.seq))|refine bB ?_|intro _|refine bM ?_
 refine G.d9 (α:=OA×Nat) (fun _=>True) (fun _=>[(0,au b),(4,au b4),(5,au b5),(6,ab 0),(7,au b7)]) (fun g=>obj b7 bz [ab (S.shard*4294967296+(y.flows.length:Int)),ab (S.shard*4294967296+(y.steps.length:Int)),ab s.kind,ab s.tick,ab s.actor,ab m.m.frm,ab m.m.to,ab m.m.item,ab m.m.n,.slice pad pts.length pcap,.slice g.1 (du (s.m.at (aR S)) W m.m).length g.2]::isl (encZ .i64) 1 g.1 (du (s.m.at (aR S)) W m.m)::isl an 3 pad pts::rlL b S.shard { y with stks:=st,sad:=sad',scap:=scap' } (obj b4 bh (aJ s)::obj b5 tMv (aM m)::L)) ?_ ?_
 ·by_cases hCa:m.m.frm=0∧s.kind=4
  case pos =>
   obtain⟨hC1,hC2⟩:=hCa;have e:du (s.m.at (aR S)) W m.m=gu (aR S) y.flows:=by unfold du;rw[if_pos ⟨hC1,.inl hC2⟩,hR.sunk]
   rw[e];simp only[rlL,aK];repeat first|refine aa ?_|intro _|refine bM ?_
   refine G.loop (α:=Nat×OA×Nat) (fun g=>g.1≤y.flows.length) (fun g=>[(0,au b),(4,au b4),(5,au b5),(6,ab 0),(7,au b7),(10,ab (g.1:Int))]) (fun g=>obj b7 bz [ab (S.shard*4294967296+(y.flows.length:Int)),ab (S.shard*4294967296+(y.steps.length:Int)),ab s.kind,ab s.tick,ab s.actor,ab m.m.frm,ab m.m.to,ab m.m.item,ab m.m.n,.slice pad pts.length pcap,.slice g.2.1 (gu (aR S) (y.flows.take g.1)).length g.2.2]::osl (encZ .i64) 1 tInt g.2.1 g.2.2 (gu (aR S) (y.flows.take g.1))::isl an 3 pad pts::rlL b S.shard { y with stks:=st,sad:=sad',scap:=scap' } (obj b4 bh (aJ s)::obj b5 tMv (aM m)::L)) (fun g=>y.flows.length - g.1) (0,none,0) (ao _) aj ?_ ?_
   ·have e0:gu (aR S) (y.flows.take 0)=[]:=by simp[gu]
    dsimp only;rw[e0];refine(Ent.d8 (encZ .i64) 1 tInt).trans ?_;simp only[rlL,aK];exact ag
   rintro⟨k,mad,mcap⟩ hk1;dsimp only at hk1 ⊢;simp only[rlL,aK];by_cases hlt:k<y.flows.length
   case neg =>
    obtain rfl:k=y.flows.length:=ac;rw[bG];repeat first|refine aa ?_|intro _|refine bM ?_
    refine⟨(mad,mcap),trivial,aj,?_⟩;refine(Ent.frz mad).trans ?_;simp only[rlL,aK];exact ag
   have hkk:(k:Int).toNat=k:=aA k;have hlt' : (k:Int).toNat<y.flows.length:=ac;have hst:=rA (aR S) y.flows hlt;have hsl:=tC (aR S) (y.flows.take k);rw[aY] at hsl;by_cases g1:y.flows[(k:Int).toNat]!.m.step=S.shard*4294967296+(y.steps.length:Int)
   ·by_cases g2:y.flows[(k:Int).toNat]!.m.to=0
    ·repeat first|refine aa ?_|intro _|refine bM ?_
     refine GPW.ef (Ef.d8 (enc:=encZ .i64) (e:=y.flows[(k:Int).toNat]!.m.id) rfl rfl rfl rfl rfl (by rfl) (by simp[encZ,Value.oneCell']) ac ac) ae ?_;rintro _ _⟨mad2,mcap2,rfl,rfl⟩;repeat first|refine aa ?_|intro _|refine bM ?_
     rw[hkk] at *;rw[if_pos ⟨g1.trans hsid,g2⟩] at hst;refine⟨(k+1,mad2,mcap2),by dsimp only;omega,by dsimp only;omega,?_,?_⟩
     ·dsimp only;rw[aP k];exact aj
     ·dsimp only;rw[hst];exact ag
    ·repeat first|refine aa ?_|intro _|refine bM ?_
     rw[hkk] at *;rw[if_neg (fun q=>g2 q.2)] at hst;refine⟨(k+1,mad,mcap),by dsimp only;omega,by dsimp only;omega,?_,?_⟩
     ·dsimp only;rw[aP k];exact aj
     ·dsimp only;rw[hst];exact ag
   ·repeat first|refine aa ?_|intro _|refine bM ?_
    rw[hkk] at *;rw[if_neg (fun q=>g1 (q.1.trans hsid.symm))] at hst;refine⟨(k+1,mad,mcap),by dsimp only;omega,by dsimp only;omega,?_,?_⟩
    ·dsimp only;rw[aP k];exact aj
    ·dsimp only;rw[hst];exact ag
  by_cases hCb:m.m.frm=0∧s.kind=10
  case pos =>
   obtain⟨hC1,hC2⟩:=hCb;have e:du (s.m.at (aR S)) W m.m=gu (aR S) y.flows:=by unfold du;rw[if_pos ⟨hC1,.inr hC2⟩,hR.sunk]
   rw[e];simp only[rlL,aK];repeat first|refine aa ?_|intro _|refine bM ?_
   refine G.loop (α:=Nat×OA×Nat) (fun g=>g.1≤y.flows.length) (fun g=>[(0,au b),(4,au b4),(5,au b5),(6,ab 0),(7,au b7),(10,ab (g.1:Int))]) (fun g=>obj b7 bz [ab (S.shard*4294967296+(y.flows.length:Int)),ab (S.shard*4294967296+(y.steps.length:Int)),ab s.kind,ab s.tick,ab s.actor,ab m.m.frm,ab m.m.to,ab m.m.item,ab m.m.n,.slice pad pts.length pcap,.slice g.2.1 (gu (aR S) (y.flows.take g.1)).length g.2.2]::osl (encZ .i64) 1 tInt g.2.1 g.2.2 (gu (aR S) (y.flows.take g.1))::isl an 3 pad pts::rlL b S.shard { y with stks:=st,sad:=sad',scap:=scap' } (obj b4 bh (aJ s)::obj b5 tMv (aM m)::L)) (fun g=>y.flows.length - g.1) (0,none,0) (ao _) aj ?_ ?_
   ·have e0:gu (aR S) (y.flows.take 0)=[]:=by simp[gu]
    dsimp only;rw[e0];refine(Ent.d8 (encZ .i64) 1 tInt).trans ?_;simp only[rlL,aK];exact ag
   rintro⟨k,mad,mcap⟩ hk1;dsimp only at hk1 ⊢;simp only[rlL,aK];by_cases hlt:k<y.flows.length
   case neg =>
    obtain rfl:k=y.flows.length:=ac;rw[bG];repeat first|refine aa ?_|intro _|refine bM ?_
    refine⟨(mad,mcap),trivial,aj,?_⟩;refine(Ent.frz mad).trans ?_;simp only[rlL,aK];exact ag
   have hkk:(k:Int).toNat=k:=aA k;have hlt' : (k:Int).toNat<y.flows.length:=ac;have hst:=rA (aR S) y.flows hlt;have hsl:=tC (aR S) (y.flows.take k);rw[aY] at hsl;by_cases g1:y.flows[(k:Int).toNat]!.m.step=S.shard*4294967296+(y.steps.length:Int)
   ·by_cases g2:y.flows[(k:Int).toNat]!.m.to=0
    ·repeat first|refine aa ?_|intro _|refine bM ?_
     refine GPW.ef (Ef.d8 (enc:=encZ .i64) (e:=y.flows[(k:Int).toNat]!.m.id) rfl rfl rfl rfl rfl (by rfl) (by simp[encZ,Value.oneCell']) ac ac) ae ?_;rintro _ _⟨mad2,mcap2,rfl,rfl⟩;repeat first|refine aa ?_|intro _|refine bM ?_
     rw[hkk] at *;rw[if_pos ⟨g1.trans hsid,g2⟩] at hst;refine⟨(k+1,mad2,mcap2),by dsimp only;omega,by dsimp only;omega,?_,?_⟩
     ·dsimp only;rw[aP k];exact aj
     ·dsimp only;rw[hst];exact ag
    ·repeat first|refine aa ?_|intro _|refine bM ?_
     rw[hkk] at *;rw[if_neg (fun q=>g2 q.2)] at hst;refine⟨(k+1,mad,mcap),by dsimp only;omega,by dsimp only;omega,?_,?_⟩
     ·dsimp only;rw[aP k];exact aj
     ·dsimp only;rw[hst];exact ag
   ·repeat first|refine aa ?_|intro _|refine bM ?_
    rw[hkk] at *;rw[if_neg (fun q=>g1 (q.1.trans hsid.symm))] at hst;refine⟨(k+1,mad,mcap),by dsimp only;omega,by dsimp only;omega,?_,?_⟩
    ·dsimp only;rw[aP k];exact aj
    ·dsimp only;rw[hst];exact ag
  case neg =>
   have e:du (s.m.at (aR S)) W m.m=[]:=by
    unfold du
    exact if_neg (fun h=>by
     obtain⟨h3,h4⟩:=h;rcases h4 with h4|h4
     ·exact hCa ⟨h3,h4⟩
     ·exact hCb ⟨h3,h4⟩)
   rw[e];simp only[rlL,aK];repeat first|refine aa ?_|intro _|refine bM ?_
   refine G.loop (α:=Unit) (fun _=>True) (fun _=>[(0,au b),(4,au b4),(5,au b5),(6,ab 0),(7,au b7),(10,ab 0)]) (fun _=>obj b7 bz [ab (S.shard*4294967296+(y.flows.length:Int)),ab (S.shard*4294967296+(y.steps.length:Int)),ab s.kind,ab s.tick,ab s.actor,ab m.m.frm,ab m.m.to,ab m.m.item,ab m.m.n,.slice pad pts.length pcap,.slice none 0 0]::isl an 3 pad pts::rlL b S.shard { y with stks:=st,sad:=sad',scap:=scap' } (obj b4 bh (aJ s)::obj b5 tMv (aM m)::L)) (fun _=>0) () trivial aj ?_ ?_
   ·simp only[rlL,aK];exact ag
   rintro _ _;simp only[rlL,aK];by_cases hlt:(0:Int)<(y.flows.length:Int)
   ·by_cases h0:m.m.frm=0
    ·have h04:¬s.kind=4:=fun h=>hCa ⟨h0,h⟩;have h10:¬s.kind=10:=fun h=>hCb ⟨h0,h⟩;repeat first|refine aa ?_|intro _|refine bM ?_
     refine⟨(none,0),trivial,aj,?_⟩;refine Ent.trans ?_ (Ent.d7 (Ent.e9 (encZ .i64) 1 none));simp only[rlL,aK];exact ag
    ·repeat first|refine aa ?_|intro _|refine bM ?_
     refine⟨(none,0),trivial,aj,?_⟩;refine Ent.trans ?_ (Ent.d7 (Ent.e9 (encZ .i64) 1 none));simp only[rlL,aK];exact ag
   ·repeat first|refine aa ?_|intro _|refine bM ?_
    refine⟨(none,0),trivial,aj,?_⟩;refine Ent.trans ?_ (Ent.d7 (Ent.e9 (encZ .i64) 1 none));simp only[rlL,aK];exact ag
 rintro⟨mad,mcap⟩ _;dsimp only;have hot:=hO.tot m.m.item
 have hstk:∀a i,(gStk (bK S.cat) W m.m a i).length≤4096∧∀x∈gStk (bK S.cat) W m.m a i,LotOk x:=fun a i=>by
  have g:=wz (mix:=bK S.cat) hO hm ac h1 a i;have:=g.len
  exact⟨ac,g.lots⟩
 refine G.d9 (α:=Unit) (fun _=>¬dd W m.m>1099511627776) (fun _=>[(0,au b),(4,au b4),(5,au b5),(6,ab 0),(7,au b7)]) (fun _=>rlL b S.shard { y with stks:=st,sad:=sad',scap:=scap' } (obj b7 bz [ab (S.shard*4294967296+(y.flows.length:Int)),ab (S.shard*4294967296+(y.steps.length:Int)),ab s.kind,ab s.tick,ab s.actor,ab m.m.frm,ab m.m.to,ab m.m.item,ab m.m.n,.slice pad pts.length pcap,.slice mad (du (s.m.at (aR S)) W m.m).length mcap]::isl (encZ .i64) 1 mad (du (s.m.at (aR S)) W m.m)::isl an 3 pad pts::obj b4 bh (aJ s)::obj b5 tMv (aM m)::L)) ?_ ?_
 ·by_cases h0:m.m.frm=0
  ·have hrs:=hsum m.m.item;rw[if_neg (fun q=>q.1 h0),fj] at hrs;have hnt:dd W m.m=rsum st m.m.item+m.m.n:=by unfold dd;rw[if_pos h0,if_neg (fun q=>hne (h0.trans q.symm)),hrs];omega
   simp only[rlL,aK];repeat first|refine aa ?_|intro _|refine bM ?_
   refine GPW.ent (L':=rlL b S.shard { y with stks:=st,sad:=sad',scap:=scap' } (obj b7 bz [ab (S.shard*4294967296+(y.flows.length:Int)),ab (S.shard*4294967296+(y.steps.length:Int)),ab s.kind,ab s.tick,ab s.actor,ab m.m.frm,ab m.m.to,ab m.m.item,ab m.m.n,.slice pad pts.length pcap,.slice mad (du (s.m.at (aR S)) W m.m).length mcap]::isl (encZ .i64) 1 mad (du (s.m.at (aR S)) W m.m)::isl an 3 pad pts::obj b4 bh (aJ s)::obj b5 tMv (aM m)::L)) (by simp only[rlL,aK];exact ag) ?_;refine GPW.ef (Ef.d7 (Cs b S.shard { y with stks:=st,sad:=sad',scap:=scap' } m.m.item (by dsimp only;omega) hsto (by dsimp only;omega)) rfl) ae ?_;rintro _ _⟨rfl,rfl⟩;simp only[rlL,aK];rw[hnt];by_cases hbig:rsum st m.m.item+m.m.n>1099511627776
   ·rw[if_pos hbig];repeat first|refine aa ?_|intro _|refine bM ?_
    exact KX.d7 ai ag ⟨{ y with stks:=st,sad:=sad',scap:=scap' },rfl,⟨⟨rfl,rfl,rfl,rfl,fun q=>q⟩,fun q=>absurd (show(4:Int)=0 from q) ac⟩,rfl⟩
   ·repeat first|refine aa ?_|intro _|refine bM ?_
    exact⟨(),hbig,aj,by exact ag⟩
  ·simp only[rlL,aK];repeat first|refine aa ?_|intro _|refine bM ?_
   refine⟨(),?_,aj,by exact ag⟩;unfold dd;rw[if_neg h0];split<;>omega
 rintro _ hbig;rw[if_neg hbig];refine G.d9 (α:=List RStk×OA×Nat) (fun g=>¬(m.m.to≠0∧4096≤(gStk (bK S.cat) W m.m m.m.to m.m.item).length)∧(∀a i,(dG g.1 a i).lots=if m.m.to≠0 then upd2 (gStk (bK S.cat) W m.m) m.m.to m.m.item (be (gStk (bK S.cat) W m.m m.m.to m.m.item) (cN S.shard S.flows.length W,0,m.m.n)) a i else gStk (bK S.cat) W m.m a i)∧(∀i,rsum g.1 i=rsum st i+(if m.m.to≠0∧i=m.m.item then m.m.n else 0))∧rOk g.1∧g.1.length≤st.length+1∧jC g.1) (fun _=>[(0,au b),(4,au b4),(5,au b5),(6,ab 0),(7,au b7)]) (fun g=>rlL b S.shard { y with stks:=g.1,sad:=g.2.1,scap:=g.2.2 } (obj b7 bz [ab (S.shard*4294967296+(y.flows.length:Int)),ab (S.shard*4294967296+(y.steps.length:Int)),ab s.kind,ab s.tick,ab s.actor,ab m.m.frm,ab m.m.to,ab m.m.item,ab m.m.n,.slice pad pts.length pcap,.slice mad (du (s.m.at (aR S)) W m.m).length mcap]::isl (encZ .i64) 1 mad (du (s.m.at (aR S)) W m.m)::isl an 3 pad pts::obj b4 bh (aJ s)::obj b5 tMv (aM m)::L)) ?_ ?_
 ·by_cases h0:m.m.to=0
  ·simp only[rlL,aK];repeat first|refine aa ?_|intro _|refine bM ?_
   refine⟨(st,sad',scap'),⟨fun q=>q.1 h0,?_,?_,hsto,by dsimp only;omega,hstd⟩,aj,by exact ag⟩
   ·intro a i;rw[if_neg (fun q=>q h0)];exact hts a i
   ·intro i;rw[if_neg (fun q=>q.1 h0),Int.add_zero]
  have h0' : 0<m.m.to:=ac;obtain⟨o1,o2⟩:=hstk m.m.to m.m.item;have hcl:=hts m.m.to m.m.item;rw[if_neg h0];refine G.ent (L':=stkP (dG st m.m.to m.m.item)::rlL b S.shard { y with stks:=st,sad:=sad',scap:=scap' } (obj b7 bz [ab (S.shard*4294967296+(y.flows.length:Int)),ab (S.shard*4294967296+(y.steps.length:Int)),ab s.kind,ab s.tick,ab s.actor,ab m.m.frm,ab m.m.to,ab m.m.item,ab m.m.n,.slice pad pts.length pcap,.slice mad (du (s.m.at (aR S)) W m.m).length mcap]::isl (encZ .i64) 1 mad (du (s.m.at (aR S)) W m.m)::isl an 3 pad pts::obj b4 bh (aJ s)::obj b5 tMv (aM m)::L)) ?_ ?_
  ·simp only[rlL,aK];refine(Ent.at (A:=allP rsP st) (oM m.m.to m.m.item)).trans ?_;exact ag
  simp only[rlL,aK];repeat first|refine aa ?_|intro _|refine bM ?_
  refine GPW.ef (Ef.d7 (mN (b:=b) (sh:=S.shard) (x:={ y with stks:=st,sad:=sad',scap:=scap' }) m.m.to m.m.item (by dsimp only;omega)) rfl) ae ?_;rintro _ _⟨rfl,rfl⟩;dsimp only;rw[←hcl] at o1 o2 ⊢;generalize hsk:dG st m.m.to m.m.item=sk at *
  have hlot:LotOk (S.shard*4294967296+(y.flows.length:Int),0,m.m.n):=by
   unfold LotOk;dsimp only;omega
  have hpl:=nS (f:=S.shard*4294967296+(y.flows.length:Int)) (n:=m.m.n) o2 hn1;have hpll:(be sk.lots (S.shard*4294967296+(y.flows.length:Int),0,m.m.n)).length=sk.lots.length+1:=by rw[hpl];simp
  repeat first|refine aa ?_|intro _|refine bM ?_
  refine GPW.ent (Ent.at (A:=stkP sk) (Ent.refl _)) ?_;refine GPW.ef (Ef.d7 (kU sk.ad sk.lots.length sk.cap sk.lots (S.shard*4294967296+(y.flows.length:Int),0,m.m.n) rfl ac (fun q hq=>(o2 q hq).w) hlot.w) rfl) ae ?_;rintro _ _⟨ad2,c2,rfl,rfl⟩;by_cases hbl:4096≤sk.lots.length
  ·rw[if_pos hbl];repeat first|refine aa ?_|intro _|refine bM ?_
   exact KX.d7 ai ag ⟨{ y with stks:=st,sad:=sad',scap:=scap' },rfl,⟨⟨rfl,rfl,rfl,rfl,fun q=>q⟩,fun q=>absurd (show(4:Int)=0 from q) ac⟩,rfl⟩
  repeat first|refine aa ?_|intro _|refine bM ?_
  refine GO.ent (L':=rlL b S.shard { y with stks:=st,sad:=sad',scap:=scap' } (stkP ⟨ad2,c2,be sk.lots (S.shard*4294967296+(y.flows.length:Int),0,m.m.n)⟩::obj b7 bz [ab (S.shard*4294967296+(y.flows.length:Int)),ab (S.shard*4294967296+(y.steps.length:Int)),ab s.kind,ab s.tick,ab s.actor,ab m.m.frm,ab m.m.to,ab m.m.item,ab m.m.n,.slice pad pts.length pcap,.slice mad (du (s.m.at (aR S)) W m.m).length mcap]::isl (encZ .i64) 1 mad (du (s.m.at (aR S)) W m.m)::isl an 3 pad pts::obj b4 bh (aJ s)::obj b5 tMv (aM m)::L)) (by
   refine(Ent.frz ad2).trans ?_;simp only[rlL,aK];exact ag) ?_
  refine GO.ef (Ef.d7 (nF b S.shard { y with stks:=st,sad:=sad',scap:=scap' } m.m.to m.m.item ⟨ad2,c2,be sk.lots (S.shard*4294967296+(y.flows.length:Int),0,m.m.n)⟩ (by dsimp only;omega)) rfl) ae ?_;rintro _ _⟨ad',cap',rfl⟩;simp only[rlL,aK];repeat first|refine aa ?_|intro _|refine bM ?_
  refine⟨(rset st m.m.to m.m.item ⟨ad2,c2,be sk.lots (S.shard*4294967296+(y.flows.length:Int),0,m.m.n)⟩,ad',cap'),⟨fun q=>hbl q.2,?_,?_,?_,qG _ _ _ _,oK hstd⟩,aj,by exact ag⟩
  ·intro a i;dsimp only;rw[if_pos h0,nG];unfold upd2;rw[←hfid];split
   ·rfl
   ·exact hts a i
  ·intro i;dsimp only;rw[oJ,hsk];by_cases hq:i=m.m.item
   ·rw[if_pos hq,if_pos ⟨h0,hq⟩];dsimp only;rw[nQ];dsimp only;omega
   ·rw[if_neg hq,if_neg (fun q=>hq q.2)]
  ·intro u hu;rcases qF hu with h|h
   ·exact hsto u h
   ·rw[h];dsimp only;exact⟨ac,nR o2 hlot.w⟩
 rintro⟨st2,sad2,scap2⟩ ⟨hnl,hts2,hsum2,hok2,hlen2,hdist2⟩;dsimp only at hnl hts2 hsum2 hok2 hlen2 hdist2 ⊢;have hnf:fq S.shard S.flows.length (bK S.cat) (s.m.at (aR S)) W m.m=⟨cN S.shard S.flows.length W,aR S,s.kind,s.tick,s.actor,m.m.frm,m.m.to,m.m.item,m.m.n,pts,du (s.m.at (aR S)) W m.m⟩:=by unfold fq;rw[hpts];rfl
 generalize fq S.shard S.flows.length (bK S.cat) (s.m.at (aR S)) W m.m=fl at *
 have hcell:aL (flV fl pad pcap mad mcap)=[ab (S.shard*4294967296+(y.flows.length:Int)),ab (S.shard*4294967296+(y.steps.length:Int)),ab s.kind,ab s.tick,ab s.actor,ab m.m.frm,ab m.m.to,ab m.m.item,ab m.m.n,.slice pad pts.length pcap,.slice mad (du (s.m.at (aR S)) W m.m).length mcap]:=by
  rw[hnf,hfid,hsid];rfl
 have hflm:fl.made=du (s.m.at (aR S)) W m.m:=by rw[hnf]
 have hflp:fl.parts=pts:=by rw[hnf]
 have hfls:fl.step=aR S:=by rw[hnf]
 have hflt:fl.to=m.m.to:=by rw[hnf]
 have hfli:fl.id=cN S.shard S.flows.length W:=by rw[hnf]
 have hsnk:=rB (aR S) y.flows (flV fl pad pcap mad mcap);rw[←hcell,←hflm,←hflp];simp only[rlL,aK];repeat first|refine aa ?_|intro _|refine bM ?_
 refine GPW.ef (Ef.d8 (enc:=aL) (e:=flV fl pad pcap mad mcap) rfl rfl rfl rfl rfl (by rfl) (fP _) ac ac) ae ?_;rintro _ _⟨fad2,fcap2,rfl,rfl⟩;repeat first|refine aa ?_|intro _|refine bM ?_
 have hy' : RW S { y with stks:=st2,sad:=sad2,scap:=scap2,flows:=y.flows++[flV fl pad pcap mad mcap],fad:=fad2,fcap:=fcap2 } ⟨if m.m.to≠0 then upd2 (gStk (bK S.cat) W m.m) m.m.to m.m.item (be (gStk (bK S.cat) W m.m m.m.to m.m.item) (cN S.shard S.flows.length W,0,m.m.n)) else gStk (bK S.cat) W m.m,upd W.tot m.m.item (dd W m.m),W.flows++[fl],if m.m.to=0 then W.sunk++[cN S.shard S.flows.length W] else W.sunk⟩:=by
  refine⟨hR.cat,hR.catB,hR.steps,?_,?_,?_,hok2,?_,hdist2,?_⟩
  ·dsimp only;rw[aZ,hR.flows,aH];rfl
  ·intro a i;dsimp only;rw[hts2];split<;>rfl
  ·intro i;dsimp only;rw[hsum2,hsum];unfold upd dd;by_cases hq:i=m.m.item
   ·subst hq;rw[if_pos rfl];by_cases q1:m.m.frm=0
    ·have q2:m.m.to≠0:=fun q=>hne (q1.trans q.symm);rw[if_neg (fun q=>q.1 q1),if_pos ⟨q2,rfl⟩,if_pos q1,if_neg q2];omega
    ·by_cases q2:m.m.to=0
     ·rw[if_pos ⟨q1,rfl⟩,if_neg (fun q=>q.1 q2),if_neg q1,if_pos q2];omega
     ·rw[if_pos ⟨q1,rfl⟩,if_pos ⟨q2,rfl⟩,if_neg q1,if_neg q2];omega
   ·rw[if_neg hq,if_neg (fun q=>hq q.2),if_neg (fun q=>hq q.2)];omega
  ·simp only[az,bD,cH];omega
  ·dsimp only;rw[hsnk];dsimp only[flV];rw[hfls,hflt,hfli,hR.sunk];by_cases q:m.m.to=0
   ·rw[if_pos ⟨rfl,q⟩,if_pos q]
   ·rw[if_neg (fun x=>q x.2),if_neg q]
 have hent:Ent (isl (encZ .i64) 1 mad fl.made::isl an 3 pad fl.parts::obj b tRL (aK S.shard { y with stks:=st2,sad:=sad2,scap:=scap2,flows:=y.flows++[flV fl pad pcap mad mcap],fad:=fad2,fcap:=fcap2 })::osl gg 3 tRS sad2 scap2 st2::osl aL 11 bz fad2 fcap2 (y.flows++[flV fl pad pcap mad mcap])::osl aJ 7 bh y.tad y.tcap y.steps::catP y.cat::allP rsP st2::allP flP y.flows::allP bA y.steps::L) (rlL b S.shard { y with stks:=st2,sad:=sad2,scap:=scap2,flows:=y.flows++[flV fl pad pcap mad mcap],fad:=fad2,fcap:=fcap2 } L):=by
  refine(Ent.at (A:=isl an 3 pad fl.parts) (Ent.refl _)).trans ?_;refine(Ent.at (A:=isl (encZ .i64) 1 mad fl.made) (Ent.refl _)).trans ?_;refine Ent.trans (B:=isl an 3 pad fl.parts::isl (encZ .i64) 1 mad fl.made::allP flP y.flows::obj b tRL (aK S.shard { y with stks:=st2,sad:=sad2,scap:=scap2,flows:=y.flows++[flV fl pad pcap mad mcap],fad:=fad2,fcap:=fcap2 })::osl gg 3 tRS sad2 scap2 st2::osl aL 11 bz fad2 fcap2 (y.flows++[flV fl pad pcap mad mcap])::osl aJ 7 bh y.tad y.tcap y.steps::catP y.cat::allP rsP st2::allP bA y.steps::L) ag ?_;refine(Ent.f7 (bT _ _ _ _) (bT _ _ _ _)).trans ?_;refine(mL (f:=flP) (e:=flV fl pad pcap mad mcap) lK).trans ?_;simp only[rlL];exact ag
 have hcapN:kI y.flows→kI (y.flows++[flV fl pad pcap mad mcap]):=fun hq f hf=>by
  rcases List.mem_append.1 hf with h1|h1
  ·exact hq f h1
  ·rw[List.mem_singleton.1 h1];dsimp only[flV];intro k1 k2;rw[hflp];refine hcp5 ?_ ?_
   ·rw[hnf] at k1;exact k1
   ·rw[hnf] at k2;exact k2
 by_cases h0:m.m.to=0
 ·rw[if_pos h0];rw[if_neg (fun q=>q h0),if_pos h0] at hy';exact KX.d7 ai (Ent.trans ag hent) ⟨{ y with stks:=st2,sad:=sad2,scap:=scap2,flows:=y.flows++[flV fl pad pcap mad mcap],fad:=fad2,fcap:=fcap2 },rfl,⟨⟨rfl,rfl,rfl,rfl,hcapN⟩,fun _=>hy'⟩,rfl⟩
 ·rw[if_neg h0,if_neg (fun q=>hnl ⟨h0,q⟩)];rw[if_pos h0,if_neg h0] at hy';exact KX.d7 ai (Ent.trans ag hent) ⟨{ y with stks:=st2,sad:=sad2,scap:=scap2,flows:=y.flows++[flV fl pad pcap mad mcap],fad:=fad2,fcap:=fcap2 },rfl,⟨⟨rfl,rfl,rfl,rfl,hcapN⟩,fun _=>hy'⟩,rfl⟩
def mvK:List MvM→Nat
 | []=>0
 | m::ms=>(m.parts.length+1)+mvK ms
theorem lJ:∀(a b:List MvM),mvK (a++b)=mvK a+mvK b
 | [],b=>by show mvK b=0+mvK b;omega
 | m::a,b=>by
  have:=lJ a b
  show(m.parts.length+1)+mvK (a++b)=(m.parts.length+1)+mvK a+mvK b;omega
theorem wg{ms:List MvM}{i:Nat}(h:i<ms.length):mvK (ms.take (i+1))=mvK (ms.take i)+(ms[i]!.parts.length+1):=by
 rw[aC h,lJ,getElem!_of h];rfl
theorem CR(ms:List MvM)(i:Nat):mvK (ms.take i)≤mvK ms:=by
 have h:=lJ (ms.take i) (ms.drop i);rw[fi] at h;omega
def dN(sh:Int)(fl:List FlM)(mix:Int→Bool)(s:StM)(W:Wk):List MvM→Int×Wk
 | []=>(0,W)
 | m::ms=>if(dq sh fl mix s W m).1=0 then dN sh fl mix s (dq sh fl mix s W m).2 ms else((dq sh fl mix s W m).1,W)
noncomputable def gTry(S:LedM)(s:StM):Int×Wk :=
 if 65536≤S.steps.length then(4,wk0 S)
 else if ¬fL S.cat S.now s then(1,wk0 S)
 else dN S.shard S.flows (bK S.cat) (s.at (aR S)) (wk0 S) s.moves
noncomputable def gJ(S:LedM)(s:StM):LedM:={ S with stk:=(gTry S s).2.stk,tot:=(gTry S s).2.tot,steps:=S.steps++[s.at (aR S)],flows:=S.flows++(gTry S s).2.flows }
noncomputable def cT(S:LedM)(s:StM):LedM:=if(gTry S s).1=0 then gJ S s else S
noncomputable def gRes(S:LedM)(s:StM):Int:=if(gTry S s).1=0 then aR S else 0
structure LedG (k:Nat) (S:LedM):Prop where
 shard:0≤S.shard∧S.shard<12
 steps:S.steps.length≤65536
 flows:S.flows.length≤64*S.steps.length
 stk:∀a i,StkG k (S.shard*4294967296+S.flows.length) (S.stk a i)
 tot:∀i,-((S.flows.length:Int)*1099511627776)≤S.tot i∧S.tot i≤1099511627776
 fl:FlG S.flows
theorem zZ{k:Nat}{S:LedM}(h:LedG k S):WkG S.shard S.flows (k+mvK ([]:List MvM)) (wk0 S):=by
 have e:cN S.shard S.flows.length (wk0 S)=S.shard*4294967296+S.flows.length:=by
  show S.shard*4294967296+(S.flows.length:Int)+((0:Nat):Int)=_;omega
 refine⟨fun a i=>by rw[e];exact h.stk a i,fun i=>?_,aB _,fun f hf=>by cases hf⟩;have:=h.tot i
 show -(((S.flows.length:Int)+((0:Nat):Int))*1099511627776)≤S.tot i∧S.tot i≤1099511627776;omega
theorem tY{sh:Int}{fl:List FlM}{mix:Int→Bool}{s:StM}(hsh:0≤sh):∀{ms:List MvM} {W:Wk} {k:Nat},WkG sh fl k W→(∀m∈ms,MvG m)→k+mvK ms≤2000→(dN sh fl mix s W ms).1=0→WkG sh fl (k+mvK ms) (dN sh fl mix s W ms).2∧(dN sh fl mix s W ms).2.flows.length=W.flows.length+ms.length
 | [],_,_,h,_,_,_=>⟨h,rfl⟩
 | m::ms,W,k,h,hm,hk,he=>by
  have e:dN sh fl mix s W (m::ms)=if(dq sh fl mix s W m).1=0 then dN sh fl mix s (dq sh fl mix s W m).2 ms else((dq sh fl mix s W m).1,W):=rfl;have ek:mvK (m::ms)=(m.parts.length+1)+mvK ms:=rfl;rw[e] at he ⊢;by_cases h1:(dq sh fl mix s W m).1=0
  ·rw[if_pos h1] at he ⊢;obtain⟨g1,g2⟩:=qW hsh h (hm m aw) ac h1;obtain⟨i1,i2⟩:=tY hsh (ms:=ms) g1 (fun x hx=>hm x (av _ hx)) ac he;refine⟨by rw[ek,←dH,←dH];exact i1,?_⟩;rw[i2,g2,az,bC,bD];omega
  ·rw[if_neg h1] at he;exact absurd he h1
theorem qr{sh:Int}{fl:List FlM}{mix:Int→Bool}{s:StM}:∀(ms:List MvM) (W:Wk),(∀f∈W.flows,f.step=s.id)→∀f∈(dN sh fl mix s W ms).2.flows,f.step=s.id
 | [],_,h=>h
 | m::ms,W,h=>by
  have e:dN sh fl mix s W (m::ms)=if(dq sh fl mix s W m).1=0 then dN sh fl mix s (dq sh fl mix s W m).2 ms else((dq sh fl mix s W m).1,W):=rfl;rw[e];split
  ·refine qr ms _ ?_
   have hn:∀f∈W.flows++[fq sh fl.length mix s W m],f.step=s.id:=fun f hf=>by
    rcases List.mem_append.1 hf with h1|h1
    ·exact h f h1
    ·rw[List.mem_singleton.1 h1];rfl
   unfold dq;split
   ·exact h
   ·split
    ·exact h
    ·split
     ·exact hn
     ·split
      ·exact h
      ·exact hn
  ·exact h
theorem Dq{S:LedM}{s:StM}:∀f∈(gTry S s).2.flows,f.step=aR S:=by
 unfold gTry;split
 ·intro f hf;cases hf
 ·split
  ·intro f hf;cases hf
  ·exact qr (s:=s.at (aR S)) s.moves (wk0 S) (fun f hf=>by cases hf)
theorem Bv{S:LedM}{s:StM}:aR (gJ S s)=aR S+1:=by
 unfold aR gJ;simp only[az,bD,cH];omega
theorem Dn{S:LedM}{s:StM}(hp:fL S.cat S.now s)(h0:0≤S.now):0≤(gJ S s).now:=by
 unfold LedM.now gJ;simp only[List.getLast?_append,List.getLast?_singleton];have:=hp.2.2.1
 show 0≤s.tick;omega
theorem Ek{c:CatM}{now:Int}{s:StM}(h:fL c now s):∀m∈s.moves,MvG m:=fun m hm=>by
 have hfit:=h.2.2.2.2.1 m hm;refine⟨hfit.1.2.1,hfit.1.2.2.1,?_⟩;have h3:=hfit.2;split at h3
 ·exact .inr h3
 ·exact .inl (aW h3)
theorem FY{k:Nat}{S:LedM}{s:StM}(h:LedG k S)(hk:k+mvK s.moves≤2000):LedG (k+mvK s.moves) (cT S s):=by
 unfold cT;by_cases he:(gTry S s).1=0
 case neg =>
  rw[if_neg he];exact⟨h.shard,h.steps,h.flows,fun a i=>(h.stk a i).mono ac (bu _),h.tot,h.fl⟩
 rw[if_pos he];have hsl:=h.steps;have hfl:=h.flows;by_cases h1:65536≤S.steps.length
 ·have e:gTry S s=(4,wk0 S):=by unfold gTry;rw[if_pos h1]
  rw[e] at he;exact absurd (show(4:Int)=0 from he) ae
 by_cases h2:fL S.cat S.now s
 case neg =>
  have e:gTry S s=(1,wk0 S):=by unfold gTry;rw[if_neg h1,if_pos h2]
  rw[e] at he;exact absurd (show(1:Int)=0 from he) ae
 have e:gTry S s=dN S.shard S.flows (bK S.cat) (s.at (aR S)) (wk0 S) s.moves:=by unfold gTry;rw[if_neg h1,if_neg (fun q=>q h2)]
 have hl64:=h2.2.2.2.1;rw[e] at he;obtain⟨g1,g2⟩:=tY h.shard.1 (zZ h) (Ek h2) (by show k+0+_≤_;omega) he;unfold gJ;rw[e];have e0:(wk0 S).flows.length=0:=rfl;rw[e0,de] at g2
 have hid:cN S.shard S.flows.length (dN S.shard S.flows (bK S.cat) (s.at (aR S)) (wk0 S) s.moves).2=S.shard*4294967296+((S.flows++(dN S.shard S.flows (bK S.cat) (s.at (aR S)) (wk0 S) s.moves).2.flows).length:Int):=by
  unfold cN;rw[az];omega
 refine⟨h.shard,?_,?_,fun a i=>?_,fun i=>?_,fun f hf=>?_⟩
 ·show(S.steps++[_]).length≤_;rw[az,bC];omega
 ·show(S.flows++_).length≤64*(S.steps++[_]).length;rw[az,az,bC,g2];omega
 ·dsimp only;rw[←hid];exact g1.stk a i
 ·have:=g1.tot i
  dsimp only;rw[az];omega
 ·rcases List.mem_append.1 (show f∈S.flows++_ from hf) with q|q
  ·exact h.fl f q
  ·exact g1.flows f q
structure StInG (s:StV):Prop where
 len:s.moves.length≤1000000
 rule:I64 s.rule
 parts:∀m∈s.moves,m.m.parts.length≤9223372036854775807
 cap:∀m∈s.moves,m.m.parts.length≤m.pcap
 bd:∀m∈s.moves,∀p∈m.m.parts,p.1≤9223372036854775807
abbrev xZ:List Stp:=[.ev 0,.ev 1,.ev 2,.ev 3,.ev 4,.ev 5,.ev 6,.ef 7,.ev 8]
abbrev xY:List Stp:=[.ev 0,.ev 1,.ev 2,.ev 3,.ev 4,.ev 5,.ev 6,.ev 7,.ev 8,.ev 9,.ev 10,.ev 11,.ef 12]
abbrev xX:List Stp:=[.ev 0,.ev 1,.ev 2,.ev 3,.ev 4,.ev 5,.ef 6,.ef 7,.ev 8,.ev 9,.ef 10]
theorem ey{φ ψ:Prop}(k:ψ)(h:Hid ψ→φ:=by intro k;(with_reducible apply G.d8);first|refine G.d7 (N:=79) (id:=10) xZ mixed ap (Hid.out k)|refine G.d7 (N:=79) (id:=15) xY mixed ap (Hid.out k)|refine G.d7 (N:=79) (id:=16) xX mixed ap (Hid.out k)):φ:=h ⟨k⟩
theorem qf{L:LH}(b:Nat)(S:LedM)(k:Nat)(hS:LedG k S)(hc:S.cat.Ok)(hg:CatGood S.cat)(s:StV)(hs:StInG s)(hk:k+mvK s.m.moves≤2000)(x:RLX)(hF:RF S x) :
  Tri ah 38 #[au b,.agg (aJ s).toArray] (rlL b S.shard x (stM s::stP s::L)) (fun v L'=>v=.tuple #[ab (gRes S s.m),ab (gTry S s.m).1]∧∃x',RF (cT S s.m) x'∧((gTry S s.m).1=0→x'.steps=x.steps++[s.at (aR S)])∧((gTry S s.m).1≠0→x'.steps=x.steps)∧(kI x.flows→kI x'.flows)∧L' = rlL b S.shard x' (stM s::stP s::L)):=by
 obtain⟨hsh1,hsh2⟩:=hS.shard;have hsl:=hS.steps;have hfl:=hS.flows;have hml:=hs.len;refine Tri.body (args:=[au b,.agg (aJ s).toArray]) 79 en38 Tryz.func38 rfl rfl rfl (by simp) ?_;simp only[rlL];have hxs:x.steps.length=S.steps.length:=by rw[←hF.steps];simp
 have hxf:x.flows.length=S.flows.length:=by rw[←hF.flows];simp
 have hxl:=hF.len;have hcm:=hF.cat;have hnow:=FD hF;have hn0:=hF.now;have hid:S.shard*4294967296+(x.steps.length:Int)=aR S:=by unfold aR;rw[hxs]
 by_cases h1:65536≤S.steps.length
 ·have e:gTry S s.m=(4,wk0 S):=by unfold gTry;rw[if_pos h1]
  have e1:cT S s.m=S:=if_neg (by rw[e];dsimp only;omega);have e2:gRes S s.m=0:=if_neg (by rw[e];dsimp only;omega);rw[e1,e2,e];repeat first|refine aa ?_|intro _|refine ey ?_
  exact KX.d7 ai ag ⟨rfl,x,hF,fun q=>absurd (show(4:Int)=0 from q) ae,fun _=>rfl,fun q=>q,rfl⟩
 repeat first|refine aa ?_|intro _|refine ey ?_
 rename_i b3;refine GO.ent (L':=catP x.cat::stP s::rlL b S.shard x (obj b3 bh (aJ s)::stM s::stP s::L)) ?_ ?_
 ·refine(Ent.at (A:=catP x.cat) (Ent.dup (jQ x.cat).1)).trans ?_;refine(Ent.at (A:=stP s) (Ent.dup (fR _ _))).trans ?_;simp only[rlL];exact ag
 simp only[rlL];refine GO.ef (Ef.d7 (xp (b:=b) (sh:=S.shard) (x:=x) s (hcm▸hg) (hcm▸hc) hF.catB ac hml hs.parts hs.rule) rfl) ae ?_;rintro _ _⟨rfl,rfl⟩;rw[hcm,hnow];by_cases h2:fL S.cat S.now s.m
 case neg =>
  have e:gTry S s.m=(1,wk0 S):=by unfold gTry;rw[if_neg h1,if_pos h2]
  have e1:cT S s.m=S:=if_neg (by rw[e];dsimp only;omega);have e2:gRes S s.m=0:=if_neg (by rw[e];dsimp only;omega);rw[e1,e2,e,aF h2];repeat first|refine aa ?_|intro _|refine ey ?_
  exact KX.d7 ai ag ⟨rfl,x,hF,fun q=>absurd (show(1:Int)=0 from q) ae,fun _=>rfl,fun q=>q,rfl⟩
 have e:gTry S s.m=dN S.shard S.flows (bK S.cat) (s.m.at (aR S)) (wk0 S) s.m.moves:=by unfold gTry;rw[if_neg h1,if_neg (fun h=>h h2)]
 rw[aU h2];have hl64:s.moves.length≤64:=by have:=h2.2.2.2.1.2;simpa [StV.m] using this
 repeat first|refine aa ?_|intro _|refine ey ?_
 refine GO.ent (L':=rlL b S.shard x (obj b3 bh (aJ s)::stM s::stP s::L)) (by simp only[rlL];exact ag) ?_;refine GO.ef (Ef.d7 (xu b S.shard x ac ac ac) rfl) ae ?_;rintro _ _⟨bw,xw,rfl,⟨w1,w2,w3,w4⟩,rfl⟩;rw[w2,w3];have hsunk0:gu (aR S) x.flows=[]:=Ck (fun f hf=>hF.fstep _ (by rw[←hF.flows];exact alStd0List_mem_map_of_mem hf));have hR0:RW S x (wk0 S):=⟨hF.cat,hF.catB,hF.steps,by rw[hF.flows];exact(ba _).symm,hF.lots,hF.sum,hF.ok,hF.len,hF.dist,hsunk0⟩;simp only[rlL,aK];repeat first|refine aa ?_|intro _|refine ey ?_
 refine G.loop (α:=Nat×RLX×Wk) (fun g=>g.1≤s.moves.length∧RW S g.2.1 g.2.2∧WkG S.shard S.flows (k+mvK (s.m.moves.take g.1)) g.2.2∧g.2.2.flows.length=g.1∧(g.2.1.cat=x.cat∧g.2.1.steps=x.steps∧g.2.1.tad=x.tad∧g.2.1.tcap=x.tcap∧(kI x.flows→kI g.2.1.flows))∧dN S.shard S.flows (bK S.cat) (s.m.at (aR S)) (wk0 S) s.m.moves=dN S.shard S.flows (bK S.cat) (s.m.at (aR S)) g.2.2 (s.m.moves.drop g.1))
  (fun g=>[(0,au b),(3,au b3),(4,ab 0),(5,ab 0),(7,au bw),(8,ab (g.1:Int))])
  (fun g=>obj bw tRL (aK S.shard xw)::osl gg 3 tRS xw.sad xw.scap x.stks::osl aL 11 bz xw.fad xw.fcap x.flows::allP rsP x.stks::allP flP x.flows::rlL b S.shard g.2.1 (obj b3 bh (aJ s)::stM s::stP s::L)) (fun g=>s.moves.length - g.1) (0,x,wk0 S) ⟨ao _,hR0,zZ hS,rfl,⟨rfl,rfl,rfl,rfl,fun q=>q⟩,rfl⟩ aj ?_ ?_
 ·refine(Ent.at (A:=allP rsP x.stks) (Ent.dup (fR _ _))).trans ?_;refine(Ent.at (A:=allP flP x.flows) (Ent.dup (fR _ _))).trans ?_;simp only[rlL,aK];exact ag
 rintro⟨i,y,W⟩ ⟨hi,hR,hO,hWl,⟨y1,y2,y3,y4,y5⟩,hmv⟩;dsimp only at hi hR hO hWl y1 y2 y3 y4 y5 hmv ⊢
 have hyf:y.flows.length=S.flows.length+W.flows.length:=by
  have:=congrArg List.length hR.flows
  rwa [aG,az] at this
 have hys:y.steps.length=S.steps.length:=by rw[y2];exact hxs
 by_cases hlt:i<s.moves.length
 case neg =>
  have hdr:s.m.moves.drop i=[]:=bP (by show(s.moves.map MvV.m).length≤i;rw[aG];omega);rw[hdr] at hmv;have e3:gTry S s.m=(0,W):=by rw[e,hmv];rfl
  have he:(gTry S s.m).1=0:=by rw[e3]
  have e1:cT S s.m=gJ S s.m:=if_pos he;have e2:gRes S s.m=aR S:=if_pos he;have hid2:S.shard*4294967296+(y.steps.length:Int)=aR S:=by rw[y2];exact hid
  have hp2:(gJ S s.m).flows=S.flows++W.flows:=by unfold gJ;rw[e3]
  rw[e1,e2,he];have henc:([ab (S.shard*4294967296+(y.steps.length:Int)),ab s.kind,ab s.actor,ab s.tick,ab s.rule,ab s.times,.slice s.mad s.moves.length s.mcap]:LV)=aJ (s.at (aR S)):=by rw[←hid2];rfl
  simp only[rlL,aK];repeat first|refine aa ?_|intro _|refine ey ?_
  refine GPW.ef (Ef.d8 (enc:=aJ) (e:=s.at (aR S)) rfl rfl henc rfl rfl (by rfl) (henc▸jd _) ac ac) ae ?_;rintro _ _⟨tad2,tcap2,rfl,rfl⟩;repeat first|refine aa ?_|intro _|refine ey ?_
  rw[hid2];refine KX.d7 ai ?_ ⟨rfl,{ y with steps:=y.steps++[s.at (aR S)],tad:=tad2,tcap:=tcap2 },⟨hR.cat,hR.catB,?_,?_,?_,?_,hR.ok,hR.len,hR.dist,?_,Dn h2 ac⟩,fun _=>by dsimp only;rw[y2],fun q=>absurd rfl q,y5,rfl⟩
  ·refine(Ent.at (A:=stM s) (Ent.dup (nz s).1)).trans ?_;refine(Ent.d7 (Ent.at (A:=stP s) (Ent.dup (fR _ _)))).trans ?_;refine Ent.trans (B:=stM s::stP s::allP bA y.steps::obj b tRL (aK S.shard { y with steps:=y.steps++[s.at (aR S)],tad:=tad2,tcap:=tcap2 })::osl gg 3 tRS y.sad y.scap y.stks::osl aL 11 bz y.fad y.fcap y.flows::osl aJ 7 bh tad2 tcap2 (y.steps++[s.at (aR S)])::catP y.cat::allP rsP y.stks::allP flP y.flows::stM s::stP s::L) ag ?_;refine(Ent.f7 (nz s) (cQ iA)).trans ?_;refine(mL (f:=bA) (e:=s.at (aR S)) lR).trans ?_;simp only[rlL];exact ag
  ·show(y.steps++[s.at (aR S)]).map StV.m=S.steps++[s.m.at (aR S)];rw[aZ,hR.steps];rfl
  ·show y.flows.map FlV.m=(gJ S s.m).flows;rw[hp2,hR.flows]
  ·intro a i;show(dG y.stks a i).lots=(gTry S s.m).2.stk a i;rw[e3];exact hR.lots a i
  ·intro i;show rsum y.stks i=(gTry S s.m).2.tot i;rw[e3];exact hR.sum i
  ·intro f hf;rw[Bv];rcases List.mem_append.1 (show f∈S.flows++(gTry S s.m).2.flows from hf) with h3|h3
   ·have:=hF.fstep f h3
    omega
   ·have:=Dq f h3
    omega
 have hii:(i:Int).toNat=i:=aA i;have hlt' : (i:Int).toNat<s.moves.length:=ac;have hgm:s.moves[i]!.m=s.m.moves[i]!:=(eo MvV.m hlt).symm;have hlm:i<s.m.moves.length:=by show i<(s.moves.map MvV.m).length;rw[aG];exact hlt
 have hdr:s.m.moves.drop i=s.moves[i]!.m::s.m.moves.drop (i+1):=by rw[hgm];exact fG hlm
 have hfit:=h2.2.2.2.2.1 s.moves[i]!.m (by rw[hgm];exact aI hlm)
 have hbase:pS y.cat.items.length s.moves[i]!.m:=by
  have h3:=hfit.1;rw[←hcm] at h3;rw[y1];exact h3
 have hmg:MvG s.moves[i]!.m:=⟨hfit.1.2.1,hfit.1.2.2.1,by
  have h3:=hfit.2;split at h3
  ·exact .inr h3
  ·exact .inl (aW h3)⟩
 have hmem:=aI hlt;have hkt:=wg hlm;have hkl:=CR s.m.moves (i+1);rw[←hgm] at hkt;rw[hdr] at hmv;have hmv2:dN S.shard S.flows (bK S.cat) (s.m.at (aR S)) W (s.moves[i]!.m::s.m.moves.drop (i+1))=if(dq S.shard S.flows (bK S.cat) (s.m.at (aR S)) W s.moves[i]!.m).1=0 then dN S.shard S.flows (bK S.cat) (s.m.at (aR S)) (dq S.shard S.flows (bK S.cat) (s.m.at (aR S)) W s.moves[i]!.m).2 (s.m.moves.drop (i+1)) else((dq S.shard S.flows (bK S.cat) (s.m.at (aR S)) W s.moves[i]!.m).1,W):=rfl;rw[hmv2] at hmv;have hmo:=qW (sh:=S.shard) (mix:=bK S.cat) (s:=s.m.at (aR S)) (m:=s.moves[i]!.m) hsh1 hO hmg ac;have hspec:=xq (L:=obj bw tRL (aK S.shard xw)::osl gg 3 tRS xw.sad xw.scap x.stks::osl aL 11 bz xw.fad xw.fcap x.flows::allP rsP x.stks::allP flP x.flows::obj b3 bh (aJ s)::stM s::stP s::L) b S hS.shard hsl ac hS.fl y W (k+mvK (s.m.moves.take i)) s s.moves[i]! hR hO ac ac hbase hmg (hs.cap _ hmem) (hs.bd _ hmem);generalize dq S.shard S.flows (bK S.cat) (s.m.at (aR S)) W s.moves[i]!.m=r at *;simp only[rlL,aK];repeat first|refine aa ?_|intro _|refine ey ?_
 rw[hii];refine GPW.ent (L':=rlL b S.shard y (isl an 3 s.moves[i]!.pad s.moves[i]!.m.parts::obj bw tRL (aK S.shard xw)::osl gg 3 tRS xw.sad xw.scap x.stks::osl aL 11 bz xw.fad xw.fcap x.flows::allP rsP x.stks::allP flP x.flows::obj b3 bh (aJ s)::stM s::stP s::L)) ((Ent.at (A:=stP s) (pH hlt)).trans (by simp only[rlL,aK];exact ag)) ?_;refine GPW.ef (Ef.d7 (hspec) rfl) ae ?_;rintro _ _⟨y',rfl,⟨⟨z1,z2,z3,z4,z5⟩,hz⟩,rfl⟩;by_cases hr:r.1=0
 ·rw[if_pos hr] at hmv;simp only[rlL,aK];repeat first|refine aa ?_|intro _|refine ey ?_
  refine⟨(i+1,y',r.2),⟨by dsimp only;omega,hz hr,(by dsimp only;rw[hkt,←dH,←dH];exact(hmo hr).1),(by dsimp only;rw[(hmo hr).2,az,bC,hWl]),⟨z1.trans y1,z2.trans y2,z3.trans y3,z4.trans y4,fun q=>z5 (y5 q)⟩,hmv⟩,by dsimp only;omega,?_,?_⟩
  ·dsimp only;rw[aP i];exact aj
  ·simp only[rlL,aK];exact ag
 ·rw[if_neg hr] at hmv;have e3:gTry S s.m=(r.1,W):=by rw[e,hmv]
  have hne:¬(gTry S s.m).1=0:=by rw[e3];exact hr
  have e1:cT S s.m=S:=if_neg hne;have e2:gRes S s.m=0:=if_neg hne;rw[e1,e2,e3];dsimp only;simp only[rlL,aK];repeat first|refine aa ?_|intro _|refine ey ?_
  refine KX.d7 ai ?_ ⟨rfl,{ y' with stks:=x.stks,sad:=xw.sad,scap:=xw.scap,flows:=x.flows,fad:=xw.fad,fcap:=xw.fcap },⟨?_,?_,?_,hF.flows,hF.lots,hF.sum,hF.ok,hF.len,hF.dist,hF.fstep,hF.now⟩,fun q=>absurd q hr,fun _=>z2.trans y2,fun q=>q,rfl⟩
  ·simp only[rlL,aK];rw[show x.stks.length=xw.stks.length by rw[w2],show x.flows.length=xw.flows.length by rw[w3]];exact ag
  ·show y'.cat.m=_;rw[z1,y1];exact hF.cat
  ·show y'.cat.B;rw[z1,y1];exact hF.catB
  ·show y'.steps.map StV.m=_;rw[z2,y2];exact hF.steps
end
end Go.Proofs.YtommnllbflbdmaaGreatDoor
namespace Go.V
section
section
variable {P:Program}{N:Nat}{env:Env}{L:LH}{K:Post}{ty:TypeId}
theorem Enters.go{f:FuncId}(h:Enters P f)(args:Array Value)(w:World):(callFunc f args).run P w=.ok (.enter f args) w:=h args w
def EndR(θ:Th)(R:LH)(pr:Value→LH→Prop)(pp:List PanicEntry→LH→Prop):Ending→World→Prop
 | .returned v,w=>∃L',pr v L'∧Sat θ (L'++R) w
 | .panicked ch,w=>∃L',pp ch L'∧Sat θ (L'++R) w
 | .outgrown,_=>False
structure TriE (P:Program) (f:FuncId) (args:Array Value) (L:LH) (pr:Value→LH→Prop) (pp:List PanicEntry→LH→Prop):Prop where
 enters:Enters P f
 calls:∀θ R w,Sat θ (L++R) w→Calls P f args w (EndR θ R pr pp)
theorem TriE.mono{f:FuncId}{args:Array Value}{pr pr' : Value→LH→Prop}{pp pp' : List PanicEntry→LH→Prop}(h:TriE P f args L pr pp)(h1:∀v L,pr v L→pr' v L)(h2:∀v L,pp v L→pp' v L):TriE P f args L pr' pp' :=
 ⟨h.enters,fun θ R w s=>(h.calls θ R w s).mono fun e w' he=>by
  cases e with
  | returned v=>obtain⟨L',a,b⟩:=he;exact⟨L',h1 _ _ a,b⟩
  | panicked v=>obtain⟨L',a,b⟩:=he;exact⟨L',h2 _ _ a,b⟩
  | outgrown=>exact he⟩
theorem TriE.pre{f:FuncId}{args:Array Value}{L' : LH}{pr:Value→LH→Prop}{pp:List PanicEntry→LH→Prop}(h:TriE P f args L' pr pp)(hl:Ent L L'):TriE P f args L pr pp :=
 ⟨h.enters,fun θ R w s=>h.calls θ R w (hl θ R w s)⟩
def sB(P:Program)(N:Nat)(rs:List ResultVar)(pr:Value→LH→Prop)(pp:List PanicEntry→LH→Prop):Post:=fun e env L=>match e with
 | .ret | .normal=>∀θ R w,Sat θ (L++R) w→∃vs L',ResOk P N env L rs vs∧Sat θ (L'++R) w∧pr (resV vs) L'
 | .panic ch=>∃L',Ent L L'∧pp ch L'
 | _=>False
theorem KX.l8{rs:List ResultVar}{pr:Value→LH→Prop}{pp:List PanicEntry→LH→Prop}{vs:LV}{L' : LH}(h1:ResOk P N env L rs vs)(h2:Ent L L')(h3:pr (resV vs) L'):sB P N rs pr pp .normal env L:=fun θ R w s=>⟨vs,L',h1,h2 θ R w s,h3⟩
theorem KX.f8{rs:List ResultVar}{pr:Value→LH→Prop}{pp:List PanicEntry→LH→Prop}{ch:List PanicEntry}{L' : LH}(h2:Ent L L')(h3:pp ch L'):sB P N rs pr pp (.panic ch) env L:=⟨L',h2,h3⟩
theorem KX.e7{n:Env→LH→Prop}{ch:List PanicEntry}(h:K (.panic ch) env L):Post.seq n K (.panic ch) env L:=h
theorem KX.d9{id:Nat}{ch:List PanicEntry}(h:K (.panic ch) env L):Post.inBlock id K (.panic ch) env L:=h
theorem lw{fn:Func}{tmps:Array Value}{R:Ending→World→Prop}{θ:Th}{Y:LH}{u:FrameMode}(hu:u≠.run):∀(M:List Nat) (w:World),Sat θ (mkH M++Y) w→(∀w',Sat θ Y w'→LeavesIn Fence.wide 0 P fn tmps R [] u w')→LeavesInM Fence.wide 0 P fn tmps R (mkD M) u w
 | [],w,s,h=>h w s
 | D::M,w,s,h=>by
  have s0:Sat θ (own D (.deferred (some []))::(mkH M++Y)) w:=s;have hb:=s0.own_heap;refine⟨hu,.inl ⟨D,{ w with heap:=w.heap.setIfInBounds D (.deferred none) },rfl,?_,?_⟩⟩
  ·simp[Instr.takeDeferred,getObj,setObj,Sem.run,hb,bind,Sem.bind,pure]
  ·have hlt:D<w.heap.size:=(Array.getElem?_eq_some_iff.1 hb).1
   have s1:Sat θ (own D (.deferred none)::(mkH M++Y)) { w with heap:=w.heap.setIfInBounds D (.deferred none) }:=by
    refine s0.update ⟨s.1.tape,s.1.os,s.1.output,s.1.drawn⟩ (by simp[hlt]) ?_;intro k x hk hx;simp only[Array.getElem?_setIfInBounds];rw[if_neg (fun e=>hk e.symm)];exact hx
   exact lw hu M _ s1.tail h
theorem EnvOk.d7{fn:Func}{args:LV}(hN:fn.ntmps=N)(hN' : args.length≤N):EnvOk N (env0 args 0) { tmps:=args.toArray++Array.replicate (fn.ntmps - args.toArray.size) undef,defers:=[] }:=by
 refine⟨by simp[hN];omega,?_⟩;intro t v ht;rw[qx] at ht;simp at ht;have hlt:t<args.length:=(List.getElem?_eq_some_iff.1 ht).1;rw[Array.getElem?_append_left (by simpa using hlt)];simpa using ht
theorem TriE.body{f:FuncId}{fn:Func}{c:Code}{args:LV}{pr:Value→LH→Prop}{pp:List PanicEntry→LH→Prop}{rs:List ResultVar}(N:Nat)
  (he:Enters P f) (hf:P.funcs[f]? = some fn) (hb:fn.body=some c) (hr:fn.results=rs.toArray) (hN:fn.ntmps=N) (hN' : args.length≤N)
  (h:G P N c (env0 args 0) L (sB P N rs pr pp)):TriE P f args.toArray L pr pp:=by
 refine⟨he,fun θ R w s=>(callsIn_wide (n:=0)).1 (callsIn_of_wp_marks hf hb trivial ?_)⟩;refine wpIn_mono (h none θ R _ w (fun l hl=>by cases hl) ⟨[],EnvOk.d7 hN hN',rfl,s⟩) ?_;rintro e a' w' ⟨env',L',⟨M,ea',hm,s'⟩,hex⟩
 have s1:Sat θ (mkH M++(L'++R)) w':=s'.perm (by
  rw[←aH,←aH];exact List.perm_append_comm.append_right R)
 have hret:(∀θ R w,Sat θ (L'++R) w→∃vs L'',ResOk P N env' L' rs vs∧Sat θ (L''++R) w∧pr (resV vs) L'')→LeavesInM Fence.wide 0 P fn a'.tmps (EndR θ R pr pp) a'.defers .returning w':=by
  intro hall;rw[hm];refine lw (by simp) M w' s1 fun w₂ s₂=>?_;obtain⟨vs,L'',hvs,hent,hpost⟩:=hall θ R w₂ s₂;exact⟨_,jB (P:=P) ea' s₂ hr hvs,L'',hpost,hent⟩
 cases e with
 | ret=>exact hret hex
 | normal=>exact hret hex
 | panic ch =>
  obtain⟨L'',hent,hpost⟩:=hex;show LeavesInM Fence.wide 0 P fn a'.tmps (EndR θ R pr pp) a'.defers (.panicking ch) w';rw[hm];refine lw (by simp) M w' s1 fun w₂ s₂=>?_;exact⟨L'',hpost,hent θ R w₂ s₂⟩
 | exit id=>exact hex.elim
 | goto l=>exact hex.elim
 | outgrown=>exact hex.elim
theorem GO.panic{ops:Array Oper}{rest:List Oper}{x:Operand}{t:TypeId}{v:Value}{pos:String}{af:Array Edge}(hx:evE env x=some (.iface t v))(h:K (.panic [{ v:=.iface t v,recovered:=false }]) env L):GO P N ops (⟨none,.panic x,ty,pos,af,none⟩::rest) env L K:=by
 intro r θ Y a w hr i;refine wpListIn_plain rfl fun K' hK=>lC (fun c hc=>by cases hc) ?_
 have hrun:(execOp a.eval ⟨none,.panic x,ty,pos,af,none⟩).run P w=.halt (.panic (.iface t v)) w:=by
  simp[execOp,aO i.agr hx,Instr.panic,goPanic]
 rw[Oper.wp,hrun,Oper.upon_panic];exact⟨env,L,i,h⟩
theorem Ev.g9{t:TypeId}{x:Operand}{n:Nat}{v:Value}[ht:TyIS P t n](hx:evE env x=some v):Ev P L env (.makeInterface t x) ty (.iface t v) :=
 Ev.mk (fun θ R ρ w ea s _ _ _ _=>by
  simp[execOp,aO ea hx,Instr.makeInterface,run_underlying ht.under])
theorem Ev.B8{t xt:TypeId}{x:Operand}{n:Nat}{v:Value}[ht:TyIS P t n](hx:evE env x=some (.iface t v)):Ev P L env (.typeAssert x xt t true) ty (.tuple #[v,.bool true]) :=
 Ev.mk (fun θ R ρ w ea s _ _ _ _=>by
  simp[execOp,aO ea hx,Instr.typeAssert,run_underlying ht.under])
theorem Ev.B7{t xt:TypeId}{x:Operand}{n:Nat}{z:Value}[ht:TyIS P t n](hz:(P.info? t).map (·.zero)=some (some z))(hx:evE env x=some .nilIface):Ev P L env (.typeAssert x xt t true) ty (.tuple #[z,.bool false]) :=
 Ev.mk (fun θ R ρ w ea s _ _ _ _=>by
  cases hi:P.info? t with
  | none=>rw[hi] at hz;cases hz
  | some i =>
   rw[hi] at hz;simp at hz;simp[execOp,aO ea hx,Instr.typeAssert,run_underlying ht.under,zeroValue,typeInfo,hi,hz])
structure AtD (N:Nat) (env:Env) (L:LH) (θ:Th) (R:LH) (D:List Deferred) (a:Act) (w:World):Prop where
 eok:EnvOk N env a
 def_:a.defers=D
 sat:Sat θ (L++R) w
theorem AtD.ent{θ:Th}{R:LH}{D:List Deferred}{a:Act}{w:World}{L' : LH}(h:AtD N env L θ R D a w)(hl:Ent L L'):AtD N env L' θ R D a w:=⟨h.eok,h.def_,hl θ R w h.sat⟩
theorem Cc{ops:Array Oper}{Q:Exit→Act→World→Prop}{θ:Th}{R:LH}{D:List Deferred}{a:Act}{w:World}{rest:List Oper}{d:Nat}{op:Op}{pos:String}{af:Array Edge}{post:Value→LH→Prop}(i:AtD N env L θ R D a w)(he:Ef P L env op ty post)(hd:d<N)
  (h:∀v L' a' w',post v L'→AtD N ((d,v)::env) L' θ R D a' w'→wpList P ops Q rest a' w'):wpList P ops Q (⟨some d,op,ty,pos,af,none⟩::rest) a w :=
 wpList_plain rfl fun K' hK=>he θ R a w _ K' Q i.eok.agr i.sat rfl rfl fun v L' w' hp s'=>hK _ _ (h v L' _ w' hp ⟨i.eok.put hd _,i.def_,s'⟩)
theorem Fp{ops:Array Oper}{Q:Exit→Act→World→Prop}{θ:Th}{R:LH}{D:List Deferred}{a:Act}{w:World}{rest:List Oper}{op:Op}{pos:String}{af:Array Edge}{post:Value→LH→Prop}(i:AtD N env L θ R D a w)(he:Ef P L env op ty post)
  (h:∀v L' a' w',post v L'→AtD N env L' θ R D a' w'→wpList P ops Q rest a' w'):wpList P ops Q (⟨none,op,ty,pos,af,none⟩::rest) a w :=
 wpList_plain rfl fun K' hK=>he θ R a w _ K' Q i.eok.agr i.sat rfl rfl fun v L' w' hp s'=>hK _ _ (h v L' _ w' hp ⟨i.eok,i.def_,s'⟩)
theorem vd{ops:Array Oper}{Q:Exit→Act→World→Prop}{θ:Th}{R:LH}{D:List Deferred}{a:Act}{w:World}{rest:List Oper}{d:Nat}{op:Op}{pos:String}{af:Array Edge}{v:Value}(i:AtD N env L θ R D a w)(he:Ev P L env op ty v)(hd:d<N)
  (h:∀a' w',AtD N ((d,v)::env) L θ R D a' w'→wpList P ops Q rest a' w'):wpList P ops Q (⟨some d,op,ty,pos,af,none⟩::rest) a w :=
 Cc i he.ef hd (by rintro _ _ a' w' ⟨rfl,rfl⟩ i';exact h a' w' i')
theorem Cd{ops:Array Oper}{Q:Exit→Act→World→Prop}{θ:Th}{R:LH}{D:List Deferred}{a:Act}{w:World}{rest:List Oper}{x:Operand}{fv:Fn}{cap:Array Value}{pos:String}{af:Array Edge}(i:AtD N env L θ R D a w)(hx:evE env x=some (.func fv #[] cap))
  (h:∀a' w',AtD N env L θ R ({ target:=.fn fv cap,args:=#[] }::D) a' w'→wpList P ops Q rest a' w'):wpList P ops Q (⟨none,.defer { callee:=.value x,args:=#[],argTypes:=#[] },ty,pos,af,none⟩::rest) a w:=by
 refine wpList_plain rfl fun K' hK=>?_
 have hrun:(execOp a.eval ⟨none,.defer { callee:=.value x,args:=#[],argTypes:=#[] },ty,pos,af,none⟩).run P w=.ok (.defer { target:=.fn fv cap,args:=#[] }) w:=by
  simp[execOp,resolve,Deferred.ofValue,aO i.eok.agr hx]
 rw[Oper.wp,hrun,Oper.upon_defer];refine hK _ _ (h _ w ⟨⟨i.eok.size,i.eok.at_⟩,?_,i.sat⟩);show _::a.defers=_;rw[i.def_]
theorem Ce{ops:Array Oper}{Q:Exit→Act→World→Prop}{θ:Th}{R:LH}{D:List Deferred}{a:Act}{w:World}{rest:List Oper}{d:Nat}{x:Operand}{f:FuncId}{cap:LV}{ats:Array TypeId}{pr:Value→LH→Prop}{pp:List PanicEntry→LH→Prop}{pre R' : LH}{pos:String}{af:Array Edge}(i:AtD N env L θ R D a w)(c:TriE P f cap.toArray pre pr pp)(hx:evE env x=some (.func (.func f) #[] cap.toArray))(hL:Ent L (pre++R'))(hd:d<N)
  (h:∀v L' a' w',pr v L'→AtD N ((d,v)::env) (L'++R') θ R D a' w'→wpList P ops Q rest a' w')
  (h2:∀ch L' w',pp ch L'→AtD N env (L'++R') θ R D a w'→Q (.panic ch) a w'):wpList P ops Q (⟨some d,.call { callee:=.value x,args:=#[],argTypes:=ats },ty,pos,af,none⟩::rest) a w:=by
 refine wpList_plain rfl fun K' hK=>?_
 have hrun:(execOp a.eval ⟨some d,.call { callee:=.value x,args:=#[],argTypes:=ats },ty,pos,af,none⟩).run P w=.ok (.enter f cap.toArray) w:=by
  simp[execOp,resolve,Deferred.ofValue,invoke,aO i.eok.agr hx];exact c.enters _ _
 rw[Oper.wp,hrun,Oper.upon_enter]
 have s0:Sat θ (pre++(R'++R)) w:=by
  rw[←aH];exact hL θ R w i.sat
 refine(c.calls θ (R'++R) w s0).mono ?_;rintro e w' he;cases e with
 | returned v =>
  obtain⟨L',hp,s'⟩:=he;exact hK _ _ (h v L' _ w' hp ⟨i.eok.put hd _,i.def_,by rw[aH];exact s'⟩)
 | panicked ch =>
  obtain⟨L',hp,s'⟩:=he;exact h2 ch L' w' hp ⟨i.eok,i.def_,by rw[aH];exact s'⟩
 | outgrown=>exact he.elim
theorem Cb{ops:Array Oper}{Q:Exit→Act→List Frame→World→Prop}{cs:List Frame}{a:Act}{w:World}{rest:List Nat}{i:Nat}{o:Oper}(ho:ops[i]? = some o)(hg:o.guard=none)(h:o.wp P a w (fun a' w'=>wpOpsS P ops Q rest a' cs w') (fun e a' w'=>Q e a' cs w')):wpOpsS P ops Q (i::rest) a cs w:=by
 unfold wpOpsS;simp only[ho,Region.wanted,hg,if_true];unfold Oper.wp at h;split
 ·rename_i w' hr;rw[hr] at h;exact h.elim
 ·exact h
theorem vc{ops:Array Oper}{Q:Exit→Act→List Frame→World→Prop}{cs:List Frame}{θ:Th}{R:LH}{D:List Deferred}{a:Act}{w:World}{rest:List Nat}{i d:Nat}{op:Op}{pos:String}{af:Array Edge}{post:Value→LH→Prop}(ho:ops[i]? = some ⟨some d,op,ty,pos,af,none⟩)(s:AtD N env L θ R D a w)(he:Ef P L env op ty post)(hd:d<N)
  (h:∀v L' a' w',post v L'→AtD N ((d,v)::env) L' θ R D a' w'→wpOpsS P ops Q rest a' cs w'):wpOpsS P ops Q (i::rest) a cs w :=
 Cb ho rfl (he θ R a w _ _ _ s.eok.agr s.sat rfl rfl fun v L' w' hp s'=>h v L' _ w' hp ⟨s.eok.put hd _,s.def_,s'⟩)
theorem sE{ops:Array Oper}{Q:Exit→Act→List Frame→World→Prop}{cs:List Frame}{θ:Th}{R:LH}{D:List Deferred}{a:Act}{w:World}{rest:List Nat}{i:Nat}{op:Op}{pos:String}{af:Array Edge}{post:Value→LH→Prop}(ho:ops[i]? = some ⟨none,op,ty,pos,af,none⟩)(s:AtD N env L θ R D a w)(he:Ef P L env op ty post)
  (h:∀v L' a' w',post v L'→AtD N env L' θ R D a' w'→wpOpsS P ops Q rest a' cs w'):wpOpsS P ops Q (i::rest) a cs w :=
 Cb ho rfl (he θ R a w _ _ _ s.eok.agr s.sat rfl rfl fun v L' w' hp s'=>h v L' _ w' hp ⟨s.eok,s.def_,s'⟩)
theorem iS{ops:Array Oper}{Q:Exit→Act→List Frame→World→Prop}{cs:List Frame}{θ:Th}{R:LH}{D:List Deferred}{a:Act}{w:World}{rest:List Nat}{i d:Nat}{op:Op}{pos:String}{af:Array Edge}{v:Value}(ho:ops[i]? = some ⟨some d,op,ty,pos,af,none⟩)(s:AtD N env L θ R D a w)(he:Ev P L env op ty v)(hd:d<N)
  (h:∀a' w',AtD N ((d,v)::env) L θ R D a' w'→wpOpsS P ops Q rest a' cs w'):wpOpsS P ops Q (i::rest) a cs w :=
 vc ho s he.ef hd (by rintro _ _ a' w' ⟨rfl,rfl⟩ i';exact h a' w' i')
theorem zx{a:Act}{w:World}{d:Option Tmp}{pos:String}{af:Array Edge}:(execOp a.eval ⟨d,.call { callee:=.builtin .recover,args:=#[],argTypes:=#[] },ty,pos,af,none⟩).run P w=.ok .recover w:=by
 simp[execOp,resolve,invoke,builtin]
theorem Fo{ops:Array Oper}{Q:Exit→Act→List Frame→World→Prop}{cs cs' : List Frame}{θ:Th}{R:LH}{D:List Deferred}{a:Act}{w:World}{rest:List Nat}{i d:Nat}{v:Value}{pos:String}{af:Array Edge}(ho:ops[i]? = some ⟨some d,.call { callee:=.builtin .recover,args:=#[],argTypes:=#[] },ty,pos,af,none⟩)(s:AtD N env L θ R D a w)(hr:recoverD cs=some (v,cs'))(hd:d<N)
  (h:∀a' w',AtD N ((d,v)::env) L θ R D a' w'→wpOpsS P ops Q rest a' cs' w'):wpOpsS P ops Q (i::rest) a cs w:=by
 unfold wpOpsS;simp only[ho,Region.wanted,if_true,zx,hr];exact h _ _ ⟨s.eok.put hd _,s.def_,s.sat⟩
theorem DX{ops:Array Oper}{Q:Exit→Act→List Frame→World→Prop}{cs:List Frame}{θ:Th}{R:LH}{D:List Deferred}{a:Act}{w:World}{rest:List Nat}{i d:Nat}{pos:String}{af:Array Edge}(ho:ops[i]? = some ⟨some d,.call { callee:=.builtin .recover,args:=#[],argTypes:=#[] },ty,pos,af,none⟩)(s:AtD N env L θ R D a w)(hr:recoverD cs=none)(hd:d<N)
  (h:∀a' w',AtD N ((d,.nilIface)::env) L θ R D a' w'→wpOpsS P ops Q rest a' cs w'):wpOpsS P ops Q (i::rest) a cs w:=by
 unfold wpOpsS;simp only[ho,Region.wanted,if_true,zx,hr];exact h _ _ ⟨s.eok.put hd _,s.def_,s.sat⟩
end
end
section
section
variable {P:Program}{L:LH}{env:Env}{ty:TypeId}
theorem Ev.C7{t yt:TypeId}{x y:Operand}{k:IntKind}{a:Int}(hx:evE env x=some (ab a))(hy:evE env y=some (.int k 32)):Ev P L env (.binOp .shr t x y yt) ty (ab (a / 4294967296)):=by
 have h:=Ev.shr (P:=P) (L:=L) (ty:=ty) (t:=t) (yt:=yt) hx hy ae
 have e:a.fdiv (2 ^ min (32:Int).toNat IntKind.i64.bits)=a / 4294967296:=by
  rw[show(2:Int) ^ min (32:Int).toNat IntKind.i64.bits=4294967296 by decide];exact Int.fdiv_eq_ediv_of_nonneg a ae
 rw[e] at h;exact h
theorem Ev.m8{t yt:TypeId}{x y:Operand}{k:IntKind}{a:Int}(hx:evE env x=some (ab a))(hy:evE env y=some (.int k 32))(h0 : -2147483648≤a)(h1:a≤2147483647):Ev P L env (.binOp .shl t x y yt) ty (ab (a*4294967296)):=by
 have h:=Ev.shl (P:=P) (L:=L) (ty:=ty) (t:=t) (yt:=yt) hx hy ae
 have e:IntKind.i64.wrap (a*2 ^ min (32:Int).toNat IntKind.i64.bits)=a*4294967296:=by
  rw[show(2:Int) ^ min (32:Int).toNat IntKind.i64.bits=4294967296 by decide];exact jX ac ac
 rw[e] at h;exact h
