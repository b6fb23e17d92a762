/- Lemmas and contracts of functions. -/
import Derived.Test.YtommnllbflbdmaaGreatDoorGAuditTotalsbe
import Derived.Test.YtommnllbflbdmaaGreatDoorGAuditTotalsbd
set_option linter.all false
set_option maxHeartbeats 4000000
namespace Go.Proofs.YtommnllbflbdmaaGreatDoor
section
open Go.V
theorem CP (l:List Lot):∀ a b:List Lot,OO l (a++b)=OO l a+OO l b
 | [],b=>by show OO l b=0+OO l b;omega
 | x::a,b=>by
  have:=CP l a b
  show OV l x+OO l (a++b)=OV l x+OO l a+OO l b
  omega
theorem Df (y:Lot) (f a n m:Int) (hn:0≤n) (hm:0≤m) (hy:0≤y.2.2):ov y (f,a,n+m)=ov y (f,a,n)+ov y (f,a+n,m):=by
 unfold ov
 dsimp only
 split<;>omega
theorem wk (f a n m:Int) (hn:0≤n) (hm:0≤m):∀ l:List Lot,(∀ y∈l,LotOk y)→OV l (f,a,n+m)=OV l (f,a,n)+OV l (f,a+n,m)
 | [],_=>rfl
 | y::l,h=>by
  have hy:=h y ap
  unfold LotOk at hy
  have h1:=Df y f a n m hn hm ab
  have h2:=wk f a n m hn hm l (fun z hz=>h z (ao _ hz))
  show ov y _+OV l _=(ov y _+OV l _)+(ov y _+OV l _)
  omega
theorem wl (f a:Int):∀ l:List Lot,(∀ y∈l,LotOk y)→OV l (f,a,0)=0
 | [],_=>rfl
 | y::l,h=>by
  have h2:=wl f a l (fun z hz=>h z (ao _ hz))
  have h1:ov y (f,a,0)=0:=by
   unfold ov
   dsimp only
   split<;>omega
  show ov y _+OV l _=0
  omega
theorem CN (l:List Lot) (x:Lot):∀ (s:List Lot) (k:Nat),k<s.length→OO l (s.set k x)=OO l s - OV l s[k]! + OV l x
 | y::s,0,_=>by
  show OV l x+OO l s=OV l y+OO l s - OV l y+OV l x
  omega
 | y::s,k+1,h=>by
  have:=CN l x s k (by simpa using h)
  show OV l y+OO l (s.set k x)=OV l y+OO l s - OV l s[k]! + OV l x
  omega
theorem yZ {l:List Lot} (hl:∀ y∈l,LotOk y):∀ (r out:List Lot),(∀ z∈r,LotW z)→(∀ z∈out,LotW z)→OO l (r.foldl aR out)=OO l out+OO l r
 | [],out,_,_=>by show OO l out=OO l out+0;omega
 | x::r,out,h1,h2=>by
  have hx:=h1 x ap
  have ih:=yZ hl r (aR out x) (fun z hz=>h1 z (ao _ hz)) (pg h2 hx)
  have e:OO l (aR out x)=OO l out+OV l x:=by
   unfold aR
   by_cases c0:x.2.2=0
   ·rw [if_pos c0]
    have:=wl x.1 x.2.1 l hl
    rw [show ((x.1,x.2.1,0):Lot)=x by rw [← c0]] at this
    omega
   ·rw [if_neg c0]
    by_cases c1:out.length≠0∧jY x out[out.length - 1]!
    ·rw [if_pos c1,CN l _ out _ ab]
     have hb:=h2 _ (aG (show out.length - 1<out.length by omega))
     have hc:=lcont_iff.1 c1.2
     generalize out[out.length - 1]! = b at *
     unfold LotW at hb hx
     have:=wk b.1 b.2.1 b.2.2 x.2.2 ab ab l hl
     rw [← hc.2,← hc.1] at this
     rw [← hc.1,this]
     show OO l out - OV l b+(OV l (x.1,b.2.1,b.2.2)+OV l x)=OO l out+OV l x
     rw [show ((x.1,b.2.1,b.2.2):Lot)=b by rw [hc.1]]
     omega
    ·rw [if_neg c1,CP]
     show OO l out+(OV l x+0)=_
     omega
  show OO l (r.foldl aR (aR out x))=OO l out+(OV l x+OO l r)
  omega
theorem yY {w:Lot}:∀ {l:List Lot},(∀ q∈l,ov q w=0)→OV l w=0
 | [],_=>rfl
 | q::l,h=>by
  have h1:=h q ap
  have h2:=yY (l:=l) (fun p hp=>h p (ao _ hp))
  show ov q w+OV l w=0
  omega
theorem tw {w:Lot}:∀ {l:List Lot} {y:Lot},(∀ z∈l,LotOk z)→Apart l→y∈l→0≤w.2.2→w.1=y.1→y.2.1≤w.2.1→w.2.1+w.2.2≤y.2.1+y.2.2→OV l w=w.2.2
 | z::l,y,hl,ha,hy,h0,h1,h2,h3=>by
  obtain ⟨a1,a2⟩:=List.pairwise_cons.1 ha
  have hz:=hl z ap
  unfold LotOk at hz
  have hl2:∀ q∈l,LotOk q:=fun q hq=>hl q (ao _ hq)
  show ov z w+OV l w=w.2.2
  rcases List.mem_cons.1 hy with rfl|hy
  ·have e1:ov y w=w.2.2:=by
    unfold ov
    rw [if_pos h1.symm]
    omega
   have e2:OV l w=0:=by
    refine yY (fun q hq=>?_)
    have g1:=a1 q hq
    have g2:=hl2 q hq
    unfold apart at g1
    unfold LotOk at g2
    unfold ov
    split<;>omega
   omega
  ·have ih:=tw hl2 a2 hy h0 h1 h2 h3
   have g1:=a1 y hy
   have hy2:=hl2 y hy
   unfold LotOk at hy2
   unfold apart at g1
   have e1:ov z w=0:=by
    unfold ov
    split<;>omega
   omega
theorem tz {l:List Lot} (hl:∀ z∈l,LotOk z) (ha:Apart l):∀ {s:List Lot},(∀ w∈s,LotOk w∧∃ y∈l,w.1=y.1∧y.2.1≤w.2.1∧w.2.1+w.2.2≤y.2.1+y.2.2)→OO l s=lsum s
 | [],_=>by rw [gN];rfl
 | w::s,h=>by
  obtain ⟨h1,y,hy,h2,h3,h4⟩:=h w ap
  have ih:=tz hl ha (s:=s) (fun q hq=>h q (ao _ hq))
  unfold LotOk at h1
  have e:=tw hl ha hy ab h2 h3 h4
  rw [ga]
  show OV l w+OO l s=_
  omega
theorem Dj {a:List Lot} (h:∀ x∈a,LotOk x) {p:Lot} (hp:LotOk p):lsum (fK a [p])=OV (setL a) p:=by
 have hs:=(kj h).2
 have hap:Apart (setL a):=by
  have:=(kl h a.length (aw _)).1
  rw [aZ] at this
  exact CY this
 have hpp:∀ x∈[p],LotOk x:=fun x hx=>by rw [List.mem_singleton.1 hx];exact hp
 have e0:fh a [p]=(subL (setL a) p).foldl aR []:=mS _ _
 have hX:=(jN h hpp).1
 have hin:∀ w∈subL (setL a) p,LotOk w∧∃ y∈setL a,w.1=y.1∧y.2.1≤w.2.1∧w.2.1+w.2.2≤y.2.1+y.2.2:=fun w hw=>by
  obtain ⟨y,hy,g1,g2,g3,g4⟩:=mD hp hs hw
  exact ⟨g1,y,hy,g2,g3,g4⟩
 have hXa:Apart (fh a [p]):=by
  rw [e0]
  refine jW ?_ (fun z hz=>?_)
  ·rw [aj]
   exact (kX hp hs hap).1
  ·rw [aj] at hz
   have:=(hin z hz).1
   unfold LotOk at this
   omega
 have e1:lsum (fK a [p])=lsum (setL a) - OO (setL a) (fh a [p]):=lN hs hX hXa
 have e2:OO (setL a) (fh a [p])=OO (setL a) (subL (setL a) p):=by
  rw [e0,yZ hs _ _ (fun z hz=>(hin z hz).1.w) (fun z hz=>absurd hz aO)]
  show 0+_=_
  omega
 rw [e1,e2,tz hs hap hin,pV hp hs]
 omega
theorem Fp {l:List Lot} {p:Lot} (hl:∀ y∈l,LotOk y) (hp:LotOk p):OV l p≠0↔∃ y∈l,¬apart y p:=by
 constructor
 ·intro h
  refine Classical.byContradiction (fun q=>h ?_)
  have hall:∀ y∈l,apart y p:=fun y hy=>Classical.byContradiction (fun r=>q ⟨y,hy,r⟩)
  clear h q
  induction l with
  | nil=>rfl
  | cons y l ih =>
   have h1:=(oZ (hl y ap) hp).2 (hall y ap)
   have h2:=ih (fun z hz=>hl z (ao _ hz)) (fun z hz=>hall z (ao _ hz))
   show ov y p+OV l p=0
   omega
 ·rintro ⟨y,hy,hn⟩ e
  exact hn ((oZ (hl y hy) hp).1 (sv e y hy))
theorem np {a:List Lot} (h:∀ x∈a,LotOk x) (ha:Apart a) {p:Lot} (hp:LotOk p):fK a [p]≠[]↔∃ y∈a,y.1=p.1∧ovP p y:=by
 have hs:=(kj h).2
 have hpp:∀ x∈[p],LotOk x:=fun x hx=>by rw [List.mem_singleton.1 hx];exact hp
 have hok:∀ z∈fK a [p],LotOk z:=(uo hs (jN h hpp).1).1
 have e:=Dj h hp
 obtain ⟨_,_,g3,_⟩:=kl h a.length (aw _)
 rw [aZ] at g3
 have e2:OV (setL a) p=OV a p:=(g3 ((lw h).2 ha)).2 p hp
 have e3:fK a [p]≠[]↔OV a p≠0:=by
  rw [← e2,← e]
  constructor
  ·intro h2 h3
   have:=jf hok (List.length_pos_iff.2 h2)
   omega
  ·intro h2 h3
   rw [h3,gN] at h2
   exact h2 rfl
 rw [e3,Fp h hp]
 constructor
 ·rintro ⟨y,hy,hn⟩
  refine ⟨y,hy,?_⟩
  unfold apart at hn
  unfold ovP
  omega
 ·rintro ⟨y,hy,h1,h2⟩
  refine ⟨y,hy,?_⟩
  unfold ovP at h2
  unfold apart
  omega
end
section
open Go.V
attribute [local irreducible] G GO GP GPW GPK Ev Ef EfR Ent CB GB V.Enters
structure TkG (x:RLX) (mix:Int→Bool) (W:Wk) (m:MvM) (st:List RStk):Prop where
 lots:∀ a i,(df st a i).lots=gStk mix W m a i
 sum:∀ i,rsum st i=rsum x.stks i - (if m.frm≠0∧i=m.item then m.n else 0)
 ok:rOk st
 len:st.length≤x.stks.length+1
 dist:jn x.stks→jn st
theorem Dt {sh:Int} {fl:List FlM} {s:StM} {W:Wk} {m:MvM} {mixed:Bool} {k:Nat} {id:Int} (hw:StkG k id (W.stk m.frm m.item)) (hm:MvG m) (h0:¬m.frm=0) (he:gErr sh fl s W m=0):lsum (if m.parts=[] then dW mixed (W.stk m.frm m.item) m.n else dN (W.stk m.frm m.item) m.parts)=lsum (W.stk m.frm m.item) - m.n:=by
 have hn:=hm.n
 unfold gErr at he
 rw [if_neg h0] at he
 by_cases hp:m.parts=[]
 ·rw [if_pos hp] at he ⊢
  by_cases hq:lsum (W.stk m.frm m.item)<m.n
  ·rw [if_pos hq] at he
   exact absurd he ac
  ·exact BS hw.lots ab ab
 ·rw [if_neg hp] at he ⊢
  by_cases hq:fA m.parts (W.stk m.frm m.item)
  ·rcases hm.parts with g|⟨_,g2,g3⟩
   ·exact absurd g hp
   ·rw [zc hq hw.apt (g3.trans g2.symm),g2]
  ·rw [if_neg hq] at he
   exact absurd he ac
abbrev zZ:List Stp:=[.ev 0,.ev 1,.ev 2,.ev 3,.ev 4,.ev 5,.ev 6,.ev 7,.ef 8,.ef 9]
abbrev zY:List Stp:=[.ev 0,.ev 1,.ev 2,.ev 3,.ev 4,.ev 5,.ev 6,.ev 7,.ev 8,.ev 9,.ev 10,.ev 11,.ev 12,.ef 13,.ev 14,.ev 15,.ev 16,.ev 17,.ev 18,.ev 19,.ev 20]
abbrev xf:List Stp:=[.ev 0,.ev 1,.ev 2,.ev 3,.ev 4,.ef 5,.ev 6,.ev 7]
abbrev xe:List Stp:=[.ev 0,.ev 1,.ev 2,.ev 3,.ef 4,.ev 5,.ev 6]
theorem db {φ ψ:Prop} (k:ψ) (h:Hid ψ→φ:=by intro k;(with_reducible apply G.d8);first|refine G.d7 (N:=88) (id:=7) zZ mixed an (Hid.out k)|refine G.d7 (N:=88) (id:=9) zY mixed an (Hid.out k)|refine G.d7 (N:=88) (id:=15) xf mixed an (Hid.out k)|refine G.d7 (N:=88) (id:=17) xe mixed an (Hid.out k)):φ:=h ⟨k⟩
theorem uJ {L:List HP} (b:Nat) (sh:Int) (x:RLX) (W:Wk) (s:StM) (m:MvV) (kb:Nat) (id:Int) (hB:x.cat.B) (hO:rOk x.stks) (hl:x.stks.length≤9000000) (hfl:FlOk x.flows) (hlots:∀ a i,(df x.stks a i).lots=W.stk a i) (hW:∀ a i,StkG kb id (W.stk a i)) (hkb:kb+m.m.parts.length≤2000) (hi:0≤m.m.item∧m.m.item<x.cat.items.length) (hf:accP m.m.frm) (hm:MvG m.m) (hc:m.m.parts.length≤m.pcap) (hbp:∀ p∈m.m.parts,p.1≤9223372036854775807) :
  Tri Tryz.prog 138 #[.pointer (some ⟨b,0,none⟩),.int .i64 s.kind,.agg (aF m).toArray] (rlL b sh x (isl ah 3 m.pad m.m.parts::L)) (fun v L' =>
   (gErr sh (x.flows.map FlV.m) s W m.m≠0∧∃ pd n c,v=.tuple #[.slice pd n c,.int .i64 (gErr sh (x.flows.map FlV.m) s W m.m)]∧L' = rlL b sh x L) ∨
   (gErr sh (x.flows.map FlV.m) s W m.m=0∧∃ pad pcap st ad' cap',v=.tuple #[.slice pad (gPts (mixR x) s W m.m).length pcap,.int .i64 0]∧TkG x (mixR x) W m.m st ∧
    L' = isl ah 3 pad (gPts (mixR x) s W m.m)::rlL b sh { x with stks:=st,sad:=ad',scap:=cap' } L)):=by
 have hil:=hB.items
 obtain ⟨hi1,hi2⟩:=hi
 obtain ⟨hn1,hn2⟩:=hm.n
 obtain ⟨hf1,hf2⟩:=hf
 obtain ⟨o1,o2⟩:=ng hO m.m.frm m.m.item
 have hlot:=hm.lots
 have hww:=hW m.m.frm m.m.item
 have hsum:=fun (e:¬m.m.frm=0) (he:gErr sh (x.flows.map FlV.m) s W m.m=0)=>Dt (mixed:=mixR x m.m.item) hww hm e he
 have hlk:=hlots m.m.frm m.m.item
 rw [← hlk] at hww hsum
 have hpl:=hww.len
 refine Tri.body (args:=[.pointer (some ⟨b,0,none⟩),.int .i64 s.kind,.agg (aF m).toArray]) 88 In Tryz.func138 rfl rfl rfl (by simp) ?_
 by_cases h0:m.m.frm=0
 ·have hst:TkG x (mixR x) W m.m x.stks:=⟨fun a i=>by unfold gStk;rw [if_pos h0];exact hlots a i,fun i=>by rw [if_neg (fun q=>q.1 h0),eJ],hO,ab,fun h=>h⟩
  by_cases h5:s.kind=5
  ·have e1:gErr sh (x.flows.map FlV.m) s W m.m=arrG sh (x.flows.map FlV.m) m.m.parts:=by unfold gErr;rw [if_pos h0,if_pos h5]
   have e2:gPts (mixR x) s W m.m=m.m.parts:=by unfold gPts;rw [if_pos h0,if_pos (.inl h5)]
   rw [e1,e2]
   simp only [rlL]
   repeat first|refine aa ?_|intro _|refine db ?_
   rename_i b5
   refine GPW.ent (L':=rlL b sh x (isl ah 3 m.pad m.m.parts::obj b5 tMv (aF m)::L)) (by simp only [rlL];exact ae) ?_
   refine GPW.ef (Ef.d7 (uR b sh x hfl m.pad m.m.parts.length m.pcap m.m.parts rfl hc hlot hbp ab) rfl) ac ?_
   rintro _ _ ⟨rfl,rfl⟩
   simp only [rlL]
   repeat first|refine aa ?_|intro _|refine db ?_
   by_cases he:arrG sh (x.flows.map FlV.m) m.m.parts=0
   ·refine KX.d7 ag ?_ (.inr ⟨he,m.pad,m.pcap,x.stks,x.sad,x.scap,by rw [he];rfl,hst,rfl⟩)
    exact ae
   ·refine KX.d7 ag ?_ (.inl ⟨he,m.pad,m.m.parts.length,m.pcap,rfl,rfl⟩)
    exact ae
  by_cases h9:s.kind=9
  ·have e1:gErr sh (x.flows.map FlV.m) s W m.m=revG (x.flows.map FlV.m) m.m.item m.m.parts:=by unfold gErr;rw [if_pos h0,if_neg h5,if_pos h9]
   have e2:gPts (mixR x) s W m.m=m.m.parts:=by unfold gPts;rw [if_pos h0,if_pos (.inr h9)]
   rw [e1,e2]
   simp only [rlL]
   repeat first|refine aa ?_|intro _|refine db ?_
   rename_i b5
   refine GPW.ent (L':=rlL b sh x (isl ah 3 m.pad m.m.parts::obj b5 tMv (aF m)::L)) (by simp only [rlL];exact ae) ?_
   refine GPW.ef (Ef.d7 (uH b sh x hfl m hc hlot ab) rfl) ac ?_
   rintro _ _ ⟨rfl,rfl⟩
   simp only [rlL]
   repeat first|refine aa ?_|intro _|refine db ?_
   by_cases he:revG (x.flows.map FlV.m) m.m.item m.m.parts=0
   ·refine KX.d7 ag ?_ (.inr ⟨he,m.pad,m.pcap,x.stks,x.sad,x.scap,by rw [he];rfl,hst,rfl⟩)
    exact ae
   ·refine KX.d7 ag ?_ (.inl ⟨he,m.pad,m.m.parts.length,m.pcap,rfl,rfl⟩)
    exact ae
  have e1:gErr sh (x.flows.map FlV.m) s W m.m=0:=by unfold gErr;rw [if_pos h0,if_neg h5,if_neg h9]
  have e2:gPts (mixR x) s W m.m=[]:=by unfold gPts;rw [if_pos h0,if_neg (fun q=>q.elim h5 h9)]
  rw [e1,e2]
  simp only [rlL]
  repeat first|refine aa ?_|intro _|refine db ?_
  refine KX.d7 ag ?_ (.inr ⟨(by first|rfl|trivial),none,0,x.stks,x.sad,x.scap,rfl,hst,rfl⟩)
  refine Ent.trans ?_ (Ent.e8 ah 3 none)
  exact ae
 have h0' : 0<m.m.frm:=ab
 refine G.ent (L':=stkP (df x.stks m.m.frm m.m.item)::isl cU 7 x.cat.iad x.cat.items::rlL b sh x (isl ah 3 m.pad m.m.parts::L)) ?_ ?_
 ·simp only [rlL]
  refine (Ent.at (A:=catP x.cat) qy).trans ?_
  refine (Ent.at (A:=allP rsP x.stks) (oo m.m.frm m.m.item)).trans ?_
  exact ae
 simp only [rlL]
 repeat first|refine aa ?_|intro _|refine db ?_
 refine GO.ef (Ef.d7 (mj (b:=b) (sh:=sh) (x:=x) m.m.frm m.m.item ab) rfl) ac ?_
 rintro _ _ ⟨rfl,rfl⟩
 have hup:∀ {ad2:Option Addr} {c2:Nat} {l:List Lot},kA (mixR x) W m.m=l→lsum l=lsum (df x.stks m.m.frm m.m.item).lots - m.m.n→StkG 2000 id l→TkG x (mixR x) W m.m (rset x.stks m.m.frm m.m.item ⟨ad2,c2,l⟩):=fun {ad2 c2 l} e hs hg=>by
  refine ⟨fun a i=>?_,fun i=>?_,?_,pZ _ _ _ _,oh⟩
  ·unfold gStk
   rw [if_neg h0,nb,e]
   unfold upd2
   split
   ·rfl
   ·exact hlots a i
  ·rw [og]
   dsimp only
   by_cases hq:i=m.m.item
   ·rw [if_pos hq,if_pos ⟨h0,hq⟩,hs]
    omega
   ·rw [if_neg hq,if_neg (fun q=>hq q.2)]
    omega
  ·intro u hu
   rcases pY hu with h|h
   ·exact hO u h
   ·rw [h]
    exact ⟨by have:=hg.len;dsimp only;omega,hg.lots⟩
 by_cases hp:m.m.parts=[]
 ·have hp0:m.m.parts.length=0:=by rw [hp];rfl
  have e1:gErr sh (x.flows.map FlV.m) s W m.m=if lsum (W.stk m.m.frm m.m.item)<m.m.n then 10 else 0:=by unfold gErr;rw [if_neg h0,if_pos hp]
  have e2:gPts (mixR x) s W m.m=gt (mixR x m.m.item) (W.stk m.m.frm m.m.item) m.m.n:=by unfold gPts;rw [if_neg h0,if_pos hp]
  have e3:kA (mixR x) W m.m=dW (mixR x m.m.item) (W.stk m.m.frm m.m.item) m.m.n:=by unfold kA;rw [if_pos hp]
  rw [e1] at hsum ⊢
  rw [if_pos hp] at hsum
  rw [e2]
  rw [e3] at hup
  rw [← hlk] at hup hsum ⊢
  generalize hsk:df x.stks m.m.frm m.m.item=sk at *
  repeat first|refine aa ?_|intro _|refine db ?_
  refine GPW.ent (Ent.at (A:=stkP sk) (Ent.refl _)) ?_
  refine GPW.ef (Ef.d7 (zp sk.ad sk.cap sk.lots m.m.n (mixR x m.m.item) o1 o2 ab hn2) rfl) ac ?_
  rintro _ _ (⟨h1,rfl,rfl⟩|⟨h1,ad1,c1,ad2,c2,rfl,rfl⟩)
  ·rw [if_pos h1]
   repeat first|refine aa ?_|intro _|refine db ?_
   refine KX.d7 ag ?_ (.inl ⟨by decide,none,0,0,rfl,rfl⟩)
   exact ae
  ·rw [if_neg ab] at hsum ⊢
   have hT:=hup (ad2:=ad2) (c2:=c2) rfl (hsum h0 rfl) ((yG hww o1 ab h1).mono ab (aW _))
   repeat first|refine aa ?_|intro _|refine db ?_
   rename_i b3
   refine GO.ent (L':=rlL b sh x (stkP ⟨ad2,c2,dW (mixR x m.m.item) sk.lots m.m.n⟩::isl ah 3 ad1 (gt (mixR x m.m.item) sk.lots m.m.n)::obj b3 tMv (aF m)::L)) (by
    refine (Ent.frz ad1).trans ((Ent.frz ad2).trans ?_)
    simp only [rlL]
    exact ae) ?_
   refine GO.ef (Ef.d7 (na b sh x m.m.frm m.m.item ⟨ad2,c2,dW (mixR x m.m.item) sk.lots m.m.n⟩ ab) rfl) ac ?_
   rintro _ _ ⟨ad',cap',rfl⟩
   simp only [rlL]
   repeat first|refine aa ?_|intro _|refine db ?_
   refine KX.d7 ag ?_ (.inr ⟨(by first|rfl|trivial),ad1,c1,rset x.stks m.m.frm m.m.item ⟨ad2,c2,dW (mixR x m.m.item) sk.lots m.m.n⟩,ad',cap',rfl,hT,rfl⟩)
   exact ae
 have hp0:0<m.m.parts.length:=List.length_pos_iff.2 hp
 have e1:gErr sh (x.flows.map FlV.m) s W m.m=if fA m.m.parts (W.stk m.m.frm m.m.item) then 0 else 10:=by unfold gErr;rw [if_neg h0,if_neg hp]
 have e2:gPts (mixR x) s W m.m=m.m.parts:=by unfold gPts;rw [if_neg h0,if_neg hp]
 have e3:kA (mixR x) W m.m=dN (W.stk m.m.frm m.m.item) m.m.parts:=by unfold kA;rw [if_neg hp]
 rw [e1] at hsum ⊢
 rw [if_neg hp] at hsum
 rw [e2]
 rw [e3] at hup
 rw [← hlk] at hup hsum ⊢
 generalize hsk:df x.stks m.m.frm m.m.item=sk at *
 rename_i b5
 refine GO.ent (L':=isl ah 3 sk.ad sk.lots::rlL b sh x (isl ah 3 m.pad m.m.parts::obj b5 tMv (aF m)::L)) (by simp only [rlL];exact ae) ?_
 simp only [rlL]
 repeat first|refine aa ?_|intro _|refine db ?_
 refine GO.ef (Ef.d7 (ob m.pad m.m.parts.length m.pcap m.m.parts sk.ad sk.lots.length sk.cap sk.lots rfl rfl ab ab) rfl) ac ?_
 rintro _ _ ⟨rfl,rfl⟩
 by_cases hq:fA m.m.parts sk.lots
 case neg =>
  rw [aC hq,if_neg hq]
  repeat first|refine aa ?_|intro _|refine db ?_
  refine KX.d7 ag ?_ (.inl ⟨by decide,none,0,0,rfl,rfl⟩)
  exact ae
 rw [if_pos hq] at hsum
 rw [aL hq,if_pos hq]
 repeat first|refine aa ?_|intro _|refine db ?_
 refine GPW.ef (Ef.d7 (nL sk.ad sk.lots.length sk.cap sk.lots m.pad m.m.parts.length m.pcap m.m.parts rfl rfl hq.2.1 hq.1) rfl) ac ?_
 rintro _ _ ⟨ad2,c2,rfl,rfl⟩
 have hT:=hup (ad2:=ad2) (c2:=c2) rfl (hsum h0 rfl) ((rM hww hlot).mono ab (aW _))
 repeat first|refine aa ?_|intro _|refine db ?_
 refine GPW.ent (L':=rlL b sh x (stkP ⟨ad2,c2,dN sk.lots m.m.parts⟩::isl ah 3 m.pad m.m.parts::obj b5 tMv (aF m)::L)) (by
  refine (Ent.frz ad2).trans ?_
  simp only [rlL]
  exact ae) ?_
 refine GPW.ef (Ef.d7 (na b sh x m.m.frm m.m.item ⟨ad2,c2,dN sk.lots m.m.parts⟩ ab) rfl) ac ?_
 rintro _ _ ⟨ad',cap',rfl⟩
 simp only [rlL]
 repeat first|refine aa ?_|intro _|refine db ?_
 refine KX.d7 ag ?_ (.inr ⟨(by first|rfl|trivial),m.pad,m.pcap,rset x.stks m.m.frm m.m.item ⟨ad2,c2,dN sk.lots m.m.parts⟩,ad',cap',rfl,hT,rfl⟩)
 exact ae
end
end Go.Proofs.YtommnllbflbdmaaGreatDoor
