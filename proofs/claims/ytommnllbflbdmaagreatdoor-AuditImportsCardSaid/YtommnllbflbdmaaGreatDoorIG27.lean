/- Contract of package audit: arrive, which adds a flow, and its units to where they go. -/
import Derived.Test.YtommnllbflbdmaaGreatDoorIbn
set_option linter.all false
set_option maxHeartbeats 16000000
namespace Go.Proofs.YtommnllbflbdmaaGreatDoor
open Go.V
attribute [local irreducible] G GO GP GPW GPK Ev Ef EfR Ent CB GB V.Enters
def vF(m:List (Int×Int))(k d:Int):((@List.lookup _ _ instBEqOfDecidableEq k m).map encN).getD (ac d)=ac ((glk m k).getD d):=by
 unfold glk;cases @List.lookup _ _ instBEqOfDecidableEq k m<;>rfl
def Ag(m:List (Int×Int))(k v q:Int):(glk (gins m k v) q).getD 0=if q=k then v else(glk m q).getD 0:=by
 rw[km];split<;>rfl
def rN(t:Int→Int)(f:FlM):Int:=t f.item+(if f.frm=0 then f.n else 0) - (if f.to=0 then f.n else 0)
abbrev yY:List Stp:=[.ev 0,.ev 1,.ev 2,.ev 3,.ev 4,.ev 5,.ev 6,.ev 7,.ev 8,.ev 9,.ef 10]
abbrev yX:List Stp:=[.ev 0,.ev 1,.ev 2,.ev 3,.ev 4,.ev 5,.ev 6,.ev 7,.ev 8,.ev 9,.ef 10]
abbrev yW:List Stp:=[.ev 0,.ev 1,.ev 2,.ev 3,.ev 4,.ev 5,.ev 6,.ev 7]
abbrev yV:List Stp:=[.ev 0,.ev 1,.ev 2,.ev 3,.ev 4,.ev 5,.ef 6,.ef 7,.ev 8,.ev 9,.ef 10]
abbrev wl:List Stp:=[.ev 0,.ev 1,.ev 2,.ev 3,.ev 4,.ev 5,.ev 6,.ev 7]
def bV{φ ψ:Prop}(k:ψ)(h:Hid ψ→φ:=by intro k;(with_reducible apply G.d8);first|refine G.d7 (N:=85) (id:=2) yY mixed aw (Hid.out k)|refine G.d7 (N:=85) (id:=4) yX mixed aw (Hid.out k)|refine G.d7 (N:=85) (id:=5) yW mixed aw (Hid.out k)|refine G.d7 (N:=85) (id:=7) yV mixed aw (Hid.out k)|refine G.d7 (N:=85) (id:=11) wl mixed aw (Hid.out k)):φ:=h ⟨k⟩
def VT{φ ψ:Prop}(k:ψ)(h:Hid ψ→φ:=by intro k;(repeat (first|refine aa ?_|intro zzz|((with_reducible apply G.d8);first|refine G.d7 (N:=85) (id:=2) yY mixed aw ?_|refine G.d7 (N:=85) (id:=4) yX mixed aw ?_|refine G.d7 (N:=85) (id:=5) yW mixed aw ?_|refine G.d7 (N:=85) (id:=7) yV mixed aw ?_|refine G.d7 (N:=85) (id:=11) wl mixed aw ?_)));(repeat revert zzz);exact Hid.out k):φ:=h ⟨k⟩
def zP{L:LH}(b:Nat)(S:LedM)(x:BkX)(fl:List FlM)(ia ra:LL)(g:Int→Int→LL)(t:Int→Int)(hx:BkI S fl ia ra g t x)(b5:fl.length≤8000000)(fv:FlV)(hn:1≤fv.m.n∧fv.m.n≤1099511627776)(ht : -(9000000000000000000 - 1099511627776*4)≤t fv.m.item∧t fv.m.item≤1099511627776)(hg:(g fv.m.to fv.m.item).length≤5000) :
  Tri ag 104 #[av b,.agg (aM fv).toArray] (isl ao 3 fv.pad fv.m.parts::isl (encZ .i64) 1 fv.mad fv.m.made::bkL b S.shard x L) (fun v L' =>
   ((1099511627776<rN t fv.m∨(fv.m.to≠0∧4096≤(g fv.m.to fv.m.item).length))∧v=ac 4∧L' = L) ∨
   (¬(1099511627776<rN t fv.m∨(fv.m.to≠0∧4096≤(g fv.m.to fv.m.item).length))∧v=ac 0∧∃x',BkI S (fl++[fv.m]) ia ra (if fv.m.to=0 then g else upd2 g fv.m.to fv.m.item (g fv.m.to fv.m.item++[(fv.m.id,0,fv.m.n)])) (upd t fv.m.item (rN t fv.m)) x'∧L' = bkL b S.shard x' L)):=by
 have c2:x.flows.length=fl.length:=by
  have:=congrArg List.length hx.flows
  rwa [aA] at this
 obtain⟨⟨id,step,kind,tick,actor,frm,to,item,n,parts,made⟩,pad,pcap,mad,mcap⟩:=fv;dsimp only at hn ht hg ⊢;obtain⟨b7,b8⟩:=hn;obtain⟨c0,c1⟩:=ht;generalize hT:rN t ⟨id,step,kind,tick,actor,frm,to,item,n,parts,made⟩=T;unfold rN at hT;dsimp only at hT;refine Tri.bd (args:=[av b,.agg (aM ⟨⟨id,step,kind,tick,actor,frm,to,item,n,parts,made⟩,pad,pcap,mad,mcap⟩).toArray]) ?_;simp only[aM,bkL,bI];repeat first|((fail_if_success (with_reducible refine G.e7 1 ?_));(with_reducible apply G.seq))|refine bA ?_|intro _|refine bV ?_
 rename_i b3;have c3:∀(z:BkX),Ent (obj b3 bY [ac id,ac step,ac kind,ac tick,ac actor,ac frm,ac to,ac item,ac n,.slice pad parts.length pcap,.slice mad made.length mcap]::isl ao 3 pad parts::isl (encZ .i64) 1 mad made::bkL b S.shard z L) L:=fun z=>by simp only[bkL,bI];exact ae
 refine G.d9 (α:=List (Int×Int)) (fun m=>∀i,(glk m i).getD 0=if i=item then t item+(if frm=0 then n else 0) else t i) (fun _=>[(0,av b),(3,av b3)]) (fun m=>obj b3 bY [ac id,ac step,ac kind,ac tick,ac actor,ac frm,ac to,ac item,ac n,.slice pad parts.length pcap,.slice mad made.length mcap]::isl ao 3 pad parts::isl (encZ .i64) 1 mad made::bkL b S.shard { x with tot:=m } L) ?_ ?_
 ·by_cases h0:frm=0
  ·have hv:=vF x.tot item 0;rw[hx.tot item] at hv;refine VT ?_;intros;refine GPW.evL (Ev.d7 rfl rfl) ah ?_;rw[hv];refine VT ?_;intros;refine GPW.efu (Ef.e8 (enc:=encN) (e:=t item+n) rfl rfl rfl rfl) ?_;rintro _ _⟨rfl,rfl⟩;refine VT ?_;intros;refine⟨gins x.tot item (t item+n),fun i=>?_,ai,by simp only[bkL,bI];exact ae⟩;rw[Ag,if_pos h0,hx.tot i]
  ·refine VT ?_;intros;refine⟨x.tot,fun i=>?_,ai,by simp only[bkL,bI];exact ae⟩;rw[if_neg h0,hx.tot i];split
   ·rename_i e;rw[e,Int.add_zero]
   ·rfl
 intro m1 b1;simp only[bkL,bI];refine G.d9 (α:=List (Int×Int)) (fun m=>∀i,(glk m i).getD 0=if i=item then T else t i) (fun _=>[(0,av b),(3,av b3)]) (fun m=>obj b3 bY [ac id,ac step,ac kind,ac tick,ac actor,ac frm,ac to,ac item,ac n,.slice pad parts.length pcap,.slice mad made.length mcap]::isl ao 3 pad parts::isl (encZ .i64) 1 mad made::bkL b S.shard { x with tot:=m } L) ?_ ?_
 ·have a8:=b1 item;rw[if_pos rfl] at a8;by_cases h0:to=0
  ·rw[if_pos h0] at hT;have hv:=vF m1 item 0;rw[a8] at hv;have b9:0≤(if frm=0 then n else 0)∧(if frm=0 then n else 0)≤n:=by split<;>omega
   generalize (if frm=0 then n else 0)=nn at *;refine VT ?_;intros;refine GPW.evL (Ev.d7 rfl rfl) ah ?_;rw[hv];refine VT ?_;intros;refine GPW.efu (Ef.e8 (enc:=encN) (e:=t item+nn - n) rfl rfl rfl rfl) ?_;rintro _ _⟨rfl,rfl⟩;refine VT ?_;intros;refine⟨gins m1 item (t item+nn - n),fun i=>?_,ai,by simp only[bkL,bI];exact ae⟩;rw[Ag,hT,b1 i];split<;>rfl
  ·rw[if_neg h0] at hT;refine VT ?_;intros;refine⟨m1,fun i=>?_,ai,by simp only[bkL,bI];exact ae⟩;rw[b1 i,←hT,fu]
 intro m2 b4;clear b1
 have b6 : -9000000000000000000≤T∧T≤1099511627776*3:=by
  rw[←hT];split<;>split<;>omega
 simp only[bkL,bI];have a8:=b4 item;rw[if_pos rfl] at a8;have hv:=vF m2 item 0;rw[a8] at hv;refine VT ?_;intros;refine GPW.evL (Ev.d7 rfl rfl) ah ?_;rw[hv];by_cases a3:1099511627776<T
 ·refine VT ?_;intros;exact KX.en (.inl ⟨.inl a3,rfl,rfl⟩)
 have hI:∀(m:List ((Int×Int)×Stk)) (g2:Int→Int→LL) (ad:OA) (cp:Nat),(∀a i,(fW m (a,i)).lots=g2 a i)→(∀a i,(g2 a i).length≤(fW m (a,i)).cap)→BkI S (fl++[⟨id,step,kind,tick,actor,frm,to,item,n,parts,made⟩]) ia ra g2 (upd t item T) { x with tot:=m2,stk:=m,flows:=x.flows++[⟨⟨id,step,kind,tick,actor,frm,to,item,n,parts,made⟩,pad,pcap,mad,mcap⟩],fad:=ad,fcap:=cp }:=fun m g2 ad cp e1 e2 =>
  ⟨hx.cat,hx.catB,hx.count,hx.tick,by dsimp only;rw[aZ,hx.flows];rfl,e1,e2,fun i=>by dsimp only;rw[b4 i];rfl,hx.imp,hx.ret⟩
 refine VT ?_;intros;refine GPW.ef (Ef.d7 (enc:=aM) (e:=⟨⟨id,step,kind,tick,actor,frm,to,item,n,parts,made⟩,pad,pcap,mad,mcap⟩) rfl rfl rfl rfl rfl (by rfl) (jf _) ab ab) ah ?_;rintro _ _⟨a7,a4,rfl,rfl⟩
 have a5:∀(M:LH),Ent (isl ao 3 pad parts::isl (encZ .i64) 1 mad made::allP flP x.flows::M) (allP flP (x.flows++[⟨⟨id,step,kind,tick,actor,frm,to,item,n,parts,made⟩,pad,pcap,mad,mcap⟩])::M):=fun M=>by
  refine(Ent.e8 (bQ _ _ _ _) (bQ _ _ _ _)).trans ?_;exact nh (f:=flP) (e:=⟨⟨id,step,kind,tick,actor,frm,to,item,n,parts,made⟩,pad,pcap,mad,mcap⟩) lw
 by_cases h0:to=0
 ·rw[if_pos h0];refine VT ?_;intros;refine KX.d7 an ?_ (.inr ⟨fun q=>q.elim a3 (fun r=>r.1 h0),rfl,_,hI x.stk g a7 a4 hx.stk hx.cap,rfl⟩);simp only[bkL,bI];refine(Ent.at (A:=allP flP x.flows) (Ent.refl _)).trans ?_;refine(Ent.at (A:=isl (encZ .i64) 1 mad made) (Ent.refl _)).trans ?_;refine(Ent.at (A:=isl ao 3 pad parts) (a5 _)).trans ?_;exact ae
 rw[if_neg h0];have a9:=hx.stk to item;have a2:=hx.cap to item;rw[←a9] at a2 hg
 have b0:∀(sk:Stk),sk.lots=g to item++[(id,0,n)]→sk.lots.length≤sk.cap→BkI S (fl++[⟨id,step,kind,tick,actor,frm,to,item,n,parts,made⟩]) ia ra (upd2 g to item (g to item++[(id,0,n)])) (upd t item T) { x with tot:=m2,stk:=gins x.stk (to,item) sk,flows:=x.flows++[⟨⟨id,step,kind,tick,actor,frm,to,item,n,parts,made⟩,pad,pcap,mad,mcap⟩],fad:=a7,fcap:=a4 }:=fun sk e1 e2=>by
  refine hI _ _ _ _ (fun a i=>?_) (fun a i=>?_)
  ·rw[lT];unfold upd2;by_cases q:a=to∧i=item
   ·rw[if_pos q,if_pos (by rw[q.1,q.2])];exact e1
   ·rw[if_neg q,if_neg (fun r=>q ⟨congrArg Prod.fst r,congrArg Prod.snd r⟩)];exact hx.stk a i
  ·rw[lT];unfold upd2;by_cases q:a=to∧i=item
   ·rw[if_pos q,if_pos (by rw[q.1,q.2]),←e1];exact e2
   ·rw[if_neg q,if_neg (fun r=>q ⟨congrArg Prod.fst r,congrArg Prod.snd r⟩)];exact hx.cap a i
 rw[←a9] at b0 ⊢;have a6:=td x.stk (to,item);refine VT ?_;intros;refine GO.ev (Ev.m6 rfl rfl) ah ?_;refine GO.ent (Ent.at (A:=allP (fun p:(Int×Int)×Stk=>stkP p.2) x.stk) (pb (to,item))) ?_;generalize hske:fW x.stk (to,item)=sk at *;obtain⟨sad,scap,lots⟩:=sk;simp only[Stk.v] at a6;dsimp only at a9 a2 hg b0 ⊢;refine VT ?_;intros;refine GPW.evL (Ev.d7 rfl rfl) ah ?_;rw[a6];by_cases hl:4096≤lots.length
 ·refine VT ?_;intros;exact KX.en (.inl ⟨.inr ⟨h0,hl⟩,rfl,rfl⟩)
 repeat first|((fail_if_success (with_reducible refine G.atS 13 ?_));(with_reducible apply G.seq))|refine bA ?_|intro _|refine bV ?_
 refine G.ent (Ent.at (A:=stkP ⟨sad,scap,lots⟩) (Ent.o9 (E:=tLot) (by simp only[maxLen];omega))) ?_;dsimp only;apply G.seq;refine G.g7 mixed aw ?_;refine GF.evP (i:=0) rfl aw (Ev.move rfl) ah ?_;refine GF.evP (i:=1) rfl aw (Ev.nilCheck rfl) ah ?_;refine GF.evP (i:=2) rfl aw (Ev.fieldAddr rfl) ah ?_;refine GF.evL (i:=3) rfl aw (Ev.d9 rfl rfl) ah ?_;refine GF.evL (i:=4) rfl aw (Ev.d8 rfl (by rfl)) ah ?_;refine GF.evP (i:=5) rfl aw (Ev.move rfl) ah ?_;refine GF.evP (i:=6) rfl aw (Ev.nilCheck rfl) ah ?_;refine GF.evP (i:=7) rfl aw (Ev.fieldAddr rfl) ah ?_;refine GF.evL (i:=8) rfl aw (Ev.d9 rfl rfl) ah ?_;refine GF.evL (i:=9) rfl aw (Ev.d8 rfl (by rfl)) ah ?_;refine GF.evL (i:=10) rfl aw (Ev.d7 rfl rfl) ah ?_;rw[a6];refine GF.evP (i:=12) rfl aw (Ev.fieldAddr rfl) ah ?_;refine GF.evL (i:=13) rfl aw (Ev.d9 rfl rfl) ah ?_;refine GF.evP (i:=14) rfl aw (Ev.fieldAddr rfl) ah ?_;refine GF.evL (i:=15) rfl aw (Ev.d9 rfl rfl) ah ?_;refine GF.evP (i:=16) rfl aw (Ev.build rfl rfl) ah ?_;refine GF.d7 11 17 aw ?_ ?_
 ·refine GE.ef rfl (Ef.j0 (pQ sad lots.length scap a2) rfl) ah ?_;rintro _ _⟨rfl,rfl⟩;refine⟨(by intro pe hp;simp only[bz,aV,or_false] at hp;rcases hp with rfl|rfl|rfl|rfl|rfl|rfl|rfl<;>first|exact Ev.d9 rfl rfl|exact Ev.d8 rfl (by rfl)|(rw[←a6];exact Ev.d7 rfl rfl)),?_⟩;refine GF.plan [.ef 17,.ef 18,.ef 19] aw rfl ?_;refine VT ?_;intros;refine GPK.keep (by rw[←a6];exact Ev.d7 rfl rfl) ?_;refine VT ?_;intros;refine GPW.ef (Ef.m5 (enc:=ao) (e:=((id,0,n):Lot)) rfl rfl rfl rfl rfl (by rfl) (cK _) ab ab) ah ?_;rintro _ _⟨a1,a0,rfl,rfl⟩;refine VT ?_;intros;refine GPW.fct (Aq (ad:=a1) (cap:=a0) (xs:=lots++[((id,0,n):Lot)]) (enc:=ao) (sz:=3) (E:=tLot)) ?_;rintro⟨b2,_⟩;refine GPW.efu (Ef.e8 (enc:=Stk.v) (e:=(⟨a1,a0,lots++[((id,0,n):Lot)]⟩:Stk)) rfl rfl rfl rfl) ?_;rintro _ _⟨rfl,rfl⟩;refine VT ?_;intros;refine KX.d7 an ?_ (.inr ⟨fun q=>q.elim a3 (fun r=>hl r.2),rfl,_,b0 ⟨a1,a0,lots++[((id,0,n):Lot)]⟩ (by rw[a9]) b2,rfl⟩);simp only[bkL,bI];refine(Ent.at (A:=allP flP x.flows) (Ent.refl _)).trans ?_;refine(Ent.at (A:=isl (encZ .i64) 1 mad made) (Ent.refl _)).trans ?_;refine(Ent.at (A:=isl ao 3 pad parts) (a5 _)).trans ?_;refine(Ent.at (A:=asl ao 3 tLot a1 a0 (lots++[((id,0,n):Lot)])) Ent.m9).trans ?_;refine(Ent.at (A:=allP (fun p:(Int×Int)×Stk=>stkP p.2) x.stk) (Ent.refl _)).trans ?_;refine(Ent.at (A:=isl ao 3 a1 (lots++[((id,0,n):Lot)])) (iO (s:=⟨a1,a0,lots++[((id,0,n):Lot)]⟩) (k:=(to,item)))).trans ?_;exact ae
 ·refine GE.ef rfl (Ef.lit rfl rfl ah rfl) ah ?_;rintro _ _⟨bl,rfl,rfl⟩;refine⟨(by intro pe hp;simp only[bz,aV,or_false] at hp;rcases hp with rfl|rfl|rfl|rfl|rfl|rfl|rfl<;>first|exact Ev.d9 rfl rfl|exact Ev.d8 rfl (by rfl)|(rw[←a6];exact Ev.d7 rfl rfl)),?_⟩;refine GF.plan [.ef 11,.ef 18,.ef 19] aw rfl ?_;refine VT ?_;intros;refine GPW.cr (pQ sad lots.length scap a2) ?_;refine VT ?_;intros;refine GPW.ef (Ef.m5 (enc:=ao) (e:=((id,0,n):Lot)) rfl rfl rfl rfl rfl (by rfl) (cK _) ab ab) ah ?_;rintro _ _⟨a1,a0,rfl,rfl⟩;refine VT ?_;intros;refine GPW.fct (Aq (ad:=a1) (cap:=a0) (xs:=lots++[((id,0,n):Lot)]) (enc:=ao) (sz:=3) (E:=tLot)) ?_;rintro⟨b2,_⟩;refine GPW.efu (Ef.e8 (enc:=Stk.v) (e:=(⟨a1,a0,lots++[((id,0,n):Lot)]⟩:Stk)) rfl rfl rfl rfl) ?_;rintro _ _⟨rfl,rfl⟩;refine VT ?_;intros;refine KX.d7 an ?_ (.inr ⟨fun q=>q.elim a3 (fun r=>hl r.2),rfl,_,b0 ⟨a1,a0,lots++[((id,0,n):Lot)]⟩ (by rw[a9]) b2,rfl⟩);simp only[bkL,bI];refine(Ent.at (A:=allP flP x.flows) (Ent.refl _)).trans ?_;refine(Ent.at (A:=isl (encZ .i64) 1 mad made) (Ent.refl _)).trans ?_;refine(Ent.at (A:=isl ao 3 pad parts) (a5 _)).trans ?_;refine(Ent.at (A:=asl ao 3 tLot a1 a0 (lots++[((id,0,n):Lot)])) Ent.m9).trans ?_;refine(Ent.at (A:=allP (fun p:(Int×Int)×Stk=>stkP p.2) x.stk) (Ent.refl _)).trans ?_;refine(Ent.at (A:=isl ao 3 a1 (lots++[((id,0,n):Lot)])) (iO (s:=⟨a1,a0,lots++[((id,0,n):Lot)]⟩) (k:=(to,item)))).trans ?_;exact ae
