/- Contract of package audit: arrive, which adds a flow, and its units to where they go. -/
import Derived.Test.YtommnllbflbdmaaGreatDoorLbn
set_option linter.all false
set_option maxHeartbeats 16000000
namespace Go.Proofs.YtommnllbflbdmaaGreatDoor
open Go.V
attribute [local irreducible] G GO GP GPW GPK Ev Ef EfR Ent CB GB V.Enters
theorem vj(m:List (Int×Int))(k d:Int):((@List.lookup _ _ instBEqOfDecidableEq k m).map encN).getD (ab d)=ab ((glk m k).getD d):=by
 unfold glk;cases @List.lookup _ _ instBEqOfDecidableEq k m<;>rfl
theorem zG(m:List (Int×Int))(k v q:Int):(glk (gins m k v) q).getD 0=if q=k then v else(glk m q).getD 0:=by
 rw[jY];split<;>rfl
def rv(t:Int→Int)(f:FlM):Int:=t f.item+(if f.frm=0 then f.n else 0) - (if f.to=0 then f.n else 0)
abbrev yA:List Stp:=[.ev 0,.ev 1,.ev 2,.ev 3,.ev 4,.ev 5,.ev 6,.ev 7,.ev 8,.ev 9,.ef 10]
abbrev yz:List Stp:=[.ev 0,.ev 1,.ev 2,.ev 3,.ev 4,.ev 5,.ev 6,.ev 7,.ev 8,.ev 9,.ef 10]
abbrev yy:List Stp:=[.ev 0,.ev 1,.ev 2,.ev 3,.ev 4,.ev 5,.ev 6,.ev 7]
abbrev yx:List Stp:=[.ev 0,.ev 1,.ev 2,.ev 3,.ev 4,.ev 5,.ef 6,.ef 7,.ev 8,.ev 9,.ef 10]
abbrev vQ:List Stp:=[.ev 0,.ev 1,.ev 2,.ev 3,.ev 4,.ev 5,.ev 6,.ev 7]
theorem bW{φ ψ:Prop}(k:ψ)(h:Hid ψ→φ:=by intro k;(with_reducible apply G.d8);first|refine G.d7 (N:=85) (id:=2) yA mixed ap (Hid.out k)|refine G.d7 (N:=85) (id:=4) yz mixed ap (Hid.out k)|refine G.d7 (N:=85) (id:=5) yy mixed ap (Hid.out k)|refine G.d7 (N:=85) (id:=7) yx mixed ap (Hid.out k)|refine G.d7 (N:=85) (id:=11) vQ mixed ap (Hid.out k)):φ:=h ⟨k⟩
theorem zp{L:LH}(b:Nat)(S:LedM)(x:BkX)(fl:List FlM)(ia ra:LL)(g:Int→Int→LL)(t:Int→Int)(hx:BkI S fl ia ra g t x)(hfl:fl.length≤8000000)(fv:FlV)(hn:1≤fv.m.n∧fv.m.n≤1099511627776)(ht : -(9000000000000000000 - 1099511627776*4)≤t fv.m.item∧t fv.m.item≤1099511627776)(hg:(g fv.m.to fv.m.item).length≤5000) :
  Tri ah 104 #[au b,.agg (aL fv).toArray] (isl an 3 fv.pad fv.m.parts::isl (encZ .i64) 1 fv.mad fv.m.made::bkL b S.shard x L) (fun v L' =>
   ((1099511627776<rv t fv.m∨(fv.m.to≠0∧4096≤(g fv.m.to fv.m.item).length))∧v=ab 4∧L' = L) ∨
   (¬(1099511627776<rv t fv.m∨(fv.m.to≠0∧4096≤(g fv.m.to fv.m.item).length))∧v=ab 0∧∃x',BkI S (fl++[fv.m]) ia ra (if fv.m.to=0 then g else upd2 g fv.m.to fv.m.item (g fv.m.to fv.m.item++[(fv.m.id,0,fv.m.n)])) (upd t fv.m.item (rv t fv.m)) x'∧L' = bkL b S.shard x' L)):=by
 have hxf:x.flows.length=fl.length:=by
  have:=congrArg List.length hx.flows
  rwa [aG] at this
 obtain⟨⟨id,step,kind,tick,actor,frm,to,item,n,parts,made⟩,pad,pcap,mad,mcap⟩:=fv;dsimp only at hn ht hg ⊢;obtain⟨hn1,hn2⟩:=hn;obtain⟨ht1,ht2⟩:=ht;generalize hT:rv t ⟨id,step,kind,tick,actor,frm,to,item,n,parts,made⟩=T;unfold rv at hT;dsimp only at hT;refine Tri.body (args:=[au b,.agg (aL ⟨⟨id,step,kind,tick,actor,frm,to,item,n,parts,made⟩,pad,pcap,mad,mcap⟩).toArray]) 85 Kk Tryz.func104 rfl rfl rfl (by simp) ?_;simp only[aL,bkL,bJ];repeat first|((fail_if_success (with_reducible refine G.e7 1 ?_));(with_reducible apply G.seq))|refine bB ?_|intro _|refine bW ?_
 rename_i b3;have hst:∀(z:BkX),Ent (obj b3 bz [ab id,ab step,ab kind,ab tick,ab actor,ab frm,ab to,ab item,ab n,.slice pad parts.length pcap,.slice mad made.length mcap]::isl an 3 pad parts::isl (encZ .i64) 1 mad made::bkL b S.shard z L) L:=fun z=>by simp only[bkL,bJ];exact ag
 refine G.d9 (α:=List (Int×Int)) (fun m=>∀i,(glk m i).getD 0=if i=item then t item+(if frm=0 then n else 0) else t i) (fun _=>[(0,au b),(3,au b3)]) (fun m=>obj b3 bz [ab id,ab step,ab kind,ab tick,ab actor,ab frm,ab to,ab item,ab n,.slice pad parts.length pcap,.slice mad made.length mcap]::isl an 3 pad parts::isl (encZ .i64) 1 mad made::bkL b S.shard { x with tot:=m } L) ?_ ?_
 ·by_cases h0:frm=0
  ·have hv:=vj x.tot item 0;rw[hx.tot item] at hv;repeat first|refine aa ?_|intro _|refine bW ?_
   refine GPW.evL (Ev.e8 rfl rfl) ae ?_;rw[hv];repeat first|refine aa ?_|intro _|refine bW ?_
   refine GPW.efu (Ef.f8 (enc:=encN) (e:=t item+n) rfl rfl rfl rfl) ?_;rintro _ _⟨rfl,rfl⟩;repeat first|refine aa ?_|intro _|refine bW ?_
   refine⟨gins x.tot item (t item+n),fun i=>?_,aj,by simp only[bkL,bJ];exact ag⟩;rw[zG,if_pos h0,hx.tot i]
  ·repeat first|refine aa ?_|intro _|refine bW ?_
   refine⟨x.tot,fun i=>?_,aj,by simp only[bkL,bJ];exact ag⟩;rw[if_neg h0,hx.tot i];split
   ·rename_i e;rw[e,Int.add_zero]
   ·rfl
 intro m1 hm1;simp only[bkL,bJ];refine G.d9 (α:=List (Int×Int)) (fun m=>∀i,(glk m i).getD 0=if i=item then T else t i) (fun _=>[(0,au b),(3,au b3)]) (fun m=>obj b3 bz [ab id,ab step,ab kind,ab tick,ab actor,ab frm,ab to,ab item,ab n,.slice pad parts.length pcap,.slice mad made.length mcap]::isl an 3 pad parts::isl (encZ .i64) 1 mad made::bkL b S.shard { x with tot:=m } L) ?_ ?_
 ·have hmi:=hm1 item;rw[if_pos rfl] at hmi;by_cases h0:to=0
  ·rw[if_pos h0] at hT;have hv:=vj m1 item 0;rw[hmi] at hv;have hbd:0≤(if frm=0 then n else 0)∧(if frm=0 then n else 0)≤n:=by split<;>omega
   generalize (if frm=0 then n else 0)=nn at *;repeat first|refine aa ?_|intro _|refine bW ?_
   refine GPW.evL (Ev.e8 rfl rfl) ae ?_;rw[hv];repeat first|refine aa ?_|intro _|refine bW ?_
   refine GPW.efu (Ef.f8 (enc:=encN) (e:=t item+nn - n) rfl rfl rfl rfl) ?_;rintro _ _⟨rfl,rfl⟩;repeat first|refine aa ?_|intro _|refine bW ?_
   refine⟨gins m1 item (t item+nn - n),fun i=>?_,aj,by simp only[bkL,bJ];exact ag⟩;rw[zG,hT,hm1 i];split<;>rfl
  ·rw[if_neg h0] at hT;repeat first|refine aa ?_|intro _|refine bW ?_
   refine⟨m1,fun i=>?_,aj,by simp only[bkL,bJ];exact ag⟩;rw[hm1 i,←hT,fj]
 intro m2 hm2;clear hm1
 have hTb : -9000000000000000000≤T∧T≤1099511627776*3:=by
  rw[←hT];split<;>split<;>omega
 simp only[bkL,bJ];have hmi:=hm2 item;rw[if_pos rfl] at hmi;have hv:=vj m2 item 0;rw[hmi] at hv;repeat first|refine aa ?_|intro _|refine bW ?_
 refine GPW.evL (Ev.e8 rfl rfl) ae ?_;rw[hv];by_cases hbig:1099511627776<T
 ·repeat first|refine aa ?_|intro _|refine bW ?_
  exact KX.d7 ai ag (.inl ⟨.inl hbig,rfl,rfl⟩)
 have hI:∀(m:List ((Int×Int)×Stk)) (g2:Int→Int→LL) (ad:OA) (cp:Nat),(∀a i,(fU m (a,i)).lots=g2 a i)→(∀a i,(g2 a i).length≤(fU m (a,i)).cap)→BkI S (fl++[⟨id,step,kind,tick,actor,frm,to,item,n,parts,made⟩]) ia ra g2 (upd t item T) { x with tot:=m2,stk:=m,flows:=x.flows++[⟨⟨id,step,kind,tick,actor,frm,to,item,n,parts,made⟩,pad,pcap,mad,mcap⟩],fad:=ad,fcap:=cp }:=fun m g2 ad cp e1 e2 =>
  ⟨hx.cat,hx.catB,hx.count,hx.tick,by dsimp only;rw[aZ,hx.flows];rfl,e1,e2,fun i=>by dsimp only;rw[hm2 i];rfl,hx.imp,hx.ret⟩
 repeat first|refine aa ?_|intro _|refine bW ?_
 refine GPW.ef (Ef.d8 (enc:=aL) (e:=⟨⟨id,step,kind,tick,actor,frm,to,item,n,parts,made⟩,pad,pcap,mad,mcap⟩) rfl rfl rfl rfl rfl (by rfl) (fP _) ac ac) ae ?_;rintro _ _⟨fad2,fcap2,rfl,rfl⟩
 have hent:∀(M:LH),Ent (isl an 3 pad parts::isl (encZ .i64) 1 mad made::allP flP x.flows::M) (allP flP (x.flows++[⟨⟨id,step,kind,tick,actor,frm,to,item,n,parts,made⟩,pad,pcap,mad,mcap⟩])::M):=fun M=>by
  refine(Ent.f7 (bT _ _ _ _) (bT _ _ _ _)).trans ?_;exact mL (f:=flP) (e:=⟨⟨id,step,kind,tick,actor,frm,to,item,n,parts,made⟩,pad,pcap,mad,mcap⟩) lK
 by_cases h0:to=0
 ·rw[if_pos h0];repeat first|refine aa ?_|intro _|refine bW ?_
  refine KX.d7 ai ?_ (.inr ⟨fun q=>q.elim hbig (fun r=>r.1 h0),rfl,_,hI x.stk g fad2 fcap2 hx.stk hx.cap,rfl⟩);simp only[bkL,bJ];refine(Ent.at (A:=allP flP x.flows) (Ent.refl _)).trans ?_;refine(Ent.at (A:=isl (encZ .i64) 1 mad made) (Ent.refl _)).trans ?_;refine(Ent.at (A:=isl an 3 pad parts) (hent _)).trans ?_;exact ag
 rw[if_neg h0];have hsk:=hx.stk to item;have hcap:=hx.cap to item;rw[←hsk] at hcap hg
 have hI2:∀(sk:Stk),sk.lots=g to item++[(id,0,n)]→sk.lots.length≤sk.cap→BkI S (fl++[⟨id,step,kind,tick,actor,frm,to,item,n,parts,made⟩]) ia ra (upd2 g to item (g to item++[(id,0,n)])) (upd t item T) { x with tot:=m2,stk:=gins x.stk (to,item) sk,flows:=x.flows++[⟨⟨id,step,kind,tick,actor,frm,to,item,n,parts,made⟩,pad,pcap,mad,mcap⟩],fad:=fad2,fcap:=fcap2 }:=fun sk e1 e2=>by
  refine hI _ _ _ _ (fun a i=>?_) (fun a i=>?_)
  ·rw[lF];unfold upd2;by_cases q:a=to∧i=item
   ·rw[if_pos q,if_pos (by rw[q.1,q.2])];exact e1
   ·rw[if_neg q,if_neg (fun r=>q ⟨congrArg Prod.fst r,congrArg Prod.snd r⟩)];exact hx.stk a i
  ·rw[lF];unfold upd2;by_cases q:a=to∧i=item
   ·rw[if_pos q,if_pos (by rw[q.1,q.2]),←e1];exact e2
   ·rw[if_neg q,if_neg (fun r=>q ⟨congrArg Prod.fst r,congrArg Prod.snd r⟩)];exact hx.cap a i
 rw[←hsk] at hI2 ⊢;have hv2:=sI x.stk (to,item);repeat first|refine aa ?_|intro _|refine bW ?_
 refine GO.ev (Ev.m5 rfl rfl) ae ?_;refine GO.ent (Ent.at (A:=allP (fun p:(Int×Int)×Stk=>stkP p.2) x.stk) (oF (to,item))) ?_;generalize hske:fU x.stk (to,item)=sk at *;obtain⟨sad,scap,lots⟩:=sk;simp only[Stk.v] at hv2;dsimp only at hsk hcap hg hI2 ⊢;repeat first|refine aa ?_|intro _|refine bW ?_
 refine GPW.evL (Ev.e8 rfl rfl) ae ?_;rw[hv2];by_cases hl:4096≤lots.length
 ·repeat first|refine aa ?_|intro _|refine bW ?_
  exact KX.d7 ai ag (.inl ⟨.inr ⟨h0,hl⟩,rfl,rfl⟩)
 repeat first|((fail_if_success (with_reducible refine G.atS 13 ?_));(with_reducible apply G.seq))|refine bB ?_|intro _|refine bW ?_
 refine G.ent (Ent.at (A:=stkP ⟨sad,scap,lots⟩) (Ent.o7 (E:=tLot) (by simp only[maxLen];omega))) ?_;dsimp only;apply G.seq;refine G.f8 mixed ap ?_;refine GF.evP (i:=0) rfl ap (Ev.move rfl) ae ?_;refine GF.evP (i:=1) rfl ap (Ev.nilCheck rfl) ae ?_;refine GF.evP (i:=2) rfl ap (Ev.fieldAddr rfl) ae ?_;refine GF.evL (i:=3) rfl ap (Ev.d8 rfl rfl) ae ?_;refine GF.evL (i:=4) rfl ap (Ev.d7 rfl (by rfl)) ae ?_;refine GF.evP (i:=5) rfl ap (Ev.move rfl) ae ?_;refine GF.evP (i:=6) rfl ap (Ev.nilCheck rfl) ae ?_;refine GF.evP (i:=7) rfl ap (Ev.fieldAddr rfl) ae ?_;refine GF.evL (i:=8) rfl ap (Ev.d8 rfl rfl) ae ?_;refine GF.evL (i:=9) rfl ap (Ev.d7 rfl (by rfl)) ae ?_;refine GF.evL (i:=10) rfl ap (Ev.e8 rfl rfl) ae ?_;rw[hv2];refine GF.evP (i:=12) rfl ap (Ev.fieldAddr rfl) ae ?_;refine GF.evL (i:=13) rfl ap (Ev.d8 rfl rfl) ae ?_;refine GF.evP (i:=14) rfl ap (Ev.fieldAddr rfl) ae ?_;refine GF.evL (i:=15) rfl ap (Ev.d8 rfl rfl) ae ?_;refine GF.evP (i:=16) rfl ap (Ev.build rfl rfl) ae ?_;refine GF.d7 11 17 ap ?_ ?_
 ·refine GE.ef rfl (Ef.d7 (pu sad lots.length scap hcap) rfl) ae ?_;rintro _ _⟨rfl,rfl⟩;refine⟨(by intro pe hp;simp only[bj,aT,or_false] at hp;rcases hp with rfl|rfl|rfl|rfl|rfl|rfl|rfl<;>first|exact Ev.d8 rfl rfl|exact Ev.d7 rfl (by rfl)|(rw[←hv2];exact Ev.e8 rfl rfl)),?_⟩;refine GF.plan [.ef 17,.ef 18,.ef 19] ap rfl ?_;repeat first|refine aa ?_|intro _|refine bW ?_
  refine GPK.keep (by rw[←hv2];exact Ev.e8 rfl rfl) ?_;repeat first|refine aa ?_|intro _|refine bW ?_
  refine GPW.ef (Ef.l8 (enc:=an) (e:=((id,0,n):Lot)) rfl rfl rfl rfl rfl (by rfl) (cx _) ac ac) ae ?_;rintro _ _⟨ad3,cap3,rfl,rfl⟩;repeat first|refine aa ?_|intro _|refine bW ?_
  refine GPW.fct (zQ (ad:=ad3) (cap:=cap3) (xs:=lots++[((id,0,n):Lot)]) (enc:=an) (sz:=3) (E:=tLot)) ?_;rintro⟨hc3,_⟩;refine GPW.efu (Ef.f8 (enc:=Stk.v) (e:=(⟨ad3,cap3,lots++[((id,0,n):Lot)]⟩:Stk)) rfl rfl rfl rfl) ?_;rintro _ _⟨rfl,rfl⟩;repeat first|refine aa ?_|intro _|refine bW ?_
  refine KX.d7 ai ?_ (.inr ⟨fun q=>q.elim hbig (fun r=>hl r.2),rfl,_,hI2 ⟨ad3,cap3,lots++[((id,0,n):Lot)]⟩ (by rw[hsk]) hc3,rfl⟩);simp only[bkL,bJ];refine(Ent.at (A:=allP flP x.flows) (Ent.refl _)).trans ?_;refine(Ent.at (A:=isl (encZ .i64) 1 mad made) (Ent.refl _)).trans ?_;refine(Ent.at (A:=isl an 3 pad parts) (hent _)).trans ?_;refine(Ent.at (A:=asl an 3 tLot ad3 cap3 (lots++[((id,0,n):Lot)])) Ent.m7).trans ?_;refine(Ent.at (A:=allP (fun p:(Int×Int)×Stk=>stkP p.2) x.stk) (Ent.refl _)).trans ?_;refine(Ent.at (A:=isl an 3 ad3 (lots++[((id,0,n):Lot)])) (iH (s:=⟨ad3,cap3,lots++[((id,0,n):Lot)]⟩) (k:=(to,item)))).trans ?_;exact ag
 ·refine GE.ef rfl (Ef.lit rfl rfl ae rfl) ae ?_;rintro _ _⟨bl,rfl,rfl⟩;refine⟨(by intro pe hp;simp only[bj,aT,or_false] at hp;rcases hp with rfl|rfl|rfl|rfl|rfl|rfl|rfl<;>first|exact Ev.d8 rfl rfl|exact Ev.d7 rfl (by rfl)|(rw[←hv2];exact Ev.e8 rfl rfl)),?_⟩;refine GF.plan [.ef 11,.ef 18,.ef 19] ap rfl ?_;repeat first|refine aa ?_|intro _|refine bW ?_
  refine GPW.ef (Ef.d7 (pu sad lots.length scap hcap) rfl) ae ?_;rintro _ _⟨rfl,rfl⟩;repeat first|refine aa ?_|intro _|refine bW ?_
  refine GPW.ef (Ef.l8 (enc:=an) (e:=((id,0,n):Lot)) rfl rfl rfl rfl rfl (by rfl) (cx _) ac ac) ae ?_;rintro _ _⟨ad3,cap3,rfl,rfl⟩;repeat first|refine aa ?_|intro _|refine bW ?_
  refine GPW.fct (zQ (ad:=ad3) (cap:=cap3) (xs:=lots++[((id,0,n):Lot)]) (enc:=an) (sz:=3) (E:=tLot)) ?_;rintro⟨hc3,_⟩;refine GPW.efu (Ef.f8 (enc:=Stk.v) (e:=(⟨ad3,cap3,lots++[((id,0,n):Lot)]⟩:Stk)) rfl rfl rfl rfl) ?_;rintro _ _⟨rfl,rfl⟩;repeat first|refine aa ?_|intro _|refine bW ?_
  refine KX.d7 ai ?_ (.inr ⟨fun q=>q.elim hbig (fun r=>hl r.2),rfl,_,hI2 ⟨ad3,cap3,lots++[((id,0,n):Lot)]⟩ (by rw[hsk]) hc3,rfl⟩);simp only[bkL,bJ];refine(Ent.at (A:=allP flP x.flows) (Ent.refl _)).trans ?_;refine(Ent.at (A:=isl (encZ .i64) 1 mad made) (Ent.refl _)).trans ?_;refine(Ent.at (A:=isl an 3 pad parts) (hent _)).trans ?_;refine(Ent.at (A:=asl an 3 tLot ad3 cap3 (lots++[((id,0,n):Lot)])) Ent.m7).trans ?_;refine(Ent.at (A:=allP (fun p:(Int×Int)×Stk=>stkP p.2) x.stk) (Ent.refl _)).trans ?_;refine(Ent.at (A:=isl an 3 ad3 (lots++[((id,0,n):Lot)])) (iH (s:=⟨ad3,cap3,lots++[((id,0,n):Lot)]⟩) (k:=(to,item)))).trans ?_;exact ag
