/- Lemmas. -/
import Derived.Test.YtommnllbflbdmaaGreatDoorIbf
import Derived.Test.YtommnllbflbdmaaGreatDoorIbi
set_option linter.all false
set_option maxHeartbeats 4000000
namespace Go.Proofs.YtommnllbflbdmaaGreatDoor
section
open Go.V
attribute [local irreducible] G GO GP GPW GPK Ev Ef EfR Ent CB GB V.Enters
abbrev tBk:Nat:=105
structure BkX where
 cat:CatV
 ms:Nat
 mt:Nat
 mi:Nat
 mr:Nat
 count:Int
 tick:Int
 stk:List ((Int×Int)×Stk)
 tot:List (Int×Int)
 imp:List (Int×Stk)
 ret:List (Int×Stk)
 flows:List FlV
 fad:OA
 fcap:Nat
abbrev bI(sh:Int)(x:BkX):LV:=[ac sh,.slice x.cat.iad x.cat.items.length x.cat.icap,.slice x.cat.rad x.cat.rules.length x.cat.rcap,.slice x.cat.tad x.cat.tables.length x.cat.tcap,.slice x.cat.xad x.cat.taxes.length x.cat.xcap,ac x.count,ac x.tick,.map (some x.ms),.map (some x.mt),.slice x.fad x.flows.length x.fcap,.map (some x.mi),.map (some x.mr)]
abbrev bkL(b:Nat)(sh:Int)(x:BkX)(L:LH):LH :=
 obj b tBk (bI sh x)::gmap kvP Stk.v x.ms x.stk::gmap kvI encN x.mt x.tot::osl aM 11 bY x.fad x.fcap x.flows::gmap kvI Stk.v x.mi x.imp::gmap kvI Stk.v x.mr x.ret::catP x.cat::allP (fun p:(Int×Int)×Stk=>stkP p.2) x.stk::allP flP x.flows::bigO dO x.imp::bigO dO x.ret::L
def eG(fl:List FlM):LL:=(fl.filter (fun f=>decide (f.kind=5))).flatMap (·.parts)
def fy(fl:List FlM):LL:=(fl.filter (fun f=>decide (f.kind=9∧f.frm=0))).flatMap (·.parts)
def jp(m:List (Int×Stk))(l:LL):Prop:=(m.map (·.1)).Nodup∧∀f,(eY m f).lots=ofF l f
def impG(sh:Int):LL→LL→Int
 | [],_=>0
 | p::ps,l=>if p.1 / 4294967296=sh∨11<p.1 / 4294967296 then 1 else if ∃y∈ofF l p.1,ovP p y then 8 else impG sh ps (l++[p])
def rg(l:LL)(p:Lot)(f:Int):ofF (l++[p]) f=if p.1=f then ofF l f++[p] else ofF l f:=by
 unfold ofF;rw[dK];by_cases e:p.1=f
 ·rw[if_pos e,cj (by simpa using e)];rfl
 ·rw[if_neg e,cn (by simpa using e),List.filter_nil,aY]
def un{sh:Int}{p:Lot}{ps l:LL}:impG sh (p::ps) l=if p.1 / 4294967296=sh∨11<p.1 / 4294967296 then 1 else if ∃y∈ofF l p.1,ovP p y then 8 else impG sh ps (l++[p]):=rfl
abbrev zj:List Stp:=[.ev 0,.ev 1,.ev 2,.ev 3,.ev 4,.ev 5,.ev 6,.ev 7,.ef 8]
abbrev zi:List Stp:=[.ev 0,.ev 1,.ev 2,.ev 3,.ev 4,.ev 5,.ev 6,.ev 7,.ev 8,.ev 9,.ev 10,.ev 11,.ev 12,.ev 13,.ef 14,.ef 15,.ef 16]
def Tk{φ ψ:Prop}(k:ψ)(h:Hid ψ→φ:=by intro k;(repeat (first|refine aa ?_|intro zzz|((with_reducible apply G.d8);first|refine G.d7 (N:=54) (id:=7) zj mixed aw ?_|refine G.d7 (N:=54) (id:=9) zi mixed aw ?_)));(repeat revert zzz);exact Hid.out k):φ:=h ⟨k⟩
def rn{L:LH}(b:Nat)(sh:Int)(x:BkX)(l:LL)(hm:jp x.imp l)(hl:l.length≤100000)(b0:∀y∈l,LotOk y)(m:MvV)[hr:Rds L m.pad Lot ao 3 m.m.parts](hp:∀p∈m.m.parts,LotOk p)(hb:∀p∈m.m.parts,p.1≤9223372036854775807)(b1:m.m.parts.length≤4096) :
  Tri ag 151 #[av b,.agg (aQ m).toArray] (obj b tBk (bI sh x)::gmap kvI Stk.v x.mi x.imp::bigO dO x.imp::L) (fun v L'=>∃a1,v=ac (impG sh m.m.parts l)∧(impG sh m.m.parts l=0→jp a1 (l++m.m.parts))∧L' = obj b tBk (bI sh x)::gmap kvI Stk.v x.mi a1::bigO dO a1::L):=by
 obtain⟨⟨frm,to,item,mn,parts⟩,pad,pcap⟩:=m;dsimp only at hr hp hb b1 ⊢;refine Tri.bd (args:=[av b,.agg (aQ ⟨⟨frm,to,item,mn,parts⟩,pad,pcap⟩).toArray]) ?_;simp only[aQ,bI];refine Tk ?_;intros;rename_i b3;refine G.loop (α:=Nat×List (Int×Stk)) (fun g=>g.1≤parts.length∧jp g.2 (l++parts.take g.1)∧impG sh parts l=impG sh (parts.drop g.1) (l++parts.take g.1)) (fun g=>[(0,av b),(9,.slice pad parts.length pcap),(10,ac parts.length),(11,ac (g.1:Int))]) (fun g=>obj b tBk (bI sh x)::gmap kvI Stk.v x.mi g.2::bigO dO g.2::L) (fun g=>parts.length - g.1) (0,x.imp) ⟨aj _,by rw[cd,aY];exact hm,by rw[cd,aY];rfl⟩ ai (by simp only[bI];exact ae) ?_;rintro⟨i,mp⟩ ⟨hi,a0,hg⟩;dsimp only at hi a0 hg ⊢;simp only[bI];by_cases a3:i<parts.length
 case neg =>
  rw[bg ab,aF ab] at hg;rw[aF ab] at a0;have b4:impG sh parts l=0:=hg;rw[b4];refine Tk ?_;intros;exact KX.en ⟨mp,rfl,fun _=>a0,rfl⟩
 have a8:(i:Int).toNat=i:=ay i;have a9 : (i:Int).toNat<parts.length:=ab;have b2:=hp _ (aG a3);have b6:=hb _ (aG a3);rw[dF a3,un] at hg;refine Tk ?_;intros;refine GO.ev (Ev.A9 rfl rfl) ah ?_;refine Tk ?_;intros;have a6 : LotOk parts[(i:Int).toNat]!:=by rw[a8];exact b2
 have b5:∀y∈ofF (l++parts.take i) parts[(i:Int).toNat]!.1,LotW y:=fun y hy=>by
  rcases List.mem_append.1 (ofF_mem.1 hy).1 with h|h
  ·exact(b0 y h).w
  ·exact(hp y (cL h)).w
 have b7:(ofF (l++parts.take i) parts[(i:Int).toNat]!.1).length≤110000:=by
  refine cg (nJ _ _) ?_;rw[aD,bh];omega
 have e1:parts[(i:Int).toNat]! = parts[i]!:=by rw[a8]
 rw[←e1] at hg;by_cases c1:parts[(i:Int).toNat]!.1 / 4294967296=sh
 ·rw[if_pos (.inl c1)] at hg;rw[hg];refine Tk ?_;intros;refine KX.d7 an ?_ ⟨mp,rfl,fun h=>absurd h ah,rfl⟩;exact ae
 by_cases c2:11<parts[(i:Int).toNat]!.1 / 4294967296
 ·rw[if_pos (.inr c2)] at hg;rw[hg];refine Tk ?_;intros;refine KX.d7 an ?_ ⟨mp,rfl,fun h=>absurd h ah,rfl⟩;exact ae
 rw[if_neg (fun q=>q.elim c1 c2)] at hg;refine Tk ?_;intros;have hv:=nC mp parts[(i:Int).toNat]!.1;have a5:=a0.2 parts[(i:Int).toNat]!.1;rw[a5] at hv;unfold glk at hv;refine GPW.ent (Ent.at (A:=bigO dO mp) (nX (f:=parts[(i:Int).toNat]!.1) a0.1)) ?_;rw[a5];refine GPW.evL (Ev.d7 rfl rfl) ah ?_;rw[hv];refine Tk ?_;intros;refine GPW.cr (lJ _ _ _ (ofF (l++parts.take i) parts[(i:Int).toNat]!.1) parts[(i:Int).toNat]! rfl ab b5 a6.w) ?_;by_cases c3:∃y∈ofF (l++parts.take i) parts[(i:Int).toNat]!.1,ovP parts[(i:Int).toNat]! y
 ·rw[if_pos c3] at hg;rw[hg,aT c3];refine Tk ?_;intros;refine KX.d7 an ?_ ⟨mp,rfl,fun h=>absurd h ah,rfl⟩;rw[←a5];refine Ent.trans ?_ (Ent.d7 (Ent.swap (A:=bigO dO mp)));refine Ent.trans ?_ Ent.swap;refine Ent.trans ?_ (qU (f:=parts[(i:Int).toNat]!.1) a0.1);exact ae
 rw[if_neg c3] at hg;rw[aH c3];refine Tk ?_;intros;refine GPW.evL (Ev.d7 rfl rfl) ah ?_;rw[hv];refine Tk ?_;intros;refine GPK.keep (by rw[←hv];exact Ev.d7 rfl rfl) ?_;refine Tk ?_;intros;refine GPW.ef (Ef.d7 (enc:=ao) (e:=parts[(i:Int).toNat]!) rfl rfl rfl rfl rfl (by rfl) (cK _) ab ab) ah ?_;rintro _ _⟨a4,a2,rfl,rfl⟩;refine Tk ?_;intros;refine GPW.efu (Ef.e8 (enc:=Stk.v) (e:=(⟨a4,a2,ofF (l++parts.take i) parts[(i:Int).toNat]!.1++[parts[(i:Int).toNat]!]⟩:Stk)) rfl rfl rfl rfl) ?_;rintro _ _⟨rfl,rfl⟩
 have a7:l++parts.take (i+1)=l++parts.take i++[parts[(i:Int).toNat]!]:=by
  rw[e1,aC a3,getElem!_of a3,aJ]
 refine Tk ?_;intros;refine⟨(i+1,gins mp parts[(i:Int).toNat]!.1 ⟨a4,a2,ofF (l++parts.take i) parts[(i:Int).toNat]!.1++[parts[(i:Int).toNat]!]⟩),⟨by dsimp only;omega,⟨kE a0.1,fun f=>?_⟩,by dsimp only;rw[a7];exact hg⟩,by dsimp only;omega,?_,?_⟩
 ·dsimp only;rw[lU,a7,rg];by_cases e:parts[(i:Int).toNat]!.1=f
  ·rw[if_pos e.symm,if_pos e,e]
  ·rw[if_neg (fun q=>e q.symm),if_neg e];exact a0.2 f
 ·dsimp only;rw[aK i];exact ai
 ·dsimp only;refine Ent.trans ?_ (Ent.d7 (Ent.swap (A:=bigO dO _)));refine Ent.trans ?_ Ent.swap;refine Ent.trans ?_ (mO (f:=parts[(i:Int).toNat]!.1) a0.1 ⟨a4,a2,ofF (l++parts.take i) parts[(i:Int).toNat]!.1++[parts[(i:Int).toNat]!]⟩);exact ae
end
section
open Go.V
def FlA(fl:List FlM):Prop:=∀f∈fl,(∀x∈f.parts,LotOk x)∧((f.kind=5∨(f.kind=9∧f.frm=0))→Apart f.parts)
def impAll_mem{fl:List FlM}{y:Lot}:y∈eG fl↔∃f∈fl,f.kind=5∧y∈f.parts:=by
 unfold eG;rw[List.mem_flatMap];constructor
 ·rintro⟨f,hf,hy⟩;obtain⟨h1,h2⟩:=List.mem_filter.1 hf;exact⟨f,h1,of_decide_eq_true h2,hy⟩
 ·rintro⟨f,hf,hk,hy⟩;exact⟨f,List.mem_filter.2 ⟨hf,decide_eq_true hk⟩,hy⟩
def retAll_mem{fl:List FlM}{y:Lot}:y∈fy fl↔∃f∈fl,(f.kind=9∧f.frm=0)∧y∈f.parts:=by
 unfold fy;rw[List.mem_flatMap];constructor
 ·rintro⟨f,hf,hy⟩;obtain⟨h1,h2⟩:=List.mem_filter.1 hf;exact⟨f,h1,of_decide_eq_true h2,hy⟩
 ·rintro⟨f,hf,hk,hy⟩;exact⟨f,List.mem_filter.2 ⟨hf,decide_eq_true hk⟩,hy⟩
def DD{fl:List FlM}(h:FlA fl):∀y∈eG fl,LotOk y:=fun y hy=>by
 obtain⟨f,hf,_,hy⟩:=impAll_mem.1 hy;exact(h f hf).1 y hy
def CZ{fl:List FlM}(h:FlA fl):∀y∈fy fl,LotOk y:=fun y hy=>by
 obtain⟨f,hf,_,hy⟩:=retAll_mem.1 hy;exact(h f hf).1 y hy
def Em{fl:List FlM}(h:FlA fl){p:Lot}(hp:LotOk p):ly fl p↔∃y∈ofF (eG fl) p.1,ovP p y:=by
 unfold ly;constructor
 ·rintro⟨f,hf,hk,hm⟩;obtain⟨y,hy,h1,h2⟩:=(mD (h f hf).1 ((h f hf).2 (.inl hk)) hp).1 hm;exact⟨y,ofF_mem.2 ⟨impAll_mem.2 ⟨f,hf,hk,hy⟩,h1⟩,h2⟩
 ·rintro⟨y,hy,h2⟩;obtain⟨hy,h1⟩:=ofF_mem.1 hy;obtain⟨f,hf,hk,hy⟩:=impAll_mem.1 hy;exact⟨f,hf,hk,(mD (h f hf).1 ((h f hf).2 (.inl hk)) hp).2 ⟨y,hy,h1,h2⟩⟩
def wO{sh:Int}{fl:List FlM}(h:FlA fl):∀(ps dn:LL),(∀p∈ps,LotOk p)→Apart ps→(∀d∈dn,∀p∈ps,apart d p)→impG sh ps (eG fl++dn)=arrG sh fl ps
 | [],_,_,_,_=>rfl
 | p::ps,dn,h1,h2,h3=>by
  obtain⟨a1,a2⟩:=List.pairwise_cons.1 h2;have hp:=h1 p au
  have ih:=wO (sh:=sh) h ps (dn++[p]) (fun q hq=>h1 q (aq _ hq)) a2 (fun d hd q hq=>by
   rcases List.mem_append.1 hd with hd|hd
   ·exact h3 d hd q (aq _ hq)
   ·rw[List.mem_singleton.1 hd];exact a1 q hq)
  have e:(∃y∈ofF (eG fl++dn) p.1,ovP p y)↔ly fl p:=by
   rw[Em h hp];constructor
   ·rintro⟨y,hy,h4⟩;obtain⟨hy,h5⟩:=ofF_mem.1 hy;rcases List.mem_append.1 hy with hy|hy
    ·exact⟨y,ofF_mem.2 ⟨hy,h5⟩,h4⟩
    ·have:=h3 y hy p au
     unfold apart at this;unfold ovP at h4;omega
   ·rintro⟨y,hy,h4⟩;obtain⟨hy,h5⟩:=ofF_mem.1 hy;exact⟨y,ofF_mem.2 ⟨cA _ hy,h5⟩,h4⟩
  rw[un];show _=if arr1 sh fl p=0 then arrG sh fl ps else arr1 sh fl p;unfold arr1;by_cases c1:p.1 / 4294967296=sh∨11<p.1 / 4294967296
  ·rw[if_pos c1,if_pos c1,if_neg ah]
  ·rw[if_neg c1,if_neg c1];by_cases c2:ly fl p
   ·rw[if_pos (e.2 c2),if_pos c2,if_neg ah]
   ·rw[if_neg (fun q=>c2 (e.1 q)),if_neg c2,if_pos rfl,aJ];exact ih
def Gm{sh:Int}{fl:List FlM}(h:FlA fl){ps:LL}(h1:∀p∈ps,LotOk p)(h2:Apart ps):impG sh ps (eG fl)=arrG sh fl ps:=by
 have:=wO (sh:=sh) h ps [] h1 h2 (fun d hd=>absurd hd aV)
 rwa [aY] at this
end
section
open Go.V
attribute [local irreducible] G GO GP GPW GPK Ev Ef EfR Ent CB GB V.Enters
def gotB(sh:Int)(fl:List FlM)(item:Int)(p:Lot):Prop:=(0≤p.1 - sh*4294967296∧p.1 - sh*4294967296<fl.length)∧fl[(p.1 - sh*4294967296).toNat]!.to=0∧fl[(p.1 - sh*4294967296).toNat]!.kind≠6∧fl[(p.1 - sh*4294967296).toNat]!.item=item∧p.2.1+p.2.2≤fl[(p.1 - sh*4294967296).toNat]!.n
instance (sh:Int)(fl:List FlM)(item:Int)(p:Lot):Decidable (gotB sh fl item p):=by unfold gotB;infer_instance
def retG(sh:Int)(fl:List FlM)(item:Int):LL→LL→Int
 | [],_=>0
 | p::ps,l=>if gotB sh fl item p∧¬ ∃y∈ofF l p.1,ovP p y then retG sh fl item ps (l++[p]) else 10
def ub{sh:Int}{fl:List FlM}{item:Int}{p:Lot}{ps l:LL}:retG sh fl item (p::ps) l=if gotB sh fl item p∧¬ ∃y∈ofF l p.1,ovP p y then retG sh fl item ps (l++[p]) else 10:=rfl
abbrev zh:List Stp:=[.ev 0,.ev 1,.ev 2,.ev 3,.ev 4,.ev 5,.ev 6,.ev 7,.ev 8]
abbrev zg:List Stp:=[.ev 0,.ev 1,.ev 2,.ev 3,.ev 4,.ev 5,.ev 6,.ev 7,.ev 8,.ev 9,.ev 10,.ev 11,.ev 12,.ev 13,.ev 14,.ev 15,.ev 16,.ev 18,.ev 19,.ef 17,.ev 20,.ev 21,.ev 22,.ev 23,.ev 24,.ev 25,.ev 26,.ev 27,.ev 28,.ev 29,.ev 30,.ef 31,.ev 32]
abbrev wr:List Stp:=[.ev 0,.ev 1,.ev 2,.ev 3,.ev 4,.ev 5,.ev 6,.ev 7,.ev 8,.ev 9,.ev 10,.ev 11,.ev 12,.ev 13,.ef 14,.ef 15,.ef 16]
def cD{φ ψ:Prop}(k:ψ)(h:Hid ψ→φ:=by intro k;(with_reducible apply G.d8);first|refine G.d7 (N:=92) (id:=4) zh mixed aw (Hid.out k)|refine G.d7 (N:=92) (id:=8) zg mixed aw (Hid.out k)|refine G.d7 (N:=92) (id:=10) wr mixed aw (Hid.out k)):φ:=h ⟨k⟩
def Ty{φ ψ:Prop}(k:ψ)(h:Hid ψ→φ:=by intro k;(repeat (first|refine aa ?_|intro zzz|((with_reducible apply G.d8);first|refine G.d7 (N:=92) (id:=4) zh mixed aw ?_|refine G.d7 (N:=92) (id:=8) zg mixed aw ?_|refine G.d7 (N:=92) (id:=10) wr mixed aw ?_)));(repeat revert zzz);exact Hid.out k):φ:=h ⟨k⟩
def qZ{L:LH}(b:Nat)(sh:Int)(b8:0≤sh∧sh<12)(x:BkX)(d3:x.flows.length≤9000000)(l:LL)(hm:jp x.ret l)(hl:l.length≤100000)(c0:∀y∈l,LotOk y)(m:MvV)[hr:Rds L m.pad Lot ao 3 m.m.parts](hp:∀p∈m.m.parts,LotOk p)(hb:∀p∈m.m.parts,p.1≤9223372036854775807)(d0:m.m.parts.length≤4096) :
  Tri ag 152 #[av b,.agg (aQ m).toArray] (obj b tBk (bI sh x)::osl aM 11 bY x.fad x.fcap x.flows::gmap kvI Stk.v x.mr x.ret::bigO dO x.ret::L) (fun v L'=>∃a5,v=ac (retG sh (x.flows.map (·.m)) m.m.item m.m.parts l)∧(retG sh (x.flows.map (·.m)) m.m.item m.m.parts l=0→jp a5 (l++m.m.parts))∧L' = obj b tBk (bI sh x)::osl aM 11 bY x.fad x.fcap x.flows::gmap kvI Stk.v x.mr a5::bigO dO a5::L):=by
 obtain⟨⟨frm,to,item,mn,parts⟩,pad,pcap⟩:=m;dsimp only at hr hp hb d0 ⊢;generalize hfe:x.flows.map (·.m)=fl;have c9:fl.length=x.flows.length:=by rw[←hfe,aA]
 refine Tri.bd (args:=[av b,.agg (aQ ⟨⟨frm,to,item,mn,parts⟩,pad,pcap⟩).toArray]) ?_;simp only[aQ,bI];refine Ty ?_;intros;rename_i b3;refine G.loop (α:=Nat×List (Int×Stk)) (fun g=>g.1≤parts.length∧jp g.2 (l++parts.take g.1)∧retG sh fl item parts l=retG sh fl item (parts.drop g.1) (l++parts.take g.1)) (fun g=>[(0,av b),(3,av b3),(10,.slice pad parts.length pcap),(11,ac parts.length),(12,ac (g.1:Int))]) (fun g=>obj b3 tMv [ac frm,ac to,ac item,ac mn,.slice pad parts.length pcap]::obj b tBk (bI sh x)::osl aM 11 bY x.fad x.fcap x.flows::gmap kvI Stk.v x.mr g.2::bigO dO g.2::L) (fun g=>parts.length - g.1) (0,x.ret) ⟨aj _,by rw[cd,aY];exact hm,by rw[cd,aY];rfl⟩ ai (by simp only[bI];exact ae) ?_;rintro⟨i,mp⟩ ⟨hi,a3,hg⟩;dsimp only at hi a3 hg ⊢;simp only[bI];by_cases a7:i<parts.length
 case neg =>
  rw[bg ab,aF ab] at hg;rw[aF ab] at a3;have d1:retG sh fl item parts l=0:=hg;rw[d1];refine Ty ?_;intros;refine KX.d7 an ?_ ⟨mp,rfl,fun _=>a3,rfl⟩;exact ae
 have b7:(i:Int).toNat=i:=ay i;have b9 : (i:Int).toNat<parts.length:=ab;have e1:parts[(i:Int).toNat]! = parts[i]!:=by rw[b7]
 have a4 : LotOk parts[(i:Int).toNat]!:=by rw[b7];exact hp _ (aG a7)
 have c8:=hb _ (aG a7);rw[←e1] at c8;have a8:=a4;unfold LotOk at a8;rw[dF a7,ub,←e1] at hg
 have d2:∀y∈ofF (l++parts.take i) parts[(i:Int).toNat]!.1,LotW y:=fun y hy=>by
  rcases List.mem_append.1 (ofF_mem.1 hy).1 with h|h
  ·exact(c0 y h).w
  ·exact(hp y (cL h)).w
 have d4:(ofF (l++parts.take i) parts[(i:Int).toNat]!.1).length≤110000:=by
  refine cg (nJ _ _) ?_;rw[aD,bh];omega
 have hv:=nC mp parts[(i:Int).toNat]!.1;have b0:=a3.2 parts[(i:Int).toNat]!.1;rw[b0] at hv;unfold glk at hv;refine G.ent (L':=osl ao 3 tLot (eY mp parts[(i:Int).toNat]!.1).ad (eY mp parts[(i:Int).toNat]!.1).cap (ofF (l++parts.take i) parts[(i:Int).toNat]!.1)::bigO dO (gera mp parts[(i:Int).toNat]!.1)::obj b3 tMv [ac frm,ac to,ac item,ac mn,.slice pad parts.length pcap]::obj b tBk (bI sh x)::osl aM 11 bY x.fad x.fcap x.flows::gmap kvI Stk.v x.mr mp::L) ?_ ?_
 ·refine(Ent.at (A:=bigO dO mp) (nX (f:=parts[(i:Int).toNat]!.1) a3.1)).trans ?_;rw[b0];exact ae
 have a0:Ent (osl ao 3 tLot (eY mp parts[(i:Int).toNat]!.1).ad (eY mp parts[(i:Int).toNat]!.1).cap (ofF (l++parts.take i) parts[(i:Int).toNat]!.1)::bigO dO (gera mp parts[(i:Int).toNat]!.1)::obj b tBk (bI sh x)::osl aM 11 bY x.fad x.fcap x.flows::gmap kvI Stk.v x.mr mp::L) (obj b tBk (bI sh x)::osl aM 11 bY x.fad x.fcap x.flows::gmap kvI Stk.v x.mr mp::bigO dO mp::L):=by
  rw[←b0];exact(qU (f:=parts[(i:Int).toNat]!.1) a3.1).trans ae
 simp only[bI] at a0 ⊢;refine Ty ?_;intros;refine GPW.evP (Ev.m9 rfl rfl ab ab) ah ?_;have a9:sh*4294967296≤12*4294967296:=bW ab ah;have b1:0≤sh*4294967296:=dy b8.1 ah;obtain⟨sk,b2⟩:∃sk,sk=sh*4294967296:=⟨_,rfl⟩;have a2:¬gotB sh fl item parts[(i:Int).toNat]!→retG sh fl item parts l=10:=fun q=>by rw[hg,if_neg (fun h=>q h.1)]
 unfold gotB at a2;rw[←b2] at a9 b1 a2;rw[←b2];by_cases c1:0≤parts[(i:Int).toNat]!.1 - sk
 case neg =>
  rw[a2 (fun q=>c1 q.1.1)];refine Ty ?_;intros;refine KX.d7 an ?_ ⟨mp,rfl,fun h=>absurd h ah,rfl⟩;exact Ent.trans ae a0
 by_cases c2:parts[(i:Int).toNat]!.1 - sk<fl.length
 case neg =>
  rw[a2 (fun q=>c2 q.1.2)];refine Ty ?_;intros;refine KX.d7 an ?_ ⟨mp,rfl,fun h=>absurd h ah,rfl⟩;exact Ent.trans ae a0
 have hk:(parts[(i:Int).toNat]!.1 - sk).toNat<x.flows.length:=ab;have b5:fl[(parts[(i:Int).toNat]!.1 - sk).toNat]! = x.flows[(parts[(i:Int).toNat]!.1 - sk).toNat]!.m:=by rw[←hfe,dP _ hk]
 rw[b5] at a2;repeat first|((fail_if_success (with_reducible refine G.atS 8 ?_));(with_reducible apply G.seq))|refine bA ?_|intro _|refine cD ?_
 generalize hfv:x.flows[(parts[(i:Int).toNat]!.1 - sk).toNat]! = fv at *;by_cases c3:fv.m.to=0
 case neg =>
  rw[a2 (fun q=>c3 q.2.1)];refine Ty ?_;intros;refine KX.d7 an ?_ ⟨mp,rfl,fun h=>absurd h ah,rfl⟩;exact Ent.trans ae a0
 by_cases c4:fv.m.kind=6
 case pos =>
  rw[a2 (fun q=>q.2.2.1 c4)];refine Ty ?_;intros;refine KX.d7 an ?_ ⟨mp,rfl,fun h=>absurd h ah,rfl⟩;exact Ent.trans ae a0
 by_cases c5:fv.m.item=item
 case neg =>
  rw[a2 (fun q=>c5 q.2.2.2.1)];refine Ty ?_;intros;refine KX.d7 an ?_ ⟨mp,rfl,fun h=>absurd h ah,rfl⟩;exact Ent.trans ae a0
 by_cases c6:parts[(i:Int).toNat]!.2.1+parts[(i:Int).toNat]!.2.2≤fv.m.n
 case neg =>
  rw[a2 (fun q=>c6 q.2.2.2.2)];refine Ty ?_;intros;refine GPW.cr (iN parts[(i:Int).toNat]! a4.w) ?_;refine Ty ?_;intros;refine KX.d7 an ?_ ⟨mp,rfl,fun h=>absurd h ah,rfl⟩;exact Ent.trans ae a0
 have b4:gotB sh fl item parts[(i:Int).toNat]!:=by
  unfold gotB;rw[←b2,b5];exact⟨⟨c1,c2⟩,c3,c4,c5,c6⟩
 clear a2;refine Ty ?_;intros;refine GPW.cr (iN parts[(i:Int).toNat]! a4.w) ?_;refine Ty ?_;intros;refine GPW.evL (Ev.d7 rfl rfl) ah ?_;rw[hv];refine Ty ?_;intros;refine GPW.cr (lJ _ _ _ (ofF (l++parts.take i) parts[(i:Int).toNat]!.1) parts[(i:Int).toNat]! rfl ab d2 a4.w) ?_;by_cases c7:∃y∈ofF (l++parts.take i) parts[(i:Int).toNat]!.1,ovP parts[(i:Int).toNat]! y
 ·rw[if_neg (fun q=>q.2 c7)] at hg;rw[hg,aT c7];refine Ty ?_;intros;refine KX.d7 an ?_ ⟨mp,rfl,fun h=>absurd h ah,rfl⟩;exact Ent.trans ae a0
 rw[if_pos ⟨b4,c7⟩] at hg;rw[aH c7];refine Ty ?_;intros;refine GPW.evL (Ev.d7 rfl rfl) ah ?_;rw[hv];refine Ty ?_;intros;refine GPK.keep (by rw[←hv];exact Ev.d7 rfl rfl) ?_;refine Ty ?_;intros;refine GPW.ef (Ef.d7 (enc:=ao) (e:=parts[(i:Int).toNat]!) rfl rfl rfl rfl rfl (by rfl) (cK _) ab ab) ah ?_;rintro _ _⟨a6,a1,rfl,rfl⟩;refine Ty ?_;intros;refine GPW.efu (Ef.e8 (enc:=Stk.v) (e:=(⟨a6,a1,ofF (l++parts.take i) parts[(i:Int).toNat]!.1++[parts[(i:Int).toNat]!]⟩:Stk)) rfl rfl rfl rfl) ?_;rintro _ _⟨rfl,rfl⟩
 have b6:l++parts.take (i+1)=l++parts.take i++[parts[(i:Int).toNat]!]:=by
  rw[e1,aC a7,getElem!_of a7,aJ]
 refine Ty ?_;intros;refine⟨(i+1,gins mp parts[(i:Int).toNat]!.1 ⟨a6,a1,ofF (l++parts.take i) parts[(i:Int).toNat]!.1++[parts[(i:Int).toNat]!]⟩),⟨by dsimp only;omega,⟨kE a3.1,fun f=>?_⟩,by dsimp only;rw[b6];exact hg⟩,by dsimp only;omega,?_,?_⟩
 ·dsimp only;rw[lU,b6,rg];by_cases e:parts[(i:Int).toNat]!.1=f
  ·rw[if_pos e.symm,if_pos e,e]
  ·rw[if_neg (fun q=>e q.symm),if_neg e];exact a3.2 f
 ·dsimp only;rw[aK i];exact ai
 ·dsimp only;refine Ent.trans ?_ (Ent.at (A:=bigO dO (gins mp parts[(i:Int).toNat]!.1 ⟨a6,a1,ofF (l++parts.take i) parts[(i:Int).toNat]!.1++[parts[(i:Int).toNat]!]⟩)) (L:=bigO dO (gins mp parts[(i:Int).toNat]!.1 ⟨a6,a1,ofF (l++parts.take i) parts[(i:Int).toNat]!.1++[parts[(i:Int).toNat]!]⟩)::obj b3 tMv [ac frm,ac to,ac item,ac mn,.slice pad parts.length pcap]::obj b tBk (bI sh x)::osl aM 11 bY x.fad x.fcap x.flows::gmap kvI Stk.v x.mr (gins mp parts[(i:Int).toNat]!.1 ⟨a6,a1,ofF (l++parts.take i) parts[(i:Int).toNat]!.1++[parts[(i:Int).toNat]!]⟩)::L) (by simp only[bI];exact ae));refine Ent.trans ?_ (mO (f:=parts[(i:Int).toNat]!.1) a3.1 ⟨a6,a1,ofF (l++parts.take i) parts[(i:Int).toNat]!.1++[parts[(i:Int).toNat]!]⟩);exact ae
end
section
open Go.V
def FlN(sh:Int)(fl:List FlM):Prop:=∀k,k<fl.length→fl[k]!.id=sh*4294967296+k∧1≤fl[k]!.n∧fl[k]!.n≤1099511627776
def zQ{p:Lot}{id n:Int}(hp:LotOk p)(hi:0≤id)(h1:1≤n)(h2:n≤1099511627776):fV [p] [(id,0,n)]↔p.1=id∧p.2.1+p.2.2≤n:=by
 have hx:LotOk (id,0,n):=⟨hi,bj _,by dsimp only;omega,h1,by dsimp only;omega⟩;have one:∀y:Lot,Apart [y]:=fun y=>cI _ _;rw[rH (mo hp) (one p) (mo hx) (one _),gM,iD];show p.2.2+0 - ((ov p (id,0,n)+0)+0)=0↔_;unfold LotOk at hp;unfold ov;dsimp only;by_cases e:p.1=id
 ·rw[if_pos e];omega
 ·rw[if_neg e];omega
def Eo{sh:Int}{fl:List FlM}(a0:0≤sh)(h:FlA fl)(hn:FlN sh fl)(item:Int){p:Lot}(hp:LotOk p):kj fl item p↔gotB sh fl item p∧¬ ∃y∈ofF (fy fl) p.1,ovP p y:=by
 have a1:0≤sh*4294967296:=dy a0 ah
 have hA:(∃f∈fl,f.kind=9∧f.frm=0∧fL f.parts [p]≠[])↔∃y∈ofF (fy fl) p.1,ovP p y:=by
  constructor
  ·rintro⟨f,hf,hk,hz,hm⟩;obtain⟨y,hy,h1,h2⟩:=(mD (h f hf).1 ((h f hf).2 (.inr ⟨hk,hz⟩)) hp).1 hm;exact⟨y,ofF_mem.2 ⟨retAll_mem.2 ⟨f,hf,⟨hk,hz⟩,hy⟩,h1⟩,h2⟩
  ·rintro⟨y,hy,h2⟩;obtain⟨hy,h1⟩:=ofF_mem.1 hy;obtain⟨f,hf,hk,hy⟩:=retAll_mem.1 hy;exact⟨f,hf,hk.1,hk.2,(mD (h f hf).1 ((h f hf).2 (.inr hk)) hp).2 ⟨y,hy,h1,h2⟩⟩
 have hB:(∃f∈fl,f.kind≠6∧f.to=0∧f.item=item∧fV [p] [(f.id,0,f.n)])↔gotB sh fl item p:=by
  constructor
  ·rintro⟨f,hf,h1,h2,h3,h4⟩;obtain⟨k,hk,rfl⟩:=List.mem_iff_getElem.1 hf;obtain⟨g1,g2,g3⟩:=hn k hk;rw[getElem!_of hk] at g1 g2 g3;obtain⟨g4,g5⟩:=(zQ hp ab g2 g3).1 h4;have e:(p.1 - sh*4294967296).toNat=k:=ab;unfold gotB;rw[e,getElem!_of hk];exact⟨⟨ab,ab⟩,h2,h1,h3,g5⟩
  ·rintro⟨⟨h1,h2⟩,h3,h4,h5,h6⟩;have hk:(p.1 - sh*4294967296).toNat<fl.length:=ab;obtain⟨g1,g2,g3⟩:=hn _ hk;exact⟨_,aG hk,h4,h3,h5,(zQ hp ab g2 g3).2 ⟨ab,h6⟩⟩
 unfold kj;rw[hA,hB];exact And.comm
def vY{sh:Int}{fl:List FlM}(a0:0≤sh)(h:FlA fl)(hn:FlN sh fl)(item:Int):∀(ps dn:LL),(∀p∈ps,LotOk p)→Apart ps→(∀d∈dn,∀p∈ps,apart d p)→retG sh fl item ps (fy fl++dn)=revG fl item ps
 | [],_,_,_,_=>by
  unfold revG;rw[if_pos (fun p hp=>absurd hp aV)];rfl
 | p::ps,dn,h1,h2,h3=>by
  obtain⟨a1,a2⟩:=List.pairwise_cons.1 h2;have hp:=h1 p au
  have ih:=vY a0 h hn item ps (dn++[p]) (fun q hq=>h1 q (aq _ hq)) a2 (fun d hd q hq=>by
   rcases List.mem_append.1 hd with hd|hd
   ·exact h3 d hd q (aq _ hq)
   ·rw[List.mem_singleton.1 hd];exact a1 q hq)
  have e:(∃y∈ofF (fy fl++dn) p.1,ovP p y)↔∃y∈ofF (fy fl) p.1,ovP p y:=by
   constructor
   ·rintro⟨y,hy,h4⟩;obtain⟨hy,h5⟩:=ofF_mem.1 hy;rcases List.mem_append.1 hy with hy|hy
    ·exact⟨y,ofF_mem.2 ⟨hy,h5⟩,h4⟩
    ·have:=h3 y hy p au
     unfold apart at this;unfold ovP at h4;omega
   ·rintro⟨y,hy,h4⟩;obtain⟨hy,h5⟩:=ofF_mem.1 hy;exact⟨y,ofF_mem.2 ⟨cA _ hy,h5⟩,h4⟩
  have hb:=Eo a0 h hn item hp;rw[←e] at hb;rw[ub,aJ,ih];unfold revG;by_cases c:kj fl item p
  ·rw[if_pos (hb.1 c)];by_cases c2:∀q∈ps,kj fl item q
   ·rw[if_pos c2,if_pos (fun q hq=>by
     rcases List.mem_cons.1 hq with rfl|hq
     ·exact c
     ·exact c2 q hq)]
   ·rw[if_neg c2,if_neg (fun q=>c2 (fun r hr=>q r (aq _ hr)))]
  ·rw[if_neg (fun q=>c (hb.2 q)),if_neg (fun q=>c (q p au))]
def FY{sh:Int}{fl:List FlM}(a0:0≤sh)(h:FlA fl)(hn:FlN sh fl)(item:Int){ps:LL}(h1:∀p∈ps,LotOk p)(h2:Apart ps):retG sh fl item ps (fy fl)=revG fl item ps:=by
 have:=vY a0 h hn item ps [] h1 h2 (fun d hd=>absurd hd aV)
 rwa [aY] at this
