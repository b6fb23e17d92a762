/- Lemmas and contracts of functions. -/
import Derived.Test.YtommnllbflbdmaaGreatDoorGAuditTotalsbf
import Derived.Test.YtommnllbflbdmaaGreatDoorGAuditTotalsbg
import Derived.Test.YtommnllbflbdmaaGreatDoorGAuditTotalsbi
set_option linter.all false
set_option maxHeartbeats 4000000
namespace Go.Proofs.YtommnllbflbdmaaGreatDoor
section
open Go.V
attribute [local irreducible] G GO GP GPW GPK Ev Ef EfR Ent CB GB V.Enters
abbrev tBk:Nat:=105
structure BkX where
 cat:CatV
 ms:Nat
 mt:Nat
 mi:Nat
 mr:Nat
 count:Int
 tick:Int
 stk:List ((Int×Int)×Stk)
 tot:List (Int×Int)
 imp:List (Int×Stk)
 ret:List (Int×Stk)
 flows:List FlV
 fad:Option Addr
 fcap:Nat
abbrev bz (sh:Int) (x:BkX):List Value:=[.int .i64 sh,.slice x.cat.iad x.cat.items.length x.cat.icap,.slice x.cat.rad x.cat.rules.length x.cat.rcap,.slice x.cat.tad x.cat.tables.length x.cat.tcap,.slice x.cat.xad x.cat.taxes.length x.cat.xcap,.int .i64 x.count,.int .i64 x.tick,.map (some x.ms),.map (some x.mt),.slice x.fad x.flows.length x.fcap,.map (some x.mi),.map (some x.mr)]
abbrev bkL (b:Nat) (sh:Int) (x:BkX) (L:List HP):List HP :=
 obj b tBk (bz sh x)::gmap kvP Stk.v x.ms x.stk::gmap kvI encN x.mt x.tot::osl bF 11 cq x.fad x.fcap x.flows::gmap kvI Stk.v x.mi x.imp::gmap kvI Stk.v x.mr x.ret::catP x.cat::allP (fun p:(Int×Int)×Stk=>stkP p.2) x.stk::allP flP x.flows::bigO eM x.imp::bigO eM x.ret::L
def fu (fl:List FlM):List Lot:=(fl.filter (fun f=>decide (f.kind=5))).flatMap (·.parts)
def eV (fl:List FlM):List Lot:=(fl.filter (fun f=>decide (f.kind=9∧f.frm=0))).flatMap (·.parts)
def kD (m:List (Int×Stk)) (l:List Lot):Prop:=(m.map (·.1)).Nodup∧∀ f,(eu m f).lots=ofF l f
def impG (sh:Int):List Lot→List Lot→Int
 | [],_=>0
 | p::ps,l=>if p.1 / 4294967296=sh∨11<p.1 / 4294967296 then 1 else if ∃ y∈ofF l p.1,ovP p y then 8 else impG sh ps (l++[p])
theorem vk (l:List Lot) (p:Lot) (f:Int):ofF (l++[p]) f=if p.1=f then ofF l f++[p] else ofF l f:=by
 unfold ofF
 rw [cJ]
 by_cases e:p.1=f
 ·rw [if_pos e,bS (by simpa using e)]
  rfl
 ·rw [if_neg e,bT (by simpa using e),List.filter_nil,aV]
theorem sT {sh:Int} {p:Lot} {ps l:List Lot}:impG sh (p::ps) l=if p.1 / 4294967296=sh∨11<p.1 / 4294967296 then 1 else if ∃ y∈ofF l p.1,ovP p y then 8 else impG sh ps (l++[p]):=rfl
abbrev xQ:List Stp:=[.ev 0,.ev 1,.ev 2,.ev 3,.ev 4,.ev 5,.ev 6,.ev 7,.ef 8]
abbrev xP:List Stp:=[.ev 0,.ev 1,.ev 2,.ev 3,.ev 4,.ev 5,.ev 6,.ev 7,.ev 8,.ev 9,.ev 10,.ev 11,.ev 12,.ev 13,.ef 14,.ef 15,.ef 16]
theorem dl {φ ψ:Prop} (k:ψ) (h:Hid ψ→φ:=by intro k;(with_reducible apply G.d8);first|refine G.d7 (N:=54) (id:=7) xQ mixed an (Hid.out k)|refine G.d7 (N:=54) (id:=9) xP mixed an (Hid.out k)):φ:=h ⟨k⟩
theorem qo {L:List HP} (b:Nat) (sh:Int) (x:BkX) (l:List Lot) (hm:kD x.imp l) (hl:l.length≤100000) (hlo:∀ y∈l,LotOk y) (m:MvV) [hr:Rds L m.pad Lot ah 3 m.m.parts] (hp:∀ p∈m.m.parts,LotOk p) (hb:∀ p∈m.m.parts,p.1≤9223372036854775807) (hpl:m.m.parts.length≤4096) :
  Tri Tryz.prog 151 #[.pointer (some ⟨b,0,none⟩),.agg (aF m).toArray] (obj b tBk (bz sh x)::gmap kvI Stk.v x.mi x.imp::bigO eM x.imp::L) (fun v L'=>∃ imp',v=.int .i64 (impG sh m.m.parts l)∧(impG sh m.m.parts l=0→kD imp' (l++m.m.parts))∧L' = obj b tBk (bz sh x)::gmap kvI Stk.v x.mi imp'::bigO eM imp'::L):=by
 obtain ⟨⟨frm,to,item,mn,parts⟩,pad,pcap⟩:=m
 dsimp only at hr hp hb hpl ⊢
 refine Tri.body (args:=[.pointer (some ⟨b,0,none⟩),.agg (aF ⟨⟨frm,to,item,mn,parts⟩,pad,pcap⟩).toArray]) 54 Ib Tryz.func151 rfl rfl rfl (by simp) ?_
 simp only [aF,bz]
 repeat first|refine aa ?_|intro _|refine dl ?_
 rename_i b3
 refine G.loop (α:=Nat×List (Int×Stk)) (fun g=>g.1≤parts.length∧kD g.2 (l++parts.take g.1)∧impG sh parts l=impG sh (parts.drop g.1) (l++parts.take g.1)) (fun g=>[(0,.pointer (some ⟨b,0,none⟩)),(9,.slice pad parts.length pcap),(10,.int .i64 parts.length),(11,.int .i64 (g.1:Int))]) (fun g=>obj b tBk (bz sh x)::gmap kvI Stk.v x.mi g.2::bigO eM g.2::L) (fun g=>parts.length - g.1) (0,x.imp) ⟨al _,by rw [bX,aV];exact hm,by rw [bX,aV];rfl⟩ ai (by simp only [bz];exact ae) ?_
 rintro ⟨i,mp⟩ ⟨hi,hmp,hg⟩
 dsimp only at hi hmp hg ⊢
 simp only [bz]
 by_cases hlt:i<parts.length
 case neg =>
  rw [aY ab,aA ab] at hg
  rw [aA ab] at hmp
  have hg0:impG sh parts l=0:=hg
  rw [hg0]
  repeat first|refine aa ?_|intro _|refine dl ?_
  exact KX.d7 ag (Ent.refl _) ⟨mp,rfl,fun _=>hmp,rfl⟩
 have hii:(i:Int).toNat=i:=av i
 have hlt' : (i:Int).toNat<parts.length:=ab
 have hok:=hp _ (aG hlt)
 have hbp:=hb _ (aG hlt)
 rw [ew hlt,sT] at hg
 repeat first|refine aa ?_|intro _|refine dl ?_
 refine GO.ev (Ev.B9 rfl rfl) ac ?_
 repeat first|refine aa ?_|intro _|refine dl ?_
 have hok' : LotOk parts[(i:Int).toNat]!:=by rw [hii];exact hok
 have hsm:∀ y∈ofF (l++parts.take i) parts[(i:Int).toNat]!.1,LotW y:=fun y hy=>by
  rcases List.mem_append.1 (ofF_mem.1 hy).1 with h|h
  ·exact (hlo y h).w
  ·exact (hp y (dJ h)).w
 have hsl:(ofF (l++parts.take i) parts[(i:Int).toNat]!.1).length≤110000:=by
  refine cx (pb _ _) ?_
  rw [ax,ba]
  omega
 have e1:parts[(i:Int).toNat]! = parts[i]!:=by rw [hii]
 rw [← e1] at hg
 by_cases c1:parts[(i:Int).toNat]!.1 / 4294967296=sh
 ·rw [if_pos (.inl c1)] at hg
  rw [hg]
  repeat first|refine aa ?_|intro _|refine dl ?_
  refine KX.d7 ag ?_ ⟨mp,rfl,fun h=>absurd h ac,rfl⟩
  exact ae
 by_cases c2:11<parts[(i:Int).toNat]!.1 / 4294967296
 ·rw [if_pos (.inr c2)] at hg
  rw [hg]
  repeat first|refine aa ?_|intro _|refine dl ?_
  refine KX.d7 ag ?_ ⟨mp,rfl,fun h=>absurd h ac,rfl⟩
  exact ae
 rw [if_neg (fun q=>q.elim c1 c2)] at hg
 repeat first|refine aa ?_|intro _|refine dl ?_
 have hv:=oV mp parts[(i:Int).toNat]!.1
 have hlf:=hmp.2 parts[(i:Int).toNat]!.1
 rw [hlf] at hv
 unfold glk at hv
 refine GPW.ent (Ent.at (A:=bigO eM mp) (pW (f:=parts[(i:Int).toNat]!.1) hmp.1)) ?_
 rw [hlf]
 refine GPW.evL (Ev.e7 rfl rfl) ac ?_
 rw [hv]
 repeat first|refine aa ?_|intro _|refine dl ?_
 refine GPW.ef (Ef.d7 (nO _ _ _ (ofF (l++parts.take i) parts[(i:Int).toNat]!.1) parts[(i:Int).toNat]! rfl ab hsm hok'.w) rfl) ac ?_
 rintro _ _ ⟨rfl,rfl⟩
 by_cases c3:∃ y∈ofF (l++parts.take i) parts[(i:Int).toNat]!.1,ovP parts[(i:Int).toNat]! y
 ·rw [if_pos c3] at hg
  rw [hg,aL c3]
  repeat first|refine aa ?_|intro _|refine dl ?_
  refine KX.d7 ag ?_ ⟨mp,rfl,fun h=>absurd h ac,rfl⟩
  rw [← hlf]
  refine Ent.trans ?_ (Ent.d7 (Ent.swap (A:=bigO eM mp)))
  refine Ent.trans ?_ Ent.swap
  refine Ent.trans ?_ (ux (f:=parts[(i:Int).toNat]!.1) hmp.1)
  exact ae
 rw [if_neg c3] at hg
 rw [aC c3]
 repeat first|refine aa ?_|intro _|refine dl ?_
 refine GPW.evL (Ev.e7 rfl rfl) ac ?_
 rw [hv]
 repeat first|refine aa ?_|intro _|refine dl ?_
 refine GPK.keep (by rw [← hv];exact Ev.e7 rfl rfl) ?_
 repeat first|refine aa ?_|intro _|refine dl ?_
 refine GPW.ef (Ef.d8 (enc:=ah) (e:=parts[(i:Int).toNat]!) rfl rfl rfl rfl rfl (by rfl) (cz _) ab ab) ac ?_
 rintro _ _ ⟨ad3,cap3,rfl,rfl⟩
 repeat first|refine aa ?_|intro _|refine dl ?_
 refine GPW.efu (Ef.f7 (enc:=Stk.v) (e:=(⟨ad3,cap3,ofF (l++parts.take i) parts[(i:Int).toNat]!.1++[parts[(i:Int).toNat]!]⟩:Stk)) rfl rfl rfl rfl) ?_
 rintro _ _ ⟨rfl,rfl⟩
 have htk:l++parts.take (i+1)=l++parts.take i++[parts[(i:Int).toNat]!]:=by
  rw [e1,ay hlt,getElem!_of hlt,az]
 repeat first|refine aa ?_|intro _|refine dl ?_
 refine ⟨(i+1,gins mp parts[(i:Int).toNat]!.1 ⟨ad3,cap3,ofF (l++parts.take i) parts[(i:Int).toNat]!.1++[parts[(i:Int).toNat]!]⟩),⟨by dsimp only;omega,⟨kO hmp.1,fun f=>?_⟩,by dsimp only;rw [htk];exact hg⟩,by dsimp only;omega,?_,?_⟩
 ·dsimp only
  rw [mT,htk,vk]
  by_cases e:parts[(i:Int).toNat]!.1=f
  ·rw [if_pos e.symm,if_pos e,e]
  ·rw [if_neg (fun q=>e q.symm),if_neg e]
   exact hmp.2 f
 ·dsimp only
  rw [aM i]
  exact ai
 ·dsimp only
  refine Ent.trans ?_ (Ent.d7 (Ent.swap (A:=bigO eM _)))
  refine Ent.trans ?_ Ent.swap
  refine Ent.trans ?_ (nX (f:=parts[(i:Int).toNat]!.1) hmp.1 ⟨ad3,cap3,ofF (l++parts.take i) parts[(i:Int).toNat]!.1++[parts[(i:Int).toNat]!]⟩)
  exact ae
end
section
open Go.V
def FlA (fl:List FlM):Prop:=∀ f∈fl,(∀ x∈f.parts,LotOk x)∧((f.kind=5∨(f.kind=9∧f.frm=0))→Apart f.parts)
theorem impAll_mem {fl:List FlM} {y:Lot}:y∈fu fl↔∃ f∈fl,f.kind=5∧y∈f.parts:=by
 unfold fu
 rw [List.mem_flatMap]
 constructor
 ·rintro ⟨f,hf,hy⟩
  obtain ⟨h1,h2⟩:=List.mem_filter.1 hf
  exact ⟨f,h1,of_decide_eq_true h2,hy⟩
 ·rintro ⟨f,hf,hk,hy⟩
  exact ⟨f,List.mem_filter.2 ⟨hf,decide_eq_true hk⟩,hy⟩
theorem retAll_mem {fl:List FlM} {y:Lot}:y∈eV fl↔∃ f∈fl,(f.kind=9∧f.frm=0)∧y∈f.parts:=by
 unfold eV
 rw [List.mem_flatMap]
 constructor
 ·rintro ⟨f,hf,hy⟩
  obtain ⟨h1,h2⟩:=List.mem_filter.1 hf
  exact ⟨f,h1,of_decide_eq_true h2,hy⟩
 ·rintro ⟨f,hf,hk,hy⟩
  exact ⟨f,List.mem_filter.2 ⟨hf,decide_eq_true hk⟩,hy⟩
theorem BZ {fl:List FlM} (h:FlA fl):∀ y∈fu fl,LotOk y:=fun y hy=>by
 obtain ⟨f,hf,_,hy⟩:=impAll_mem.1 hy
 exact (h f hf).1 y hy
theorem Bt {fl:List FlM} (h:FlA fl):∀ y∈eV fl,LotOk y:=fun y hy=>by
 obtain ⟨f,hf,_,hy⟩:=retAll_mem.1 hy
 exact (h f hf).1 y hy
theorem CG {fl:List FlM} (h:FlA fl) {p:Lot} (hp:LotOk p):kC fl p↔∃ y∈ofF (fu fl) p.1,ovP p y:=by
 unfold kC
 constructor
 ·rintro ⟨f,hf,hk,hm⟩
  obtain ⟨y,hy,h1,h2⟩:=(np (h f hf).1 ((h f hf).2 (.inl hk)) hp).1 hm
  exact ⟨y,ofF_mem.2 ⟨impAll_mem.2 ⟨f,hf,hk,hy⟩,h1⟩,h2⟩
 ·rintro ⟨y,hy,h2⟩
  obtain ⟨hy,h1⟩:=ofF_mem.1 hy
  obtain ⟨f,hf,hk,hy⟩:=impAll_mem.1 hy
  exact ⟨f,hf,hk,(np (h f hf).1 ((h f hf).2 (.inl hk)) hp).2 ⟨y,hy,h1,h2⟩⟩
theorem vy {sh:Int} {fl:List FlM} (h:FlA fl):∀ (ps dn:List Lot),(∀ p∈ps,LotOk p)→Apart ps→(∀ d∈dn,∀ p∈ps,apart d p)→impG sh ps (fu fl++dn)=arrG sh fl ps
 | [],_,_,_,_=>rfl
 | p::ps,dn,h1,h2,h3=>by
  obtain ⟨a1,a2⟩:=List.pairwise_cons.1 h2
  have hp:=h1 p ap
  have ih:=vy (sh:=sh) h ps (dn++[p]) (fun q hq=>h1 q (ao _ hq)) a2 (fun d hd q hq=>by
   rcases List.mem_append.1 hd with hd|hd
   ·exact h3 d hd q (ao _ hq)
   ·rw [List.mem_singleton.1 hd]
    exact a1 q hq)
  have e:(∃ y∈ofF (fu fl++dn) p.1,ovP p y)↔kC fl p:=by
   rw [CG h hp]
   constructor
   ·rintro ⟨y,hy,h4⟩
    obtain ⟨hy,h5⟩:=ofF_mem.1 hy
    rcases List.mem_append.1 hy with hy|hy
    ·exact ⟨y,ofF_mem.2 ⟨hy,h5⟩,h4⟩
    ·have:=h3 y hy p ap
     unfold apart at this
     unfold ovP at h4
     omega
   ·rintro ⟨y,hy,h4⟩
    obtain ⟨hy,h5⟩:=ofF_mem.1 hy
    exact ⟨y,ofF_mem.2 ⟨bQ _ hy,h5⟩,h4⟩
  rw [sT]
  show _=if arr1 sh fl p=0 then arrG sh fl ps else arr1 sh fl p
  unfold arr1
  by_cases c1:p.1 / 4294967296=sh∨11<p.1 / 4294967296
  ·rw [if_pos c1,if_pos c1,if_neg ac]
  ·rw [if_neg c1,if_neg c1]
   by_cases c2:kC fl p
   ·rw [if_pos (e.2 c2),if_pos c2,if_neg ac]
   ·rw [if_neg (fun q=>c2 (e.1 q)),if_neg c2,if_pos rfl,az]
    exact ih
theorem EE {sh:Int} {fl:List FlM} (h:FlA fl) {ps:List Lot} (h1:∀ p∈ps,LotOk p) (h2:Apart ps):impG sh ps (fu fl)=arrG sh fl ps:=by
 have:=vy (sh:=sh) h ps [] h1 h2 (fun d hd=>absurd hd aO)
 rwa [aV] at this
end
section
open Go.V
attribute [local irreducible] G GO GP GPW GPK Ev Ef EfR Ent CB GB V.Enters
def gotB (sh:Int) (fl:List FlM) (item:Int) (p:Lot):Prop:=(0≤p.1 - sh*4294967296∧p.1 - sh*4294967296<fl.length)∧fl[(p.1 - sh*4294967296).toNat]!.to=0∧fl[(p.1 - sh*4294967296).toNat]!.kind≠6∧fl[(p.1 - sh*4294967296).toNat]!.item=item∧p.2.1+p.2.2≤fl[(p.1 - sh*4294967296).toNat]!.n
instance (sh:Int) (fl:List FlM) (item:Int) (p:Lot):Decidable (gotB sh fl item p):=by unfold gotB;infer_instance
def retG (sh:Int) (fl:List FlM) (item:Int):List Lot→List Lot→Int
 | [],_=>0
 | p::ps,l=>if gotB sh fl item p∧¬ ∃ y∈ofF l p.1,ovP p y then retG sh fl item ps (l++[p]) else 10
theorem sG {sh:Int} {fl:List FlM} {item:Int} {p:Lot} {ps l:List Lot}:retG sh fl item (p::ps) l=if gotB sh fl item p∧¬ ∃ y∈ofF l p.1,ovP p y then retG sh fl item ps (l++[p]) else 10:=rfl
abbrev xO:List Stp:=[.ev 0,.ev 1,.ev 2,.ev 3,.ev 4,.ev 5,.ev 6,.ev 7,.ev 8]
abbrev xN:List Stp:=[.ev 0,.ev 1,.ev 2,.ev 3,.ev 4,.ev 5,.ev 6,.ev 7,.ev 8,.ev 9,.ev 10,.ev 11,.ev 12,.ev 13,.ev 14,.ev 15,.ev 16,.ev 18,.ev 19,.ef 17,.ev 20,.ev 21,.ev 22,.ev 23,.ev 24,.ev 25,.ev 26,.ev 27,.ev 28,.ev 29,.ev 30,.ef 31,.ev 32]
abbrev ve:List Stp:=[.ev 0,.ev 1,.ev 2,.ev 3,.ev 4,.ev 5,.ev 6,.ev 7,.ev 8,.ev 9,.ev 10,.ev 11,.ev 12,.ev 13,.ef 14,.ef 15,.ef 16]
theorem cm {φ ψ:Prop} (k:ψ) (h:Hid ψ→φ:=by intro k;(with_reducible apply G.d8);first|refine G.d7 (N:=92) (id:=4) xO mixed an (Hid.out k)|refine G.d7 (N:=92) (id:=8) xN mixed an (Hid.out k)|refine G.d7 (N:=92) (id:=10) ve mixed an (Hid.out k)):φ:=h ⟨k⟩
theorem qf {L:List HP} (b:Nat) (sh:Int) (hsh:0≤sh∧sh<12) (x:BkX) (hfl:x.flows.length≤9000000) (l:List Lot) (hm:kD x.ret l) (hl:l.length≤100000) (hlo:∀ y∈l,LotOk y) (m:MvV) [hr:Rds L m.pad Lot ah 3 m.m.parts] (hp:∀ p∈m.m.parts,LotOk p) (hb:∀ p∈m.m.parts,p.1≤9223372036854775807) (hpl:m.m.parts.length≤4096) :
  Tri Tryz.prog 152 #[.pointer (some ⟨b,0,none⟩),.agg (aF m).toArray] (obj b tBk (bz sh x)::osl bF 11 cq x.fad x.fcap x.flows::gmap kvI Stk.v x.mr x.ret::bigO eM x.ret::L) (fun v L'=>∃ ret',v=.int .i64 (retG sh (x.flows.map (·.m)) m.m.item m.m.parts l)∧(retG sh (x.flows.map (·.m)) m.m.item m.m.parts l=0→kD ret' (l++m.m.parts))∧L' = obj b tBk (bz sh x)::osl bF 11 cq x.fad x.fcap x.flows::gmap kvI Stk.v x.mr ret'::bigO eM ret'::L):=by
 obtain ⟨⟨frm,to,item,mn,parts⟩,pad,pcap⟩:=m
 dsimp only at hr hp hb hpl ⊢
 generalize hfe:x.flows.map (·.m)=fl
 have hfll:fl.length=x.flows.length:=by rw [← hfe,aD]
 refine Tri.body (args:=[.pointer (some ⟨b,0,none⟩),.agg (aF ⟨⟨frm,to,item,mn,parts⟩,pad,pcap⟩).toArray]) 92 Ia Tryz.func152 rfl rfl rfl (by simp) ?_
 simp only [aF,bz]
 repeat first|refine aa ?_|intro _|refine cm ?_
 rename_i b3
 refine G.loop (α:=Nat×List (Int×Stk)) (fun g=>g.1≤parts.length∧kD g.2 (l++parts.take g.1)∧retG sh fl item parts l=retG sh fl item (parts.drop g.1) (l++parts.take g.1)) (fun g=>[(0,.pointer (some ⟨b,0,none⟩)),(3,.pointer (some ⟨b3,0,none⟩)),(10,.slice pad parts.length pcap),(11,.int .i64 parts.length),(12,.int .i64 (g.1:Int))]) (fun g=>obj b3 tMv [.int .i64 frm,.int .i64 to,.int .i64 item,.int .i64 mn,.slice pad parts.length pcap]::obj b tBk (bz sh x)::osl bF 11 cq x.fad x.fcap x.flows::gmap kvI Stk.v x.mr g.2::bigO eM g.2::L) (fun g=>parts.length - g.1) (0,x.ret) ⟨al _,by rw [bX,aV];exact hm,by rw [bX,aV];rfl⟩ ai (by simp only [bz];exact ae) ?_
 rintro ⟨i,mp⟩ ⟨hi,hmp,hg⟩
 dsimp only at hi hmp hg ⊢
 simp only [bz]
 by_cases hlt:i<parts.length
 case neg =>
  rw [aY ab,aA ab] at hg
  rw [aA ab] at hmp
  have hg0:retG sh fl item parts l=0:=hg
  rw [hg0]
  repeat first|refine aa ?_|intro _|refine cm ?_
  refine KX.d7 ag ?_ ⟨mp,rfl,fun _=>hmp,rfl⟩
  exact ae
 have hii:(i:Int).toNat=i:=av i
 have hlt' : (i:Int).toNat<parts.length:=ab
 have e1:parts[(i:Int).toNat]! = parts[i]!:=by rw [hii]
 have hok' : LotOk parts[(i:Int).toNat]!:=by rw [hii];exact hp _ (aG hlt)
 have hbp:=hb _ (aG hlt)
 rw [← e1] at hbp
 have hok2:=hok'
 unfold LotOk at hok2
 rw [ew hlt,sG,← e1] at hg
 have hsm:∀ y∈ofF (l++parts.take i) parts[(i:Int).toNat]!.1,LotW y:=fun y hy=>by
  rcases List.mem_append.1 (ofF_mem.1 hy).1 with h|h
  ·exact (hlo y h).w
  ·exact (hp y (dJ h)).w
 have hsl:(ofF (l++parts.take i) parts[(i:Int).toNat]!.1).length≤110000:=by
  refine cx (pb _ _) ?_
  rw [ax,ba]
  omega
 have hv:=oV mp parts[(i:Int).toNat]!.1
 have hlf:=hmp.2 parts[(i:Int).toNat]!.1
 rw [hlf] at hv
 unfold glk at hv
 refine G.ent (L':=osl ah 3 tLot (eu mp parts[(i:Int).toNat]!.1).ad (eu mp parts[(i:Int).toNat]!.1).cap (ofF (l++parts.take i) parts[(i:Int).toNat]!.1)::bigO eM (gera mp parts[(i:Int).toNat]!.1)::obj b3 tMv [.int .i64 frm,.int .i64 to,.int .i64 item,.int .i64 mn,.slice pad parts.length pcap]::obj b tBk (bz sh x)::osl bF 11 cq x.fad x.fcap x.flows::gmap kvI Stk.v x.mr mp::L) ?_ ?_
 ·refine (Ent.at (A:=bigO eM mp) (pW (f:=parts[(i:Int).toNat]!.1) hmp.1)).trans ?_
  rw [hlf]
  exact ae
 have hback:Ent (osl ah 3 tLot (eu mp parts[(i:Int).toNat]!.1).ad (eu mp parts[(i:Int).toNat]!.1).cap (ofF (l++parts.take i) parts[(i:Int).toNat]!.1)::bigO eM (gera mp parts[(i:Int).toNat]!.1)::obj b tBk (bz sh x)::osl bF 11 cq x.fad x.fcap x.flows::gmap kvI Stk.v x.mr mp::L) (obj b tBk (bz sh x)::osl bF 11 cq x.fad x.fcap x.flows::gmap kvI Stk.v x.mr mp::bigO eM mp::L):=by
  rw [← hlf]
  exact (ux (f:=parts[(i:Int).toNat]!.1) hmp.1).trans ae
 simp only [bz] at hback ⊢
 repeat first|refine aa ?_|intro _|refine cm ?_
 refine GPW.evP (Ev.m7 rfl rfl ab ab) ac ?_
 have hsh4:sh*4294967296≤12*4294967296:=bH ab ac
 have hsh5:0≤sh*4294967296:=da hsh.1 ac
 obtain ⟨sk,hsk⟩:∃ sk,sk=sh*4294967296:=⟨_,rfl⟩
 have hgn:¬gotB sh fl item parts[(i:Int).toNat]!→retG sh fl item parts l=10:=fun q=>by rw [hg,if_neg (fun h=>q h.1)]
 unfold gotB at hgn
 rw [← hsk] at hsh4 hsh5 hgn
 rw [← hsk]
 by_cases c1:0≤parts[(i:Int).toNat]!.1 - sk
 case neg =>
  rw [hgn (fun q=>c1 q.1.1)]
  repeat first|refine aa ?_|intro _|refine cm ?_
  refine KX.d7 ag ?_ ⟨mp,rfl,fun h=>absurd h ac,rfl⟩
  exact Ent.trans ae hback
 by_cases c2:parts[(i:Int).toNat]!.1 - sk<fl.length
 case neg =>
  rw [hgn (fun q=>c2 q.1.2)]
  repeat first|refine aa ?_|intro _|refine cm ?_
  refine KX.d7 ag ?_ ⟨mp,rfl,fun h=>absurd h ac,rfl⟩
  exact Ent.trans ae hback
 have hk:(parts[(i:Int).toNat]!.1 - sk).toNat<x.flows.length:=ab
 have hfk:fl[(parts[(i:Int).toNat]!.1 - sk).toNat]! = x.flows[(parts[(i:Int).toNat]!.1 - sk).toNat]!.m:=by rw [← hfe,ez _ hk]
 rw [hfk] at hgn
 repeat first|((fail_if_success (with_reducible refine G.atS 8 ?_));(with_reducible apply G.seq))|refine bU ?_|intro _|refine cm ?_
 generalize hfv:x.flows[(parts[(i:Int).toNat]!.1 - sk).toNat]! = fv at *
 by_cases c3:fv.m.to=0
 case neg =>
  rw [hgn (fun q=>c3 q.2.1)]
  repeat first|refine aa ?_|intro _|refine cm ?_
  refine KX.d7 ag ?_ ⟨mp,rfl,fun h=>absurd h ac,rfl⟩
  exact Ent.trans ae hback
 by_cases c4:fv.m.kind=6
 case pos =>
  rw [hgn (fun q=>q.2.2.1 c4)]
  repeat first|refine aa ?_|intro _|refine cm ?_
  refine KX.d7 ag ?_ ⟨mp,rfl,fun h=>absurd h ac,rfl⟩
  exact Ent.trans ae hback
 by_cases c5:fv.m.item=item
 case neg =>
  rw [hgn (fun q=>c5 q.2.2.2.1)]
  repeat first|refine aa ?_|intro _|refine cm ?_
  refine KX.d7 ag ?_ ⟨mp,rfl,fun h=>absurd h ac,rfl⟩
  exact Ent.trans ae hback
 by_cases c6:parts[(i:Int).toNat]!.2.1+parts[(i:Int).toNat]!.2.2≤fv.m.n
 case neg =>
  rw [hgn (fun q=>c6 q.2.2.2.2)]
  repeat first|refine aa ?_|intro _|refine cm ?_
  refine GPW.ef (Ef.d7 (ij parts[(i:Int).toNat]! hok'.w) rfl) ac ?_
  rintro _ _ ⟨rfl,rfl⟩
  repeat first|refine aa ?_|intro _|refine cm ?_
  refine KX.d7 ag ?_ ⟨mp,rfl,fun h=>absurd h ac,rfl⟩
  exact Ent.trans ae hback
 have hgot:gotB sh fl item parts[(i:Int).toNat]!:=by
  unfold gotB
  rw [← hsk,hfk]
  exact ⟨⟨c1,c2⟩,c3,c4,c5,c6⟩
 clear hgn
 repeat first|refine aa ?_|intro _|refine cm ?_
 refine GPW.ef (Ef.d7 (ij parts[(i:Int).toNat]! hok'.w) rfl) ac ?_
 rintro _ _ ⟨rfl,rfl⟩
 repeat first|refine aa ?_|intro _|refine cm ?_
 refine GPW.evL (Ev.e7 rfl rfl) ac ?_
 rw [hv]
 repeat first|refine aa ?_|intro _|refine cm ?_
 refine GPW.ef (Ef.d7 (nO _ _ _ (ofF (l++parts.take i) parts[(i:Int).toNat]!.1) parts[(i:Int).toNat]! rfl ab hsm hok'.w) rfl) ac ?_
 rintro _ _ ⟨rfl,rfl⟩
 by_cases c7:∃ y∈ofF (l++parts.take i) parts[(i:Int).toNat]!.1,ovP parts[(i:Int).toNat]! y
 ·rw [if_neg (fun q=>q.2 c7)] at hg
  rw [hg,aL c7]
  repeat first|refine aa ?_|intro _|refine cm ?_
  refine KX.d7 ag ?_ ⟨mp,rfl,fun h=>absurd h ac,rfl⟩
  exact Ent.trans ae hback
 rw [if_pos ⟨hgot,c7⟩] at hg
 rw [aC c7]
 repeat first|refine aa ?_|intro _|refine cm ?_
 refine GPW.evL (Ev.e7 rfl rfl) ac ?_
 rw [hv]
 repeat first|refine aa ?_|intro _|refine cm ?_
 refine GPK.keep (by rw [← hv];exact Ev.e7 rfl rfl) ?_
 repeat first|refine aa ?_|intro _|refine cm ?_
 refine GPW.ef (Ef.d8 (enc:=ah) (e:=parts[(i:Int).toNat]!) rfl rfl rfl rfl rfl (by rfl) (cz _) ab ab) ac ?_
 rintro _ _ ⟨ad3,cap3,rfl,rfl⟩
 repeat first|refine aa ?_|intro _|refine cm ?_
 refine GPW.efu (Ef.f7 (enc:=Stk.v) (e:=(⟨ad3,cap3,ofF (l++parts.take i) parts[(i:Int).toNat]!.1++[parts[(i:Int).toNat]!]⟩:Stk)) rfl rfl rfl rfl) ?_
 rintro _ _ ⟨rfl,rfl⟩
 have htk:l++parts.take (i+1)=l++parts.take i++[parts[(i:Int).toNat]!]:=by
  rw [e1,ay hlt,getElem!_of hlt,az]
 repeat first|refine aa ?_|intro _|refine cm ?_
 refine ⟨(i+1,gins mp parts[(i:Int).toNat]!.1 ⟨ad3,cap3,ofF (l++parts.take i) parts[(i:Int).toNat]!.1++[parts[(i:Int).toNat]!]⟩),⟨by dsimp only;omega,⟨kO hmp.1,fun f=>?_⟩,by dsimp only;rw [htk];exact hg⟩,by dsimp only;omega,?_,?_⟩
 ·dsimp only
  rw [mT,htk,vk]
  by_cases e:parts[(i:Int).toNat]!.1=f
  ·rw [if_pos e.symm,if_pos e,e]
  ·rw [if_neg (fun q=>e q.symm),if_neg e]
   exact hmp.2 f
 ·dsimp only
  rw [aM i]
  exact ai
 ·dsimp only
  refine Ent.trans ?_ (Ent.at (A:=bigO eM (gins mp parts[(i:Int).toNat]!.1 ⟨ad3,cap3,ofF (l++parts.take i) parts[(i:Int).toNat]!.1++[parts[(i:Int).toNat]!]⟩)) (L:=bigO eM (gins mp parts[(i:Int).toNat]!.1 ⟨ad3,cap3,ofF (l++parts.take i) parts[(i:Int).toNat]!.1++[parts[(i:Int).toNat]!]⟩)::obj b3 tMv [.int .i64 frm,.int .i64 to,.int .i64 item,.int .i64 mn,.slice pad parts.length pcap]::obj b tBk (bz sh x)::osl bF 11 cq x.fad x.fcap x.flows::gmap kvI Stk.v x.mr (gins mp parts[(i:Int).toNat]!.1 ⟨ad3,cap3,ofF (l++parts.take i) parts[(i:Int).toNat]!.1++[parts[(i:Int).toNat]!]⟩)::L) (by simp only [bz];exact ae))
  refine Ent.trans ?_ (nX (f:=parts[(i:Int).toNat]!.1) hmp.1 ⟨ad3,cap3,ofF (l++parts.take i) parts[(i:Int).toNat]!.1++[parts[(i:Int).toNat]!]⟩)
  exact ae
end
section
open Go.V
def FlN (sh:Int) (fl:List FlM):Prop:=∀ k,k<fl.length→fl[k]!.id=sh*4294967296+k∧1≤fl[k]!.n∧fl[k]!.n≤1099511627776
theorem yz {p:Lot} {id n:Int} (hp:LotOk p) (hi:0≤id) (h1:1≤n) (h2:n≤1099511627776):fA [p] [(id,0,n)]↔p.1=id∧p.2.1+p.2.2≤n:=by
 have hx:LotOk (id,0,n):=⟨hi,aW _,by dsimp only;omega,h1,by dsimp only;omega⟩
 have one:∀ y:Lot,Apart [y]:=fun y=>cB _ _
 rw [qE (nV hp) (one p) (nV hx) (one _),ga,gN]
 show p.2.2+0 - ((ov p (id,0,n)+0)+0)=0↔_
 unfold LotOk at hp
 unfold ov
 dsimp only
 by_cases e:p.1=id
 ·rw [if_pos e]
  omega
 ·rw [if_neg e]
  omega
theorem CH {sh:Int} {fl:List FlM} (hsh:0≤sh) (h:FlA fl) (hn:FlN sh fl) (item:Int) {p:Lot} (hp:LotOk p):jB fl item p↔gotB sh fl item p∧¬ ∃ y∈ofF (eV fl) p.1,ovP p y:=by
 have hs0:0≤sh*4294967296:=da hsh ac
 have hA:(∃ f∈fl,f.kind=9∧f.frm=0∧fK f.parts [p]≠[])↔∃ y∈ofF (eV fl) p.1,ovP p y:=by
  constructor
  ·rintro ⟨f,hf,hk,hz,hm⟩
   obtain ⟨y,hy,h1,h2⟩:=(np (h f hf).1 ((h f hf).2 (.inr ⟨hk,hz⟩)) hp).1 hm
   exact ⟨y,ofF_mem.2 ⟨retAll_mem.2 ⟨f,hf,⟨hk,hz⟩,hy⟩,h1⟩,h2⟩
  ·rintro ⟨y,hy,h2⟩
   obtain ⟨hy,h1⟩:=ofF_mem.1 hy
   obtain ⟨f,hf,hk,hy⟩:=retAll_mem.1 hy
   exact ⟨f,hf,hk.1,hk.2,(np (h f hf).1 ((h f hf).2 (.inr hk)) hp).2 ⟨y,hy,h1,h2⟩⟩
 have hB:(∃ f∈fl,f.kind≠6∧f.to=0∧f.item=item∧fA [p] [(f.id,0,f.n)])↔gotB sh fl item p:=by
  constructor
  ·rintro ⟨f,hf,h1,h2,h3,h4⟩
   obtain ⟨k,hk,rfl⟩:=List.mem_iff_getElem.1 hf
   obtain ⟨g1,g2,g3⟩:=hn k hk
   rw [getElem!_of hk] at g1 g2 g3
   obtain ⟨g4,g5⟩:=(yz hp ab g2 g3).1 h4
   have e:(p.1 - sh*4294967296).toNat=k:=ab
   unfold gotB
   rw [e,getElem!_of hk]
   exact ⟨⟨ab,ab⟩,h2,h1,h3,g5⟩
  ·rintro ⟨⟨h1,h2⟩,h3,h4,h5,h6⟩
   have hk:(p.1 - sh*4294967296).toNat<fl.length:=ab
   obtain ⟨g1,g2,g3⟩:=hn _ hk
   exact ⟨_,aG hk,h4,h3,h5,(yz hp ab g2 g3).2 ⟨ab,h6⟩⟩
 unfold jB
 rw [hA,hB]
 exact And.comm
theorem uN {sh:Int} {fl:List FlM} (hsh:0≤sh) (h:FlA fl) (hn:FlN sh fl) (item:Int):∀ (ps dn:List Lot),(∀ p∈ps,LotOk p)→Apart ps→(∀ d∈dn,∀ p∈ps,apart d p)→retG sh fl item ps (eV fl++dn)=revG fl item ps
 | [],_,_,_,_=>by
  unfold revG
  rw [if_pos (fun p hp=>absurd hp aO)]
  rfl
 | p::ps,dn,h1,h2,h3=>by
  obtain ⟨a1,a2⟩:=List.pairwise_cons.1 h2
  have hp:=h1 p ap
  have ih:=uN hsh h hn item ps (dn++[p]) (fun q hq=>h1 q (ao _ hq)) a2 (fun d hd q hq=>by
   rcases List.mem_append.1 hd with hd|hd
   ·exact h3 d hd q (ao _ hq)
   ·rw [List.mem_singleton.1 hd]
    exact a1 q hq)
  have e:(∃ y∈ofF (eV fl++dn) p.1,ovP p y)↔∃ y∈ofF (eV fl) p.1,ovP p y:=by
   constructor
   ·rintro ⟨y,hy,h4⟩
    obtain ⟨hy,h5⟩:=ofF_mem.1 hy
    rcases List.mem_append.1 hy with hy|hy
    ·exact ⟨y,ofF_mem.2 ⟨hy,h5⟩,h4⟩
    ·have:=h3 y hy p ap
     unfold apart at this
     unfold ovP at h4
     omega
   ·rintro ⟨y,hy,h4⟩
    obtain ⟨hy,h5⟩:=ofF_mem.1 hy
    exact ⟨y,ofF_mem.2 ⟨bQ _ hy,h5⟩,h4⟩
  have hb:=CH hsh h hn item hp
  rw [← e] at hb
  rw [sG,az,ih]
  unfold revG
  by_cases c:jB fl item p
  ·rw [if_pos (hb.1 c)]
   by_cases c2:∀ q∈ps,jB fl item q
   ·rw [if_pos c2,if_pos (fun q hq=>by
     rcases List.mem_cons.1 hq with rfl|hq
     ·exact c
     ·exact c2 q hq)]
   ·rw [if_neg c2,if_neg (fun q=>c2 (fun r hr=>q r (ao _ hr)))]
  ·rw [if_neg (fun q=>c (hb.2 q)),if_neg (fun q=>c (q p ap))]
theorem Eq {sh:Int} {fl:List FlM} (hsh:0≤sh) (h:FlA fl) (hn:FlN sh fl) (item:Int) {ps:List Lot} (h1:∀ p∈ps,LotOk p) (h2:Apart ps):retG sh fl item ps (eV fl)=revG fl item ps:=by
 have:=uN hsh h hn item ps [] h1 h2 (fun d hd=>absurd hd aO)
 rwa [aV] at this
end
end Go.Proofs.YtommnllbflbdmaaGreatDoor
