/- Lemmas and contracts of functions. -/
import Derived.Test.YtommnllbflbdmaaGreatDoorGAuditTotalsbm
import Derived.Test.YtommnllbflbdmaaGreatDoorGAuditTotalsbu
import Derived.Test.YtommnllbflbdmaaGreatDoorGAuditTotalsbn
import Derived.Test.YtommnllbflbdmaaGreatDoorGAuditTotalsbi
set_option linter.all false
set_option maxHeartbeats 4000000
namespace Go.Proofs.YtommnllbflbdmaaGreatDoor
section
open Go.V
attribute [local irreducible] G GO GP GPW GPK Ev Ef EfR Ent CB GB V.Enters
abbrev BE:List Stp:=[.ev 0,.ev 1,.ev 2,.ev 3,.ev 5,.ev 6,.ev 7,.ev 8,.ef 4,.ef 9,.ef 10,.ef 11,.ev 12]
theorem iC {φ ψ:Prop} (k:ψ) (h:Hid ψ→φ:=by intro k;(with_reducible apply G.d8);first|refine G.d7 (N:=17) (id:=1) BE mixed an (Hid.out k)):φ:=h ⟨k⟩
theorem ye {L:List HP} (x y:Hd):Tri Tryz.prog 57 #[.agg (cV x).toArray,.agg (cV y).toArray] L (fun v L'=>v=.int .i64 (hdC x y)∧L' = L):=by
 refine Tri.body (args:=[.agg (cV x).toArray,.agg (cV y).toArray]) 17 en57 Tryz.func57 rfl rfl rfl (by simp) ?_
 repeat first|refine aa ?_|intro _|refine iC ?_
 refine GPW.ef (Ef.d7 (jw x.1 y.1) rfl) ac ?_
 rintro _ _ ⟨rfl,rfl⟩
 repeat first|refine aa ?_|intro _|refine iC ?_
 refine GPW.ef (Ef.d7 (jw x.2.1 y.2.1) rfl) ac ?_
 rintro _ _ ⟨rfl,rfl⟩
 repeat first|refine aa ?_|intro _|refine iC ?_
 rename_i bc
 refine GPW.ent (Ent.f7 (enc:=encZ .i64) (sz:=1) (xs:=[cmpI x.1 y.1,cmpI x.2.1 y.2.1]) rfl rfl (fun _ _=>rfl) (by simp)) ?_
 refine GPW.ef (Ef.d7 (nk (some ⟨bc,0,none⟩) 2 (cmpI x.1 y.1) (cmpI x.2.1 y.2.1)) rfl) ac ?_
 rintro _ _ ⟨rfl,rfl⟩
 repeat first|refine aa ?_|intro _|refine iC ?_
 exact KX.d7 ag ae ⟨rfl,rfl⟩
theorem uB {E cap:Nat} {ad:Option Addr} {xs:List Hd} (hsz:xs.length<4611686018427387904) :
  Tri Tryz.prog 56 #[.slice ad xs.length cap,.func (.func 57) #[] #[]] [osl cV 3 E ad cap xs] (fun v L'=>v=.tuple #[]∧∃ ys,fM hdC xs ys∧L' = [osl cV 3 E ad cap ys]) :=
 Tri.d7 (ρ:=Tryz.zr9) Tryz.zs9 (k:=3) Tryz.isAgg112 Tryz.sizeOf112 (fun _=>rfl) ic (Lc:=[]) hdC yI en56 en57 (fun _ _ _=>trivial) (fun x y=>(ye (L:=[]) x y).mono (fun _ _ h=>h.1)) hsz
theorem ls {c:Prop} [Decidable c] {A:Prop} (h:¬c):if c then A else ([]:List Hd)=[]:=by
 rw [if_neg h]
def hdX (p:(Int×Int)×Int):Hd:=(p.1.1,p.1.2,p.2)
theorem Ce {m:List ((Int×Int)×Int)} (hn:(m.map (·.1)).Nodup) {xs ys:List Hd} (hx:xs.Perm ((m.filter (fun p=>decide (0<p.2))).map hdX)) (hI:HldI (gFn m)) (hy:fM hdC xs ys):HoldL (gFn m) ys:=by
 have hlk:∀ p∈m,gFn m p.1.1 p.1.2=p.2:=fun p hp=>by
  unfold gFn glk
  rw [kn hn hp]
  rfl
 have hp2:=hy.1.trans hx
 have hkn:(ys.map (fun h=>(h.1,h.2.1))).Nodup:=by
  refine ((hp2.map _).nodup_iff).2 ?_
  rw [List.map_map]
  exact (List.Sublist.map (fun p:(Int×Int)×Int=>p.1) fT).nodup hn
 constructor
 ·have h2:=List.pairwise_map.1 hkn
  refine (List.pairwise_and_iff.2 ⟨hy.2,h2⟩).imp (fun {a b} h=>?_)
  obtain ⟨q1,q2⟩:=h
  rw [mL] at q1
  have q3:¬(a.1=b.1∧a.2.1=b.2.1):=fun e=>q2 (by rw [e.1,e.2])
  unfold klt at q1 ⊢
  omega
 ·intro h
  rw [hp2.mem_iff,List.mem_map]
  constructor
  ·rintro ⟨p,hp,rfl⟩
   obtain ⟨h1,h2⟩:=List.mem_filter.1 hp
   have h2:=of_decide_eq_true h2
   refine ⟨(hlk p h1).symm,?_⟩
   show p.2≠0
   omega
  ·rintro ⟨e1,e2⟩
   obtain ⟨a,i,n⟩:=h
   dsimp only at e1 e2
   have hb:=(hI.bd a i).1
   cases hg:glk m (a,i) with
   | none =>
    unfold gFn at e1
    rw [hg] at e1
    exact absurd e1 e2
   | some k =>
    have hk:gFn m a i=k:=by
     unfold gFn
     rw [hg]
     rfl
    refine ⟨((a,i),k),List.mem_filter.2 ⟨iV hg,?_⟩,?_⟩
    ·refine decide_eq_true ?_
     show 0<k
     omega
    ·show (a,i,k)=(a,i,n)
     rw [e1,hk]
theorem lU {L:List HP} (items:Int) (ad:Option Addr) (n c:Nat) (ss:List StV) [hr:Rds L ad StV aB 7 ss] (hn:n=ss.length) (hl:ss.length≤1000000) (hm:(cW ss).length≤100000) :
  Tri Tryz.prog 19 #[.int .i64 items,.slice ad n c] (allP aX ss::L) (fun v L'=>∃ ad' cap' hs,v=.tuple #[.slice ad' hs.length cap',.int .i64 (resH items ss).1]∧(hs.length≤200000∧if (resH items ss).1=0 then HoldL (resH items ss).2 hs else hs=[])∧L' = osl cV 3 tHd ad' cap' hs::allP aX ss::L):=by
 subst hn
 refine Tri.body (args:=[.int .i64 items,.slice ad ss.length c]) 88 en19 Tryz.func19 rfl rfl rfl (by simp) ?_
 by_cases c1:0≤items
 case neg =>
  have e:resH items ss=(1,fun _ _=>0):=if_pos (fun q=>c1 q.1)
  rw [e]
  repeat first|refine aa ?_|intro
  exact KX.d7 ag (Ent.d8 cV 3 tHd) ⟨none,0,[],rfl,⟨by decide,rfl⟩,rfl⟩
 by_cases c2:items≤64
 case neg =>
  have e:resH items ss=(1,fun _ _=>0):=if_pos (fun q=>c2 q.2)
  rw [e]
  repeat first|refine aa ?_|intro
  exact KX.d7 ag (Ent.d8 cV 3 tHd) ⟨none,0,[],rfl,⟨by decide,rfl⟩,rfl⟩
 have e:resH items ss=hldF items (cW ss) (fun _ _=>0):=if_neg (fun q=>q ⟨c1,c2⟩)
 rw [e]
 repeat first|refine aa ?_|intro
 refine GO.ef (Ef.e9 kvP encN (.inl rfl)) ac ?_
 rintro _ _ ⟨bm,rfl,rfl⟩
 repeat first|refine aa ?_|intro
 rename_i bc
 have hf0:gFn []=fun _ _=>0:=rfl
 rw [← hf0]
 refine G.loop (α:=Nat×List ((Int×Int)×Int)) (fun g=>g.1≤ss.length∧HldI (gFn g.2)∧g.2.length+2*(cW (ss.drop g.1)).length≤2*(cW ss).length∧hldF items (cW ss) (gFn [])=hldF items (cW (ss.drop g.1)) (gFn g.2)) (fun g=>[(0,.int .i64 items),(6,.pointer (some ⟨bc,0,none⟩)),(7,.func (.func 55) #[] #[.pointer (some ⟨bc,0,none⟩)]),(25,.slice ad ss.length c),(26,.int .i64 ss.length),(27,.int .i64 (g.1:Int))]) (fun g=>obj bc 115 [.map (some bm)]::gmap kvP encN bm g.2::allP aX ss::L) (fun g=>ss.length - g.1) (0,[]) ⟨al _,hld0,Nat.le_of_eq (cD _),rfl⟩ ai (Ent.refl _) ?_
 rintro ⟨i,m⟩ ⟨hi,hmi,hml,het⟩
 dsimp only at hi hmi hml het ⊢
 by_cases hlt:i<ss.length
 case neg =>
  have e0:ss.drop i=[]:=aY ab
  rw [e0] at het
  have e1:hldF items (cW ss) (gFn [])=(0,gFn m):=het
  rw [e1]
  refine G.f8 (nv (b:=bm) (m:=m) (kv:=kvP) (enc:=encN)) ?_
  intro hnd
  repeat first|refine aa ?_|intro
  refine GO.ef (Ef.l7 rfl) ac ?_
  rintro _ _ ⟨r,rfl,rfl⟩
  repeat first|refine aa ?_|intro
  refine G.loop (α:=Option Addr×Nat×List ((Int×Int)×Int)) (fun z=>z.2.2.length≤m.length) (fun z=>[(14,.slice z.1 ((z.2.2.filter (fun p=>decide (0<p.2))).map hdX).length z.2.1),(68,.pointer (some ⟨r,0,none⟩))]) (fun z=>jh kvP encN bm m r z.2.2::osl cV 3 tHd z.1 z.2.1 ((z.2.2.filter (fun p=>decide (0<p.2))).map hdX)::allP aX ss::L) (fun z=>m.length - z.2.2.length) (none,0,[]) (al _) ai (show Ent _ (jh kvP encN bm m r []::osl cV 3 tHd none 0 []::allP aX ss::L) from (Ent.d8 cV 3 tHd).trans ae) ?_
  rintro ⟨ad2,cap2,done⟩ hdl
  dsimp only at hdl ⊢
  have hfl:((done.filter (fun p=>decide (0<p.2))).map hdX).length≤done.length:=by
   rw [aD]
   exact List.length_filter_le _ _
  have hml2:m.length≤200000:=ab
  repeat first|refine aa ?_|intro
  refine GO.ef (Ef.l9 rfl) ac ?_
  rintro _ _ (⟨rfl,rfl,hp⟩|⟨p,rfl,rfl,hpm,hpn,hl2⟩)
  ·have hdl2:=hp.length_eq
   repeat first|refine aa ?_|intro _
   (first|refine GO.ef (Ef.call (uB (E:=tHd) (ad:=ad2) (cap:=cap2) (xs:=(done.filter (fun p=>decide (0<p.2))).map hdX) ab) rfl (by repeat (first|exact Ent.refl _|apply Ent.take))) ac ?_)
   rintro _ _ ⟨_,⟨rfl,ys,hys,rfl⟩,hL⟩
   simp only [aq,aj] at hL;subst hL
   repeat first|refine aa ?_|intro
   have hyl:=hys.1.length_eq
   refine KX.d7 ag ?_ ⟨ad2,cap2,ys,by rw [hyl];rfl,⟨ab,?_⟩,rfl⟩
   ·exact ae
   ·rw [if_pos rfl]
    exact Ce hnd ((hp.filter _).map hdX) hmi hys
  ·repeat first|refine aa ?_|intro
   refine GO.ev (Ev.q7 (done:=done) rfl rfl) ac ?_
   obtain ⟨⟨a,it⟩,n⟩:=p
   simp only [kvP,encN,bE,fQ]
   by_cases hn0:0<n
   ·have hfa:(done++[((a,it),n)]).filter (fun p=>decide (0<p.2))=done.filter (fun p=>decide (0<p.2))++[((a,it),n)]:=by
     rw [cJ,bS (by simpa using hn0)]
     rfl
    repeat first|refine aa ?_|intro
    refine GO.ef (Ef.d8 (enc:=cV) (e:=(a,it,n)) rfl rfl rfl rfl rfl (by rfl) (ic _) ab ab) ac ?_
    rintro _ _ ⟨ad3,cap3,rfl,rfl⟩
    repeat first|refine aa ?_|intro
    refine ⟨(ad3,cap3,done++[((a,it),n)]),by dsimp only;simp;omega,by dsimp only;simp;omega,?_,?_⟩
    ·dsimp only
     rw [hfa,aS]
     exact ai
    ·dsimp only
     rw [hfa,aS,show List.map hdX [((a,it),n)]=[(a,it,n)] from rfl]
     exact ae
   ·have hfa:(done++[((a,it),n)]).filter (fun p=>decide (0<p.2))=done.filter (fun p=>decide (0<p.2)):=by
     rw [cJ,bT (by simpa using hn0),List.filter_nil,aV]
    repeat first|refine aa ?_|intro
    refine ⟨(ad2,cap2,done++[((a,it),n)]),by dsimp only;simp;omega,by dsimp only;simp;omega,?_,?_⟩
    ·dsimp only
     rw [hfa]
     exact ai
    ·dsimp only
     rw [hfa]
     exact ae
 have hii:(i:Int).toNat=i:=av i
 have hlt' : (i:Int).toNat<ss.length:=ab
 rw [ew hlt,lh] at het hml
 rw [ax,aD] at hml
 repeat first|refine aa ?_|intro
 refine G.ent (Ent.at (A:=allP aX ss) (lO hlt)) ?_
 rw [hii]
 generalize ss[i]! = s at *
 refine G.loop (α:=Nat×List ((Int×Int)×Int)) (fun g=>g.1≤s.moves.length∧HldI (gFn g.2)∧g.2.length+2*((s.moves.length - g.1)+(cW (ss.drop (i+1))).length)≤2*(cW ss).length∧hldF items (cW ss) (gFn [])=hldF items ((s.moves.drop g.1).map MvV.m++cW (ss.drop (i+1))) (gFn g.2)) (fun g=>[(0,.int .i64 items),(6,.pointer (some ⟨bc,0,none⟩)),(7,.func (.func 55) #[] #[.pointer (some ⟨bc,0,none⟩)]),(25,.slice ad ss.length c),(26,.int .i64 ss.length),(27,.int .i64 (i:Int)),(32,.slice s.mad s.moves.length s.mcap),(33,.int .i64 s.moves.length),(34,.int .i64 (g.1:Int))]) (fun g=>isl aF 5 s.mad s.moves::obj bc 115 [.map (some bm)]::gmap kvP encN bm g.2::allP aX ss::L) (fun g=>s.moves.length - g.1) (0,m) ⟨al _,hmi,by dsimp only;omega,het⟩ ai ae ?_
 have hsl:s.moves.length≤100000:=ab
 clear hmi hml het
 rintro ⟨j,m⟩ ⟨hj,hmi,hml,het⟩
 dsimp only at hj hmi hml het ⊢
 by_cases hlj:j<s.moves.length
 case neg =>
  have e0:s.moves.drop j=[]:=aY ab
  rw [e0] at het
  repeat first|refine aa ?_|intro
  refine ⟨(i+1,m),⟨by dsimp only;omega,hmi,by dsimp only;omega,het⟩,by dsimp only;omega,?_,by exact ae⟩
  dsimp only
  rw [aM i]
  exact ai
 have hjj:(j:Int).toNat=j:=av j
 have hlj' : (j:Int).toNat<s.moves.length:=ab
 rw [nl hlj,sU] at het
 repeat first|refine aa ?_|intro
 rw [hjj]
 rename_i b10
 generalize s.moves[j]! = mv at *
 refine GO.ef (Ef.d7 (pH items mv) rfl) ac ?_
 rintro _ _ ⟨rfl,rfl⟩
 by_cases hmo:io items mv.m
 case neg =>
  have es:iU items (gFn m) mv.m=(1,gFn m):=if_pos hmo
  rw [es,if_neg (show ¬(1:Int)=0 by decide)] at het
  rw [aC hmo,het]
  repeat first|refine aa ?_|intro
  exact KX.d7 ag (Ent.trans ae (Ent.d8 cV 3 tHd)) ⟨none,0,[],rfl,⟨by decide,ls (show ¬(1:Int)=0 by decide)⟩,rfl⟩
 have es:iU items (gFn m) mv.m=if (chgH (gFn m) mv.m.frm mv.m.item (-mv.m.n)).1=0 then chgH (chgH (gFn m) mv.m.frm mv.m.item (-mv.m.n)).2 mv.m.to mv.m.item mv.m.n else ((chgH (gFn m) mv.m.frm mv.m.item (-mv.m.n)).1,gFn m):=if_neg (fun q=>q hmo)
 rw [aL hmo]
 obtain ⟨⟨k1,k2⟩,⟨k3,k4⟩,k5,k6⟩:=hmo
 obtain ⟨⟨frm,to,item,mn,parts⟩,pad,pcap⟩:=mv
 dsimp only at k1 k2 k3 k4 k5 k6 es het ⊢
 simp only [aF]
 repeat first|refine aa ?_|intro _
 (first|refine GO.ef (Ef.m5 rfl rfl (pR (L:=[]) bc bm m frm item (-mn) hmi ab) (by repeat (first|exact Ent.refl _|apply Ent.take))) ac ?_)
 rintro _ _ ⟨_,⟨m1,rfl,⟨e1,l1⟩,rfl⟩,hL⟩
 simp only [aq,aj] at hL;subst hL
 by_cases hc:(chgH (gFn m) frm item (-mn)).1=0
 case neg =>
  rw [if_neg hc] at es
  rw [es,if_neg (show ¬(chgH (gFn m) frm item (-mn)).1=0 from hc)] at het
  rw [het]
  generalize (chgH (gFn m) frm item (-mn)).1=ec at *
  repeat first|refine aa ?_|intro
  exact KX.d7 ag (Ent.trans ae (Ent.d8 cV 3 tHd)) ⟨none,0,[],rfl,⟨by decide,ls (show ¬ec=0 from hc)⟩,rfl⟩
 rw [if_pos hc,← e1] at es
 have hm1:HldI (gFn m1):=by rw [e1];exact hmi.chg
 rw [hc]
 repeat first|refine aa ?_|intro _
 (first|refine GO.ef (Ef.m5 rfl rfl (pR (L:=[]) bc bm m1 to item mn hm1 ab) (by repeat (first|exact Ent.refl _|apply Ent.take))) ac ?_)
 rintro _ _ ⟨_,⟨m2,rfl,⟨e2,l2⟩,rfl⟩,hL⟩
 simp only [aq,aj] at hL;subst hL
 by_cases hc2:(chgH (gFn m1) to item mn).1=0
 case neg =>
  rw [es,if_neg (show ¬(chgH (gFn m1) to item mn).1=0 from hc2)] at het
  rw [het]
  generalize (chgH (gFn m1) to item mn).1=ec at *
  repeat first|refine aa ?_|intro
  exact KX.d7 ag (Ent.trans ae (Ent.d8 cV 3 tHd)) ⟨none,0,[],rfl,⟨by decide,ls (show ¬ec=0 from hc2)⟩,rfl⟩
 rw [es,if_pos (show (chgH (gFn m1) to item mn).1=0 from hc2),← e2] at het
 have hm2:HldI (gFn m2):=by rw [e2];exact hm1.chg
 rw [hc2]
 repeat first|refine aa ?_|intro
 refine ⟨(j+1,m2),⟨by dsimp only;omega,hm2,by dsimp only;omega,het⟩,by dsimp only;omega,?_,by exact ae⟩
 dsimp only
 rw [aM j]
 exact ai
end
section
open Go.V
attribute [local irreducible] G GO GP GPW GPK Ev Ef EfR Ent CB GB V.Enters
theorem tr (f:Int→Int→Int) {i b:Int}:chgH f 0 i b=(0,f):=if_pos rfl
abbrev Ah:List Stp:=[.ev 0,.ev 1,.ev 2,.ev 3,.ev 4,.ev 6,.ev 7,.ef 5,.ev 8]
theorem bK {φ ψ:Prop} (k:ψ) (h:Hid ψ→φ:=by intro k;(with_reducible apply G.d8);first|refine G.d7 (N:=106) (id:=15) Ah mixed an (Hid.out k)):φ:=h ⟨k⟩
theorem qe {L:List HP} (items:Int) (ad:Option Addr) (n c:Nat) (ss:List StV) [hr:Rds L ad StV aB 7 ss] (hn:n=ss.length) (hl:ss.length≤1000000) (hm:(cW ss).length≤100000) :
  Tri Tryz.prog 20 #[.int .i64 items,.slice ad n c] (allP aX ss::L) (fun v L'=>∃ ad' cap' hs,v=.tuple #[.slice ad' hs.length cap',.int .i64 (resH items ss).1]∧(hs.length≤200000∧if (resH items ss).1=0 then HoldL (resH items ss).2 hs else hs=[])∧L' = osl cV 3 tHd ad' cap' hs::allP aX ss::L):=by
 subst hn
 refine Tri.body (args:=[.int .i64 items,.slice ad ss.length c]) 106 en20 Tryz.func20 rfl rfl rfl (by simp) ?_
 by_cases c1:0≤items
 case neg =>
  have e:resH items ss=(1,fun _ _=>0):=if_pos (fun q=>c1 q.1)
  rw [e]
  repeat first|refine aa ?_|intro _|refine bK ?_
  exact KX.d7 ag (Ent.d8 cV 3 tHd) ⟨none,0,[],rfl,⟨by decide,rfl⟩,rfl⟩
 by_cases c2:items≤64
 case neg =>
  have e:resH items ss=(1,fun _ _=>0):=if_pos (fun q=>c2 q.2)
  rw [e]
  repeat first|refine aa ?_|intro _|refine bK ?_
  exact KX.d7 ag (Ent.d8 cV 3 tHd) ⟨none,0,[],rfl,⟨by decide,rfl⟩,rfl⟩
 have e:resH items ss=hldF items (cW ss) (fun _ _=>0):=if_neg (fun q=>q ⟨c1,c2⟩)
 rw [e]
 generalize hf0:(fun _ _=>0:Int→Int→Int)=f0 at *
 repeat first|refine aa ?_|intro _|refine bK ?_
 refine G.loop (α:=Nat×(Int→Int→Int)×Option Addr×Nat×List Hd) (fun g=>g.1≤ss.length∧HldI g.2.1∧AllI g.2.1 g.2.2.2.2∧g.2.2.2.2.length+2*(cW (ss.drop g.1)).length≤2*(cW ss).length∧hldF items (cW ss) f0=hldF items (cW (ss.drop g.1)) g.2.1) (fun g=>[(0,.int .i64 items),(1,.slice ad ss.length c),(6,.slice g.2.2.1 g.2.2.2.2.length g.2.2.2.1),(7,.int .i64 (g.1:Int))]) (fun g=>osl cV 3 tHd g.2.2.1 g.2.2.2.1 g.2.2.2.2::allP aX ss::L) (fun g=>ss.length - g.1) (0,f0,none,0,[]) ⟨al _,hf0▸hld0,hf0▸all0,Nat.le_of_eq (cD _),rfl⟩ ai (Ent.d8 cV 3 tHd) ?_
 rintro ⟨i,f,la,lc,l⟩ ⟨hi,hmi,hai,hml,het⟩
 dsimp only at hi hmi hai hml het ⊢
 by_cases hlt:i<ss.length
 case neg =>
  have e0:ss.drop i=[]:=aY ab
  rw [e0] at het hml
  have e1:hldF items (cW ss) f0=(0,f):=het
  rw [e1]
  have hl2:l.length≤200000:=ab
  repeat first|refine aa ?_|intro _|refine bK ?_
  refine G.loop (α:=Nat×Option Addr×Nat×List Hd) (fun g=>g.1≤l.length∧g.2.2.2=(l.take g.1).filter (fun x=>decide (0<x.2.2))) (fun g=>[(6,.slice la l.length lc),(11,.slice g.2.1 g.2.2.2.length g.2.2.1),(12,.int .i64 (g.1:Int))]) (fun g=>osl cV 3 tHd g.2.1 g.2.2.1 g.2.2.2::osl cV 3 tHd la lc l::allP aX ss::L) (fun g=>l.length - g.1) (0,none,0,[]) ⟨al _,by simp⟩ ai (Ent.d8 cV 3 tHd) ?_
  rintro ⟨k,oa,oc,out⟩ ⟨hk,hout⟩
  dsimp only at hk hout ⊢
  have hol:out.length≤k:=by
   rw [hout]
   refine cx (List.length_filter_le _ _) ?_
   rw [ba]
   omega
  by_cases hkl:k<l.length
  case neg =>
   rw [aA ab] at hout
   repeat first|refine aa ?_|intro _|refine bK ?_
   refine KX.d7 ag ?_ ⟨oa,oc,out,rfl,⟨ab,?_⟩,rfl⟩
   ·exact ae
   ·rw [if_pos rfl,hout]
    exact hai.hold hmi
  have hkk:(k:Int).toNat=k:=av k
  have hkl' : (k:Int).toNat<l.length:=ab
  have htk:l.take (k+1)=l.take k++[l[k]!]:=by
   rw [ay hkl,getElem!_of hkl]
  by_cases hp:0<l[k]!.2.2
  ·have hfa:(l.take (k+1)).filter (fun x=>decide (0<x.2.2))=out++[l[k]!]:=by
    rw [htk,cJ,bS (by simpa using hp),hout]
    rfl
   have hp' : 0<l[(k:Int).toNat]!.2.2:=by rw [hkk];exact hp
   repeat first|refine aa ?_|intro _|refine bK ?_
   refine GO.ef (Ef.d8 (enc:=cV) (e:=l[(k:Int).toNat]!) rfl rfl rfl rfl rfl (by rfl) (ic _) ab ab) ac ?_
   rintro _ _ ⟨oa2,oc2,rfl,rfl⟩
   repeat first|refine aa ?_|intro _|refine bK ?_
   refine ⟨(k+1,oa2,oc2,out++[l[(k:Int).toNat]!]),⟨by dsimp only;omega,by dsimp only;rw [hfa,hkk]⟩,by dsimp only;omega,?_,by exact ae⟩
   dsimp only
   rw [aM k]
   exact ai
  ·have hfa:(l.take (k+1)).filter (fun x=>decide (0<x.2.2))=out:=by
    rw [htk,cJ,bT (by simpa using hp),hout,List.filter_nil,aV]
   have hp' : ¬0<l[(k:Int).toNat]!.2.2:=by rw [hkk];exact hp
   repeat first|refine aa ?_|intro _|refine bK ?_
   refine ⟨(k+1,oa,oc,out),⟨by dsimp only;omega,hfa.symm⟩,by dsimp only;omega,?_,by exact ae⟩
   dsimp only
   rw [aM k]
   exact ai
 have hii:(i:Int).toNat=i:=av i
 have hlt' : (i:Int).toNat<ss.length:=ab
 rw [ew hlt,lh] at het hml
 rw [ax,aD] at hml
 repeat first|refine aa ?_|intro _|refine bK ?_
 have hsl:ss[i]!.moves.length≤100000:=ab
 refine G.loop (α:=Nat×(Int→Int→Int)×Option Addr×Nat×List Hd) (fun g=>g.1≤ss[i]!.moves.length∧HldI g.2.1∧AllI g.2.1 g.2.2.2.2∧g.2.2.2.2.length+2*((ss[i]!.moves.length - g.1)+(cW (ss.drop (i+1))).length)≤2*(cW ss).length∧hldF items (cW ss) f0=hldF items ((ss[i]!.moves.drop g.1).map MvV.m++cW (ss.drop (i+1))) g.2.1) (fun g=>[(0,.int .i64 items),(1,.slice ad ss.length c),(6,.slice g.2.2.1 g.2.2.2.2.length g.2.2.2.1),(7,.int .i64 (i:Int)),(8,.int .i64 (g.1:Int))]) (fun g=>osl cV 3 tHd g.2.2.1 g.2.2.2.1 g.2.2.2.2::isl aF 5 ss[i]!.mad ss[i]!.moves::stP ss[i]!::allP aX ss::L) (fun g=>ss[i]!.moves.length - g.1) (0,f,la,lc,l) ⟨al _,hmi,hai,by dsimp only;omega,het⟩ ai ((Ent.at (A:=allP aX ss) (lO hlt)).trans ae) ?_
 clear hmi hai hml het
 rintro ⟨j,f,la,lc,l⟩ ⟨hj,hmi,hai,hml,het⟩
 dsimp only at hj hmi hai hml het ⊢
 by_cases hlj:j<ss[i]!.moves.length
 case neg =>
  have e0:ss[i]!.moves.drop j=[]:=aY ab
  rw [e0] at het
  have hjj:j=ss[i]!.moves.length:=ab
  repeat first|refine aa ?_|intro _|refine bK ?_
  rw [hii]
  repeat first|refine aa ?_|intro _|refine bK ?_
  refine ⟨(i+1,f,la,lc,l),⟨by dsimp only;omega,hmi,hai,by dsimp only;omega,het⟩,by dsimp only;omega,?_,by exact ae⟩
  dsimp only
  rw [aM i]
  exact ai
 have hjj:(j:Int).toNat=j:=av j
 have hlj' : (j:Int).toNat<ss[i]!.moves.length:=ab
 have hll:l.length≤200000:=ab
 rw [nl hlj,sU] at het
 repeat first|refine aa ?_|intro _|refine bK ?_
 rw [hii]
 repeat first|refine aa ?_|intro _|refine bK ?_
 rw [hii]
 repeat first|refine aa ?_|intro _|refine bK ?_
 rw [hjj]
 rename_i b9
 generalize ss[i]!.moves[j]! = mv at *
 refine GO.ef (Ef.d7 (qC items mv) rfl) ac ?_
 rintro _ _ ⟨rfl,rfl⟩
 by_cases hmo:io items mv.m
 case neg =>
  have es:iU items f mv.m=(1,f):=if_pos hmo
  rw [es,if_neg (show ¬(1:Int)=0 by decide)] at het
  rw [aL hmo,het]
  repeat first|refine aa ?_|intro _|refine bK ?_
  exact KX.d7 ag (Ent.trans ae (Ent.d8 cV 3 tHd)) ⟨none,0,[],rfl,⟨by decide,ls (show ¬(1:Int)=0 by decide)⟩,rfl⟩
 have es:iU items f mv.m=if (chgH f mv.m.frm mv.m.item (-mv.m.n)).1=0 then chgH (chgH f mv.m.frm mv.m.item (-mv.m.n)).2 mv.m.to mv.m.item mv.m.n else ((chgH f mv.m.frm mv.m.item (-mv.m.n)).1,f):=if_neg (fun q=>q hmo)
 rw [aC (fun q=>q hmo)]
 obtain ⟨⟨k1,k2⟩,⟨k3,k4⟩,k5,k6⟩:=hmo
 obtain ⟨⟨frm,to,item,mn,parts⟩,pad,pcap⟩:=mv
 dsimp only at k1 k2 k3 k4 k5 k6 es het ⊢
 simp only [aF]
 have hbf:=hmi.bd frm item
 repeat first|((fail_if_success (with_reducible refine G.e7 14 ?_));(with_reducible apply G.seq))|refine bU ?_|intro _|refine bK ?_
 refine G.d9 (α:=(Int→Int→Int)×Option Addr×Nat×List Hd) (fun g=>chgH f frm item (-mn)=(0,g.1)∧HldI g.1∧AllI g.1 g.2.2.2∧g.2.2.2.length≤l.length+1) (fun g=>[(0,.int .i64 items),(1,.slice ad ss.length c),(6,.slice g.2.1 g.2.2.2.length g.2.2.1),(7,.int .i64 (i:Int)),(8,.int .i64 (j:Int)),(9,.pointer (some ⟨b9,0,none⟩))]) (fun g=>obj b9 tMv [.int .i64 frm,.int .i64 to,.int .i64 item,.int .i64 mn,.slice pad parts.length pcap]::osl cV 3 tHd g.2.1 g.2.2.1 g.2.2.2::isl aF 5 ss[i]!.mad ss[i]!.moves::stP ss[i]!::allP aX ss::L) ?_ ?_
 ·by_cases c3:frm=0
  ·repeat first|refine aa ?_|intro _|refine bK ?_
   exact ⟨(f,la,lc,l),⟨by rw [c3];exact tr f,hmi,hai,Nat.le_succ _⟩,ai,by exact ae⟩
  ·have ec:chgH f frm item (-mn)=if (chgT (f frm item + -mn)).2=0 then (0,updH f frm item (chgT (f frm item + -mn)).1) else ((chgT (f frm item + -mn)).2,f):=if_neg c3
   have hch:HldI (chgH f frm item (-mn)).2:=hmi.chg
   by_cases c4:f frm item<mn
   ·have e1:chgT (f frm item + -mn)=(0,10):=if_pos ab
    rw [e1,if_neg (show ¬(10:Int)=0 by decide)] at ec
    rw [es,ec,if_neg (show ¬(10:Int)=0 by decide),if_neg (show ¬(10:Int)=0 by decide)] at het
    rw [het]
    repeat first|refine aa ?_|intro _|refine bK ?_
    refine GPW.ef (Ef.d7 (oz la l.length lc l rfl ab f hai frm item) rfl) ac ?_
    rintro _ _ ⟨rfl,rfl⟩
    repeat first|refine aa ?_|intro _|refine bK ?_
    exact KX.d7 ag (Ent.trans ae (Ent.d8 cV 3 tHd)) ⟨none,0,[],rfl,⟨by decide,ls (show ¬(10:Int)=0 by decide)⟩,rfl⟩
   ·have e1:chgT (f frm item + -mn)=(f frm item + -mn,0):=by
     unfold chgT
     rw [if_neg ab,if_neg ab]
    rw [e1,if_pos rfl] at ec
    rw [ec] at hch
    repeat first|refine aa ?_|intro _|refine bK ?_
    refine GPW.ef (Ef.d7 (oz la l.length lc l rfl ab f hai frm item) rfl) ac ?_
    rintro _ _ ⟨rfl,rfl⟩
    repeat first|refine aa ?_|intro _|refine bK ?_
    (first|refine GO.ef (Ef.call (wi (L:=[]) la lc l.length lc l rfl rfl ab f hai frm item (-mn) ab ab) rfl (by repeat (first|exact Ent.refl _|apply Ent.take))) ac ?_)
    rintro _ _ ⟨_,⟨la2,lc2,l2,rfl,⟨hal,hll2⟩,rfl⟩,hL⟩
    simp only [aq,aj] at hL;subst hL
    repeat first|refine aa ?_|intro _|refine bK ?_
    exact ⟨(updH f frm item (f frm item + -mn),la2,lc2,l2),⟨ec,hch,hal,hll2⟩,ai,by exact ae⟩
 rintro ⟨f1,la1,lc1,l1⟩ ⟨ec,hm1,ha1,hl1⟩
 dsimp only at ec hm1 ha1 hl1 ⊢
 rw [ec,if_pos rfl] at es
 clear hmi hai
 have hb1:=hm1.bd to item
 by_cases c3:to=0
 ·have e1:chgH f1 to item mn=(0,f1):=by rw [c3];exact tr f1
  rw [e1] at es
  rw [es,if_pos rfl] at het
  repeat first|refine aa ?_|intro _|refine bK ?_
  refine ⟨(j+1,f1,la1,lc1,l1),⟨by dsimp only;omega,hm1,ha1,by dsimp only;omega,het⟩,by dsimp only;omega,?_,by exact ae⟩
  dsimp only
  rw [aM j]
  exact ai
 have ec2:chgH f1 to item mn=if (chgT (f1 to item+mn)).2=0 then (0,updH f1 to item (chgT (f1 to item+mn)).1) else ((chgT (f1 to item+mn)).2,f1):=if_neg c3
 have hch:HldI (chgH f1 to item mn).2:=hm1.chg
 repeat first|refine aa ?_|intro _|refine bK ?_
 (first|refine GO.ef (Ef.call (wi (L:=[]) la1 lc1 l1.length lc1 l1 rfl rfl ab f1 ha1 to item mn ab ab) rfl (by repeat (first|exact Ent.refl _|apply Ent.take))) ac ?_)
 rintro _ _ ⟨_,⟨la2,lc2,l2,rfl,⟨hal,hll2⟩,rfl⟩,hL⟩
 simp only [aq,aj] at hL;subst hL
 repeat first|refine aa ?_|intro _|refine bK ?_
 refine GO.ef (Ef.d7 (oz la2 l2.length lc2 l2 rfl ab _ hal to item) rfl) ac ?_
 rintro _ _ ⟨rfl,rfl⟩
 have hup:updH f1 to item (f1 to item+mn) to item=f1 to item+mn:=if_pos ⟨rfl,rfl⟩
 rw [hup]
 by_cases c4:1099511627776<f1 to item+mn
 ·have e1:chgT (f1 to item+mn)=(0,4):=by
   unfold chgT
   rw [if_neg ab,if_pos c4]
  rw [e1,if_neg (show ¬(4:Int)=0 by decide)] at ec2
  rw [ec2] at es
  rw [es,if_neg (show ¬(4:Int)=0 by decide)] at het
  rw [het]
  repeat first|refine aa ?_|intro _|refine bK ?_
  exact KX.d7 ag (Ent.trans ae (Ent.d8 cV 3 tHd)) ⟨none,0,[],rfl,⟨by decide,ls (show ¬(4:Int)=0 by decide)⟩,rfl⟩
 ·have e1:chgT (f1 to item+mn)=(f1 to item+mn,0):=by
   unfold chgT
   rw [if_neg ab,if_neg c4]
  rw [e1,if_pos rfl] at ec2
  rw [ec2] at es hch
  rw [es,if_pos rfl] at het
  repeat first|refine aa ?_|intro _|refine bK ?_
  refine ⟨(j+1,updH f1 to item (f1 to item+mn),la2,lc2,l2),⟨by dsimp only;omega,hch,hal,by dsimp only;omega,het⟩,by dsimp only;omega,?_,by exact ae⟩
  dsimp only
  rw [aM j]
  exact ai
end
end Go.Proofs.YtommnllbflbdmaaGreatDoor
namespace Go.V
def AY (M:Env→List HP→Prop):Post:=fun e env L=>match e with
 | .normal=>M env L
 | _=>False
instance {M:Env→List HP→Prop}:NoP (AY M):=⟨fun _ _ _ h=>h,fun _ _ h=>h⟩
section
variable {P:Program} {N:Nat} {env:Env} {L:List HP} {K:Post}
theorem KX.l6 {M:Env→List HP→Prop} (h:M env L):AY M .normal env L:=h
theorem G.l0 {α:Type} {x y:Code} (Inv:α→Prop) (e:α→Env) (l:α→List HP) (h:G P N x env L (AY fun env' L'=>∃ g,Inv g∧EnvSub env' (e g)∧Ent L' (l g))) (h' : ∀ g,Inv g→G P N y (e g) (l g) K):G P N (.seq x y) env L K :=
 G.seq (G.mono h (fun ex env' L' hx=>by
  cases ex with
  | normal=>obtain ⟨g,h1,h2,h3⟩:=hx;exact (h' g h1).conseq h2 h3
  | _=>exact False.elim hx))
theorem Ent.under {A:List HP} {p:HP} (h:Ent L (p::L)):Ent (A++L) (p::(A++L)) :=
 (Ent.append (Ent.refl A) h).trans (Ent.perm fe)
end
end Go.V
