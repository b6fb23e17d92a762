/- Lemmas and contracts of functions. -/
import Derived.Test.YtommnllbflbdmaaGreatDoorGAuditTotalsbd
import Derived.Test.YtommnllbflbdmaaGreatDoorGAuditTotalsaz
set_option linter.all false
set_option maxHeartbeats 2000000
namespace Go.Proofs.YtommnllbflbdmaaGreatDoor
section
open Go.V
attribute [local irreducible] G GO GP GPW GPK Ev Ef EfR Ent CB GB V.Enters
def ovP (x y:Lot):Prop:=x.2.1<y.2.1+y.2.2∧y.2.1<x.2.1+x.2.2
instance (x y:Lot):Decidable (ovP x y):=by unfold ovP;infer_instance
abbrev xV:List Stp:=[.ev 0,.ev 1,.ev 2,.ef 3,.ev 4,.ev 5,.ev 6,.ev 7,.ev 8,.ef 9,.ev 10,.ev 11,.ev 12]
theorem iE {φ ψ:Prop} (k:ψ) (h:Hid ψ→φ:=by intro k;(with_reducible apply G.d8);first|refine G.d7 (N:=16) (id:=1) xV mixed an (Hid.out k)):φ:=h ⟨k⟩
theorem rX {L:List HP} (b:Nat) (x y:Lot) (hx:LotW x) (hy:LotW y):Tri Tryz.prog 231 #[.agg (ah y).toArray,.pointer (some ⟨b,0,none⟩)] (obj b tLot (ah x)::L) (fun v L'=>v=.bool (dB (ovP x y))∧L' = obj b tLot (ah x)::L):=by
 refine Tri.body (args:=[.agg (ah y).toArray,.pointer (some ⟨b,0,none⟩)]) 16 GH Tryz.func231 rfl rfl rfl (by simp) ?_
 repeat first|refine aa ?_|intro _|refine iE ?_
 refine GPW.ef (Ef.d7 (ij y hy) rfl) ac ?_
 rintro _ _ ⟨rfl,rfl⟩
 by_cases h1:x.2.1<y.2.1+y.2.2
 ·repeat first|refine aa ?_|intro _|refine iE ?_
  refine GPW.ef (Ef.d7 (ij x hx) rfl) ac ?_
  rintro _ _ ⟨rfl,rfl⟩
  repeat first|refine aa ?_|intro _|refine iE ?_
  refine KX.d7 ag ?_ ⟨?_,rfl⟩
  ·exact ae
  ·by_cases h2:y.2.1<x.2.1+x.2.2
   ·rw [aL h2,aL (show ovP x y from ⟨h1,h2⟩)];rfl
   ·rw [aC h2,aC (show ¬ovP x y from fun q=>h2 q.2)];rfl
 ·repeat first|refine aa ?_|intro _|refine iE ?_
  rw [aC (show ¬ovP x y from fun q=>h1 q.1)]
  refine KX.d7 ag ?_ ⟨rfl,rfl⟩
  exact ae
theorem tQ {C L:List HP} (g:FuncId) (cap:List Value) (p:Lot→Prop) [DecidablePred p] (ad:Option Addr) (n c:Nat) (xs:List Lot) [hr:Rds (C++L) ad Lot ah 3 xs] (hn:n=xs.length) (hl:xs.length≤1000000) (hg:∀ y∈xs,Tri Tryz.prog g (([]++[Value.agg (ah y).toArray]++cap:List Value)).toArray (C++L) (fun v L'=>v=.bool (dB (p y))∧L' = C++L)) :
  Tri Tryz.prog 272 #[.slice ad n c,.func (.func g) #[] cap.toArray] (C++L) (fun v L'=>∃ i:Int,v=.int .i64 i∧((i = -1∧∀ k,k<xs.length→¬p xs[k]!)∨∃ k:Nat,i=k∧k<xs.length∧p xs[k]!∧∀ j,j<k→¬p xs[j]!)∧L' = C++L):=by
 subst hn
 refine Tri.body (args:=[.slice ad xs.length c,.func (.func g) #[] cap.toArray]) 19 Ga Tryz.func272 rfl rfl rfl (by simp) ?_
 repeat first|refine aa ?_|intro
 refine G.loop (α:=Nat) (fun i=>i≤xs.length∧∀ j,j<i→¬p xs[j]!) (fun i=>[(0,.slice ad xs.length c),(1,.func (.func g) #[] cap.toArray),(7,.int .i64 (xs.length:Int)),(8,.int .i64 (i:Int))]) (fun _=>C++L) (fun i=>xs.length - i) 0 ⟨al _,fun j hj=>by omega⟩ ai (Ent.refl _) ?_
 rintro i ⟨hi,hb⟩
 by_cases hlt:i<xs.length
 case neg =>
  obtain rfl:i=xs.length:=ab
  repeat first|refine aa ?_|intro
  exact KX.d7 ag (Ent.refl _) ⟨-1,rfl,.inl ⟨rfl,hb⟩,rfl⟩
 have hii:(i:Int).toNat=i:=ab
 repeat first|refine aa ?_|intro
 rw [hii]
 refine GO.ef (Ef.d9 rfl rfl (hg xs[i]! (aG hlt))) ac ?_
 rintro _ _ ⟨rfl,rfl⟩
 by_cases hp:p xs[i]!
 ·rw [aL hp]
  repeat first|refine aa ?_|intro
  exact KX.d7 ag (Ent.refl _) ⟨i,rfl,.inr ⟨i,rfl,hlt,hp,hb⟩,rfl⟩
 ·rw [aC hp]
  repeat first|refine aa ?_|intro
  refine ⟨i+1,⟨ab,?_⟩,ab,?_,Ent.refl _⟩
  ·intro j hj
   rcases bG j i with h|h
   ·exact hb j h
   ·obtain rfl:j=i:=ab
    exact hp
  ·rw [aM i]
   exact ai
theorem qx {C L:List HP} (g:FuncId) (cap:List Value) (p:Lot→Prop) [DecidablePred p] (ad:Option Addr) (n c:Nat) (xs:List Lot) [hr:Rds (C++L) ad Lot ah 3 xs] (hn:n=xs.length) (hl:xs.length≤1000000) (hg:∀ y∈xs,Tri Tryz.prog g (([]++[Value.agg (ah y).toArray]++cap:List Value)).toArray (C++L) (fun v L'=>v=.bool (dB (p y))∧L' = C++L)) :
  Tri Tryz.prog 230 #[.slice ad n c,.func (.func g) #[] cap.toArray] (C++L) (fun v L'=>v=.bool (dB (∃ y∈xs,p y))∧L' = C++L):=by
 refine Tri.body (args:=[.slice ad n c,.func (.func g) #[] cap.toArray]) 9 GI Tryz.func230 rfl rfl rfl (by simp) ?_
 repeat first|refine aa ?_|intro
 refine GO.ef (Ef.d7 (tQ g cap p ad n c xs hn hl hg) rfl) ac ?_
 rintro _ _ ⟨i,rfl,hi,rfl⟩
 rcases hi with ⟨rfl,hno⟩|⟨k,rfl,hk,hp,_⟩
 ·rw [aC (show ¬ ∃ y∈xs,p y from fun ⟨y,hy,hp⟩=>by
   obtain ⟨k,hk,rfl⟩:=List.mem_iff_getElem.1 hy
   have:=hno k hk
   rw [getElem!_of hk] at this
   exact this hp)]
  repeat first|refine aa ?_|intro
  exact KX.d7 ag (Ent.refl _) ⟨by rw [aC ab];rfl,rfl⟩
 ·rw [aL (show ∃ y∈xs,p y from ⟨_,aG hk,hp⟩)]
  repeat first|refine aa ?_|intro
  exact KX.d7 ag (Ent.refl _) ⟨by rw [aL ab];rfl,rfl⟩
theorem nO {L:List HP} (ad:Option Addr) (n c:Nat) (xs:List Lot) (x:Lot) [hr:Rds L ad Lot ah 3 xs] (hn:n=xs.length) (hl:xs.length≤1000000) (hxs:∀ y∈xs,LotW y) (hx:LotW x) :
  Tri Tryz.prog 143 #[.slice ad n c,.agg (ah x).toArray] L (fun v L'=>v=.bool (dB (∃ y∈xs,ovP x y))∧L' = L):=by
 refine Tri.body (args:=[.slice ad n c,.agg (ah x).toArray]) 8 Ii Tryz.func143 rfl rfl rfl (by simp) ?_
 repeat first|refine aa ?_|intro
 rename_i b
 have hr2:Rds ([obj b tLot (ah x)]++L) ad Lot ah 3 xs:=(inferInstance:Rds (obj b tLot (ah x)::L) ad Lot ah 3 xs)
 refine GO.ef (Ef.d7 (qx (C:=[obj b tLot (ah x)]) 231 [.pointer (some ⟨b,0,none⟩)] (ovP x) ad n c xs hn hl (fun y hy=>rX b x y hx (hxs y hy))) rfl) ac ?_
 rintro _ _ ⟨rfl,rfl⟩
 repeat first|refine aa ?_|intro
 exact KX.d7 ag (show Ent (obj b tLot (ah x)::L) L by exact ae) ⟨rfl,rfl⟩
end
section
open Go.V
attribute [local irreducible] G GO GP GPW GPK Ev Ef EfR Ent CB GB V.Enters
def ltV (x:Lot):List Value:=[.agg (ah x).toArray]
theorem ur {L0:List HP} (bx:Nat) (ad:Option Addr) (c:Nat) (l:List Lot) [hrd:Rds L0 ad Lot ah 3 l] (hm:l.length≤1000000) :
  Iter Tryz.prog 292 [.pointer (some ⟨bx,0,none⟩)] (l.map ltV) (obj bx jk [.slice ad l.length c]::L0):=by
 intro i J Jx hy
 rw [aD]
 have hy' : ∀ k (hk:k<l.length),YTri Tryz.prog i (ltV l[k]!) [J k] (fun v L'=>(v=.bool true∧L' = [J (k+1)])∨(v=.bool false∧L' = [Jx k])):=by
  intro k hk
  have h:=hy k (by rw [aD];exact hk)
  rw [el] at h
  rw [getElem!_of hk]
  exact h
 clear hy
 refine Tri.body (args:=[.func (.yield i) #[] #[],.pointer (some ⟨bx,0,none⟩)]) 16 DP Tryz.func292 rfl rfl rfl (by simp) ?_
 repeat first|refine aa ?_|intro
 refine G.loop (α:=Nat) (fun k=>k≤l.length) (fun k=>[(0,.func (.yield i) #[] #[]),(1,.pointer (some ⟨bx,0,none⟩)),(5,.slice ad l.length c),(6,.int .i64 l.length),(7,.int .i64 (k:Int))]) (fun k=>J k::obj bx jk [.slice ad l.length c]::L0) (fun k=>l.length - k) 0 (al _) ai (Ent.refl _) ?_
 intro k hk
 by_cases hlt:k<l.length
 case neg =>
  have hkn:k=l.length:=ab
  repeat first|refine aa ?_|intro
  refine KX.e8 ag (Ent.refl _) (.inl ?_)
  rw [hkn]
 have hyk:=hy' k hlt
 have hii:(k:Int).toNat=k:=av k
 repeat first|refine aa ?_|intro
 rw [hii]
 refine GO.ent Ent.swap ?_
 ((with_reducible apply GO.d7);refine GO.efR (EfR.yield (hyk) rfl rfl (by repeat (first|exact Ent.refl _|apply Ent.take))) ac ?_)
 rintro _ _ ⟨_,(⟨rfl,rfl⟩|⟨rfl,rfl⟩),hL⟩
 ·simp only [aq,aj] at hL;subst hL
  repeat first|refine aa ?_|intro
  refine ⟨k+1,ab,ab,?_,?_⟩
  ·rw [show (((k+1:Nat)):Int)=(k:Int)+1 by omega]
   exact ai
  ·exact Ent.d7 Ent.drop
 ·simp only [aq,aj] at hL;subst hL
  repeat first|refine aa ?_|intro
  exact KX.d7 ag (Ent.d7 Ent.drop) (.inr ⟨k,rfl⟩)
theorem rG {L:List HP} (bx:Nat) (ad:Option Addr) (c:Nat) (l:List Lot) [hrd:Rds L ad Lot ah 3 l] (hm:l.length≤1000000) :
  Tri Tryz.prog 308 #[.slice none 0 0,.func (.func 292) #[] #[.pointer (some ⟨bx,0,none⟩)]] (obj bx jk [.slice ad l.length c]::L) (fun v L'=>∃ ad' cap',v=.slice ad' l.length cap'∧L' = osl ah 3 tLot ad' cap' l::obj bx jk [.slice ad l.length c]::L):=by
 refine Tri.body (args:=[.slice none 0 0,.func (.func 292) #[] #[.pointer (some ⟨bx,0,none⟩)]]) 13 FH Tryz.func308 rfl rfl rfl (by simp) ?_
 repeat first|refine aa ?_|intro
 rename_i b2
 refine G.rangeFunc (ur (L0:=L) bx ad c l hm) rfl DP ac (by intro vs hvs;obtain ⟨r,_,rfl⟩:=List.mem_map.1 hvs;rfl) (fun k=>[stkO b2 (l.take k)]) ?_ ?_ ?_
 ·simp only [aq,aj,bX]
  refine Ent.trans ?_ (Ent.l5 (none,0) (f:=stkA b2 []) (Ent.refl _))
  simp only [stkA,bZ,aq,aj]
  refine Ent.trans (Ent.d8 ah 3 tLot) ?_
  exact ae
 ·intro k hk
  rw [aD] at hk
  rw [el]
  have htk:l.take (k+1)=l.take k++[l[k]]:=ay hk
  rw [htk]
  have htl:(l.take k).length≤1000000:=by rw [ba];omega
  generalize l.take k=T at htl
  generalize l[k]=x
  show G _ _ _ ((7,.agg (ah x).toArray)::_) _ _
  refine G.e8 (f:=stkA b2 T) ?_
  rintro ⟨ad1,c1⟩
  simp only [stkA,aq,aj]
  repeat first|refine aa ?_|intro
  refine GO.ef (Ef.d8 (enc:=ah) (e:=x) rfl rfl rfl rfl rfl (by rfl) (cz _) ab ab) ac ?_
  rintro _ _ ⟨ad2,cap2,rfl,rfl⟩
  repeat first|refine aa ?_|intro
  refine KX.round ?_
  refine Ent.trans ?_ (Ent.l5 (ad2,cap2) (f:=stkA b2 (T++[x])) (Ent.refl _))
  simp only [stkA,aq,aj]
  exact ae
 rw [aD,aZ]
 simp only [aq,aj]
 refine KX.d8 ?_
 repeat first|refine aa ?_|intro
 refine GO.j0 (f:=stkA b2 l) ?_
 rintro ⟨ad2,cap2⟩
 simp only [stkA,aq,aj]
 repeat first|refine aa ?_|intro
 refine KX.d7 ag ?_ ⟨ad2,cap2,rfl,rfl⟩
 exact ae
theorem tS {L:List HP} (bx:Nat) (ad:Option Addr) (c:Nat) (l:List Lot) [hrd:Rds L ad Lot ah 3 l] (hm:l.length≤1000000) :
  Tri Tryz.prog 291 #[.func (.func 292) #[] #[.pointer (some ⟨bx,0,none⟩)]] (obj bx jk [.slice ad l.length c]::L) (fun v L'=>∃ ad' cap',v=.slice ad' l.length cap'∧L' = osl ah 3 tLot ad' cap' l::obj bx jk [.slice ad l.length c]::L):=by
 refine Tri.body (args:=[.func (.func 292) #[] #[.pointer (some ⟨bx,0,none⟩)]]) 5 FQ Tryz.func291 rfl rfl rfl (by simp) ?_
 repeat first|refine aa ?_|intro
 refine GO.ef (Ef.d7 (rG bx ad c l hm) rfl) ac ?_
 rintro _ _ ⟨ad1,c1,rfl,rfl⟩
 repeat first|refine aa ?_|intro
 exact KX.d7 ag (Ent.refl _) ⟨ad1,c1,rfl,rfl⟩
end
section
open Go.V
attribute [local irreducible] G GO GP GPW GPK Ev Ef EfR Ent CB GB V.Enters
abbrev xU:List Stp:=[.ev 0,.ev 1,.ev 2,.ev 3,.ev 5,.ev 6,.ev 7,.ev 8,.ef 4,.ef 9,.ef 10,.ef 11,.ev 12]
theorem iD {φ ψ:Prop} (k:ψ) (h:Hid ψ→φ:=by intro k;(with_reducible apply G.d8);first|refine G.d7 (N:=17) (id:=1) xU mixed an (Hid.out k)):φ:=h ⟨k⟩
theorem wb {L:List HP} (x y:Lot):Tri Tryz.prog 275 #[.agg (ah x).toArray,.agg (ah y).toArray] L (fun v L'=>v=.int .i64 (hdC x y)∧L' = L):=by
 refine Tri.body (args:=[.agg (ah x).toArray,.agg (ah y).toArray]) 17 DQ Tryz.func275 rfl rfl rfl (by simp) ?_
 repeat first|refine aa ?_|intro _|refine iD ?_
 refine GPW.ef (Ef.d7 (jw x.1 y.1) rfl) ac ?_
 rintro _ _ ⟨rfl,rfl⟩
 repeat first|refine aa ?_|intro _|refine iD ?_
 refine GPW.ef (Ef.d7 (jw x.2.1 y.2.1) rfl) ac ?_
 rintro _ _ ⟨rfl,rfl⟩
 repeat first|refine aa ?_|intro _|refine iD ?_
 rename_i bc
 refine GPW.ent (Ent.f7 (enc:=encZ .i64) (sz:=1) (xs:=[cmpI x.1 y.1,cmpI x.2.1 y.2.1]) rfl rfl (fun _ _=>rfl) (by simp)) ?_
 refine GPW.ef (Ef.d7 (nk (some ⟨bc,0,none⟩) 2 (cmpI x.1 y.1) (cmpI x.2.1 y.2.1)) rfl) ac ?_
 rintro _ _ ⟨rfl,rfl⟩
 repeat first|refine aa ?_|intro _|refine iD ?_
 exact KX.d7 ag ae ⟨rfl,rfl⟩
theorem uz {E cap:Nat} {ad:Option Addr} {xs:List Lot} (hsz:xs.length<4611686018427387904) :
  Tri Tryz.prog 282 #[.slice ad xs.length cap,.func (.func 275) #[] #[]] [osl ah 3 E ad cap xs] (fun v L'=>v=.tuple #[]∧∃ ys,fM hdC xs ys∧L' = [osl ah 3 E ad cap ys]) :=
 Tri.d7 (ρ:=Tryz.zr7) Tryz.zs8 (k:=3) Tryz.isAgg91 Tryz.sizeOf91 (fun _=>rfl) cz (Lc:=[]) hdC yI FT DQ (fun _ _ _=>trivial) (fun x y=>(wb (L:=[]) x y).mono (fun _ _ h=>h.1)) hsz
theorem rR {L:List HP} (bx:Nat) (ad:Option Addr) (c:Nat) (l:List Lot) [hrd:Rds L ad Lot ah 3 l] (hm:l.length≤1000000) :
  Tri Tryz.prog 273 #[.func (.func 292) #[] #[.pointer (some ⟨bx,0,none⟩)],.func (.func 275) #[] #[]] (obj bx jk [.slice ad l.length c]::L) (fun v L'=>∃ ad' cap' ys,v=.slice ad' ys.length cap'∧fM hdC l ys∧L' = osl ah 3 tLot ad' cap' ys::obj bx jk [.slice ad l.length c]::L):=by
 refine Tri.body (args:=[.func (.func 292) #[] #[.pointer (some ⟨bx,0,none⟩)],.func (.func 275) #[] #[]]) 12 FZ Tryz.func273 rfl rfl rfl (by simp) ?_
 repeat first|refine aa ?_|intro
 refine GO.ef (Ef.d7 (tS bx ad c l hm) rfl) ac ?_
 rintro _ _ ⟨ad1,c1,rfl,rfl⟩
 repeat first|refine aa ?_|intro _
 (first|refine GO.ef (Ef.call (uz (E:=tLot) (ad:=ad1) (cap:=c1) (xs:=l) ab) rfl (by repeat (first|exact Ent.refl _|apply Ent.take))) ac ?_)
 rintro _ _ ⟨_,⟨rfl,ys,hys,rfl⟩,hL⟩
 simp only [aq,aj] at hL;subst hL
 have hyl:=hys.1.length_eq
 repeat first|refine aa ?_|intro
 exact KX.d7 ag (Ent.refl _) ⟨ad1,c1,ys,by rw [hyl];rfl,hys,rfl⟩
theorem uq {L:List HP} (ad:Option Addr) (n c:Nat) :
  Tri Tryz.prog 274 #[.slice ad n c] L (fun v L'=>∃ bx,v=.func (.func 292) #[] #[.pointer (some ⟨bx,0,none⟩)]∧L' = obj bx jk [.slice ad n c]::L):=by
 refine Tri.body (args:=[.slice ad n c]) 4 FY Tryz.func274 rfl rfl rfl (by simp) ?_
 repeat first|refine aa ?_|intro
 rename_i bx
 exact KX.d7 ag (Ent.refl _) ⟨bx,rfl,rfl⟩
theorem pS {L:List HP} (ad:Option Addr) (n c:Nat) (l:List Lot) [hrd:Rds L ad Lot ah 3 l] (hn:n=l.length) (hm:l.length≤1000000) :
  Tri Tryz.prog 239 #[.slice ad n c] L (fun v L'=>∃ ad' cap' ys,v=.slice ad' ys.length cap'∧fM hdC l ys∧L' = osl ah 3 tLot ad' cap' ys::L):=by
 subst hn
 refine Tri.body (args:=[.slice ad l.length c]) 6 Gx Tryz.func239 rfl rfl rfl (by simp) ?_
 repeat first|refine aa ?_|intro
 refine GO.ef (Ef.d7 (uq ad l.length c) rfl) ac ?_
 rintro _ _ ⟨bx,rfl,rfl⟩
 repeat first|refine aa ?_|intro
 refine GO.ef (Ef.d7 (rR bx ad c l hm) rfl) ac ?_
 rintro _ _ ⟨ad1,c1,ys,rfl,hys,rfl⟩
 repeat first|refine aa ?_|intro
 refine KX.d7 ag ?_ ⟨ad1,c1,ys,rfl,hys,rfl⟩
 exact ae
end
section
open Go.V
attribute [local irreducible] G GO GP GPW GPK Ev Ef EfR Ent CB GB V.Enters
instance (l:List Lot):Decidable (Apart l):=by unfold Apart apart;infer_instance
def fO (l:List Lot) (n:Int):Prop:=ey l∧Apart l∧lsum l=n
instance (l:List Lot) (n:Int):Decidable (fO l n):=by unfold fO;infer_instance
theorem partsA_iff {l:List Lot} {n:Int}:fO l n↔mJ l n:=by
 constructor
 ·rintro ⟨h1,h2,h3⟩
  exact ⟨h1,h3,((lw h1.1).2 h2).trans h3⟩
 ·rintro ⟨h1,h2,h3⟩
  exact ⟨h1,(lw h1.1).1 (h3.trans h2.symm),h2⟩
theorem AW {x y:Lot} (h:apart x y):apart y x:=by unfold apart at *;omega
theorem Apart.perm {l m:List Lot} (h:Apart l) (p:m.Perm l):Apart m:=(p.pairwise_iff (fun {a b} q=>AW q)).2 h
def nbr (ys:List Lot) (k:Nat):Prop:=∀ i,i+1<k→¬(ys[i+1]!.1=ys[i]!.1∧ys[i+1]!.2.1<ys[i]!.2.1+ys[i]!.2.2)
theorem rQ {ys:List Lot} (hs:ys.Pairwise (fun a b=>¬hdC b a<0)) {i j:Nat} (h:i<j) (hj:j<ys.length):ys[i]!.1<ys[j]!.1∨(ys[i]!.1=ys[j]!.1∧ys[i]!.2.1≤ys[j]!.2.1):=by
 have:=(List.pairwise_iff_getElem.1 hs) i j ab hj h
 rw [mL] at this
 unfold klt at this
 rw [getElem!_of hj,getElem!_of ab]
 omega
theorem sM {ys:List Lot} (hs:ys.Pairwise (fun a b=>¬hdC b a<0)) (hl:∀ x∈ys,LotOk x) (hn:nbr ys ys.length) {a:Nat}:∀ b,a<b→b<ys.length→ys[a]!.1=ys[b]!.1→ys[a]!.2.1+ys[a]!.2.2≤ys[b]!.2.1
 | 0,h,_,_=>absurd h (bI a)
 | b+1,h,hb,e=>by
  have h1:=hn b hb
  rcases bG a b with q|q
  ·have g1:=rQ hs q ab
   have g2:=rQ hs (show b<b+1 by omega) hb
   have e2:ys[a]!.1=ys[b]!.1:=ab
   have ih:=sM hs hl hn b q ab e2
   have hok:=hl _ (aG (show b<ys.length by omega))
   unfold LotOk at hok
   omega
  ·obtain rfl:a=b:=ab
   omega
theorem BK {l ys:List Lot} (h:fM hdC l ys) (hl:∀ x∈l,LotOk x):nbr ys ys.length↔Apart l:=by
 have hy:∀ x∈ys,LotOk x:=fun x hx=>hl x (h.1.mem_iff.1 hx)
 constructor
 ·intro hn
  refine Apart.perm (m:=l) ?_ h.1.symm
  refine List.pairwise_iff_getElem.2 (fun i j hi hj hij=>?_)
  have g:=sM h.2 hy hn j hij hj
  rw [getElem!_of hi,getElem!_of hj] at g
  unfold apart
  by_cases e:ys[i].1=ys[j].1
  ·exact .inr (.inl (g e))
  ·exact .inl e
 ·intro ha i hi
  have hp:=(List.pairwise_iff_getElem.1 (Apart.perm ha h.1)) i (i+1) ab hi ab
  rw [← getElem!_of hi,← getElem!_of ab] at hp
  have g:=rQ h.2 (show i<i+1 by omega) hi
  have h1:=hy _ (aG (show i<ys.length by omega))
  have h2:=hy _ (aG hi)
  unfold apart at hp
  unfold LotOk at h1 h2
  omega
abbrev vh:List Stp:=[.ev 0,.ev 1,.ev 2,.ev 3,.ev 4,.ev 5,.ev 6,.ev 7,.ev 8,.ev 9,.ev 10,.ev 11,.ev 12,.ev 13,.ev 14,.ev 15,.ev 16,.ev 17,.ev 18,.ev 19,.ev 20,.ev 21,.ev 22,.ef 23,.ev 24,.ev 25]
theorem dc {φ ψ:Prop} (k:ψ) (h:Hid ψ→φ:=by intro k;(with_reducible apply G.d8);first|refine G.d7 (N:=87) (id:=15) vh mixed an (Hid.out k)):φ:=h ⟨k⟩
theorem jI {L:List HP} (ad:Option Addr) (n c:Nat) (xs:List Lot) (m:Int) [hr:Rds L ad Lot ah 3 xs] (hn:n=xs.length) (hm:n≤9223372036854775807) :
  Tri Tryz.prog 234 #[.slice ad n c,.int .i64 m] L (fun v L'=>v=.bool (dB (fO xs m))∧L' = L):=by
 subst hn
 refine Tri.body (args:=[.slice ad xs.length c,.int .i64 m]) 87 GD Tryz.func234 rfl rfl rfl (by simp) ?_
 by_cases h0:xs.length≤4096
 case neg =>
  repeat first|refine aa ?_|intro _|refine dc ?_
  exact KX.d7 ag (Ent.refl _) ⟨by rw [aC (show ¬fO xs m from fun q=>h0 q.1.2)];rfl,rfl⟩
 repeat first|refine aa ?_|intro _|refine dc ?_
 refine G.loop (α:=Nat) (fun i=>i≤xs.length∧(∀ k,k<i→LotOk xs[k]!)∧0≤lsum (xs.take i)∧lsum (xs.take i)≤(i:Int)*1099511627776) (fun i=>[(0,.slice ad xs.length c),(1,.int .i64 m),(5,.int .i64 (lsum (xs.take i))),(13,.slice ad xs.length c),(14,.int .i64 xs.length),(15,.int .i64 (i:Int))]) (fun _=>L) (fun i=>xs.length - i) 0 ⟨al _,fun k hk=>absurd hk (bI k),aW _,aW _⟩ ai (Ent.refl _) ?_
 rintro i ⟨hi,hok,hb1,hb2⟩
 by_cases hlt:i<xs.length
 case pos =>
  have hii:(i:Int).toNat=i:=ab
  have hs:=dI xs hlt
  by_cases hp:LotOk xs[(i:Int).toNat]!
  ·have hp2:=hp
   unfold LotOk at hp2
   have hp3:1≤xs[i]!.2.2∧xs[i]!.2.2≤1099511627776:=by
    rw [hii] at hp2
    omega
   have hm2:(i:Int)*1099511627776≤4096*1099511627776:=bH ab ac
   have hm3:((i+1:Nat):Int)*1099511627776=(i:Int)*1099511627776+1099511627776:=by
    rw [Int.natCast_add,Int.add_mul]
    rfl
   repeat first|refine aa ?_|intro _|refine dc ?_
   refine ⟨i+1,⟨ab,fun k hk=>?_,by rw [hs];omega,by rw [hs,hm3];omega⟩,ab,?_,by exact ae⟩
   ·by_cases e:k=i
    ·rw [e,← hii];exact hp
    ·exact hok k ab
   ·rw [aM i,hs,show xs[i]! = xs[(i:Int).toNat]! by rw [hii]]
    exact ai
  ·have hno:dB (fO xs m)=false:=aC (fun q=>hp (by rw [hii];exact q.1.1 _ (aG hlt)))
   rw [hno]
   unfold LotOk at hp
   by_cases p1:0≤xs[(i:Int).toNat]!.1
   case neg =>
    repeat first|refine aa ?_|intro _|refine dc ?_
    exact KX.d7 ag ae ⟨rfl,rfl⟩
   by_cases p2:0≤xs[(i:Int).toNat]!.2.1
   case neg =>
    repeat first|refine aa ?_|intro _|refine dc ?_
    exact KX.d7 ag ae ⟨rfl,rfl⟩
   by_cases p3:xs[(i:Int).toNat]!.2.1≤1099511627776
   case neg =>
    repeat first|refine aa ?_|intro _|refine dc ?_
    exact KX.d7 ag ae ⟨rfl,rfl⟩
   by_cases p4:1≤xs[(i:Int).toNat]!.2.2
   case neg =>
    repeat first|refine aa ?_|intro _|refine dc ?_
    exact KX.d7 ag ae ⟨rfl,rfl⟩
   repeat first|refine aa ?_|intro _|refine dc ?_
   exact KX.d7 ag ae ⟨rfl,rfl⟩
 have hall:∀ x∈xs,LotOk x:=fun x hx=>by
  obtain ⟨k,hk,e⟩:=List.mem_iff_getElem.1 hx
  have h2:=hok k ab
  rw [getElem!_of hk,e] at h2
  exact h2
 obtain rfl:i=xs.length:=ab
 rw [aZ]
 repeat first|refine aa ?_|intro _|refine dc ?_
 refine GO.ef (Ef.d7 (pS ad xs.length c xs rfl ab) rfl) ac ?_
 rintro _ _ ⟨ad1,c1,ys,rfl,hys,rfl⟩
 have hyl:=hys.1.length_eq
 have hyo:∀ x∈ys,LotOk x:=fun x hx=>hall x (hys.1.mem_iff.1 hx)
 have hna:=BK hys hall
 repeat first|refine aa ?_|intro _|refine dc ?_
 refine G.loop (α:=Nat) (fun i=>1≤i∧i≤ys.length+1∧nbr ys i) (fun i=>[(1,.int .i64 m),(5,.int .i64 (lsum xs)),(8,.slice ad1 ys.length c1),(9,.int .i64 (i:Int))]) (fun _=>osl ah 3 tLot ad1 c1 ys::L) (fun i=>ys.length+1 - i) 1 ⟨aw _,ab,fun i hi=>by omega⟩ ai (Ent.refl _) ?_
 clear hi hok hb1 hb2 hlt
 rintro i ⟨h1,hi,hnb⟩
 by_cases hlt:i<ys.length
 case neg =>
  have hap:Apart xs:=hna.1 (fun k hk=>hnb k ab)
  repeat first|refine aa ?_|intro _|refine dc ?_
  refine KX.d7 ag ae ⟨?_,rfl⟩
  by_cases he:lsum xs=m
  ·rw [aL he,aL (show fO xs m from ⟨⟨hall,h0⟩,hap,he⟩)]
   rfl
  ·rw [aC he,aC (show ¬fO xs m from fun q=>he q.2.2)]
   rfl
 have hii:(i:Int).toNat=i:=ab
 have hii1:((i:Int) - 1).toNat=i - 1:=ab
 have hw:LotW ys[((i:Int) - 1).toNat]!:=by
  rw [hii1]
  exact (hyo _ (aG ab)).w
 have hlt' : (i:Int).toNat<ys.length:=ab
 have hlt1:((i:Int) - 1).toNat<ys.length:=ab
 have hnx:¬(ys[(i:Int).toNat]!.1=ys[((i:Int) - 1).toNat]!.1∧ys[(i:Int).toNat]!.2.1<ys[((i:Int) - 1).toNat]!.2.1+ys[((i:Int) - 1).toNat]!.2.2)→nbr ys (i+1):=fun q k hk=>by
  by_cases e:k+1<i
  ·exact hnb k e
  ·obtain rfl:k=i - 1:=ab
   rw [hii,hii1] at q
   rw [show i - 1+1=i by omega]
   exact q
 by_cases e1:ys[(i:Int).toNat]!.1=ys[((i:Int) - 1).toNat]!.1
 ·repeat first|refine aa ?_|intro _|refine dc ?_
  refine GPW.ef (Ef.d7 (ij ys[((i:Int) - 1).toNat]! hw) rfl) ac ?_
  rintro _ _ ⟨rfl,rfl⟩
  by_cases e2:ys[(i:Int).toNat]!.2.1<ys[((i:Int) - 1).toNat]!.2.1+ys[((i:Int) - 1).toNat]!.2.2
  ·have hno:dB (fO xs m)=false:=aC (fun q=>by
    have h3:=hna.2 q.2.1 (i - 1) ab
    rw [hii,hii1] at e1 e2
    rw [show i - 1+1=i by omega] at h3
    exact h3 ⟨e1,e2⟩)
   rw [hno]
   repeat first|refine aa ?_|intro _|refine dc ?_
   exact KX.d7 ag ae ⟨rfl,rfl⟩
  ·repeat first|refine aa ?_|intro _|refine dc ?_
   refine ⟨i+1,⟨ab,ab,hnx (fun q=>e2 q.2)⟩,ab,?_,by exact ae⟩
   rw [aM i]
   exact ai
 ·repeat first|refine aa ?_|intro _|refine dc ?_
  refine ⟨i+1,⟨ab,ab,hnx (fun q=>e1 q.1)⟩,ab,?_,by exact ae⟩
  rw [aM i]
  exact ai
end
section
open Go.V
theorem EO {a b:List Lot} (p:a.Perm b) (t:Lot):OV a t=OV b t:=by
 induction p with
 | nil=>rfl
 | cons x p ih=>show ov x t+OV _ t=ov x t+OV _ t;rw [ih]
 | swap x y l=>show ov y t+(ov x t+OV l t)=ov x t+(ov y t+OV l t);omega
 | trans p1 p2 ih1 ih2=>exact ih1.trans ih2
theorem BP {a b:List Lot} (p:a.Perm b):lsum a=lsum b:=by
 induction p with
 | nil=>rfl
 | cons x p ih=>rw [ga,ga,ih]
 | swap x y l=>rw [ga,ga,ga,ga];omega
 | trans p1 p2 ih1 ih2=>exact ih1.trans ih2
theorem EP {a b:List Lot} (p:a.Perm b) (s:List Lot):OO a s=OO b s:=uj (fun t _=>EO p t)
theorem ofF_mem {ys:List Lot} {f:Int} {p:Lot}:p∈ofF ys f↔p∈ys∧p.1=f:=by
 unfold ofF
 rw [List.mem_filter]
 simp
theorem yE {l ys:List Lot} (h:fM hdC l ys) (hl:∀ x∈l,LotOk x) (ha:Apart l) (f:Int):Ord (ofF ys f):=by
 have hy:∀ x∈ys,LotOk x:=fun x hx=>hl x (h.1.mem_iff.1 hx)
 have h2:(ofF ys f).Pairwise (fun a b=>¬hdC b a<0∧apart a b):=by
  have h3:ys.Pairwise (fun a b=>¬hdC b a<0∧apart a b):=List.pairwise_and_iff.2 ⟨h.2,Apart.perm ha h.1⟩
  exact h3.sublist fT
 refine h2.imp_of_mem (fun {a b} hma hmb q=>?_)
 obtain ⟨q1,q2⟩:=q
 obtain ⟨m1,e1⟩:=ofF_mem.1 hma
 obtain ⟨m2,e2⟩:=ofF_mem.1 hmb
 have g1:=hy a m1
 have g2:=hy b m2
 rw [mL] at q1
 unfold klt at q1
 unfold apart at q2
 unfold LotOk at g1 g2
 omega
theorem sm {f:Int}:∀ {ys l:List Lot},(∀ x∈ys,LotOk x)→(∀ z∈l,LotOk z∧z.1=f)→ys.foldl subL l=(ofF ys f).foldl subL l
 | [],_,_,_=>rfl
 | p::ys,l,h1,h2=>by
  have hp:=h1 p ap
  have h1' : ∀ x∈ys,LotOk x:=fun x hx=>h1 x (ao _ hx)
  by_cases e:p.1=f
  ·have e2:ofF (p::ys) f=p::ofF ys f:=bS (by simpa using e)
   rw [e2]
   refine sm (ys:=ys) (l:=subL l p) h1' (fun z hz=>?_)
   obtain ⟨y,hy,g1,g2,_⟩:=mD hp (fun z hz=>(h2 z hz).1) hz
   exact ⟨g1,g2.trans (h2 y hy).2⟩
  ·have e2:ofF (p::ys) f=ofF ys f:=bT (by simpa using e)
   rw [e2]
   show ys.foldl subL (subL l p)=_
   rw [jJ (fun z hz=>.inl (fun q=>e (q.symm.trans (h2 z hz).2)))]
   exact sm h1' h2
theorem CM (t:Lot):∀ ys:List Lot,OV ys t=OV (ofF ys t.1) t
 | []=>rfl
 | p::ys=>by
  have ih:=CM t ys
  by_cases e:p.1=t.1
  ·have e2:ofF (p::ys) t.1=p::ofF ys t.1:=bS (by simpa using e)
   rw [e2]
   show ov p t+OV ys t=ov p t+OV (ofF ys t.1) t
   rw [ih]
  ·have e2:ofF (p::ys) t.1=ofF ys t.1:=bT (by simpa using e)
   rw [e2]
   show ov p t+OV ys t=_
   rw [ih,show ov p t=0 from if_neg e]
   omega
theorem Bf {l ys:List Lot} (h:fM hdC l ys) (hl:∀ x∈l,LotOk x) (ha:Apart l) {x:Lot} (hx:LotOk x) (s:List Lot×Int):wLot x (ofF ys x.1) s=((eX ys x).foldl aR s.1,s.2 - OV ys x):=by
 have hy:∀ x∈ys,LotOk x:=fun x hx=>hl x (h.1.mem_iff.1 hx)
 have hx2:=hx
 unfold LotOk at hx2
 obtain ⟨h1,h2⟩:=pT hx (ofF ys x.1) s.1 x.2.1 s.2 (yE h hl ha x.1) (fun p hp=>⟨hy p (ofF_mem.1 hp).1,(ofF_mem.1 hp).2⟩) (aW _) ab
 have e1:curL x x.2.1=[x]:=by
  unfold curL
  rw [if_pos ab,show x.2.1+x.2.2 - x.2.1=x.2.2 by omega]
 rw [e1] at h1
 rw [show x.2.1+x.2.2 - x.2.1=x.2.2 by omega] at h2
 unfold wLot
 rw [h1,h2]
 have e2:eX ys x=(ofF ys x.1).foldl subL [x]:=sm hy (fun z hz=>by rw [List.mem_singleton.1 hz];exact ⟨hx,rfl⟩)
 rw [e2,CM x ys]
theorem sy {l ys:List Lot} (h:fM hdC l ys) (hl:∀ x∈l,LotOk x) (ha:Apart l):∀ (stack:List Lot) (s:List Lot×Int),(∀ x∈stack,LotOk x)→wAll ys stack s=(stack.foldl (fun out y=>(eX ys y).foldl aR out) s.1,s.2 - OO ys stack)
 | [],s,_=>by
  show s=(s.1,s.2 - 0)
  rw [show s.2 - 0=s.2 by omega]
 | x::stack,s,hs=>by
  show wAll ys stack (wLot x (ofF ys x.1) s)=_
  rw [Bf h hl ha (hs x ap) s,sy h hl ha stack _ (fun z hz=>hs z (ao _ hz))]
  show (_,s.2 - OV ys x - OO ys stack)=(_,s.2 - (OV ys x+OO ys stack))
  rw [show s.2 - OV ys x - OO ys stack=s.2 - (OV ys x+OO ys stack) by omega]
  rfl
theorem CS {ps ys stack:List Lot} (h:fM hdC ps ys) (hp:∀ x∈ps,LotOk x) (ha:Apart ps) (hs:∀ x∈stack,LotOk x):wAll ys stack ([],lsum ys)=(dN stack ps,lsum ps - OO ps stack):=by
 rw [sy h hp ha stack _ hs,BP h.1,EP h.1]
 have e:stack.foldl (fun out y=>(eX ys y).foldl aR out) []=dN stack ys:=rfl
 have e2:dN stack ys=dN stack ps:=by
  rw [mS,mS]
  rw [Dz h.1.symm hp ha hs]
 show (stack.foldl (fun out y=>(eX ys y).foldl aR out) [],_)=_
 rw [e,e2]
theorem qE {ps own:List Lot} (h1:ey ps) (ha:Apart ps) (h2:ey own) (ho:Apart own):fA ps own↔lsum ps - OO ps own=0:=by
 have hs:=kj h1.1
 have e1:lsum (fh ps own)=lsum (setL ps) - OO (setL ps) own:=lN hs.2 h2.1 ho
 have hd:=(lw h1.1).2 ha
 obtain ⟨_,_,g3,_⟩:=kl h1.1 ps.length (aw _)
 rw [aZ] at g3
 have e3:OO (setL ps) own=OO ps own:=uj (fun t ht=>(g3 hd).2 t (h2.1 t ht))
 rw [hd,e3] at e1
 have hok:=(jN h1.1 h2.1).1
 constructor
 ·rintro ⟨_,_,h3⟩
  rw [h3,gN] at e1
  exact e1.symm
 ·intro h
  refine ⟨h1,h2,?_⟩
  rw [h] at e1
  cases hm:fh ps own with
  | nil=>rfl
  | cons x l =>
   rw [hm] at e1 hok
   have:=jf hok (Nat.zero_lt_succ l.length)
   omega
end
end Go.Proofs.YtommnllbflbdmaaGreatDoor
namespace Go.V
theorem Ent.l7 {α:Type} {f:α→HP} {l l' : List α} (h:l.Perm l') {L:List HP}:Ent (bigO f l::L) (bigO f l'::L):=fun θ R w s=>by
 have s1:=Sat.ofStars (A:=l.map f) s
 have s2:Sat θ (l'.map f++(L++R)) w:=s1.perm ((h.map f).append_right _)
 exact Sat.d7 (A:=l'.map f) s2
end Go.V
namespace Go.Proofs.YtommnllbflbdmaaGreatDoor
open Go.V
attribute [local irreducible] G GO GP GPW GPK Ev Ef EfR Ent CB GB V.Enters
section
variable {κ α:Type} [DecidableEq κ]
theorem nw:∀ {m:List (κ×α)} {k:κ},k∉m.map (·.1)→gera m k=m
 | [],_,_=>rfl
 | p::m,k,h=>by
  simp only [bE,be,not_or] at h
  have e:(p.1 == k)=false:=by rw [beq_eq_false_iff_ne];exact fun x=>h.1 x.symm
  have ih:=nw (m:=m) (k:=k) h.2
  unfold gera at ih ⊢
  rw [bS (by rw [e];rfl),ih]
theorem lE:∀ {m:List (κ×α)} {k:κ},glk m k=none→k∉m.map (·.1)
 | [],_,_=>by simp
 | p::m,k,h=>by
  obtain ⟨q,a⟩:=p
  unfold glk at h
  rw [cK] at h
  by_cases e:k=q
  ·subst e
   simp at h
  ·have e2:(k == q)=false:=by rw [beq_eq_false_iff_ne];exact e
   rw [e2] at h
   have:=lE (m:=m) (k:=k) h
   simp only [bE,be,not_or]
   exact ⟨e,this⟩
theorem lV:∀ {m:List (κ×α)} {k:κ} {a:α},(m.map (·.1)).Nodup→glk m k=some a→m.Perm ((k,a)::gera m k)
 | [],_,_,_,h=>by cases h
 | p::m,k,a,hn,h=>by
  obtain ⟨q,b⟩:=p
  simp only [bE,dv] at hn
  unfold glk at h
  rw [cK] at h
  by_cases e:k=q
  ·subst e
   simp only [beq_self_eq_true] at h
   obtain rfl:b=a:=by simpa using h
   have e3:gera ((k,b)::m) k=m:=by
    have:=nw hn.1
    unfold gera at this ⊢
    rw [bT (by simp),this]
   rw [e3]
  ·have e2:(k == q)=false:=by rw [beq_eq_false_iff_ne];exact e
   rw [e2] at h
   have ih:=lV hn.2 h
   have e3:gera ((q,b)::m) k=(q,b)::gera m k:=by
    unfold gera
    rw [bS (by simp;exact fun x=>e x.symm)]
   rw [e3]
   exact (List.Perm.cons _ ih).trans (List.Perm.swap _ _ _)
theorem sY {k:κ} {a:α}:∀ m:List (κ×α),gera (m.map fun p=>if p.1=k then (k,a) else p) k=gera m k
 | []=>rfl
 | p::m=>by
  have ih:=sY (k:=k) (a:=a) m
  unfold gera at ih ⊢
  simp only [bE]
  by_cases e:p.1=k
  ·rw [if_pos e,bT (by simp),bT (by simp [e]),ih]
  ·rw [if_neg e,bS (by simp [e]),bS (by simp [e]),ih]
theorem Cj {m:List (κ×α)} {k:κ} {a:α} (hn:(m.map (·.1)).Nodup):(gins m k a).Perm ((k,a)::gera m k):=by
 have h1:=lV (m:=gins m k a) (k:=k) (a:=a) (kO hn) (by rw [jD,if_pos rfl])
 have h2:gera (gins m k a) k=gera m k:=by
  unfold gins
  split
  ·exact sY m
  ·unfold gera
   rw [cJ]
   simp
 rw [h2] at h1
 exact h1
end
def eM (p:Int×Stk):HP:=osl ah 3 tLot p.2.ad p.2.cap p.2.lots
def eu (m:List (Int×Stk)) (f:Int):Stk:=(glk m f).getD ⟨none,0,[]⟩
theorem pW {m:List (Int×Stk)} {f:Int} (hn:(m.map (·.1)).Nodup) {L:List HP}:Ent (bigO eM m::L) (osl ah 3 tLot (eu m f).ad (eu m f).cap (eu m f).lots::bigO eM (gera m f)::L):=by
 unfold eu
 cases h:glk m f with
 | none =>
  rw [nw (lE h)]
  exact Ent.d8 ah 3 tLot
 | some a=>exact (Ent.l7 (lV hn h)).trans Ent.bigO_uncons
theorem ux {m:List (Int×Stk)} {f:Int} (hn:(m.map (·.1)).Nodup) {L:List HP}:Ent (osl ah 3 tLot (eu m f).ad (eu m f).cap (eu m f).lots::bigO eM (gera m f)::L) (bigO eM m::L):=by
 unfold eu
 cases h:glk m f with
 | none =>
  rw [nw (lE h)]
  exact Ent.drop
 | some a=>exact (Ent.l9 (f:=eM) (x:=(f,a))).trans (Ent.l7 (lV hn h).symm)
theorem nX {m:List (Int×Stk)} {f:Int} (hn:(m.map (·.1)).Nodup) (s:Stk) {L:List HP}:Ent (osl ah 3 tLot s.ad s.cap s.lots::bigO eM (gera m f)::L) (bigO eM (gins m f s)::L) :=
 (Ent.l9 (f:=eM) (x:=(f,s))).trans (Ent.l7 (Cj hn).symm)
theorem oV (m:List (Int×Stk)) (f:Int):((glk m f).map Stk.v).getD (.slice none 0 0)=.slice (eu m f).ad (eu m f).lots.length (eu m f).cap:=by
 unfold eu
 cases glk m f<;>rfl
theorem mT (m:List (Int×Stk)) (f g:Int) (s:Stk):eu (gins m f s) g=if g=f then s else eu m g:=by
 unfold eu
 rw [jD]
 split<;>rfl
def stkI (p:Int×Stk):HP:=isl ah 3 p.2.ad p.2.lots
theorem Ei (m:List (Int×Stk)) {L:List HP}:Ent (bigO eM m::L) (allP stkI m::L):=Ent.m5 (fun _=>bJ _ _ _ _) (fun _ _=>Ent.freezeSl) m L
theorem Eh (m:List (Int×Stk)) (f:Int) {L:List HP}:Ent (allP stkI m::L) (isl ah 3 (eu m f).ad (eu m f).lots::allP stkI m::L):=by
 unfold eu
 cases h:glk m f with
 | none=>exact (Ent.d8 ah 3 tLot).trans Ent.freezeSl
 | some a=>exact Ent.e7 (f:=stkI) (iV h)
end Go.Proofs.YtommnllbflbdmaaGreatDoor
