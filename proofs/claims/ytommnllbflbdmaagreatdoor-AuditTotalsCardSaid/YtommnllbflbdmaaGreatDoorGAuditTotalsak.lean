/- Lemmas and contracts of functions. -/
import Derived.Test.YtommnllbflbdmaaGreatDoorGAuditTotalsaj
set_option linter.all false
set_option maxHeartbeats 1000000
namespace Go.Proofs.YtommnllbflbdmaaGreatDoor
section
open Go.V
attribute [local irreducible] G GO GP GPW GPK Ev Ef EfR Ent CB GB Enters
def LotW (l:Lot):Prop:=0≤l.1∧0≤l.2.1∧0≤l.2.2∧l.2.1+l.2.2≤1099511627776
theorem LotOk.w {l:Lot} (h:LotOk l):LotW l:=by unfold LotOk at h;unfold LotW;omega
def jY (x b:Lot):Prop:=[x.1,x.2.1,0]=[b.1,b.2.1+b.2.2,0]
instance (x b:Lot):Decidable (jY x b):=by unfold jY;infer_instance
theorem lcont_iff {x b:Lot}:jY x b↔x.1=b.1∧x.2.1=b.2.1+b.2.2:=by simp [jY]
def aR (l:List Lot) (x:Lot):List Lot :=
 if x.2.2=0 then l else if l.length≠0∧jY x l[l.length - 1]! then l.set (l.length - 1) (l[l.length - 1]!.1,l[l.length - 1]!.2.1,l[l.length - 1]!.2.2+x.2.2) else l++[x]
theorem jO (l:List Lot) (x:Lot):(aR l x).length≤l.length+1:=by
 unfold aR
 split
 ·omega
 ·split<;>simp
theorem pg {l:List Lot} {x:Lot} (h:∀ y∈l,LotW y) (hx:LotW x):∀ y∈aR l x,LotW y:=by
 unfold aR
 split
 ·exact h
 ·split
  ·rename_i hc
   obtain ⟨hc1,hc2⟩:=hc
   rw [lcont_iff] at hc2
   intro y hy
   rcases cj hy with hy|rfl
   ·exact h y hy
   ·have:=h _ (aG (show l.length - 1<l.length by omega))
    unfold LotW at this hx ⊢
    dsimp only
    omega
  ·intro y hy
   rcases List.mem_append.1 hy with hy|hy
   ·exact h y hy
   ·rw [List.mem_singleton] at hy;subst hy;exact hx
theorem nQ {xs:List Lot}:∀ {l:List Lot},(∀ y∈l,LotW y)→(∀ y∈xs,LotW y)→∀ y∈xs.foldl aR l,LotW y:=by
 induction xs with
 | nil=>intro l h _;exact h
 | cons x xs ih =>
  intro l h hx
  exact ih (pg h (hx x (ap ..))) (fun y hy=>hx y (ao _ hy))
theorem kc (xs:List Lot):∀ l:List Lot,(xs.foldl aR l).length≤l.length+xs.length:=by
 induction xs with
 | nil=>intro l;simp
 | cons x xs ih =>
  intro l
  have h1:=ih (aR l x)
  have h2:=jO l x
  simp only [fR,bj]
  omega
theorem Aw {L:List HP} (x b:Lot) (hb:LotW b):Tri Tryz.prog 289 #[.agg (ah x).toArray,.agg (ah b).toArray] L (fun v L'=>v=.bool (dB (jY x b))∧L' = L):=by
 unfold LotW at hb
 refine Tri.body (args:=[.agg (ah x).toArray,.agg (ah b).toArray]) 19 FS Tryz.func289 rfl rfl rfl (by simp) ?_
 repeat first|refine aa ?_|intro
 exact KX.d7 ag ae ⟨rfl,rfl⟩
abbrev zS:List Stp:=[.ev 0,.ev 1,.ev 2,.ev 3,.ev 4,.ev 5,.ev 6,.ev 7,.ev 8,.ef 9,.ev 10]
abbrev zR:List Stp:=[.ev 0,.ev 1,.ev 2,.ev 3,.ev 4,.ev 5,.ev 6,.ev 7,.ev 8,.ev 9,.ev 10,.ef 11]
theorem fw {φ ψ:Prop} (k:ψ) (h:Hid ψ→φ:=by intro k;(with_reducible apply G.d8);first|refine G.d7 (N:=39) (id:=4) zS mixed an (Hid.out k)|refine G.d7 (N:=39) (id:=5) zR mixed an (Hid.out k)):φ:=h ⟨k⟩
theorem oA {L:List HP} (ad:Option Addr) (cap:Nat) (xs:List Lot) (x:Lot) (hl:xs.length≤100000000) (hxs:∀ y∈xs,LotW y) (hx:LotW x) :
  Tri Tryz.prog 268 #[.slice ad xs.length cap,.agg (ah x).toArray] (osl ah 3 tLot ad cap xs::L) (fun v L'=>∃ ad' cap',v=.slice ad' (aR xs x).length cap'∧L' = osl ah 3 tLot ad' cap' (aR xs x)::L):=by
 refine Tri.body (args:=[.slice ad xs.length cap,.agg (ah x).toArray]) 39 Ge Tryz.func268 rfl rfl rfl (by simp) ?_
 by_cases h0:x.2.2=0
 ·have e:aR xs x=xs:=by unfold aR;rw [if_pos h0]
  rw [e]
  repeat first|refine aa ?_|intro _|refine fw ?_
  exact KX.d7 ag ae ⟨ad,cap,rfl,rfl⟩
 by_cases h1:xs.length=0
 ·have e:aR xs x=xs++[x]:=by unfold aR;rw [if_neg h0,if_neg (fun h=>h.1 h1)]
  rw [e]
  repeat first|refine aa ?_|intro _|refine fw ?_
  refine GO.ef (Ef.d8 (enc:=ah) (e:=x) rfl rfl rfl rfl rfl (by rfl) (cz _) ab ab) ac ?_
  rintro _ _ ⟨ad2,cap2,rfl,rfl⟩
  repeat first|refine aa ?_|intro _|refine fw ?_
  exact KX.d7 ag ae ⟨ad2,cap2,rfl,rfl⟩
 have hii:((xs.length:Int) - 1).toNat=xs.length - 1:=ab
 have hlw:=hxs _ (aG (show xs.length - 1<xs.length by omega))
 rw [← hii] at hlw
 repeat first|refine aa ?_|intro _|refine fw ?_
 refine GPW.ef (Ef.d7 (Aw x xs[((xs.length:Int) - 1).toNat]! hlw) rfl) ac ?_
 rintro _ _ ⟨rfl,rfl⟩
 by_cases hc:jY x xs[((xs.length:Int) - 1).toNat]!
 ·have hc2:=lcont_iff.1 hc
  rw [aL hc]
  unfold LotW at hlw hx
  repeat first|refine aa ?_|intro _|refine fw ?_
  refine GPW.efu (Ef.f9 (e:=((xs[((xs.length:Int) - 1).toNat]!.1,xs[((xs.length:Int) - 1).toNat]!.2.1,xs[((xs.length:Int) - 1).toNat]!.2.2+x.2.2):Lot)) rfl rfl (by rfl) rfl ab ac) ?_
  rintro _ _ rfl
  have e:aR xs x=xs.set ((xs.length:Int) - 1).toNat (xs[((xs.length:Int) - 1).toNat]!.1,xs[((xs.length:Int) - 1).toNat]!.2.1,xs[((xs.length:Int) - 1).toNat]!.2.2+x.2.2):=by
   unfold aR
   rw [hii] at hc ⊢
   rw [if_neg h0,if_pos ⟨h1,hc⟩]
  rw [e]
  repeat first|refine aa ?_|intro _|refine fw ?_
  exact KX.d7 ag ae ⟨ad,cap,by rw [bg];rfl,rfl⟩
 ·rw [aC hc]
  have e:aR xs x=xs++[x]:=by
   unfold aR
   rw [hii] at hc
   rw [if_neg h0,if_neg (fun h=>hc h.2)]
  rw [e]
  repeat first|refine aa ?_|intro _|refine fw ?_
  refine GO.ef (Ef.d8 (enc:=ah) (e:=x) rfl rfl rfl rfl rfl (by rfl) (cz _) ab ab) ac ?_
  rintro _ _ ⟨ad2,cap2,rfl,rfl⟩
  repeat first|refine aa ?_|intro _|refine fw ?_
  exact KX.d7 ag ae ⟨ad2,cap2,rfl,rfl⟩
def pc1 (x:Lot) (c:Int):Lot:=(x.1,x.2.1,c)
def pc2 (x:Lot) (c:Int):Lot:=(x.1,x.2.1+c,x.2.2 - c)
def pcF (l:List Lot) (cs:Nat→Int) (k:Nat):Lot:=pc1 l[k]! (cs k)
def pcR (l:List Lot) (cs:Nat→Int) (k:Nat):Lot:=pc2 l[k]! (cs k)
def pcV (l:List Lot) (cs:Nat→Int) (k:Nat):List Value:=if k % 2=0 then [.agg (ah (pcF l cs (k / 2))).toArray,.bool true] else [.agg (ah (pcR l cs (k / 2))).toArray,.bool false]
def pcVs (l:List Lot) (cs:Nat→Int):List (List Value):=(List.range (2*l.length)).map (pcV l cs)
theorem nj (l:List Lot) (cs:Nat→Int):(pcVs l cs).length=2*l.length:=by simp [pcVs]
theorem vi {l:List Lot} {cs:Nat→Int} {k:Nat} (h:k<(pcVs l cs).length):(pcVs l cs)[k]=pcV l cs k:=by simp [pcVs]
def rJ (g:FuncId) (cap:List Value) (n:Nat) (cs:Nat→Int) (C:Nat→HP):Prop:=∀ k,k<n→∀ L:List HP,Tri Tryz.prog g (([]++[Value.int .i64 (k:Int)]++cap:List Value)).toArray (C k::L) (fun v L'=>v=.int .i64 (cs k)∧L' = C (k+1)::L)
abbrev jk:Nat:=72
abbrev tCnt:Nat:=68
theorem xY (bx bf g:Nat) (cap:List Value) (ad:Option Addr) (c:Nat) (l:List Lot) (cs:Nat→Int) (C:Nat→HP) (hm:l.length≤1000000) (hw:∀ x∈l,LotW x) (hc:∀ k,k<l.length→0≤cs k∧cs k≤l[k]!.2.2) (hC:rJ g cap l.length cs C) :
  DY Tryz.prog 336 [.pointer (some ⟨bx,0,none⟩),.pointer (some ⟨bf,0,none⟩)] (pcVs l cs) [obj bx jk [.slice ad l.length c],obj bf tCnt [.func (.func g) #[] cap.toArray],C 0,isl ah 3 ad l] []:=by
 intro i J Jx hy
 rw [nj]
 have hy' : ∀ k (hk:k<2*l.length),YTri Tryz.prog i (pcV l cs k) [J k] (fun v L'=>(v=.bool true∧L' = [J (k+1)])∨(v=.bool false∧L' = [Jx k])):=by
  intro k hk
  have h:=hy k (by rw [nj];exact hk)
  rw [vi] at h
  exact h
 clear hy
 refine Tri.body (args:=[.func (.yield i) #[] #[],.pointer (some ⟨bx,0,none⟩),.pointer (some ⟨bf,0,none⟩)]) 43 DM Tryz.func336 rfl rfl rfl (by simp) ?_
 repeat first|refine aa ?_|intro
 refine G.loop (α:=Nat) (fun k=>k≤l.length) (fun k=>[(0,.func (.yield i) #[] #[]),(1,.pointer (some ⟨bx,0,none⟩)),(2,.pointer (some ⟨bf,0,none⟩)),(7,.slice ad l.length c),(8,.int .i64 l.length),(9,.int .i64 (k:Int))]) (fun k=>[J (2*k),obj bx jk [.slice ad l.length c],obj bf tCnt [.func (.func g) #[] cap.toArray],C k,isl ah 3 ad l]) (fun k=>l.length - k) 0 (al _) ai (Ent.refl _) ?_
 intro k hk
 by_cases hlt:k<l.length
 case neg =>
  have hkn:k=l.length:=ab
  repeat first|refine aa ?_|intro
  refine KX.e8 ag (Ent.d7 (Ent.nil _)) (.inl ?_)
  rw [hkn]
 have hii:(k:Int).toNat=k:=ab
 have hlw:=hw _ (aG hlt)
 have hck:=hc k hlt
 have hy1:=hy' (2*k) ab
 have hy2:=hy' (2*k+1) ab
 rw [show pcV l cs (2*k)=[.agg (ah (pcF l cs k)).toArray,.bool true] by unfold pcV;rw [if_pos ab,show 2*k / 2=k by omega]] at hy1
 rw [show pcV l cs (2*k+1)=[.agg (ah (pcR l cs k)).toArray,.bool false] by unfold pcV;rw [if_neg ab,show (2*k+1) / 2=k by omega]] at hy2
 unfold LotW at hlw
 repeat first|refine aa ?_|intro
 rw [hii]
 refine GO.ent (Ent.at (A:=C k) (Ent.refl _)) ?_
 refine GO.ef (Ef.d9 rfl rfl (hC k hlt _)) ac ?_
 rintro _ _ ⟨rfl,rfl⟩
 repeat first|refine aa ?_|intro
 refine GO.ent (Ent.at (A:=J (2*k)) (Ent.refl _)) ?_
 ((with_reducible apply GO.d7);refine GO.efR (EfR.yield (hy1) rfl rfl (by repeat (first|exact Ent.refl _|apply Ent.take))) ac ?_)
 rintro _ _ ⟨_,(⟨rfl,rfl⟩|⟨rfl,rfl⟩),hL⟩
 ·simp only [aq,aj] at hL;subst hL
  repeat first|refine aa ?_|intro _
  ((with_reducible apply GO.d7);refine GO.efR (EfR.yield (hy2) rfl rfl (by repeat (first|exact Ent.refl _|apply Ent.take))) ac ?_)
  rintro _ _ ⟨_,(⟨rfl,rfl⟩|⟨rfl,rfl⟩),hL⟩
  ·simp only [aq,aj] at hL;subst hL
   repeat first|refine aa ?_|intro
   refine ⟨k+1,ab,ab,?_,?_⟩
   ·rw [show (((k+1:Nat)):Int)=(k:Int)+1 by omega]
    exact ai
   ·rw [show 2*(k+1)=2*k+1+1 by omega]
    exact ae
  ·simp only [aq,aj] at hL;subst hL
   repeat first|refine aa ?_|intro
   exact KX.d7 ag (Ent.d7 (Ent.nil _)) (.inr ⟨2*k+1,rfl⟩)
 ·simp only [aq,aj] at hL;subst hL
  repeat first|refine aa ?_|intro
  exact KX.d7 ag (Ent.d7 (Ent.nil _)) (.inr ⟨2*k,rfl⟩)
def stkA (b:Nat) (xs:List Lot) (x:Option Addr×Nat):List HP:=[obj b jk [.slice x.1 xs.length x.2],osl ah 3 tLot x.1 x.2 xs]
def stkO (b:Nat) (xs:List Lot):HP:=hex fun x=>cv (stkA b xs x)
def divF (l:List Lot) (cs:Nat→Int) (m:Nat):List Lot:=((List.range m).map (pcF l cs)).foldl aR []
def divR (l:List Lot) (cs:Nat→Int) (m:Nat):List Lot:=((List.range m).map (pcR l cs)).foldl aR []
theorem oJ (l:List Lot) (cs:Nat→Int) (m:Nat):divF l cs (m+1)=aR (divF l cs m) (pcF l cs m):=by simp [divF,dU]
theorem me (l:List Lot) (cs:Nat→Int) (m:Nat):divR l cs (m+1)=aR (divR l cs m) (pcR l cs m):=by simp [divR,dU]
theorem jq (l:List Lot) (cs:Nat→Int) (m:Nat):(divF l cs m).length≤m∧(divR l cs m).length≤m:=by
 have h1:=kc ((List.range m).map (pcF l cs)) []
 have h2:=kc ((List.range m).map (pcR l cs)) []
 simp at h1 h2
 exact ⟨h1,h2⟩
theorem pc_w {l:List Lot} {cs:Nat→Int} {k:Nat} (hk:k<l.length) (hw:∀ x∈l,LotW x) (hc:0≤cs k∧cs k≤l[k]!.2.2):LotW (pcF l cs k)∧LotW (pcR l cs k):=by
 have:=hw _ (aG hk)
 unfold LotW at *
 simp only [pcF,pcR,pc1,pc2]
 omega
theorem uf {l:List Lot} {cs:Nat→Int} (hw:∀ x∈l,LotW x) (hc:∀ k,k<l.length→0≤cs k∧cs k≤l[k]!.2.2) (m:Nat) (hm:m≤l.length):(∀ x∈divF l cs m,LotW x)∧∀ x∈divR l cs m,LotW x:=by
 constructor
 ·refine nQ (by simp) ?_
  intro x hx
  obtain ⟨k,hk,rfl⟩:=List.mem_map.1 hx
  have hk':=List.mem_range.1 hk
  exact (pc_w ab hw (hc k ab)).1
 ·refine nQ (by simp) ?_
  intro x hx
  obtain ⟨k,hk,rfl⟩:=List.mem_map.1 hx
  have hk':=List.mem_range.1 hk
  exact (pc_w ab hw (hc k ab)).2
abbrev zQ:List Stp:=[.ev 0,.ev 1,.ef 2,.ef 3]
theorem gr {φ ψ:Prop} (k:ψ) (h:Hid ψ→φ:=by intro k;first|((with_reducible apply GO.d7);refine GO.e7 ub Tryz.func325 rfl rfl rfl rfl (by simp) ac (Hid.out k))|((with_reducible apply GPW.d7);refine GPW.e7 ub Tryz.func325 rfl rfl rfl rfl (by simp) ac (Hid.out k))|((with_reducible apply GO.d7);refine GO.d8 rfl ub Tryz.func325 rfl rfl rfl rfl (by simp) ac (Hid.out k))|((with_reducible apply GPW.d7);refine GPW.d8 rfl ub Tryz.func325 rfl rfl rfl rfl (by simp) ac (Hid.out k))|((with_reducible apply KX.f7);first|refine KX.in0 (.inl rfl) (Hid.out k)|refine KX.in0 (.inr rfl) (Hid.out k)|refine KX.in1 (.inl rfl) rfl (Hid.out k)|refine KX.in2 (.inl rfl) rfl rfl (Hid.out k)|refine KX.in3 (.inl rfl) rfl rfl rfl (Hid.out k)|refine KX.inC (.inl rfl) rfl (by rfl) (Hid.out k)|refine KX.e9 (.inl rfl) rfl (by rfl) rfl (Hid.out k))):φ:=h ⟨k⟩
theorem gq {φ ψ:Prop} (k:ψ) (h:Hid ψ→φ:=by intro k;(with_reducible apply G.d8);first|refine G.d7 (N:=22) (id:=7) zQ mixed an (Hid.out k)):φ:=h ⟨k⟩
theorem mA (g:Nat) (cap:List Value) (ad:Option Addr) (c:Nat) (l:List Lot) (cs:Nat→Int) (C:Nat→HP) (hm:l.length≤1000000) (hw:∀ x∈l,LotW x) (hc:∀ k,k<l.length→0≤cs k∧cs k≤l[k]!.2.2) (hC:rJ g cap l.length cs C) :
  Tri Tryz.prog 302 #[.slice ad l.length c,.func (.func g) #[] cap.toArray] [C 0,isl ah 3 ad l] (fun v L'=>∃ ad1 c1 ad2 c2,v=.tuple #[.slice ad1 (divF l cs l.length).length c1,.slice ad2 (divR l cs l.length).length c2]∧L' = [osl ah 3 tLot ad1 c1 (divF l cs l.length),osl ah 3 tLot ad2 c2 (divR l cs l.length)]):=by
 refine Tri.body (args:=[.slice ad l.length c,.func (.func g) #[] cap.toArray]) 22 FK Tryz.func302 rfl rfl rfl (by simp) ?_
 repeat first|refine aa ?_|intro _|refine gq ?_|refine gr ?_
 rename_i b4 b5 bx bf
 refine G.g7 (xY bx bf g cap ad c l cs C hm hw hc hC) rfl DM ac ?_ (fun k=>[stkO b4 (divF l cs ((k+1) / 2)),stkO b5 (divR l cs (k / 2))]) ?_ ?_ ?_
 ·intro vs hvs
  obtain ⟨k,_,rfl⟩:=List.mem_map.1 hvs
  unfold pcV
  split<;>rfl
 ·simp only [aq,aj]
  rw [show divF l cs ((0+1) / 2)=[] from rfl,show divR l cs (0 / 2)=[] from rfl]
  refine Ent.trans ?_ (Ent.l5 (none,0) (f:=stkA b4 []) (Ent.refl _))
  refine Ent.trans ?_ (Ent.append (Ent.refl (stkA b4 [] (none,0))) (Ent.l5 (none,0) (f:=stkA b5 []) (Ent.refl _)))
  simp only [stkA,bZ,aq,aj]
  refine Ent.trans (Ent.d8 ah 3 tLot) (Ent.trans (Ent.d8 ah 3 tLot) ?_)
  exact ae
 ·intro k hk
  have hk2:k<2*l.length:=by rw [nj] at hk;exact hk
  rw [vi]
  obtain ⟨m,hm2⟩:∃ m,m=k / 2:=⟨_,rfl⟩
  have hml:m<l.length:=ab
  obtain ⟨hw1,hw2⟩:=pc_w hml hw (hc m hml)
  have hdl:=jq l cs m
  have hdl1:=jq l cs (m+1)
  have hdw:=uf hw hc m ab
  unfold pcV
  by_cases hev:k % 2=0
  ·rw [if_pos hev,← hm2,show (k+1) / 2=m by omega,show (k+1+1) / 2=m+1 by omega,oJ]
   generalize divF l cs m=T at hdl hdw
   generalize divR l cs m=R
   generalize pcF l cs m=x at hw1
   show G _ _ _ ((12,.bool true)::(11,.agg (ah x).toArray)::_) _ _
   refine G.e8 (f:=stkA b4 T) ?_
   rintro ⟨ad1,c1⟩
   simp only [stkA,aq,aj]
   repeat first|refine aa ?_|intro _|refine gq ?_|refine gr ?_
   refine GO.ent (Ent.at (A:=osl ah 3 tLot ad1 c1 T) (Ent.refl _)) ?_
   refine GO.ef (Ef.d7 (oA ad1 c1 T x ab hdw.1 hw1) rfl) ac ?_
   rintro _ _ ⟨ad2,c2,rfl,rfl⟩
   repeat first|refine aa ?_|intro _|refine gq ?_|refine gr ?_
   refine KX.round ?_
   refine Ent.trans ?_ (Ent.l5 (ad2,c2) (f:=stkA b4 (aR T x)) (Ent.refl _))
   simp only [stkA,aq,aj]
   exact ae
  ·rw [if_neg hev,← hm2,show (k+1) / 2=m+1 by omega,show (k+1+1) / 2=m+1 by omega,me]
   generalize divF l cs (m+1)=T
   generalize divR l cs m=R at hdl hdw
   generalize pcR l cs m=x at hw2
   show G _ _ _ ((12,.bool false)::(11,.agg (ah x).toArray)::_) _ _
   refine G.ent Ent.swap ?_
   refine G.e8 (f:=stkA b5 R) ?_
   rintro ⟨ad1,c1⟩
   simp only [stkA,aq,aj]
   repeat first|refine aa ?_|intro _|refine gq ?_|refine gr ?_
   refine GO.ent (Ent.at (A:=osl ah 3 tLot ad1 c1 R) (Ent.refl _)) ?_
   refine GO.ef (Ef.d7 (oA ad1 c1 R x ab hdw.2 hw2) rfl) ac ?_
   rintro _ _ ⟨ad2,c2,rfl,rfl⟩
   repeat first|refine aa ?_|intro _|refine gq ?_|refine gr ?_
   refine KX.round ?_
   refine Ent.trans ?_ (Ent.swap (A:=stkO b5 (aR R x)))
   refine Ent.trans ?_ (Ent.l5 (ad2,c2) (f:=stkA b5 (aR R x)) (Ent.refl _))
   simp only [stkA,aq,aj]
   exact ae
 ·rw [nj,show (2*l.length+1) / 2=l.length by omega,show 2*l.length / 2=l.length by omega]
  generalize divF l cs l.length=T
  generalize divR l cs l.length=R
  simp only [aV]
  refine KX.d8 (KX.l7 ?_)
  refine G.e8 (f:=stkA b4 T) ?_
  rintro ⟨ad1,c1⟩
  refine G.ent (L':=stkO b5 R::stkA b4 T (ad1,c1)) (Ent.perm (by simp only [stkA,aq,aj];exact (List.Perm.cons _ (List.Perm.swap _ _ _)).trans (List.Perm.swap _ _ _))) ?_
  refine G.e8 (f:=stkA b5 R) ?_
  rintro ⟨ad2,c2⟩
  simp only [stkA,aq,aj]
  repeat first|refine aa ?_|intro _|refine gq ?_|refine gr ?_
  refine KX.d7 (vs:=[.slice ad1 T.length c1,.slice ad2 R.length c2]) (ResOk.d7 rfl (ResOk.d7 rfl ResOk.nil)) ?_ ⟨ad1,c1,ad2,c2,rfl,rfl⟩
  exact ae
end
section
open Go.V
attribute [local irreducible] G GO GP GPW GPK Ev Ef EfR Ent CB GB Enters
def fuR (l:List Lot) (m:Int):Nat→Int
 | 0=>m
 | k+1=>fuR l m k - min (fuR l m k) l[k]!.2.2
def fuC (l:List Lot) (m:Int) (k:Nat):Int:=min (fuR l m k) l[k]!.2.2
theorem mN {l:List Lot} {m:Int} (h0:0≤m) (hw:∀ x∈l,LotW x):∀ k,k≤l.length→0≤fuR l m k∧fuR l m k≤m
 | 0,_=>⟨h0,aW _⟩
 | k+1,hk=>by
  have ih:=mN h0 hw k ab
  have:=hw _ (aG (show k<l.length by omega))
  unfold LotW at this
  simp only [fuR]
  omega
theorem mO {l:List Lot} {m:Int} (h0:0≤m) (hw:∀ x∈l,LotW x) (k:Nat) (hk:k<l.length):0≤fuC l m k∧fuC l m k≤l[k]!.2.2:=by
 have h1:=mN h0 hw k ab
 have:=hw _ (aG hk)
 unfold LotW at this
 unfold fuC
 omega
abbrev tInt:Nat:=3
def fuA (bn bl:Nat) (ad:Option Addr) (c:Nat) (l:List Lot) (m:Int) (k:Nat):List HP:=[obj bn tInt [.int .i64 (fuR l m k)],obj bl jk [.slice ad l.length c],isl ah 3 ad l]
abbrev zP:List Stp:=[.ev 0,.ev 1,.ev 2,.ev 3,.ev 4,.ev 5,.ev 6,.ev 7]
theorem te (bn bl:Nat) (ad:Option Addr) (c:Nat) (l:List Lot) (m:Int) (hm:l.length≤1000000) (h0:0≤m) (h1:m≤1099511627776) (hw:∀ x∈l,LotW x) :
  rJ 320 [.pointer (some ⟨bn,0,none⟩),.pointer (some ⟨bl,0,none⟩)] l.length (fuC l m) (fun k=>cv (fuA bn bl ad c l m k)):=by
 intro k hk L
 have hii:(k:Int).toNat=k:=ab
 have hb:=mN h0 hw k ab
 have hcb:=mO h0 hw k hk
 have hlw:=hw _ (aG hk)
 unfold LotW at hlw
 unfold fuC at hcb
 rw [← hii] at hlw hcb
 rw [hii] at hcb
 refine Tri.body (args:=[.int .i64 (k:Int),.pointer (some ⟨bn,0,none⟩),.pointer (some ⟨bl,0,none⟩)]) 17 FF Tryz.func320 rfl rfl rfl (by simp) ?_
 refine G.ent Ent.openS ?_
 simp only [fuA,aq,aj]
 repeat first|refine aa ?_|intro _|((with_reducible apply G.d8);first|refine G.d7 (N:=17) (id:=1) zP mixed an ?_)
 rw [hii]
 exact KX.d7 ag (Ent.g9 (A:=[_,_,_]) (L:=L)) ⟨rfl,rfl⟩
theorem mq {L:List HP} (ad:Option Addr) (n c:Nat) (xs:List Lot) [Rds L ad Lot ah 3 xs] (hn:n=xs.length) (hb:xs.length≤4096) (hx:∀ l∈xs,LotOk l) :
  Tri Tryz.prog 262 #[.slice ad n c] L (fun v L'=>v=.int .i64 (lsum xs)∧L' = L):=by
 refine Tri.body (args:=[.slice ad n c]) 8 Gg Tryz.func262 rfl rfl rfl (by simp) ?_
 repeat first|refine aa ?_|intro
 refine GO.ef (Ef.d7 (jv ad n c xs hn hb hx) rfl) ac ?_
 rintro _ L ⟨rfl,rfl⟩
 repeat first|refine aa ?_|intro
 refine GO.ef (Ef.d7 (wr ad n c xs hn hb hx) rfl) ac ?_
 rintro _ L ⟨rfl,rfl⟩
 repeat first|refine aa ?_|intro
 exact KX.d7 ag (Ent.refl _) ⟨rfl,rfl⟩
theorem gX {φ ψ:Prop} (k:ψ) (h:Hid ψ→φ:=by intro k;first|((with_reducible apply GO.d7);refine GO.e7 jz Tryz.func299 rfl rfl rfl rfl (by simp) ac (Hid.out k))|((with_reducible apply GPW.d7);refine GPW.e7 jz Tryz.func299 rfl rfl rfl rfl (by simp) ac (Hid.out k))|((with_reducible apply GO.d7);refine GO.d8 rfl jz Tryz.func299 rfl rfl rfl rfl (by simp) ac (Hid.out k))|((with_reducible apply GPW.d7);refine GPW.d8 rfl jz Tryz.func299 rfl rfl rfl rfl (by simp) ac (Hid.out k))|((with_reducible apply KX.f7);first|refine KX.in0 (.inl rfl) (Hid.out k)|refine KX.in0 (.inr rfl) (Hid.out k)|refine KX.in1 (.inl rfl) rfl (Hid.out k)|refine KX.in2 (.inl rfl) rfl rfl (Hid.out k)|refine KX.in3 (.inl rfl) rfl rfl rfl (Hid.out k)|refine KX.inC (.inl rfl) rfl (by rfl) (Hid.out k)|refine KX.e9 (.inl rfl) rfl (by rfl) rfl (Hid.out k))):φ:=h ⟨k⟩
theorem zk {L:List HP} (ad:Option Addr) (c:Nat) (xs:List Lot) (n:Int) (mixed:Bool) (hmx:mixed=false) (hb:xs.length≤4096) (hx:∀ l∈xs,LotOk l) (hn0:0≤n) (hn1:n≤1099511627776) :
  Tri Tryz.prog 284 #[.slice ad xs.length c,.int .i64 n,.bool mixed] (isl ah 3 ad xs::L) (fun v L' =>
   (lsum xs<n∧v=.tuple #[.slice none 0 0,.slice none 0 0,.int .i64 10]∧L' = isl ah 3 ad xs::L) ∨
   (n≤lsum xs∧∃ ad1 c1 ad2 c2,v=.tuple #[.slice ad1 (divF xs (fuC xs n) xs.length).length c1,.slice ad2 (divR xs (fuC xs n) xs.length).length c2,.int .i64 0]∧L' = osl ah 3 tLot ad1 c1 (divF xs (fuC xs n) xs.length)::osl ah 3 tLot ad2 c2 (divR xs (fuC xs n) xs.length)::isl ah 3 ad xs::L)):=by
 subst hmx
 have hw:∀ x∈xs,LotW x:=fun x h=>(hx x h).w
 refine Tri.body (args:=[.slice ad xs.length c,.int .i64 n,.bool false]) 74 AJ Tryz.func284 rfl rfl rfl (by simp) ?_
 repeat first|refine aa ?_|intro _|refine gX ?_
 refine GO.ef (Ef.d7 (jv ad xs.length c xs rfl hb hx) rfl) ac ?_
 rintro _ _ ⟨rfl,rfl⟩
 repeat first|refine aa ?_|intro _|refine gX ?_
 refine GO.ef (Ef.d7 (mq ad xs.length c xs rfl hb hx) rfl) ac ?_
 rintro _ _ ⟨rfl,rfl⟩
 by_cases hs:lsum xs<n
 ·repeat first|refine aa ?_|intro _|refine gX ?_
  exact KX.d7 ag (Ent.refl _) (.inl ⟨hs,rfl,rfl⟩)
 repeat first|refine aa ?_|intro _|refine gX ?_
 rename_i bl bn
 refine GO.ent (L':=cv (fuA bn bl ad c xs n 0)::isl ah 3 ad xs::isl ah 3 ad xs::L) ?_ ?_
 ·refine Ent.trans ?_ Ent.g9
  simp only [fuA,fuR,aq,aj]
  refine (Ent.at (A:=isl ah 3 ad xs) (Ent.dup (jg _ _ _ _))).trans ?_
  refine (Ent.dup (jg _ _ _ _)).trans ?_
  exact ae
 (first|refine GO.ef (Ef.call (mA _ _ ad c xs (fuC xs n) (fun k=>cv (fuA bn bl ad c xs n k)) ab hw (mO hn0 hw) (te bn bl ad c xs n ab hn0 hn1 hw)) rfl (by repeat (first|exact Ent.refl _|apply Ent.take))) ac ?_)
 rintro _ _ ⟨_,⟨ad1,c1,ad2,c2,rfl,rfl⟩,hL⟩
 simp only [aq,aj] at hL;subst hL
 repeat first|refine aa ?_|intro _|refine gX ?_
 exact KX.d7 ag (Ent.refl _) (.inr ⟨ab,ad1,c1,ad2,c2,rfl,rfl⟩)
end
section
open Go.V
attribute [local irreducible] G GO GP GPW GPK Ev Ef EfR Ent CB GB Enters
structure MvM where
 frm:Int
 to:Int
 item:Int
 n:Int
 parts:List Lot
 deriving Inhabited,DecidableEq
structure MvV where
 m:MvM
 pad:Option Addr
 pcap:Nat
 deriving Inhabited
def aF (m:MvV):List Value:=[.int .i64 m.m.frm,.int .i64 m.m.to,.int .i64 m.m.item,.int .i64 m.m.n,.slice m.pad m.m.parts.length m.pcap]
theorem hU (t:MvV):∀ u∈aF t,u.oneCell' = true:=by simp [aF,Value.oneCell']
instance:EncC aF:=⟨hU⟩
abbrev mvP (m:MvV):HP:=isl ah 3 m.pad m.m.parts
theorem gZ (m:MvV):PersM (mvP m):=bJ _ _ _ _
abbrev tMv:Nat:=74
def mv0:MvV:=⟨⟨0,0,0,0,[]⟩,none,0⟩
theorem oK {L:List HP} (m:MvV) (hl:m.m.parts.length≤1000000) :
  Tri Tryz.prog 126 #[.agg (aF m).toArray] (mvP m::L) (fun v L'=>∃ m',v=.agg (aF m').toArray∧m'.m=m.m∧L' = mvP m'::mvP m::L):=by
 obtain ⟨⟨frm,to,item,n,parts⟩,pad,pcap⟩:=m
 dsimp only at hl
 refine Tri.body (args:=[.agg (aF ⟨⟨frm,to,item,n,parts⟩,pad,pcap⟩).toArray]) 8 Iu Tryz.func126 rfl rfl rfl (by simp) ?_
 repeat first|refine aa ?_|intro
 refine GO.ef (Ef.d7 (kU pad parts.length pcap parts rfl ab) rfl) ac ?_
 rintro _ _ ⟨ad',cap',rfl,rfl⟩
 repeat first|refine aa ?_|intro
 refine KX.d7 (by exact ResOk.cell rfl (by rfl) (ResOk.nil)) ?_ ⟨⟨⟨frm,to,item,n,parts⟩,ad',cap'⟩,rfl,rfl,rfl⟩
 refine (Ent.frz ad').trans ?_
 exact ae
theorem dC {α:Type} [Inhabited α] {l:List α} {i:Nat} {x:α} (h:i<l.length):(l.set i x).take (i+1)=l.take i++[x]:=by
 rw [ay (by simpa using h),List.take_set_of_le (aw _)]
 simp
theorem vR {L:List HP} (ad:Option Addr) (c:Nat) (ms:List MvV) (hl:ms.length≤64) (hp:∀ m∈ms,m.m.parts.length≤1000000) :
  Tri Tryz.prog 125 #[.slice ad ms.length c,.func (.func 126) #[] #[]] (isl aF 5 ad ms::allP mvP ms::L) (fun v L'=>∃ ad' c' ms',v=.slice ad' ms'.length c'∧ms'.map (·.m)=ms.map (·.m)∧L' = isl aF 5 ad' ms'::allP mvP ms'::isl aF 5 ad ms::allP mvP ms::L):=by
 refine Tri.body (args:=[.slice ad ms.length c,.func (.func 126) #[] #[]]) 29 DU Tryz.func125 rfl rfl rfl (by simp) ?_
 by_cases h0:ms.length=0
 ·have e:ms=[]:=aQ h0
  subst e
  repeat first|refine aa ?_|intro
  exact KX.d7 ag ((Ent.d9 mvP).trans (Ent.e8 aF 5 none)) ⟨none,0,[],rfl,rfl,rfl⟩
 repeat first|refine aa ?_|intro
 refine GO.ef (Ef.g7 aF mv0 rfl rfl rfl ab ab ab ab) ac ?_
 rintro _ _ ⟨bs,rfl,rfl⟩
 rw [show (ms.length:Int).toNat=ms.length by omega]
 repeat first|refine aa ?_|intro
 refine G.loop (α:=Nat×List MvV) (fun z=>z.1≤ms.length∧z.2.length=ms.length∧(z.2.take z.1).map (·.m)=(ms.take z.1).map (·.m)) (fun z=>[(1,.func (.func 126) #[] #[]),(5,.slice (some ⟨bs,0,none⟩) ms.length ms.length),(14,.slice ad ms.length c),(15,.int .i64 (ms.length:Int)),(16,.int .i64 (z.1:Int))])
  (fun z=>osl aF 5 tMv (some ⟨bs,0,none⟩) ms.length z.2::allP mvP (z.2.take z.1)::isl aF 5 ad ms::allP mvP ms::L) (fun z=>ms.length - z.1) (0,List.replicate ms.length mv0) ⟨al _,by simp,by simp⟩ ai ?_ ?_
 ·dsimp only
  rw [bX]
  refine (Ent.d9 mvP).trans ?_
  exact ae
 rintro ⟨i,zs⟩ ⟨hi,hzl,hze⟩
 dsimp only at hi hzl hze ⊢
 by_cases hlt:i<ms.length
 case neg =>
  have hie:i=ms.length:=ab
  subst hie
  rw [aA ab,aA ab] at hze
  rw [aA (show zs.length≤ms.length by omega)]
  repeat first|refine aa ?_|intro
  refine KX.d7 ag (Ent.freezeSl) ⟨some ⟨bs,0,none⟩,ms.length,zs,by rw [hzl];rfl,hze,rfl⟩
 have hii:(i:Int).toNat=i:=ab
 have hmm:ms[i]!∈ms:=aG hlt
 repeat first|refine aa ?_|intro
 rw [hii]
 refine GO.ent (Ent.at (A:=allP mvP ms) (Ent.e7 (x:=ms[i]!) hmm)) ?_
 refine GO.ef (Ef.d9 rfl rfl (oK ms[i]! (hp _ hmm))) ac ?_
 rintro _ _ ⟨m',rfl,hm',rfl⟩
 repeat first|refine aa ?_|intro
 refine GO.efu (Ef.e8 (e:=m') rfl rfl (by rfl) (by rfl) (hU _) ab) ?_
 rintro _ _ rfl
 rw [hii]
 repeat first|refine aa ?_|intro
 refine ⟨(i+1,zs.set i m'),⟨by dsimp only;omega,by dsimp only;simp;omega,?_⟩,by dsimp only;omega,?_,?_⟩
 ·dsimp only
  rw [dC ab,ay hlt,aS,aS,hze,← getElem!_of hlt]
  simp [hm']
 ·dsimp only
  rw [aM i]
  exact ai
 ·dsimp only
  rw [dC ab]
  refine Ent.d7 ?_
  refine Ent.trans (B:=allP mvP (zs.take i)::mvP m'::isl aF 5 ad ms::allP mvP ms::L) ae ?_
  exact (Ent.d7 (Ent.f8 gZ)).trans (Ent.g8 gZ)
structure StM where
 id:Int
 kind:Int
 actor:Int
 tick:Int
 rule:Int
 times:Int
 moves:List MvM
 deriving Inhabited
structure StV where
 id:Int
 kind:Int
 actor:Int
 tick:Int
 rule:Int
 times:Int
 moves:List MvV
 mad:Option Addr
 mcap:Nat
 deriving Inhabited
def StV.m (s:StV):StM:=⟨s.id,s.kind,s.actor,s.tick,s.rule,s.times,s.moves.map (·.m)⟩
def aB (s:StV):List Value:=[.int .i64 s.id,.int .i64 s.kind,.int .i64 s.actor,.int .i64 s.tick,.int .i64 s.rule,.int .i64 s.times,.slice s.mad s.moves.length s.mcap]
theorem iB (t:StV):∀ u∈aB t,u.oneCell' = true:=by simp [aB,Value.oneCell']
instance:EncC aB:=⟨iB⟩
abbrev stM (s:StV):HP:=isl aF 5 s.mad s.moves
abbrev stP (s:StV):HP:=allP mvP s.moves
theorem mV (s:StV):PersM (stM s):=bJ _ _ _ _
theorem vW {L:List HP} (s:StV) (hl:s.moves.length≤64) (hp:∀ m∈s.moves,m.m.parts.length≤1000000) :
  Tri Tryz.prog 68 #[.agg (aB s).toArray] (stM s::stP s::L) (fun v L'=>∃ s',v=.agg (aB s').toArray∧s'.m=s.m∧L' = stM s'::stP s'::stM s::stP s::L):=by
 obtain ⟨i0,i1,i2,i3,i4,i5,ms,mad,mcap⟩:=s
 dsimp only at hl hp
 refine Tri.body (args:=[.agg (aB ⟨i0,i1,i2,i3,i4,i5,ms,mad,mcap⟩).toArray]) 8 en68 Tryz.func68 rfl rfl rfl (by simp) ?_
 repeat first|refine aa ?_|intro
 refine GO.ent (Ent.at (A:=isl aF 5 mad ms) (Ent.d7 (Ent.at (A:=allP mvP ms) (Ent.refl _)))) ?_
 refine GO.ef (Ef.d7 (vR mad mcap ms hl hp) rfl) ac ?_
 rintro _ _ ⟨ad',c',ms',rfl,hms,rfl⟩
 repeat first|refine aa ?_|intro
 refine KX.d7 (by exact ResOk.cell rfl (by rfl) (ResOk.nil)) ?_ ⟨⟨i0,i1,i2,i3,i4,i5,ms',ad',c'⟩,rfl,by simp only [StV.m,hms],rfl⟩
 exact ae
end
end Go.Proofs.YtommnllbflbdmaaGreatDoor
