/- Lemmas and contracts of functions. -/
import Derived.Test.YtommnllbflbdmaaGreatDoorGAuditTotalsbe
set_option linter.all false
set_option maxHeartbeats 4000000
namespace Go.Proofs.YtommnllbflbdmaaGreatDoor
section
open Go.V
attribute [local irreducible] G GO GP GPW GPK Ev Ef EfR Ent CB GB V.Enters
theorem Dh {ys:List Lot} {i:Nat} (h:i<ys.length) (f:Int):ofF (ys.take (i+1)) f=if ys[i]!.1=f then ofF (ys.take i) f++[ys[i]!] else ofF (ys.take i) f:=by
 rw [ay h,getElem!_of h]
 unfold ofF
 rw [cJ]
 by_cases e:ys[i].1=f
 ·rw [if_pos e,bS (by simpa using e)]
  rfl
 ·rw [if_neg e,bT (by simpa using e),List.filter_nil,aV]
theorem pb (ys:List Lot) (f:Int):(ofF ys f).length≤ys.length:=List.length_filter_le _ _
abbrev xT:List Stp:=[.ev 0,.ev 1,.ev 2,.ev 3,.ev 4,.ev 5,.ev 6,.ev 7,.ef 8,.ef 9,.ef 10]
abbrev vg:List Stp:=[.ev 0,.ev 1,.ev 2,.ev 3,.ev 4,.ev 6,.ef 5,.ef 7,.ev 8,.ev 9,.ev 10]
abbrev vf:List Stp:=[.ev 0,.ev 1,.ev 2,.ev 3,.ev 4,.ev 6,.ef 5,.ev 7,.ef 8,.ev 9]
theorem cn {φ ψ:Prop} (k:ψ) (h:Hid ψ→φ:=by intro k;(with_reducible apply G.d8);first|refine G.d7 (N:=98) (id:=6) xT mixed an (Hid.out k)|refine G.d7 (N:=98) (id:=17) vg mixed an (Hid.out k)|refine G.d7 (N:=98) (id:=23) vf mixed an (Hid.out k)):φ:=h ⟨k⟩
set_option maxRecDepth 10000 in
theorem um {L:List HP} (ad:Option Addr) (n c:Nat) (stack:List Lot) [hr:Rds L ad Lot ah 3 stack] (ad2:Option Addr) (n2 c2:Nat) (ps:List Lot) [hr2:Rds L ad2 Lot ah 3 ps] (hn:n=stack.length) (hn2:n2=ps.length) (hs:∀ x∈stack,LotOk x) (hsl:stack.length≤4096) (hp:∀ x∈ps,LotOk x) (hpl:ps.length≤4096) (ha:Apart ps) :
  Tri Tryz.prog 153 #[.slice ad n c,.slice ad2 n2 c2] L (fun v L'=>∃ ad' cap',v=.tuple #[.slice ad' (dN stack ps).length cap',.bool (dB (lsum ps - OO ps stack=0))]∧L' = osl ah 3 tLot ad' cap' (dN stack ps)::L):=by
 subst hn hn2
 refine Tri.body (args:=[.slice ad stack.length c,.slice ad2 ps.length c2]) 98 HZ Tryz.func153 rfl rfl rfl (by simp) ?_
 repeat first|refine aa ?_|intro _|refine cn ?_
 refine GO.ef (Ef.e9 kvI Stk.v (.inl rfl)) ac ?_
 rintro _ _ ⟨bm,rfl,rfl⟩
 repeat first|refine aa ?_|intro _|refine cn ?_
 refine GO.ef (Ef.d7 (pS ad2 ps.length c2 ps rfl ab) rfl) ac ?_
 rintro _ _ ⟨ady,cy,ys,rfl,hys,rfl⟩
 have hyl:=hys.1.length_eq
 have hyo:∀ x∈ys,LotOk x:=fun x hx=>hp x (hys.1.mem_iff.1 hx)
 repeat first|refine aa ?_|intro _|refine cn ?_
 refine G.loop (α:=Nat×List (Int×Stk)) (fun g=>g.1≤ys.length∧((g.2.map (·.1)).Nodup∧(∀ f,(eu g.2 f).lots=ofF (ys.take g.1) f))∧0≤lsum (ys.take g.1)∧lsum (ys.take g.1)≤(g.1:Int)*1099511627776) (fun g=>[(0,.slice ad stack.length c),(6,.map (some bm)),(7,.int .i64 (lsum (ys.take g.1))),(20,.slice ady ys.length cy),(21,.int .i64 ys.length),(22,.int .i64 (g.1:Int))]) (fun g=>gmap kvI Stk.v bm g.2::bigO eM g.2::osl ah 3 tLot ady cy ys::L) (fun g=>ys.length - g.1) (0,[]) ⟨al _,⟨List.nodup_nil,fun _=>rfl⟩,aW _,aW _⟩ ai (Ent.trans ae ((Ent.j0 eM).trans ae)) ?_
 rintro ⟨i,m⟩ ⟨hi,⟨hmn,hml⟩,hb1,hb2⟩
 dsimp only at hi hmn hml hb1 hb2 ⊢
 by_cases hlt:i<ys.length
 case pos =>
  have hii:(i:Int).toNat=i:=av i
  have hlt' : (i:Int).toNat<ys.length:=ab
  have hsum:=dI ys hlt
  have hok:=hyo _ (aG hlt)
  unfold LotOk at hok
  have hm2:(i:Int)*1099511627776≤4096*1099511627776:=bH ab ac
  have hm3:((i+1:Nat):Int)*1099511627776=(i:Int)*1099511627776+1099511627776:=by
   rw [Int.natCast_add,Int.add_mul]
   rfl
  refine G.ent (L':=osl ah 3 tLot (eu m ys[(i:Int).toNat]!.1).ad (eu m ys[(i:Int).toNat]!.1).cap (eu m ys[(i:Int).toNat]!.1).lots::bigO eM (gera m ys[(i:Int).toNat]!.1)::gmap kvI Stk.v bm m::osl ah 3 tLot ady cy ys::L) (Ent.swap.trans ((pW hmn).trans ae)) ?_
  have hsl2:(eu m ys[(i:Int).toNat]!.1).lots.length≤4096:=by
   rw [hml]
   refine cx (pb _ _) ?_
   rw [ba]
   omega
  have hv:=oV m ys[(i:Int).toNat]!.1
  unfold glk at hv
  repeat first|refine aa ?_|intro _|refine cn ?_
  refine GPW.evL (Ev.e7 rfl rfl) ac ?_
  rw [hv]
  repeat first|refine aa ?_|intro _|refine cn ?_
  refine GPK.keep (by rw [← hv];exact Ev.e7 rfl rfl) ?_
  repeat first|refine aa ?_|intro _|refine cn ?_
  refine GPW.ef (Ef.d8 (enc:=ah) (e:=ys[(i:Int).toNat]!) rfl rfl rfl rfl rfl (by rfl) (cz _) ab ab) ac ?_
  rintro _ _ ⟨ad3,cap3,rfl,rfl⟩
  repeat first|refine aa ?_|intro _|refine cn ?_
  refine GPW.efu (Ef.f7 (enc:=Stk.v) (e:=(⟨ad3,cap3,(eu m ys[(i:Int).toNat]!.1).lots++[ys[(i:Int).toNat]!]⟩:Stk)) rfl rfl rfl rfl) ?_
  rintro _ _ ⟨rfl,rfl⟩
  have hok2:1≤ys[(i:Int).toNat]!.2.2∧ys[(i:Int).toNat]!.2.2≤1099511627776:=by rw [hii];omega
  repeat first|refine aa ?_|intro _|refine cn ?_
  refine ⟨(i+1,gins m ys[(i:Int).toNat]!.1 ⟨ad3,cap3,(eu m ys[(i:Int).toNat]!.1).lots++[ys[(i:Int).toNat]!]⟩),⟨by dsimp only;omega,⟨kO hmn,fun f=>?_⟩,by dsimp only;rw [hsum];omega,by dsimp only;rw [hsum,hm3];omega⟩,by dsimp only;omega,?_,?_⟩
  ·dsimp only
   rw [mT,Dh hlt,hii]
   by_cases e:ys[i]!.1=f
   ·rw [if_pos e.symm,if_pos e,hml,e]
   ·rw [if_neg (fun q=>e q.symm),if_neg e]
    exact hml f
  ·dsimp only
   rw [aM i,hsum,show ys[i]! = ys[(i:Int).toNat]! by rw [hii]]
   exact ai
  ·dsimp only
   refine Ent.trans ?_ (Ent.swap.trans (Ent.d7 (Ent.refl _)))
   refine Ent.trans ?_ (nX (f:=ys[(i:Int).toNat]!.1) hmn ⟨ad3,cap3,(eu m ys[(i:Int).toNat]!.1).lots++[ys[(i:Int).toNat]!]⟩)
   exact ae
 obtain rfl:i=ys.length:=ab
 rw [aZ] at hml hb1 hb2 ⊢
 have hsum0:lsum ys≤4096*1099511627776:=Int.le_trans hb2 (bH ab ac)
 refine G.ent (L':=gmap kvI Stk.v bm m::allP stkI m::L) (Ent.swap.trans ((Ei m).trans ae)) ?_
 repeat first|refine aa ?_|intro _|refine cn ?_
 refine G.loop (α:=Nat×Option Addr×Nat×List Lot×Int) (fun g=>g.1≤stack.length∧wAll ys (stack.take g.1) ([],lsum ys)=(g.2.2.2.1,g.2.2.2.2)∧(∀ y∈g.2.2.2.1,LotW y)∧g.2.2.2.1.length≤g.1*4097∧-((g.1:Int)*1099511627776)≤g.2.2.2.2∧g.2.2.2.2≤lsum ys) (fun g=>[(6,.map (some bm)),(7,.int .i64 g.2.2.2.2),(10,.slice g.2.1 g.2.2.2.1.length g.2.2.1),(41,.slice ad stack.length c),(42,.int .i64 stack.length),(43,.int .i64 (g.1:Int))]) (fun g=>osl ah 3 tLot g.2.1 g.2.2.1 g.2.2.2.1::gmap kvI Stk.v bm m::allP stkI m::L) (fun g=>stack.length - g.1) (0,none,0,[],lsum ys) ⟨al _,rfl,fun y hy=>absurd hy aO,al _,by dsimp only;omega,aW _⟩ ai ((Ent.d8 ah 3 tLot).trans ae) ?_
 clear hi hlt
 rintro ⟨i,oa,oc,out,mis⟩ ⟨hi,hw,hwo,hol,hm1,hm2⟩
 dsimp only at hi hw hwo hol hm1 hm2 ⊢
 by_cases hlt:i<stack.length
 case neg =>
  rw [aA ab,CS hys hp ha hs] at hw
  obtain ⟨e1,e2⟩:=Prod.mk.injEq ..▸hw
  rw [e1,e2]
  repeat first|refine aa ?_|intro _|refine cn ?_
  refine KX.d7 ag ?_ ⟨oa,oc,rfl,rfl⟩
  exact ae
 have hii:(i:Int).toNat=i:=av i
 have hlt' : (i:Int).toNat<stack.length:=ab
 have hxo:=hs _ (aG hlt)
 have hwn:wAll ys (stack.take (i+1)) ([],lsum ys)=wLot stack[i]! (ofF ys stack[i]!.1) (out,mis):=by
  rw [ay hlt,← getElem!_of hlt]
  unfold wAll at hw ⊢
  rw [cg,hw]
  rfl
 have hv:=oV m stack[(i:Int).toNat]!.1
 unfold glk at hv
 have hlf:=hml stack[(i:Int).toNat]!.1
 have hfl:=pb ys stack[(i:Int).toNat]!.1
 repeat first|refine aa ?_|intro _|refine cn ?_
 refine GO.ev (Ev.e7 rfl rfl) ac ?_
 rw [hv]
 rw [hlf]
 repeat first|refine aa ?_|intro _|refine cn ?_
 rename_i b12
 clear hv
 rw [hii] at hlf hfl ⊢
 generalize stack[i]! = x at *
 have hord:=yE hys hp ha x.1
 have hqo:∀ p∈ofF ys x.1,LotOk p∧p.1=x.1:=fun p hp=>⟨hyo p (ofF_mem.1 hp).1,(ofF_mem.1 hp).2⟩
 generalize hqs:ofF ys x.1=qs at *
 generalize (eu m x.1).cap=qc
 have hget:∀ {L:List HP},Ent (allP stkI m::L) (isl ah 3 (eu m x.1).ad qs::allP stkI m::L):=fun {L}=>by
  have:=Eh m x.1 (L:=L)
  rw [hlf] at this
  exact this
 generalize (eu m x.1).ad=qa at *
 have hxw:=hxo.w
 have hxo2:=hxo
 unfold LotOk at hxo2
 have hm9:(i:Int)*1099511627776≤4096*1099511627776:=bH ab ac
 have hm3:((i+1:Nat):Int)*1099511627776=(i:Int)*1099511627776+1099511627776:=by
  rw [Int.natCast_add,Int.add_mul]
  rfl
 have h0:(qs.take 0).foldl (fE x) (out,x.2.1,mis)=(out,x.2.1,mis):=by rw [bX,List.foldl_nil]
 refine G.loop (α:=Nat×Option Addr×Nat×List Lot×Int×Int) (fun g=>g.1≤qs.length∧(qs.take g.1).foldl (fE x) (out,x.2.1,mis)=(g.2.2.2.1,g.2.2.2.2.1,g.2.2.2.2.2)∧(∀ y∈g.2.2.2.1,LotW y)∧g.2.2.2.1.length≤i*4097+g.1∧x.2.1≤g.2.2.2.2.1∧g.2.2.2.2.1≤x.2.1+x.2.2∧mis - (g.2.2.2.2.1 - x.2.1)≤g.2.2.2.2.2∧g.2.2.2.2.2≤mis) (fun g=>[(6,.map (some bm)),(7,.int .i64 g.2.2.2.2.2),(10,.slice g.2.1 g.2.2.2.1.length g.2.2.1),(12,.pointer (some ⟨b12,0,none⟩)),(13,.int .i64 g.2.2.2.2.1),(41,.slice ad stack.length c),(42,.int .i64 stack.length),(43,.int .i64 (i:Int)),(52,.slice qa qs.length qc),(53,.int .i64 qs.length),(54,.int .i64 (g.1:Int))]) (fun g=>osl ah 3 tLot g.2.1 g.2.2.1 g.2.2.2.1::isl ah 3 qa qs::obj b12 tLot (ah x)::gmap kvI Stk.v bm m::allP stkI m::L) (fun g=>qs.length - g.1) (0,oa,oc,out,x.2.1,mis) (by dsimp only;exact ⟨al _,h0,hwo,ab,aW _,ab,ab,aW _⟩) ai ((Ent.at (A:=allP stkI m) hget).trans ae) ?_
 clear hwo hol
 rintro ⟨k,oa,oc,o2,at_,mi2⟩ ⟨hk,hf,hwo,hol,ha1,ha2,hb3,hb4⟩
 dsimp only at hk hf hwo hol ha1 ha2 hb3 hb4 ⊢
 by_cases hkl:k<qs.length
 case neg =>
  rw [aA ab] at hf
  have hwl:wLot x qs (out,mis)=(aR o2 (x.1,at_,x.2.1+x.2.2 - at_),mi2):=by
   unfold wLot
   rw [hf]
  rw [hwl] at hwn
  repeat first|refine aa ?_|intro _|refine cn ?_
  refine GPW.ef (Ef.d7 (ij x hxw) rfl) ac ?_
  rintro _ _ ⟨rfl,rfl⟩
  repeat first|refine aa ?_|intro _|refine cn ?_
  (first|refine GPW.ef (Ef.call (lk (L:=[]) oa oc o2.length oc o2 (x.1,at_,x.2.1+x.2.2 - at_) rfl rfl ab hwo (by unfold LotW;dsimp only;omega)) rfl (by repeat (first|exact Ent.refl _|apply Ent.take))) ac ?_)
  rintro _ _ ⟨_,⟨a5,c5,rfl,rfl⟩,hL⟩
  simp only [aq,aj] at hL;subst hL
  have hjl:=jO o2 (x.1,at_,x.2.1+x.2.2 - at_)
  repeat first|refine aa ?_|intro _|refine cn ?_
  refine ⟨(i+1,a5,c5,aR o2 (x.1,at_,x.2.1+x.2.2 - at_),mi2),⟨by dsimp only;omega,hwn,pg hwo (by unfold LotW;dsimp only;omega),by dsimp only;omega,by dsimp only;rw [hm3];omega,by dsimp only;omega⟩,by dsimp only;omega,?_,by exact ae⟩
  dsimp only
  rw [aM i]
  exact ai
 have hkk:(k:Int).toNat=k:=av k
 have hkl' : (k:Int).toNat<qs.length:=ab
 have hft:(qs.take (k+1)).foldl (fE x) (out,x.2.1,mis)=fE x (o2,at_,mi2) qs[k]!:=by
  rw [ay hkl,cg,hf,getElem!_of hkl]
  rfl
 have hpo:=(hqo _ (aG hkl)).1
 have hpw:=hpo.w
 have hpo2:=hpo
 unfold LotOk at hpo2
 repeat first|refine aa ?_|intro _|refine cn ?_
 have hpw' : LotW qs[(k:Int).toNat]!:=by rw [hkk];exact hpw
 refine GPW.ef (Ef.d7 (ij qs[(k:Int).toNat]! hpw') rfl) ac ?_
 rintro _ _ ⟨rfl,rfl⟩
 repeat first|refine aa ?_|intro _|refine cn ?_
 refine GPW.ef (Ef.d7 (ij x hxw) rfl) ac ?_
 rintro _ _ ⟨rfl,rfl⟩
 have hpo3:0≤qs[(k:Int).toNat]!.2.1∧1≤qs[(k:Int).toNat]!.2.2∧qs[(k:Int).toNat]!.2.1+qs[(k:Int).toNat]!.2.2≤1099511627776:=by
  rw [hkk]
  omega
 by_cases hc:max qs[(k:Int).toNat]!.2.1 at_ ≥ min (qs[(k:Int).toNat]!.2.1+qs[(k:Int).toNat]!.2.2) (x.2.1+x.2.2)
 ·have hstep:fE x (o2,at_,mi2) qs[k]! = (o2,at_,mi2):=by
   rw [hkk] at hc
   exact if_pos hc
  rw [hstep] at hft
  repeat first|refine aa ?_|intro _|refine cn ?_
  refine ⟨(k+1,oa,oc,o2,at_,mi2),⟨by dsimp only;omega,hft,hwo,by dsimp only;omega,ha1,ha2,hb3,hb4⟩,by dsimp only;omega,?_,by exact ae⟩
  dsimp only
  rw [aM k]
  exact ai
 ·have hstep:fE x (o2,at_,mi2) qs[k]! = (aR o2 (x.1,at_,max qs[(k:Int).toNat]!.2.1 at_ - at_),min (qs[(k:Int).toNat]!.2.1+qs[(k:Int).toNat]!.2.2) (x.2.1+x.2.2),mi2 - (min (qs[(k:Int).toNat]!.2.1+qs[(k:Int).toNat]!.2.2) (x.2.1+x.2.2) - max qs[(k:Int).toNat]!.2.1 at_)):=by
   rw [hkk] at hc ⊢
   exact if_neg hc
  rw [hstep] at hft
  repeat first|refine aa ?_|intro _|refine cn ?_
  obtain ⟨fr,hfr⟩:∃ fr,fr=max qs[(k:Int).toNat]!.2.1 at_:=⟨_,rfl⟩
  obtain ⟨to,hto⟩:∃ to,to=min (qs[(k:Int).toNat]!.2.1+qs[(k:Int).toNat]!.2.2) (x.2.1+x.2.2):=⟨_,rfl⟩
  rw [← hfr,← hto] at hft
  rw [← hfr,← hto]
  rw [← hfr,← hto] at hc
  have hf1:at_≤fr:=ab
  have hf2:fr<to:=ab
  have hf3:to≤x.2.1+x.2.2:=ab
  clear hstep
  (first|refine GO.ef (Ef.call (lk (L:=[]) oa oc o2.length oc o2 (x.1,at_,fr - at_) rfl rfl ab hwo (by unfold LotW;dsimp only;omega)) rfl (by repeat (first|exact Ent.refl _|apply Ent.take))) ac ?_)
  rintro _ _ ⟨_,⟨a5,c5,rfl,rfl⟩,hL⟩
  simp only [aq,aj] at hL;subst hL
  have hjl:=jO o2 (x.1,at_,fr - at_)
  repeat first|refine aa ?_|intro _|refine cn ?_
  refine ⟨(k+1,a5,c5,aR o2 (x.1,at_,fr - at_),to,mi2 - (to - fr)),⟨by dsimp only;omega,hft,pg hwo (by unfold LotW;dsimp only;omega),by dsimp only;omega,by dsimp only;omega,hf3,by dsimp only;omega,by dsimp only;omega⟩,by dsimp only;omega,?_,by exact ae⟩
  dsimp only
  rw [aM k]
  exact ai
end
section
open Go.V
attribute [local irreducible] G GO GP GPW GPK Ev Ef EfR Ent CB GB V.Enters
abbrev Rst:=Int×Int
def encR (x:Rst):List Value:=[.int .i64 x.1,.int .u64 x.2]
theorem nz (t:Rst):∀ u∈encR t,u.oneCell' = true:=by simp [encR,Value.oneCell']
instance:EncC encR:=⟨nz⟩
abbrev tRst:Nat:=290
theorem CF {L:List HP} (x y:Rst):Tri Tryz.prog 244 #[.agg (encR x).toArray,.agg (encR y).toArray] L (fun v L'=>v=.int .i64 (cmpI y.2 x.2)∧L' = L):=by
 refine Tri.body (args:=[.agg (encR x).toArray,.agg (encR y).toArray]) 10 Gs Tryz.func244 rfl rfl rfl (by simp) ?_
 repeat first|refine aa ?_|intro
 refine GO.ef (Ef.d7 (tq y.2 x.2) rfl) ac ?_
 rintro _ _ ⟨rfl,rfl⟩
 repeat first|refine aa ?_|intro
 exact KX.d7 ag ae ⟨rfl,rfl⟩
def rle (x y:Rst):Prop:=y.2<x.2∨(x.2=y.2∧x.1<y.1)
theorem Bs {x y z:Rst} (h:rle x y) (h' : rle y z):rle x z:=by unfold rle at *;omega
theorem cmpI_neg {a b:Int}:cmpI a b<0↔a<b:=by
 unfold cmpI
 (repeat' split)<;>omega
abbrev fvR:Value:=.func (.func 244) #[] #[]
theorem Fs (A:List Rst) (a e:Rst) (R:List Rst):((A++a::e::R).set (A.length+1) a).set A.length e=A++e::a::R:=by
 induction A with
 | nil=>rfl
 | cons x A ih=>simp
theorem midR (A:List Rst) (e:Rst) (R:List Rst):(A++e::R)[A.length]! = e:=by
 rw [getElem!_of (by simp)]
 simp
abbrev xS:List Stp:=[.ev 0,.ev 1,.ev 2,.ev 3,.ev 4,.ev 5,.ev 6,.ev 7,.ev 8,.ev 9,.ev 10,.ev 11,.ev 12,.ev 13,.ef 14,.ev 15,.ev 16]
abbrev xR:List Stp:=[.ev 0,.ev 1,.ev 2,.ev 3,.ev 4,.ev 5,.ev 6,.ev 7,.ev 8,.ev 9,.ev 10,.ev 11,.ev 12,.ev 13,.ev 14,.ef 15,.ev 16,.ef 17]
theorem eO {φ ψ:Prop} (k:ψ) (h:Hid ψ→φ:=by intro k;(with_reducible apply G.d8);first|refine G.d7 (N:=53) (id:=4) xS mixed an (Hid.out k)|refine G.d7 (N:=53) (id:=6) xR mixed an (Hid.out k)):φ:=h ⟨k⟩
theorem BY {L:List HP} (ad:Option Addr) (cap n:Nat) (xs:List Rst) (hn:n=xs.length) (hl:n≤1000) (hx:xs.Pairwise (fun a b=>a.1<b.1)) :
  Tri Tryz.prog 293 #[.slice ad n cap,.int .i64 0,.int .i64 (n:Int),fvR] (osl encR 2 tRst ad cap xs::L) (fun _ L'=>∃ ys,(ys.Perm xs∧ys.Pairwise rle)∧L' = osl encR 2 tRst ad cap ys::L):=by
 refine Tri.body (args:=[.slice ad n cap,.int .i64 0,.int .i64 (n:Int),fvR]) 53 FP Tryz.func293 rfl rfl rfl (by simp) ?_
 repeat first|refine aa ?_|intro _|refine eO ?_
 refine G.loop (α:=Nat×List Rst) (fun z=>1≤z.1∧(z.1≤n∨z.1=1)∧z.2.Perm (xs.take z.1)∧z.2.Pairwise rle) (fun z=>[(0,.slice ad n cap),(1,.int .i64 0),(2,.int .i64 (n:Int)),(3,fvR),(8,.int .i64 (z.1:Int))]) (fun z=>osl encR 2 tRst ad cap (z.2++xs.drop z.1)::L) (fun z=>n - z.1) (1,xs.take 1) ⟨aw _,.inr rfl,List.Perm.refl _,?_⟩ ai (by dsimp only;rw [dT];exact Ent.refl _) ?_
 ·cases xs with
  | nil=>simp
  | cons x r=>simp
 rintro ⟨i,P⟩ ⟨hi1,hi2,hp,hs⟩
 dsimp only at hi1 hi2 hp hs ⊢
 have hpl:=hp.length_eq
 rw [ba] at hpl
 by_cases hlt:i<n
 case neg =>
  have e0:xs.drop i=[]:=aY ab
  rw [aA ab] at hp
  rw [e0,aV]
  repeat first|refine aa ?_|intro _|refine eO ?_
  exact KX.e8 ag (Ent.refl _) ⟨P,⟨hp,hs⟩,rfl⟩
 obtain ⟨e,he⟩:∃ e,e=xs[i]!:=⟨_,rfl⟩
 obtain ⟨C,hC⟩:∃ C,C=xs.drop (i+1):=⟨_,rfl⟩
 have hys:P++xs.drop i=P++e::([]++C):=by
  rw [he,hC,ew (show i<xs.length by omega),aj]
 have hlow:∀ a∈P,a.1<e.1:=fun a ha=>by
  have h1:=hp.mem_iff.1 ha
  obtain ⟨j,hj,e1⟩:=List.mem_iff_getElem.1 h1
  rw [ba] at hj
  rw [eK] at e1
  have h2:=(List.pairwise_iff_getElem.1 hx) j i ab ab ab
  rw [e1,← getElem!_of ab,← he] at h2
  exact h2
 have hPt:(P++[e]).Perm (xs.take (i+1)):=by
  rw [ay (show i<xs.length by omega),← getElem!_of (show i<xs.length by omega),← he]
  exact hp.append_right _
 rw [hys]
 have hPl:P.length=i:=ab
 have hCl:i+1+C.length=n:=by rw [hC,cL];omega
 repeat first|refine aa ?_|intro _|refine eO ?_
 refine G.loop (α:=Nat×List Rst×List Rst) (fun z=>z.2.1.length=z.1∧z.1+z.2.2.length=i∧(z.2.1++z.2.2).Perm P∧(z.2.1++z.2.2).Pairwise rle∧∀ b∈z.2.2,rle e b) (fun z=>[(0,.slice ad n cap),(1,.int .i64 0),(2,.int .i64 (n:Int)),(3,fvR),(8,.int .i64 (i:Int)),(9,.int .i64 (z.1:Int))]) (fun z=>osl encR 2 tRst ad cap (z.2.1++e::(z.2.2++C))::L) (fun z=>z.1) (i,P,[]) ⟨hPl,rfl,by dsimp only;rw [aV],by dsimp only;rw [aV];exact hs,fun b hb=>absurd hb aO⟩ ai (Ent.refl _) ?_
 rintro ⟨j,A,B⟩ ⟨hA,hAB,hp2,hs2,hB⟩
 dsimp only at hA hAB hp2 hs2 hB ⊢
 have hcl:(A++e::(B++C)).length=n:=by
  rw [ax,bj,ax]
  omega
 have hfp:(A++e::B).Perm (xs.take (i+1)):=by
  refine List.Perm.trans ?_ hPt
  refine List.perm_middle.trans ?_
  exact (List.Perm.cons e hp2).trans (dA e P).symm
 have hout:A++e::(B++C)=(A++e::B)++xs.drop (i+1):=by rw [← hC];simp
 by_cases hj0:j=0
 ·have hAn:A=[]:=aQ ab
  subst hAn
  repeat first|refine aa ?_|intro _|refine eO ?_
  refine ⟨(i+1,[]++e::B),⟨by dsimp only;omega,.inl (by dsimp only;omega),hfp,?_⟩,by dsimp only;omega,?_,by rw [hout];exact Ent.refl _⟩
  ·dsimp only
   rw [aj,List.pairwise_cons]
   exact ⟨hB,by simpa using hs2⟩
  ·dsimp only
   rw [aM i]
   exact ai
 obtain ⟨A',a,hA'⟩:∃ A' a,A=A'++[a]:=by
  rcases List.eq_nil_or_concat A with h|⟨A',a,h⟩
  ·rw [h] at hA;exact absurd hA.symm hj0
  ·exact ⟨A',a,by simpa using h⟩
 subst hA'
 have hAl:A'.length+1=j:=by simpa using hA
 have hcur:A'++[a]++e::(B++C)=A'++a::e::(B++C):=by simp
 rw [hcur] at hcl hout ⊢
 have hje:(A'++a::e::(B++C))[(j:Int).toNat]! = e:=by
  have:=midR (A'++[a]) e (B++C)
  rw [hcur] at this
  rw [show (j:Int).toNat=(A'++[a]).length by simp;omega]
  exact this
 have hja:(A'++a::e::(B++C))[((j:Int) - 1).toNat]! = a:=by
  rw [show ((j:Int) - 1).toNat=A'.length by omega]
  exact midR A' a (e::(B++C))
 have halow:a.1<e.1:=hlow a (hp2.mem_iff.1 (by simp))
 repeat first|refine aa ?_|intro _|refine eO ?_
 rw [hje,hja]
 refine GPW.ef (Ef.d9 rfl rfl (CF e a)) ac ?_
 rintro _ _ ⟨rfl,rfl⟩
 by_cases hk:a.2<e.2
 case neg =>
  have hc0:¬cmpI a.2 e.2<0:=fun h=>hk (cmpI_neg.1 h)
  have hae:rle a e:=by unfold rle;omega
  repeat first|refine aa ?_|intro _|refine eO ?_
  refine ⟨(i+1,A'++[a]++e::B),⟨by dsimp only;omega,.inl (by dsimp only;omega),hfp,?_⟩,by dsimp only;omega,?_,by rw [hout];exact Ent.refl _⟩
  ·dsimp only
   rw [List.pairwise_append] at hs2 ⊢
   obtain ⟨s1,s2,s3⟩:=hs2
   refine ⟨s1,List.pairwise_cons.2 ⟨hB,s2⟩,?_⟩
   have hall:∀ x∈A'++[a],rle x e:=by
    intro x hx
    rcases List.mem_append.1 hx with hx|hx
    ·exact Bs ((List.pairwise_append.1 s1).2.2 x hx a (by simp)) hae
    ·rw [List.mem_singleton] at hx;subst hx;exact hae
   intro x hx y hy
   rcases List.mem_cons.1 hy with rfl|hy
   ·exact hall x hx
   ·exact s3 x hx y hy
  ·dsimp only
   rw [aM i]
   exact ai
 ·have hc0:cmpI a.2 e.2<0:=cmpI_neg.2 hk
  repeat first|refine aa ?_|intro _|refine eO ?_
  refine GPW.efu (Ef.e8 (enc:=encR) (e:=(A'++a::e::(B++C))[((j:Int) - 1).toNat]!) rfl rfl (by rfl) (by rfl) (nz _) ab) ?_
  rintro _ _ rfl
  have hsl:((A'++a::e::(B++C)).set (j:Int).toNat (A'++a::e::(B++C))[((j:Int) - 1).toNat]!).length=n:=by rw [bg];exact hcl
  repeat first|refine aa ?_|intro _|refine eO ?_
  refine GPW.efu (Ef.e8 (enc:=encR) (e:=(A'++a::e::(B++C))[(j:Int).toNat]!) rfl rfl (by rfl) (by rfl) (nz _) ab) ?_
  rintro _ _ rfl
  have hsw:((A'++a::e::(B++C)).set (j:Int).toNat (A'++a::e::(B++C))[((j:Int) - 1).toNat]!).set ((j:Int) - 1).toNat (A'++a::e::(B++C))[(j:Int).toNat]! = A'++e::((a::B)++C):=by
   rw [hje,hja,show ((j:Int) - 1).toNat=A'.length by omega,show (j:Int).toNat=A'.length+1 by omega,Fs]
   rfl
  rw [hsw]
  repeat first|refine aa ?_|intro _|refine eO ?_
  refine ⟨(j - 1,A',a::B),⟨by dsimp only;omega,by dsimp only;simp;omega,?_,?_,?_⟩,by dsimp only;omega,?_,Ent.refl _⟩
  ·dsimp only
   simpa using hp2
  ·dsimp only
   simpa using hs2
  ·intro b hb
   rcases List.mem_cons.1 hb with rfl|hb
   ·exact .inl hk
   ·exact hB b hb
  ·dsimp only
   rw [show ((j - 1:Nat):Int)=(j:Int) - 1 by omega]
   exact ai
theorem wu {L:List HP} (ad:Option Addr) (cap n:Nat) (xs:List Rst) (hn:n=xs.length) (hl:n<20) (hx:xs.Pairwise (fun a b=>a.1<b.1)) :
  Tri Tryz.prog 277 #[.slice ad n cap,.int .i64 (n:Int),fvR] (osl encR 2 tRst ad cap xs::L) (fun _ L'=>∃ ys,(ys.Perm xs∧ys.Pairwise rle)∧L' = osl encR 2 tRst ad cap ys::L):=by
 refine Tri.body (args:=[.slice ad n cap,.int .i64 (n:Int),fvR]) 63 FV Tryz.func277 rfl rfl rfl (by simp) ?_
 repeat first|refine aa ?_|intro
 refine G.e9 1 (GR.step ?_)
 repeat first|refine aa ?_|intro
 refine GO.ef (Ef.d7 (BY ad cap n xs hn ab hx) rfl) ac ?_
 rintro _ _ ⟨ys,hys,rfl⟩
 repeat first|refine aa ?_|intro
 refine G.e9 1 (GR.step ?_)
 repeat first|refine aa ?_|intro
 exact KX.e8 ag (Ent.refl _) ⟨ys,hys,rfl⟩
theorem qT {L:List HP} (ad:Option Addr) (cap n:Nat) (xs:List Rst) (hn:n=xs.length) (hl:n<20) (hx:xs.Pairwise (fun a b=>a.1<b.1)) :
  Tri Tryz.prog 243 #[.slice ad n cap,fvR] (osl encR 2 tRst ad cap xs::L) (fun _ L'=>∃ ys,(ys.Perm xs∧ys.Pairwise rle)∧L' = osl encR 2 tRst ad cap ys::L):=by
 refine Tri.body (args:=[.slice ad n cap,fvR]) 9 Gt Tryz.func243 rfl rfl rfl (by simp) ?_
 repeat first|refine aa ?_|intro
 refine GO.ef (Ef.d7 (wu ad cap n xs hn hl hx) rfl) ac ?_
 rintro _ _ ⟨ys,hys,rfl⟩
 repeat first|refine aa ?_|intro
 exact KX.e8 ag (Ent.refl _) ⟨ys,hys,rfl⟩
end
section
open Go.V
attribute [local irreducible] G GO GP GPW GPK Ev Ef EfR Ent CB GB V.Enters
def jo (n i:Nat) (f:Nat→Int):List Rst:=(List.range n).map (fun k:Nat=>if k<i then ((k:Int),f k) else (0,0))
theorem Cs (n i:Nat) (f:Nat→Int):(jo n i f).length=n:=by simp [jo]
theorem AC (n:Nat) (f:Nat→Int):jo n 0 f=List.replicate n (0,0):=by
 apply dh
 ·simp [jo]
 ·intro i h1 h2;simp [jo]
theorem Cr {n i:Nat} (f:Nat→Int) (h:i<n):(jo n i f).set i ((i:Int),f i)=jo n (i+1) f:=by
 apply dh
 ·simp [jo]
 ·intro j h1 h2
  rw [fg]
  simp only [jo,el,List.getElem_range]
  by_cases hj:i=j
  ·subst hj;simp
  ·rw [if_neg hj]
   by_cases h3:j<i
   ·rw [if_pos h3,if_pos ab]
   ·rw [if_neg h3,if_neg ab]
theorem th (n:Nat) (f:Nat→Int):jo n n f=(List.range n).map (fun k:Nat=>((k:Int),f k)):=by
 apply cH
 intro k hk
 rw [if_pos (List.mem_range.1 hk)]
theorem Cq (n:Nat) (f:Nat→Int):(jo n n f).Pairwise (fun a b=>a.1<b.1):=by
 rw [th,List.pairwise_map]
 refine List.pairwise_lt_range.imp (fun {a b} h=>?_)
 dsimp only
 omega
theorem BM {L:List HP} (n w:Int) (h0:0≤n) (h1:n≤1099511627776) (h2:0≤w) (h3:w≤1099511627776) :
  Tri Tryz.prog 241 #[.int .u64 n,.int .u64 w] L (fun v L'=>v=.tuple #[.int .u64 (n*w / 18446744073709551616),.int .u64 (n*w % 18446744073709551616)]∧L' = L):=by
 obtain ⟨nN,rfl⟩:∃ nN:Nat,n=(nN:Int):=⟨n.toNat,ab⟩
 obtain ⟨wN,rfl⟩:∃ wN:Nat,w=(wN:Int):=⟨w.toNat,ab⟩
 have e1:(nN:Int)*(wN:Int) / 18446744073709551616=((nN*wN / 18446744073709551616:Nat):Int):=by rw [Int.natCast_ediv,fk];rfl
 have e2:(nN:Int)*(wN:Int) % 18446744073709551616=((nN*wN % 18446744073709551616:Nat):Int):=by rw [Int.natCast_emod,fk];rfl
 rw [e1,e2]
 exact rn nN wN ab ab
theorem CA {L:List HP} (p y:Int) (h0:0≤p) (h1:0<y) (h2:y≤1152921504606846976) (h3:p / 18446744073709551616<y) :
  Tri Tryz.prog 242 #[.int .u64 (p / 18446744073709551616),.int .u64 (p % 18446744073709551616),.int .u64 y] L (fun v L'=>v=.tuple #[.int .u64 (p / y),.int .u64 (p % y)]∧L' = L):=by
 obtain ⟨pN,rfl⟩:∃ pN:Nat,p=(pN:Int):=⟨p.toNat,ab⟩
 obtain ⟨yN,rfl⟩:∃ yN:Nat,y=(yN:Int):=⟨y.toNat,ab⟩
 have e1:(pN:Int) / 18446744073709551616=((pN / 18446744073709551616:Nat):Int):=by rw [Int.natCast_ediv];rfl
 have e2:(pN:Int) % 18446744073709551616=((pN % 18446744073709551616:Nat):Int):=by rw [Int.natCast_emod];rfl
 have e:=eA pN 18446744073709551616
 rw [dM] at e
 rw [e1] at h3
 rw [e1,e2,← Int.natCast_ediv,← Int.natCast_emod]
 have h:=rE (L:=L) (pN / 18446744073709551616) (pN % 18446744073709551616) yN ab ab ab
 rw [e] at h
 exact h
theorem pt {L:List HP} (ad:Option Addr) (n c:Nat) (l:List Lot) (m:Int) [hr:Rds L ad Lot ah 3 l] (hn:n=l.length) (hll:l.length<20) (hl:∀ x∈l,LotOk x) (hne:l≠[]) (h0:0≤m) (h1:m≤lsum l) (h2:m≤1099511627776) :
  Tri Tryz.prog 155 #[.slice ad n c,.int .i64 m] L (fun v L'=>∃ ad' cap',v=.slice ad' l.length cap'∧L' = osl (encZ .i64) 1 tInt ad' cap' ((List.range l.length).map (shC l m))::L):=by
 subst hn
 have hlen:0<l.length:=List.length_pos_iff.2 hne
 have hs:=jf hl hlen
 have hsb:=fX hl l.length (aw _)
 rw [gi] at hsb
 refine Tri.body (args:=[.slice ad l.length c,.int .i64 m]) 96 HX Tryz.func155 rfl rfl rfl (by simp) ?_
 repeat first|refine aa ?_|intro
 refine G.loop (α:=Nat) (fun i=>i≤l.length) (fun i=>[(0,.slice ad l.length c),(1,.int .i64 m),(5,.int .i64 (lsum (l.take i))),(19,.slice ad l.length c),(20,.int .i64 l.length),(21,.int .i64 (i:Int))]) (fun _=>L) (fun i=>l.length - i) 0 (al _) ai (Ent.refl _) ?_
 intro i hi
 by_cases hlt:i<l.length
 case pos =>
  have hii:(i:Int).toNat=i:=av i
  have hlt' : (i:Int).toNat<l.length:=ab
  have hok:=hl _ (aG hlt)
  unfold LotOk at hok
  have hb1:=fX hl i ab
  have hb2:=dI l hlt
  have hok2:1≤l[(i:Int).toNat]!.2.2∧l[(i:Int).toNat]!.2.2≤1099511627776:=by rw [hii];omega
  repeat first|refine aa ?_|intro
  refine ⟨i+1,ab,ab,?_,by exact ae⟩
  rw [hb2,aM i,show l[i]! = l[(i:Int).toNat]! by rw [hii]]
  exact ai
 obtain rfl:i=l.length:=ab
 rw [gi]
 repeat first|refine aa ?_|intro
 refine GO.ef (Ef.makeSlice (encZ .i64) 0 rfl rfl rfl ab ab ab) ac ?_
 rintro _ _ ⟨bp,rfl,rfl⟩
 rw [av,← jp l.length (shQ l m)]
 repeat first|refine aa ?_|intro
 refine GO.ef (Ef.g7 encR ((0,0):Rst) rfl rfl rfl ab ab ab ab) ac ?_
 rintro _ _ ⟨br,rfl,rfl⟩
 rw [av,← AC l.length (shR l m)]
 repeat first|refine aa ?_|intro
 refine G.loop (α:=Nat) (fun i=>i≤l.length) (fun i=>[(1,.int .i64 m),(5,.int .i64 (lsum l)),(8,.slice (some ⟨bp,0,none⟩) l.length l.length),(9,.slice (some ⟨br,0,none⟩) l.length l.length),(10,.int .i64 (m - cF i (shQ l m))),(37,.slice ad l.length c),(38,.int .i64 l.length),(39,.int .i64 (i:Int))]) (fun i=>osl (encZ .i64) 1 tInt (some ⟨bp,0,none⟩) l.length (fq l.length i (shQ l m))::osl encR 2 tRst (some ⟨br,0,none⟩) l.length (jo l.length i (shR l m))::L) (fun i=>l.length - i) 0 (al _) ?_ ae ?_
 ·rw [jl,eJ]
  exact ai
 clear hi hlt
 intro i hi
 have hf1:=ji l.length i (shQ l m)
 have hf2:=Cs l.length i (shR l m)
 by_cases hlt:i<l.length
 case pos =>
  have hii:(i:Int).toNat=i:=av i
  have hlt' : (i:Int).toNat<l.length:=ab
  have hok:=hl _ (aG hlt)
  unfold LotOk at hok
  have hok2:1≤l[(i:Int).toNat]!.2.2∧l[(i:Int).toNat]!.2.2≤1099511627776:=by rw [hii];omega
  obtain ⟨q1,q2⟩:=iM hl h0 h1 hlt
  have hr0:0≤shR l m i:=cN _ ab
  have hr1:shR l m i<lsum l:=cX _ hs
  repeat first|refine aa ?_|intro
  have hmw:m*l[(i:Int).toNat]!.2.2=m*l[i]!.2.2:=by rw [hii]
  have hpw:0≤m*l[i]!.2.2:=da h0 ab
  have hpb:m*l[i]!.2.2≤1099511627776*1099511627776:=dX h2 ab ab ac
  have hlt64:m*l[i]!.2.2 / 18446744073709551616<lsum l:=by
   have h5:shQ l m i≤1099511627776:=ab
   unfold shQ at h5
   have h6:=Int.lt_ediv_add_one_mul_self (m*l[i]!.2.2) hs
   have h7:(m*l[i]!.2.2 / lsum l+1)*lsum l≤1099511627777*lsum l:=bH ab ab
   omega
  refine GO.ef (Ef.d7 (BM m l[(i:Int).toNat]!.2.2 h0 h2 ab ab) rfl) ac ?_
  rintro _ _ ⟨rfl,rfl⟩
  rw [hmw]
  repeat first|refine aa ?_|intro
  refine GO.ef (Ef.d7 (CA (m*l[i]!.2.2) (lsum l) hpw hs ab hlt64) rfl) ac ?_
  rintro _ _ ⟨rfl,rfl⟩
  rw [show m*l[i]!.2.2 / lsum l=shQ l m i from rfl,show m*l[i]!.2.2 % lsum l=shR l m i from rfl]
  repeat first|refine aa ?_|intro
  refine GO.efu (Ef.e8 (enc:=encR) (e:=((i:Int),shR l m i)) rfl rfl (by rfl) (by rfl) (nz ((i:Int),shR l m i)) ab) ?_
  rintro _ _ rfl
  have hsq:0≤cF i (shQ l m)∧cF i (shQ l m)≤lsum (l.take i):=by
   rw [show lsum (l.take i)=cF i (fun k=>l[k]!.2.2) by unfold cF;rw [kZ l i hi]]
   refine ⟨?_,ki (fun k hk=>(iM hl h0 h1 ab).2)⟩
   have:=ki (n:=i) (f:=fun _=>0) (g:=shQ l m) (fun k hk=>(iM hl h0 h1 ab).1)
   rw [mh] at this
   omega
  have hb1:=fX hl i ab
  have hss:=dH i (shQ l m)
  repeat first|refine aa ?_|intro
  rw [hii,jQ (shQ l m) hlt,Cr (shR l m) hlt]
  refine ⟨i+1,ab,ab,?_,by exact ae⟩
  rw [hss,show m - (cF i (shQ l m)+shQ l m i)=m - cF i (shQ l m) - shQ l m i by omega,aM i]
  exact ai
 obtain rfl:i=l.length:=ab
 rw [jR,← jK]
 obtain ⟨hl1,hl2⟩:=kH (n:=m) hl hne
 repeat first|refine aa ?_|intro _
 (first|refine GO.ef (Ef.call (qT (L:=[]) (some ⟨br,0,none⟩) l.length l.length (jo l.length l.length (shR l m)) hf2.symm hll (Cq _ _)) rfl (by repeat (first|exact Ent.refl _|apply Ent.take))) ac ?_)
 rintro _ _ ⟨_,⟨ys,⟨hyp,hys⟩,rfl⟩,hL⟩
 simp only [aq,aj] at hL;subst hL
 rw [th] at hyp
 obtain ⟨o,ho⟩:∃ o,o=ys.map (fun r:Rst=>r.1.toNat):=⟨_,rfl⟩
 have hyo:o.Perm (List.range l.length):=by
  have:=hyp.map (fun r:Rst=>r.1.toNat)
  rw [List.map_map,show ((fun r:Rst=>r.1.toNat) ∘ fun k:Nat=>((k:Int),shR l m k))=id from rfl,List.map_id] at this
  rw [ho]
  exact this
 have hyr:o.Pairwise (rkLt (shR l m)):=by
  rw [ho,List.pairwise_map]
  refine hys.imp_of_mem (fun {a b} ha hb h=>?_)
  obtain ⟨k,_,rfl⟩:=List.mem_map.1 (hyp.mem_iff.1 ha)
  obtain ⟨j,_,rfl⟩:=List.mem_map.1 (hyp.mem_iff.1 hb)
  unfold rle at h
  unfold rkLt
  show shR l m (j:Int).toNat<shR l m (k:Int).toNat∨_
  rw [av,av]
  dsimp only at h ⊢
  omega
 have hoL:o.length=l.length:=by have:=hyo.length_eq;simpa using this
 have hyl:ys.length=l.length:=by have:=hyp.length_eq;simpa using this
 have hyg:∀ i,i<ys.length→ys[i]!.1=(o[i]! : Int):=fun i hi=>by
  have h3:o[i]! = ys[i]!.1.toNat:=by rw [ho,ez _ hi]
  have h4:=hyp.mem_iff.1 (aG hi)
  obtain ⟨k,_,e⟩:=List.mem_map.1 h4
  rw [h3,← e]
  show (k:Int)=((k:Int).toNat:Int)
  omega
 have hob:∀ i,i<o.length→o[i]! < l.length:=fun i hi=>List.mem_range.1 (hyo.mem_iff.1 (aG hi))
 clear hys hyp ho hi hlt hf1 hf2
 repeat first|refine aa ?_|intro
 obtain ⟨lf,hlf⟩:∃ lf:Nat,lf=(eU l m).toNat:=⟨_,rfl⟩
 rw [← hlf]
 have hlfl:lf<l.length:=ab
 refine G.loop (α:=Nat) (fun i=>i≤lf) (fun i=>[(8,.slice (some ⟨bp,0,none⟩) l.length l.length),(81,.slice (some ⟨br,0,none⟩) lf l.length),(82,.int .i64 (lf:Int)),(83,.int .i64 (i:Int))])
  (fun i=>osl encR 2 tRst (some ⟨br,0,none⟩) l.length ys::osl (encZ .i64) 1 tInt (some ⟨bp,0,none⟩) l.length ((List.range l.length).map (fun k=>shQ l m k+if k∈o.take i then 1 else 0))::L) (fun i=>lf - i) 0 (al _) ai ?_ ?_
 ·have e:(List.range l.length).map (fun k=>shQ l m k+if k∈o.take 0 then 1 else 0)=(List.range l.length).map (shQ l m):=cH (fun k _=>by simp)
  rw [e]
  exact ae
 intro i hi
 by_cases hlt:i<lf
 case neg =>
  have e:(List.range l.length).map (fun k=>shQ l m k+if k∈o.take i then 1 else 0)=(List.range l.length).map (shC l m):=by
   apply cH
   intro k hk
   have hk2:=List.mem_range.1 hk
   unfold shC
   rw [mX]
   congr 1
   have h3:=gD hyo hyr (m:=i) hk2
   by_cases h4:dO (shR l m) l.length k<i
   ·rw [if_pos (h3.2 h4),if_pos ab]
   ·rw [if_neg (fun h=>h4 (h3.1 h)),if_neg ab]
  rw [e]
  repeat first|refine aa ?_|intro
  exact KX.d7 ag ae ⟨some ⟨bp,0,none⟩,l.length,rfl,rfl⟩
 have hii:(i:Int).toNat=i:=ab
 have hio:i<o.length:=ab
 have hob1:=hob i hio
 have hyi:=hyg i ab
 have hpl:((List.range l.length).map (fun k=>shQ l m k+if k∈o.take i then 1 else 0)).length=l.length:=by simp
 have hpg:((List.range l.length).map (fun k=>shQ l m k+if k∈o.take i then 1 else 0))[o[i]!]! = shQ l m o[i]!:=by
  rw [fZ hob1,if_neg,Int.add_zero]
  intro hmem
  have h3:=(gD hyo hyr hob1).1 hmem
  rw [getElem!_of hio,iO hyo hyr hio] at h3
  omega
 obtain ⟨q1,q2⟩:=iM hl h0 h1 hob1
 have hok:=hl _ (aG hob1)
 unfold LotOk at hok
 have hoi:((o[i]! : Nat):Int).toNat=o[i]!:=ab
 have hlt' : (i:Int).toNat<ys.length:=ab
 repeat first|refine aa ?_|intro
 rw [hii,hyi]
 repeat first|refine aa ?_|intro
 rw [hoi,hpg]
 repeat first|refine aa ?_|intro
 have e:((List.range l.length).map (fun k=>shQ l m k+if k∈o.take i then 1 else 0)).set o[i]! (shQ l m o[i]! + 1)=(List.range l.length).map (fun k=>shQ l m k+if k∈o.take (i+1) then 1 else 0):=by
  apply dh
  ·simp
  ·intro k h3 h4
   have hk:k<l.length:=by simpa using h4
   rw [fg]
   simp only [el,List.getElem_range]
   have m1:=gD hyo hyr (m:=i) hk
   have m2:=gD hyo hyr (m:=i+1) hk
   by_cases h5:o[i]! = k
   ·subst h5
    have h6:dO (shR l m) l.length o[i]! = i:=by rw [getElem!_of hio];exact iO hyo hyr hio
    rw [if_pos rfl,if_pos (m2.2 ab)]
   ·rw [if_neg h5]
    congr 1
    have h6:dO (shR l m) l.length k≠i:=by
     intro h7
     refine h5 (rg (R:=shR l m) hob1 hk ?_)
     rw [h7,getElem!_of hio]
     exact iO hyo hyr hio
    by_cases h7:dO (shR l m) l.length k<i
    ·rw [if_pos (m1.2 h7),if_pos (m2.2 ab)]
    ·rw [if_neg (fun h=>h7 (m1.1 h)),if_neg (fun h=>absurd (m2.1 h) ab)]
 try rw [hoi]
 rw [e]
 refine ⟨i+1,ab,ab,?_,by exact ae⟩
 rw [aM i]
 exact ai
end
end Go.Proofs.YtommnllbflbdmaaGreatDoor
