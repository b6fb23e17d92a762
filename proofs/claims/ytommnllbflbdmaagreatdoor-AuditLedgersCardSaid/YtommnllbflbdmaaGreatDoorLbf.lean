/- Lemmas. -/
import Derived.Test.YtommnllbflbdmaaGreatDoorLbe
set_option linter.all false
set_option maxHeartbeats 4000000
namespace Go.Proofs.YtommnllbflbdmaaGreatDoor
section
open Go.V
attribute [local irreducible] G GO GP GPW GPK Ev Ef EfR Ent CB GB V.Enters
theorem En{ys:LL}{i:Nat}(h:i<ys.length)(f:Int):ofF (ys.take (i+1)) f=if ys[i]!.1=f then ofF (ys.take i) f++[ys[i]!] else ofF (ys.take i) f:=by
 rw[aC h,getElem!_of h];unfold ofF;rw[dJ];by_cases e:ys[i].1=f
 ·rw[if_pos e,cu (by simpa using e)];rfl
 ·rw[if_neg e,cv (by simpa using e),List.filter_nil,ba]
theorem pL(ys:LL)(f:Int):(ofF ys f).length≤ys.length:=List.length_filter_le _ _
abbrev yP:List Stp:=[.ev 0,.ev 1,.ev 2,.ev 3,.ev 4,.ev 5,.ev 6,.ev 7,.ef 8,.ef 9,.ef 10]
abbrev vX:List Stp:=[.ev 0,.ev 1,.ev 2,.ev 3,.ev 4,.ev 6,.ef 5,.ef 7,.ev 8,.ev 9,.ev 10]
abbrev vW:List Stp:=[.ev 0,.ev 1,.ev 2,.ev 3,.ev 4,.ev 6,.ef 5,.ev 7,.ef 8,.ev 9]
theorem cF{φ ψ:Prop}(k:ψ)(h:Hid ψ→φ:=by intro k;(with_reducible apply G.d8);first|refine G.d7 (N:=98) (id:=6) yP mixed ap (Hid.out k)|refine G.d7 (N:=98) (id:=17) vX mixed ap (Hid.out k)|refine G.d7 (N:=98) (id:=23) vW mixed ap (Hid.out k)):φ:=h ⟨k⟩
set_option maxRecDepth 10000 in
theorem ve{L:LH}(ad:OA)(n c:Nat)(stack:LL)[hr:Rds L ad Lot an 3 stack](ad2:OA)(n2 c2:Nat)(ps:LL)[hr2:Rds L ad2 Lot an 3 ps](hn:n=stack.length)(hn2:n2=ps.length)(hs:∀x∈stack,LotOk x)(hsl:stack.length≤4096)(hp:∀x∈ps,LotOk x)(hpl:ps.length≤4096)(ha:Apart ps) :
  Tri ah 153 #[.slice ad n c,.slice ad2 n2 c2] L (fun v L'=>∃ad' cap',v=.tuple #[.slice ad' (eh stack ps).length cap',.bool (dB (lsum ps - OO ps stack=0))]∧L' = osl an 3 tLot ad' cap' (eh stack ps)::L):=by
 subst hn hn2;refine Tri.body (args:=[.slice ad stack.length c,.slice ad2 ps.length c2]) 98 Ju Tryz.func153 rfl rfl rfl (by simp) ?_;repeat first|refine aa ?_|intro _|refine cF ?_
 refine GO.ef (Ef.f7 kvI Stk.v (.inl rfl)) ae ?_;rintro _ _⟨bm,rfl,rfl⟩;repeat first|refine aa ?_|intro _|refine cF ?_
 refine GO.ef (Ef.d7 (qz ad2 ps.length c2 ps rfl ac) rfl) ae ?_;rintro _ _⟨ady,cy,ys,rfl,hys,rfl⟩;have hyl:=hys.1.length_eq;have hyo:∀x∈ys,LotOk x:=fun x hx=>hp x (hys.1.mem_iff.1 hx);repeat first|refine aa ?_|intro _|refine cF ?_
 refine G.loop (α:=Nat×List (Int×Stk)) (fun g=>g.1≤ys.length∧((g.2.map (·.1)).Nodup∧(∀f,(eW g.2 f).lots=ofF (ys.take g.1) f))∧0≤lsum (ys.take g.1)∧lsum (ys.take g.1)≤(g.1:Int)*1099511627776) (fun g=>[(0,.slice ad stack.length c),(6,.map (some bm)),(7,ab (lsum (ys.take g.1))),(20,.slice ady ys.length cy),(21,ab ys.length),(22,ab (g.1:Int))]) (fun g=>gmap kvI Stk.v bm g.2::bigO fk g.2::osl an 3 tLot ady cy ys::L) (fun g=>ys.length - g.1) (0,[]) ⟨ao _,⟨List.nodup_nil,fun _=>rfl⟩,bu _,bu _⟩ aj (Ent.trans ag ((Ent.l0 fk).trans ag)) ?_;rintro⟨i,m⟩ ⟨hi,⟨hmn,hml⟩,hb1,hb2⟩;dsimp only at hi hmn hml hb1 hb2 ⊢;by_cases hlt:i<ys.length
 case pos =>
  have hii:(i:Int).toNat=i:=aA i;have hlt' : (i:Int).toNat<ys.length:=ac;have hsum:=dV ys hlt;have hok:=hyo _ (aI hlt);unfold LotOk at hok;have hm2:(i:Int)*1099511627776≤4096*1099511627776:=bX ac ae
  have hm3:((i+1:Nat):Int)*1099511627776=(i:Int)*1099511627776+1099511627776:=by
   rw[Int.natCast_add,Int.add_mul];rfl
  refine G.ent (L':=osl an 3 tLot (eW m ys[(i:Int).toNat]!.1).ad (eW m ys[(i:Int).toNat]!.1).cap (eW m ys[(i:Int).toNat]!.1).lots::bigO fk (gera m ys[(i:Int).toNat]!.1)::gmap kvI Stk.v bm m::osl an 3 tLot ady cy ys::L) (Ent.swap.trans ((qE hmn).trans ag)) ?_
  have hsl2:(eW m ys[(i:Int).toNat]!.1).lots.length≤4096:=by
   rw[hml];refine cB (pL _ _) ?_;rw[aY];omega
  have hv:=pG m ys[(i:Int).toNat]!.1;unfold glk at hv;repeat first|refine aa ?_|intro _|refine cF ?_
  refine GPW.evL (Ev.e8 rfl rfl) ae ?_;rw[hv];repeat first|refine aa ?_|intro _|refine cF ?_
  refine GPK.keep (by rw[←hv];exact Ev.e8 rfl rfl) ?_;repeat first|refine aa ?_|intro _|refine cF ?_
  refine GPW.ef (Ef.d8 (enc:=an) (e:=ys[(i:Int).toNat]!) rfl rfl rfl rfl rfl (by rfl) (cx _) ac ac) ae ?_;rintro _ _⟨ad3,cap3,rfl,rfl⟩;repeat first|refine aa ?_|intro _|refine cF ?_
  refine GPW.efu (Ef.f8 (enc:=Stk.v) (e:=(⟨ad3,cap3,(eW m ys[(i:Int).toNat]!.1).lots++[ys[(i:Int).toNat]!]⟩:Stk)) rfl rfl rfl rfl) ?_;rintro _ _⟨rfl,rfl⟩;have hok2:1≤ys[(i:Int).toNat]!.2.2∧ys[(i:Int).toNat]!.2.2≤1099511627776:=by rw[hii];omega
  repeat first|refine aa ?_|intro _|refine cF ?_
  refine⟨(i+1,gins m ys[(i:Int).toNat]!.1 ⟨ad3,cap3,(eW m ys[(i:Int).toNat]!.1).lots++[ys[(i:Int).toNat]!]⟩),⟨by dsimp only;omega,⟨lr hmn,fun f=>?_⟩,by dsimp only;rw[hsum];omega,by dsimp only;rw[hsum,hm3];omega⟩,by dsimp only;omega,?_,?_⟩
  ·dsimp only;rw[nx,En hlt,hii];by_cases e:ys[i]!.1=f
   ·rw[if_pos e.symm,if_pos e,hml,e]
   ·rw[if_neg (fun q=>e q.symm),if_neg e];exact hml f
  ·dsimp only;rw[aP i,hsum,show ys[i]! = ys[(i:Int).toNat]! by rw[hii]];exact aj
  ·dsimp only;refine Ent.trans ?_ (Ent.swap.trans (Ent.d7 (Ent.refl _)));refine Ent.trans ?_ (oD (f:=ys[(i:Int).toNat]!.1) hmn ⟨ad3,cap3,(eW m ys[(i:Int).toNat]!.1).lots++[ys[(i:Int).toNat]!]⟩);exact ag
 obtain rfl:i=ys.length:=ac;rw[bG] at hml hb1 hb2 ⊢;have hsum0:lsum ys≤4096*1099511627776:=Int.le_trans hb2 (bX ac ae);refine G.ent (L':=gmap kvI Stk.v bm m::allP stkI m::L) (Ent.swap.trans ((Fw m).trans ag)) ?_;repeat first|refine aa ?_|intro _|refine cF ?_
 refine G.loop (α:=Nat×OA×Nat×LL×Int) (fun g=>g.1≤stack.length∧wAll ys (stack.take g.1) ([],lsum ys)=(g.2.2.2.1,g.2.2.2.2)∧(∀y∈g.2.2.2.1,LotW y)∧g.2.2.2.1.length≤g.1*4097∧-((g.1:Int)*1099511627776)≤g.2.2.2.2∧g.2.2.2.2≤lsum ys) (fun g=>[(6,.map (some bm)),(7,ab g.2.2.2.2),(10,.slice g.2.1 g.2.2.2.1.length g.2.2.1),(41,.slice ad stack.length c),(42,ab stack.length),(43,ab (g.1:Int))]) (fun g=>osl an 3 tLot g.2.1 g.2.2.1 g.2.2.2.1::gmap kvI Stk.v bm m::allP stkI m::L) (fun g=>stack.length - g.1) (0,none,0,[],lsum ys) ⟨ao _,rfl,fun y hy=>absurd hy aT,ao _,by dsimp only;omega,bu _⟩ aj ((Ent.d8 an 3 tLot).trans ag) ?_;clear hi hlt;rintro⟨i,oa,oc,out,mis⟩ ⟨hi,hw,hwo,hol,hm1,hm2⟩;dsimp only at hi hw hwo hol hm1 hm2 ⊢;by_cases hlt:i<stack.length
 case neg =>
  rw[aD ac,DY hys hp ha hs] at hw;obtain⟨e1,e2⟩:=Prod.mk.injEq ..▸hw;rw[e1,e2];repeat first|refine aa ?_|intro _|refine cF ?_
  refine KX.d7 ai ?_ ⟨oa,oc,rfl,rfl⟩;exact ag
 have hii:(i:Int).toNat=i:=aA i;have hlt' : (i:Int).toNat<stack.length:=ac;have hxo:=hs _ (aI hlt)
 have hwn:wAll ys (stack.take (i+1)) ([],lsum ys)=wLot stack[i]! (ofF ys stack[i]!.1) (out,mis):=by
  rw[aC hlt,←getElem!_of hlt];unfold wAll at hw ⊢;rw[cJ,hw];rfl
 have hv:=pG m stack[(i:Int).toNat]!.1;unfold glk at hv;have hlf:=hml stack[(i:Int).toNat]!.1;have hfl:=pL ys stack[(i:Int).toNat]!.1;repeat first|refine aa ?_|intro _|refine cF ?_
 refine GO.ev (Ev.e8 rfl rfl) ae ?_;rw[hv];rw[hlf];repeat first|refine aa ?_|intro _|refine cF ?_
 rename_i b12;clear hv;rw[hii] at hlf hfl ⊢;generalize stack[i]! = x at *;have hord:=zy hys hp ha x.1;have hqo:∀p∈ofF ys x.1,LotOk p∧p.1=x.1:=fun p hp=>⟨hyo p (ofF_mem.1 hp).1,(ofF_mem.1 hp).2⟩;generalize hqs:ofF ys x.1=qs at *;generalize (eW m x.1).cap=qc
 have hget:∀{L:LH},Ent (allP stkI m::L) (isl an 3 (eW m x.1).ad qs::allP stkI m::L):=fun {L}=>by
  have:=Fv m x.1 (L:=L)
  rw[hlf] at this;exact this
 generalize (eW m x.1).ad=qa at *;have hxw:=hxo.w;have hxo2:=hxo;unfold LotOk at hxo2;have hm9:(i:Int)*1099511627776≤4096*1099511627776:=bX ac ae
 have hm3:((i+1:Nat):Int)*1099511627776=(i:Int)*1099511627776+1099511627776:=by
  rw[Int.natCast_add,Int.add_mul];rfl
 have h0:(qs.take 0).foldl (fY x) (out,x.2.1,mis)=(out,x.2.1,mis):=by rw[ce,List.foldl_nil]
 refine G.loop (α:=Nat×OA×Nat×LL×Int×Int) (fun g=>g.1≤qs.length∧(qs.take g.1).foldl (fY x) (out,x.2.1,mis)=(g.2.2.2.1,g.2.2.2.2.1,g.2.2.2.2.2)∧(∀y∈g.2.2.2.1,LotW y)∧g.2.2.2.1.length≤i*4097+g.1∧x.2.1≤g.2.2.2.2.1∧g.2.2.2.2.1≤x.2.1+x.2.2∧mis - (g.2.2.2.2.1 - x.2.1)≤g.2.2.2.2.2∧g.2.2.2.2.2≤mis) (fun g=>[(6,.map (some bm)),(7,ab g.2.2.2.2.2),(10,.slice g.2.1 g.2.2.2.1.length g.2.2.1),(12,au b12),(13,ab g.2.2.2.2.1),(41,.slice ad stack.length c),(42,ab stack.length),(43,ab (i:Int)),(52,.slice qa qs.length qc),(53,ab qs.length),(54,ab (g.1:Int))]) (fun g=>osl an 3 tLot g.2.1 g.2.2.1 g.2.2.2.1::isl an 3 qa qs::obj b12 tLot (an x)::gmap kvI Stk.v bm m::allP stkI m::L) (fun g=>qs.length - g.1) (0,oa,oc,out,x.2.1,mis) (by dsimp only;exact⟨ao _,h0,hwo,ac,bu _,ac,ac,bu _⟩) aj ((Ent.at (A:=allP stkI m) hget).trans ag) ?_;clear hwo hol;rintro⟨k,oa,oc,o2,at_,mi2⟩ ⟨hk,hf,hwo,hol,ha1,ha2,hb3,hb4⟩;dsimp only at hk hf hwo hol ha1 ha2 hb3 hb4 ⊢;by_cases hkl:k<qs.length
 case neg =>
  rw[aD ac] at hf
  have hwl:wLot x qs (out,mis)=(be o2 (x.1,at_,x.2.1+x.2.2 - at_),mi2):=by
   unfold wLot;rw[hf]
  rw[hwl] at hwn;repeat first|refine aa ?_|intro _|refine cF ?_
  refine GPW.ef (Ef.d7 (iG x hxw) rfl) ae ?_;rintro _ _⟨rfl,rfl⟩;repeat first|refine aa ?_|intro _|refine cF ?_
  (first|refine GPW.ef (Ef.call (lO (L:=[]) oa oc o2.length oc o2 (x.1,at_,x.2.1+x.2.2 - at_) rfl rfl ac hwo (by unfold LotW;dsimp only;omega)) rfl (by repeat (first|exact Ent.refl _|apply Ent.take))) ae ?_);rintro _ _⟨_,⟨a5,c5,rfl,rfl⟩,hL⟩;simp only[ax,aq] at hL;subst hL;have hjl:=kj o2 (x.1,at_,x.2.1+x.2.2 - at_);repeat first|refine aa ?_|intro _|refine cF ?_
  refine⟨(i+1,a5,c5,be o2 (x.1,at_,x.2.1+x.2.2 - at_),mi2),⟨by dsimp only;omega,hwn,pO hwo (by unfold LotW;dsimp only;omega),by dsimp only;omega,by dsimp only;rw[hm3];omega,by dsimp only;omega⟩,by dsimp only;omega,?_,by exact ag⟩;dsimp only;rw[aP i];exact aj
 have hkk:(k:Int).toNat=k:=aA k;have hkl' : (k:Int).toNat<qs.length:=ac
 have hft:(qs.take (k+1)).foldl (fY x) (out,x.2.1,mis)=fY x (o2,at_,mi2) qs[k]!:=by
  rw[aC hkl,cJ,hf,getElem!_of hkl];rfl
 have hpo:=(hqo _ (aI hkl)).1;have hpw:=hpo.w;have hpo2:=hpo;unfold LotOk at hpo2;repeat first|refine aa ?_|intro _|refine cF ?_
 have hpw' : LotW qs[(k:Int).toNat]!:=by rw[hkk];exact hpw
 refine GPW.ef (Ef.d7 (iG qs[(k:Int).toNat]! hpw') rfl) ae ?_;rintro _ _⟨rfl,rfl⟩;repeat first|refine aa ?_|intro _|refine cF ?_
 refine GPW.ef (Ef.d7 (iG x hxw) rfl) ae ?_;rintro _ _⟨rfl,rfl⟩
 have hpo3:0≤qs[(k:Int).toNat]!.2.1∧1≤qs[(k:Int).toNat]!.2.2∧qs[(k:Int).toNat]!.2.1+qs[(k:Int).toNat]!.2.2≤1099511627776:=by
  rw[hkk];omega
 by_cases hc:max qs[(k:Int).toNat]!.2.1 at_ ≥ min (qs[(k:Int).toNat]!.2.1+qs[(k:Int).toNat]!.2.2) (x.2.1+x.2.2)
 ·have hstep:fY x (o2,at_,mi2) qs[k]! = (o2,at_,mi2):=by
   rw[hkk] at hc;exact if_pos hc
  rw[hstep] at hft;repeat first|refine aa ?_|intro _|refine cF ?_
  refine⟨(k+1,oa,oc,o2,at_,mi2),⟨by dsimp only;omega,hft,hwo,by dsimp only;omega,ha1,ha2,hb3,hb4⟩,by dsimp only;omega,?_,by exact ag⟩;dsimp only;rw[aP k];exact aj
 ·have hstep:fY x (o2,at_,mi2) qs[k]! = (be o2 (x.1,at_,max qs[(k:Int).toNat]!.2.1 at_ - at_),min (qs[(k:Int).toNat]!.2.1+qs[(k:Int).toNat]!.2.2) (x.2.1+x.2.2),mi2 - (min (qs[(k:Int).toNat]!.2.1+qs[(k:Int).toNat]!.2.2) (x.2.1+x.2.2) - max qs[(k:Int).toNat]!.2.1 at_)):=by
   rw[hkk] at hc ⊢;exact if_neg hc
  rw[hstep] at hft;repeat first|refine aa ?_|intro _|refine cF ?_
  obtain⟨fr,hfr⟩:∃fr,fr=max qs[(k:Int).toNat]!.2.1 at_:=⟨_,rfl⟩;obtain⟨to,hto⟩:∃to,to=min (qs[(k:Int).toNat]!.2.1+qs[(k:Int).toNat]!.2.2) (x.2.1+x.2.2):=⟨_,rfl⟩;rw[←hfr,←hto] at hft;rw[←hfr,←hto];rw[←hfr,←hto] at hc;have hf1:at_≤fr:=ac;have hf2:fr<to:=ac;have hf3:to≤x.2.1+x.2.2:=ac;clear hstep;(first|refine GO.ef (Ef.call (lO (L:=[]) oa oc o2.length oc o2 (x.1,at_,fr - at_) rfl rfl ac hwo (by unfold LotW;dsimp only;omega)) rfl (by repeat (first|exact Ent.refl _|apply Ent.take))) ae ?_);rintro _ _⟨_,⟨a5,c5,rfl,rfl⟩,hL⟩;simp only[ax,aq] at hL;subst hL;have hjl:=kj o2 (x.1,at_,fr - at_);repeat first|refine aa ?_|intro _|refine cF ?_
  refine⟨(k+1,a5,c5,be o2 (x.1,at_,fr - at_),to,mi2 - (to - fr)),⟨by dsimp only;omega,hft,pO hwo (by unfold LotW;dsimp only;omega),by dsimp only;omega,by dsimp only;omega,hf3,by dsimp only;omega,by dsimp only;omega⟩,by dsimp only;omega,?_,by exact ag⟩;dsimp only;rw[aP k];exact aj
abbrev Rst:=Int×Int
def encR(x:Rst):LV:=[ab x.1,.int .u64 x.2]
theorem nY(t:Rst):∀u∈encR t,u.oneCell' = true:=by simp[encR,Value.oneCell']
instance:EncC encR:=⟨nY⟩
abbrev tRst:Nat:=290
theorem DK{L:LH}(x y:Rst):Tri ah 244 #[.agg (encR x).toArray,.agg (encR y).toArray] L (fun v L'=>v=ab (cmpI y.2 x.2)∧L' = L):=by
 refine Tri.body (args:=[.agg (encR x).toArray,.agg (encR y).toArray]) 10 HT Tryz.func244 rfl rfl rfl (by simp) ?_;repeat first|refine aa ?_|intro
 refine GO.ef (Ef.d7 (uj y.2 x.2) rfl) ae ?_;rintro _ _⟨rfl,rfl⟩;repeat first|refine aa ?_|intro
 exact KX.d7 ai ag ⟨rfl,rfl⟩
def rle(x y:Rst):Prop:=y.2<x.2∨(x.2=y.2∧x.1<y.1)
theorem Cv{x y z:Rst}(h:rle x y)(h' : rle y z):rle x z:=by unfold rle at *;omega
theorem cmpI_neg{a b:Int}:cmpI a b<0↔a<b:=by
 unfold cmpI;(repeat' split)<;>omega
abbrev fvR:Value:=.func (.func 244) #[] #[]
theorem GN(A:List Rst)(a e:Rst)(R:List Rst):((A++a::e::R).set (A.length+1) a).set A.length e=A++e::a::R:=by
 induction A with
 | nil=>rfl
 | cons x A ih=>simp
theorem midR(A:List Rst)(e:Rst)(R:List Rst):(A++e::R)[A.length]! = e:=by
 rw[getElem!_of (by simp)];simp
abbrev yO:List Stp:=[.ev 0,.ev 1,.ev 2,.ev 3,.ev 4,.ev 5,.ev 6,.ev 7,.ev 8,.ev 9,.ev 10,.ev 11,.ev 12,.ev 13,.ef 14,.ev 15,.ev 16]
abbrev yM:List Stp:=[.ev 0,.ev 1,.ev 2,.ev 3,.ev 4,.ev 5,.ev 6,.ev 7,.ev 8,.ev 9,.ev 10,.ev 11,.ev 12,.ev 13,.ev 14,.ef 15,.ev 16,.ef 17]
theorem eX{φ ψ:Prop}(k:ψ)(h:Hid ψ→φ:=by intro k;(with_reducible apply G.d8);first|refine G.d7 (N:=53) (id:=4) yO mixed ap (Hid.out k)|refine G.d7 (N:=53) (id:=6) yM mixed ap (Hid.out k)):φ:=h ⟨k⟩
theorem Dd{L:LH}(ad:OA)(cap n:Nat)(xs:List Rst)(hn:n=xs.length)(hl:n≤1000)(hx:xs.Pairwise (fun a b=>a.1<b.1)) :
  Tri ah 293 #[.slice ad n cap,ab 0,ab (n:Int),fvR] (osl encR 2 tRst ad cap xs::L) (fun _ L'=>∃ys,(ys.Perm xs∧ys.Pairwise rle)∧L' = osl encR 2 tRst ad cap ys::L):=by
 refine Tri.body (args:=[.slice ad n cap,ab 0,ab (n:Int),fvR]) 53 Hq Tryz.func293 rfl rfl rfl (by simp) ?_;repeat first|refine aa ?_|intro _|refine eX ?_
 refine G.loop (α:=Nat×List Rst) (fun z=>1≤z.1∧(z.1≤n∨z.1=1)∧z.2.Perm (xs.take z.1)∧z.2.Pairwise rle) (fun z=>[(0,.slice ad n cap),(1,ab 0),(2,ab (n:Int)),(3,fvR),(8,ab (z.1:Int))]) (fun z=>osl encR 2 tRst ad cap (z.2++xs.drop z.1)::L) (fun z=>n - z.1) (1,xs.take 1) ⟨aB _,.inr rfl,List.Perm.refl _,?_⟩ aj (by dsimp only;rw[fi];exact Ent.refl _) ?_
 ·cases xs with
  | nil=>simp
  | cons x r=>simp
 rintro⟨i,P⟩ ⟨hi1,hi2,hp,hs⟩;dsimp only at hi1 hi2 hp hs ⊢;have hpl:=hp.length_eq;rw[aY] at hpl;by_cases hlt:i<n
 case neg =>
  have e0:xs.drop i=[]:=bP ac;rw[aD ac] at hp;rw[e0,ba];repeat first|refine aa ?_|intro _|refine eX ?_
  exact KX.e8 ai (Ent.refl _) ⟨P,⟨hp,hs⟩,rfl⟩
 obtain⟨e,he⟩:∃e,e=xs[i]!:=⟨_,rfl⟩;obtain⟨C,hC⟩:∃C,C=xs.drop (i+1):=⟨_,rfl⟩
 have hys:P++xs.drop i=P++e::([]++C):=by
  rw[he,hC,fG (show i<xs.length by omega),aq]
 have hlow:∀a∈P,a.1<e.1:=fun a ha=>by
  have h1:=hp.mem_iff.1 ha;obtain⟨j,hj,e1⟩:=List.mem_iff_getElem.1 h1;rw[aY] at hj;rw[dW] at e1;have h2:=(List.pairwise_iff_getElem.1 hx) j i ac ac ac;rw[e1,←getElem!_of ac,←he] at h2;exact h2
 have hPt:(P++[e]).Perm (xs.take (i+1)):=by
  rw[aC (show i<xs.length by omega),←getElem!_of (show i<xs.length by omega),←he];exact hp.append_right _
 rw[hys];have hPl:P.length=i:=ac;have hCl:i+1+C.length=n:=by rw[hC,bR];omega
 repeat first|refine aa ?_|intro _|refine eX ?_
 refine G.loop (α:=Nat×List Rst×List Rst) (fun z=>z.2.1.length=z.1∧z.1+z.2.2.length=i∧(z.2.1++z.2.2).Perm P∧(z.2.1++z.2.2).Pairwise rle∧∀b∈z.2.2,rle e b) (fun z=>[(0,.slice ad n cap),(1,ab 0),(2,ab (n:Int)),(3,fvR),(8,ab (i:Int)),(9,ab (z.1:Int))]) (fun z=>osl encR 2 tRst ad cap (z.2.1++e::(z.2.2++C))::L) (fun z=>z.1) (i,P,[]) ⟨hPl,rfl,by dsimp only;rw[ba],by dsimp only;rw[ba];exact hs,fun b hb=>absurd hb aT⟩ aj (Ent.refl _) ?_;rintro⟨j,A,B⟩ ⟨hA,hAB,hp2,hs2,hB⟩;dsimp only at hA hAB hp2 hs2 hB ⊢
 have hcl:(A++e::(B++C)).length=n:=by
  rw[az,bD,az];omega
 have hfp:(A++e::B).Perm (xs.take (i+1)):=by
  refine List.Perm.trans ?_ hPt;refine List.perm_middle.trans ?_;exact(List.Perm.cons e hp2).trans (dO e P).symm
 have hout:A++e::(B++C)=(A++e::B)++xs.drop (i+1):=by rw[←hC];simp
 by_cases hj0:j=0
 ·have hAn:A=[]:=aW ac;subst hAn;repeat first|refine aa ?_|intro _|refine eX ?_
  refine⟨(i+1,[]++e::B),⟨by dsimp only;omega,.inl (by dsimp only;omega),hfp,?_⟩,by dsimp only;omega,?_,by rw[hout];exact Ent.refl _⟩
  ·dsimp only;rw[aq,List.pairwise_cons];exact⟨hB,by simpa using hs2⟩
  ·dsimp only;rw[aP i];exact aj
 obtain⟨A',a,hA'⟩:∃A' a,A=A'++[a]:=by
  rcases List.eq_nil_or_concat A with h|⟨A',a,h⟩
  ·rw[h] at hA;exact absurd hA.symm hj0
  ·exact⟨A',a,by simpa using h⟩
 subst hA';have hAl:A'.length+1=j:=by simpa using hA
 have hcur:A'++[a]++e::(B++C)=A'++a::e::(B++C):=by simp
 rw[hcur] at hcl hout ⊢
 have hje:(A'++a::e::(B++C))[(j:Int).toNat]! = e:=by
  have:=midR (A'++[a]) e (B++C)
  rw[hcur] at this;rw[show(j:Int).toNat=(A'++[a]).length by simp;omega];exact this
 have hja:(A'++a::e::(B++C))[((j:Int) - 1).toNat]! = a:=by
  rw[show((j:Int) - 1).toNat=A'.length by omega];exact midR A' a (e::(B++C))
 have halow:a.1<e.1:=hlow a (hp2.mem_iff.1 (by simp));repeat first|refine aa ?_|intro _|refine eX ?_
 rw[hje,hja];refine GPW.ef (Ef.d9 rfl rfl (DK e a)) ae ?_;rintro _ _⟨rfl,rfl⟩;by_cases hk:a.2<e.2
 case neg =>
  have hc0:¬cmpI a.2 e.2<0:=fun h=>hk (cmpI_neg.1 h);have hae:rle a e:=by unfold rle;omega
  repeat first|refine aa ?_|intro _|refine eX ?_
  refine⟨(i+1,A'++[a]++e::B),⟨by dsimp only;omega,.inl (by dsimp only;omega),hfp,?_⟩,by dsimp only;omega,?_,by rw[hout];exact Ent.refl _⟩
  ·dsimp only;rw[List.pairwise_append] at hs2 ⊢;obtain⟨s1,s2,s3⟩:=hs2;refine⟨s1,List.pairwise_cons.2 ⟨hB,s2⟩,?_⟩
   have hall:∀x∈A'++[a],rle x e:=by
    intro x hx;rcases List.mem_append.1 hx with hx|hx
    ·exact Cv ((List.pairwise_append.1 s1).2.2 x hx a (by simp)) hae
    ·rw[List.mem_singleton] at hx;subst hx;exact hae
   intro x hx y hy;rcases List.mem_cons.1 hy with rfl|hy
   ·exact hall x hx
   ·exact s3 x hx y hy
  ·dsimp only;rw[aP i];exact aj
 ·have hc0:cmpI a.2 e.2<0:=cmpI_neg.2 hk;repeat first|refine aa ?_|intro _|refine eX ?_
  refine GPW.efu (Ef.e9 (enc:=encR) (e:=(A'++a::e::(B++C))[((j:Int) - 1).toNat]!) rfl rfl (by rfl) (by rfl) (nY _) ac) ?_;rintro _ _ rfl;have hsl:((A'++a::e::(B++C)).set (j:Int).toNat (A'++a::e::(B++C))[((j:Int) - 1).toNat]!).length=n:=by rw[bg];exact hcl
  repeat first|refine aa ?_|intro _|refine eX ?_
  refine GPW.efu (Ef.e9 (enc:=encR) (e:=(A'++a::e::(B++C))[(j:Int).toNat]!) rfl rfl (by rfl) (by rfl) (nY _) ac) ?_;rintro _ _ rfl
  have hsw:((A'++a::e::(B++C)).set (j:Int).toNat (A'++a::e::(B++C))[((j:Int) - 1).toNat]!).set ((j:Int) - 1).toNat (A'++a::e::(B++C))[(j:Int).toNat]! = A'++e::((a::B)++C):=by
   rw[hje,hja,show((j:Int) - 1).toNat=A'.length by omega,show(j:Int).toNat=A'.length+1 by omega,GN];rfl
  rw[hsw];repeat first|refine aa ?_|intro _|refine eX ?_
  refine⟨(j - 1,A',a::B),⟨by dsimp only;omega,by dsimp only;simp;omega,?_,?_,?_⟩,by dsimp only;omega,?_,Ent.refl _⟩
  ·dsimp only;simpa using hp2
  ·dsimp only;simpa using hs2
  ·intro b hb;rcases List.mem_cons.1 hb with rfl|hb
   ·exact .inl hk
   ·exact hB b hb
  ·dsimp only;rw[show((j - 1:Nat):Int)=(j:Int) - 1 by omega];exact aj
theorem xj{L:LH}(ad:OA)(cap n:Nat)(xs:List Rst)(hn:n=xs.length)(hl:n<20)(hx:xs.Pairwise (fun a b=>a.1<b.1)) :
  Tri ah 277 #[.slice ad n cap,ab (n:Int),fvR] (osl encR 2 tRst ad cap xs::L) (fun _ L'=>∃ys,(ys.Perm xs∧ys.Pairwise rle)∧L' = osl encR 2 tRst ad cap ys::L):=by
 refine Tri.body (args:=[.slice ad n cap,ab (n:Int),fvR]) 63 Hw Tryz.func277 rfl rfl rfl (by simp) ?_;repeat first|refine aa ?_|intro
 refine G.e8 1 (GR.step ?_);repeat first|refine aa ?_|intro
 refine GO.ef (Ef.d7 (Dd ad cap n xs hn ac hx) rfl) ae ?_;rintro _ _⟨ys,hys,rfl⟩;repeat first|refine aa ?_|intro
 refine G.e8 1 (GR.step ?_);repeat first|refine aa ?_|intro
 exact KX.e8 ai (Ent.refl _) ⟨ys,hys,rfl⟩
theorem rI{L:LH}(ad:OA)(cap n:Nat)(xs:List Rst)(hn:n=xs.length)(hl:n<20)(hx:xs.Pairwise (fun a b=>a.1<b.1)) :
  Tri ah 243 #[.slice ad n cap,fvR] (osl encR 2 tRst ad cap xs::L) (fun _ L'=>∃ys,(ys.Perm xs∧ys.Pairwise rle)∧L' = osl encR 2 tRst ad cap ys::L):=by
 refine Tri.body (args:=[.slice ad n cap,fvR]) 9 HU Tryz.func243 rfl rfl rfl (by simp) ?_;repeat first|refine aa ?_|intro
 refine GO.ef (Ef.d7 (xj ad cap n xs hn hl hx) rfl) ae ?_;rintro _ _⟨ys,hys,rfl⟩;repeat first|refine aa ?_|intro
 exact KX.e8 ai (Ent.refl _) ⟨ys,hys,rfl⟩
def jD(n i:Nat)(f:Nat→Int):List Rst:=(List.range n).map (fun k:Nat=>if k<i then((k:Int),f k) else(0,0))
theorem Dx(n i:Nat)(f:Nat→Int):(jD n i f).length=n:=by simp[jD]
theorem BB(n:Nat)(f:Nat→Int):jD n 0 f=List.replicate n (0,0):=by
 apply dv
 ·simp[jD]
 ·intro i h1 h2;simp[jD]
theorem Dw{n i:Nat}(f:Nat→Int)(h:i<n):(jD n i f).set i ((i:Int),f i)=jD n (i+1) f:=by
 apply dv
 ·simp[jD]
 ·intro j h1 h2;rw[fC];simp only[jD,eU,List.getElem_range];by_cases hj:i=j
  ·subst hj;simp
  ·rw[if_neg hj];by_cases h3:j<i
   ·rw[if_pos h3,if_pos ac]
   ·rw[if_neg h3,if_neg ac]
theorem ud(n:Nat)(f:Nat→Int):jD n n f=(List.range n).map (fun k:Nat=>((k:Int),f k)):=by
 apply cU;intro k hk;rw[if_pos (List.mem_range.1 hk)]
theorem Dv(n:Nat)(f:Nat→Int):(jD n n f).Pairwise (fun a b=>a.1<b.1):=by
 rw[ud,List.pairwise_map];refine List.pairwise_lt_range.imp (fun {a b} h=>?_);dsimp only;omega
theorem CS{L:LH}(n w:Int)(h0:0≤n)(h1:n≤1099511627776)(h2:0≤w)(h3:w≤1099511627776) :
  Tri ah 241 #[.int .u64 n,.int .u64 w] L (fun v L'=>v=.tuple #[.int .u64 (n*w / 18446744073709551616),.int .u64 (n*w % 18446744073709551616)]∧L' = L):=by
 obtain⟨nN,rfl⟩:∃nN:Nat,n=(nN:Int):=⟨n.toNat,ac⟩;obtain⟨wN,rfl⟩:∃wN:Nat,w=(wN:Int):=⟨w.toNat,ac⟩;have e1:(nN:Int)*(wN:Int) / 18446744073709551616=((nN*wN / 18446744073709551616:Nat):Int):=by rw[Int.natCast_ediv,fK];rfl
 have e2:(nN:Int)*(wN:Int) % 18446744073709551616=((nN*wN % 18446744073709551616:Nat):Int):=by rw[Int.natCast_emod,fK];rfl
 rw[e1,e2];exact sa nN wN ac ac
theorem DG{L:LH}(p y:Int)(h0:0≤p)(h1:0<y)(h2:y≤1152921504606846976)(h3:p / 18446744073709551616<y) :
  Tri ah 242 #[.int .u64 (p / 18446744073709551616),.int .u64 (p % 18446744073709551616),.int .u64 y] L (fun v L'=>v=.tuple #[.int .u64 (p / y),.int .u64 (p % y)]∧L' = L):=by
 obtain⟨pN,rfl⟩:∃pN:Nat,p=(pN:Int):=⟨p.toNat,ac⟩;obtain⟨yN,rfl⟩:∃yN:Nat,y=(yN:Int):=⟨y.toNat,ac⟩;have e1:(pN:Int) / 18446744073709551616=((pN / 18446744073709551616:Nat):Int):=by rw[Int.natCast_ediv];rfl
 have e2:(pN:Int) % 18446744073709551616=((pN % 18446744073709551616:Nat):Int):=by rw[Int.natCast_emod];rfl
 have e:=fb pN 18446744073709551616;rw[ee] at e;rw[e1] at h3;rw[e1,e2,←Int.natCast_ediv,←Int.natCast_emod];have h:=sx (L:=L) (pN / 18446744073709551616) (pN % 18446744073709551616) yN ac ac ac;rw[e] at h;exact h
theorem pU{L:LH}(ad:OA)(n c:Nat)(l:LL)(m:Int)[hr:Rds L ad Lot an 3 l](hn:n=l.length)(hll:l.length<20)(hl:∀x∈l,LotOk x)(hne:l≠[])(h0:0≤m)(h1:m≤lsum l)(h2:m≤1099511627776) :
  Tri ah 155 #[.slice ad n c,ab m] L (fun v L'=>∃ad' cap',v=.slice ad' l.length cap'∧L' = osl (encZ .i64) 1 tInt ad' cap' ((List.range l.length).map (shC l m))::L):=by
 subst hn;have hlen:0<l.length:=List.length_pos_iff.2 hne;have hs:=jw hl hlen;have hsb:=gx hl l.length (aB _);rw[gM] at hsb;refine Tri.body (args:=[.slice ad l.length c,ab m]) 96 Js Tryz.func155 rfl rfl rfl (by simp) ?_;repeat first|refine aa ?_|intro
 refine G.loop (α:=Nat) (fun i=>i≤l.length) (fun i=>[(0,.slice ad l.length c),(1,ab m),(5,ab (lsum (l.take i))),(19,.slice ad l.length c),(20,ab l.length),(21,ab (i:Int))]) (fun _=>L) (fun i=>l.length - i) 0 (ao _) aj (Ent.refl _) ?_;intro i hi;by_cases hlt:i<l.length
 case pos =>
  have hii:(i:Int).toNat=i:=aA i;have hlt' : (i:Int).toNat<l.length:=ac;have hok:=hl _ (aI hlt);unfold LotOk at hok;have hb1:=gx hl i ac;have hb2:=dV l hlt;have hok2:1≤l[(i:Int).toNat]!.2.2∧l[(i:Int).toNat]!.2.2≤1099511627776:=by rw[hii];omega
  repeat first|refine aa ?_|intro
  refine⟨i+1,ac,ac,?_,by exact ag⟩;rw[hb2,aP i,show l[i]! = l[(i:Int).toNat]! by rw[hii]];exact aj
 obtain rfl:i=l.length:=ac;rw[gM];repeat first|refine aa ?_|intro
 refine GO.ef (Ef.makeSlice (encZ .i64) 0 rfl rfl rfl ac ac ac) ae ?_;rintro _ _⟨bp,rfl,rfl⟩;rw[aA,←jE l.length (shQ l m)];repeat first|refine aa ?_|intro
 refine GO.ef (Ef.g7 encR ((0,0):Rst) rfl rfl rfl ac ac ac ac) ae ?_;rintro _ _⟨br,rfl,rfl⟩;rw[aA,←BB l.length (shR l m)];repeat first|refine aa ?_|intro
 refine G.loop (α:=Nat) (fun i=>i≤l.length) (fun i=>[(1,ab m),(5,ab (lsum l)),(8,.slice (some ⟨bp,0,none⟩) l.length l.length),(9,.slice (some ⟨br,0,none⟩) l.length l.length),(10,ab (m - cS i (shQ l m))),(37,.slice ad l.length c),(38,ab l.length),(39,ab (i:Int))]) (fun i=>osl (encZ .i64) 1 tInt (some ⟨bp,0,none⟩) l.length (fM l.length i (shQ l m))::osl encR 2 tRst (some ⟨br,0,none⟩) l.length (jD l.length i (shR l m))::L) (fun i=>l.length - i) 0 (ao _) ?_ ag ?_
 ·rw[jA,fj];exact aj
 clear hi hlt;intro i hi;have hf1:=jy l.length i (shQ l m);have hf2:=Dx l.length i (shR l m);by_cases hlt:i<l.length
 case pos =>
  have hii:(i:Int).toNat=i:=aA i;have hlt' : (i:Int).toNat<l.length:=ac;have hok:=hl _ (aI hlt);unfold LotOk at hok;have hok2:1≤l[(i:Int).toNat]!.2.2∧l[(i:Int).toNat]!.2.2≤1099511627776:=by rw[hii];omega
  obtain⟨q1,q2⟩:=ji hl h0 h1 hlt;have hr0:0≤shR l m i:=dg _ ac;have hr1:shR l m i<lsum l:=dw _ hs;repeat first|refine aa ?_|intro
  have hmw:m*l[(i:Int).toNat]!.2.2=m*l[i]!.2.2:=by rw[hii]
  have hpw:0≤m*l[i]!.2.2:=dC h0 ac;have hpb:m*l[i]!.2.2≤1099511627776*1099511627776:=eN h2 ac ac ae
  have hlt64:m*l[i]!.2.2 / 18446744073709551616<lsum l:=by
   have h5:shQ l m i≤1099511627776:=ac;unfold shQ at h5;have h6:=Int.lt_ediv_add_one_mul_self (m*l[i]!.2.2) hs;have h7:(m*l[i]!.2.2 / lsum l+1)*lsum l≤1099511627777*lsum l:=bX ac ac;omega
  refine GO.ef (Ef.d7 (CS m l[(i:Int).toNat]!.2.2 h0 h2 ac ac) rfl) ae ?_;rintro _ _⟨rfl,rfl⟩;rw[hmw];repeat first|refine aa ?_|intro
  refine GO.ef (Ef.d7 (DG (m*l[i]!.2.2) (lsum l) hpw hs ac hlt64) rfl) ae ?_;rintro _ _⟨rfl,rfl⟩;rw[show m*l[i]!.2.2 / lsum l=shQ l m i from rfl,show m*l[i]!.2.2 % lsum l=shR l m i from rfl];repeat first|refine aa ?_|intro
  refine GO.efu (Ef.e9 (enc:=encR) (e:=((i:Int),shR l m i)) rfl rfl (by rfl) (by rfl) (nY ((i:Int),shR l m i)) ac) ?_;rintro _ _ rfl
  have hsq:0≤cS i (shQ l m)∧cS i (shQ l m)≤lsum (l.take i):=by
   rw[show lsum (l.take i)=cS i (fun k=>l[k]!.2.2) by unfold cS;rw[lG l i hi]];refine⟨?_,kK (fun k hk=>(ji hl h0 h1 ac).2)⟩;have:=kK (n:=i) (f:=fun _=>0) (g:=shQ l m) (fun k hk=>(ji hl h0 h1 ac).1)
   rw[mM] at this;omega
  have hb1:=gx hl i ac;have hss:=dU i (shQ l m);repeat first|refine aa ?_|intro
  rw[hii,kn (shQ l m) hlt,Dw (shR l m) hlt];refine⟨i+1,ac,ac,?_,by exact ag⟩;rw[hss,show m - (cS i (shQ l m)+shQ l m i)=m - cS i (shQ l m) - shQ l m i by omega,aP i];exact aj
 obtain rfl:i=l.length:=ac;rw[ko,←kf];obtain⟨hl1,hl2⟩:=lj (n:=m) hl hne;repeat first|refine aa ?_|intro _
 (first|refine GO.ef (Ef.call (rI (L:=[]) (some ⟨br,0,none⟩) l.length l.length (jD l.length l.length (shR l m)) hf2.symm hll (Dv _ _)) rfl (by repeat (first|exact Ent.refl _|apply Ent.take))) ae ?_);rintro _ _⟨_,⟨ys,⟨hyp,hys⟩,rfl⟩,hL⟩;simp only[ax,aq] at hL;subst hL;rw[ud] at hyp;obtain⟨o,ho⟩:∃o,o=ys.map (fun r:Rst=>r.1.toNat):=⟨_,rfl⟩
 have hyo:o.Perm (List.range l.length):=by
  have:=hyp.map (fun r:Rst=>r.1.toNat)
  rw[eM,show((fun r:Rst=>r.1.toNat) ∘ fun k:Nat=>((k:Int),shR l m k))=id from rfl,List.map_id] at this;rw[ho];exact this
 have hyr:o.Pairwise (rkLt (shR l m)):=by
  rw[ho,List.pairwise_map];refine hys.imp_of_mem (fun {a b} ha hb h=>?_);obtain⟨k,_,rfl⟩:=List.mem_map.1 (hyp.mem_iff.1 ha);obtain⟨j,_,rfl⟩:=List.mem_map.1 (hyp.mem_iff.1 hb);unfold rle at h;unfold rkLt;show shR l m (j:Int).toNat<shR l m (k:Int).toNat∨_;rw[aA,aA];dsimp only at h ⊢;omega
 have hoL:o.length=l.length:=by have:=hyo.length_eq;simpa using this
 have hyl:ys.length=l.length:=by have:=hyp.length_eq;simpa using this
 have hyg:∀i,i<ys.length→ys[i]!.1=(o[i]! : Int):=fun i hi=>by
  have h3:o[i]! = ys[i]!.1.toNat:=by rw[ho,eo _ hi]
  have h4:=hyp.mem_iff.1 (aI hi);obtain⟨k,_,e⟩:=List.mem_map.1 h4;rw[h3,←e];show(k:Int)=((k:Int).toNat:Int);omega
 have hob:∀i,i<o.length→o[i]! < l.length:=fun i hi=>List.mem_range.1 (hyo.mem_iff.1 (aI hi));clear hys hyp ho hi hlt hf1 hf2;repeat first|refine aa ?_|intro
 obtain⟨lf,hlf⟩:∃lf:Nat,lf=(ft l m).toNat:=⟨_,rfl⟩;rw[←hlf];have hlfl:lf<l.length:=ac
 refine G.loop (α:=Nat) (fun i=>i≤lf) (fun i=>[(8,.slice (some ⟨bp,0,none⟩) l.length l.length),(81,.slice (some ⟨br,0,none⟩) lf l.length),(82,ab (lf:Int)),(83,ab (i:Int))])
  (fun i=>osl encR 2 tRst (some ⟨br,0,none⟩) l.length ys::osl (encZ .i64) 1 tInt (some ⟨bp,0,none⟩) l.length ((List.range l.length).map (fun k=>shQ l m k+if k∈o.take i then 1 else 0))::L) (fun i=>lf - i) 0 (ao _) aj ?_ ?_
 ·have e:(List.range l.length).map (fun k=>shQ l m k+if k∈o.take 0 then 1 else 0)=(List.range l.length).map (shQ l m):=cU (fun k _=>by simp);rw[e];exact ag
 intro i hi;by_cases hlt:i<lf
 case neg =>
  have e:(List.range l.length).map (fun k=>shQ l m k+if k∈o.take i then 1 else 0)=(List.range l.length).map (shC l m):=by
   apply cU;intro k hk;have hk2:=List.mem_range.1 hk;unfold shC;rw[nC];congr 1;have h3:=ik hyo hyr (m:=i) hk2;by_cases h4:ej (shR l m) l.length k<i
   ·rw[if_pos (h3.2 h4),if_pos ac]
   ·rw[if_neg (fun h=>h4 (h3.1 h)),if_neg ac]
  rw[e];repeat first|refine aa ?_|intro
  exact KX.d7 ai ag ⟨some ⟨bp,0,none⟩,l.length,rfl,rfl⟩
 have hii:(i:Int).toNat=i:=ac;have hio:i<o.length:=ac;have hob1:=hob i hio;have hyi:=hyg i ac;have hpl:((List.range l.length).map (fun k=>shQ l m k+if k∈o.take i then 1 else 0)).length=l.length:=by simp
 have hpg:((List.range l.length).map (fun k=>shQ l m k+if k∈o.take i then 1 else 0))[o[i]!]! = shQ l m o[i]!:=by
  rw[gE hob1,if_neg,Int.add_zero];intro hmem;have h3:=(ik hyo hyr hob1).1 hmem;rw[getElem!_of hio,jk hyo hyr hio] at h3;omega
 obtain⟨q1,q2⟩:=ji hl h0 h1 hob1;have hok:=hl _ (aI hob1);unfold LotOk at hok;have hoi:((o[i]! : Nat):Int).toNat=o[i]!:=ac;have hlt' : (i:Int).toNat<ys.length:=ac;repeat first|refine aa ?_|intro
 rw[hii,hyi];repeat first|refine aa ?_|intro
 rw[hoi,hpg];repeat first|refine aa ?_|intro
 have e:((List.range l.length).map (fun k=>shQ l m k+if k∈o.take i then 1 else 0)).set o[i]! (shQ l m o[i]! + 1)=(List.range l.length).map (fun k=>shQ l m k+if k∈o.take (i+1) then 1 else 0):=by
  apply dv
  ·simp
  ·intro k h3 h4;have hk:k<l.length:=by simpa using h4
   rw[fC];simp only[eU,List.getElem_range];have m1:=ik hyo hyr (m:=i) hk;have m2:=ik hyo hyr (m:=i+1) hk;by_cases h5:o[i]! = k
   ·subst h5;have h6:ej (shR l m) l.length o[i]! = i:=by rw[getElem!_of hio];exact jk hyo hyr hio
    rw[if_pos rfl,if_pos (m2.2 ac)]
   ·rw[if_neg h5];congr 1
    have h6:ej (shR l m) l.length k≠i:=by
     intro h7;refine h5 (rU (R:=shR l m) hob1 hk ?_);rw[h7,getElem!_of hio];exact jk hyo hyr hio
    by_cases h7:ej (shR l m) l.length k<i
    ·rw[if_pos (m1.2 h7),if_pos (m2.2 ac)]
    ·rw[if_neg (fun h=>h7 (m1.1 h)),if_neg (fun h=>absurd (m2.1 h) ac)]
 try rw[hoi]
 rw[e];refine⟨i+1,ac,ac,?_,by exact ag⟩;rw[aP i];exact aj
