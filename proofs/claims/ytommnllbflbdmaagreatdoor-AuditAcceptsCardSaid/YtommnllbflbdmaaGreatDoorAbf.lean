/- Lemmas. -/
import Derived.Test.YtommnllbflbdmaaGreatDoorAbe
set_option linter.all false
set_option maxHeartbeats 4000000
namespace Go.Proofs.YtommnllbflbdmaaGreatDoor
section
open Go.V
attribute [local irreducible] G GO GP GPW GPK Ev Ef EfR Ent CB GB V.Enters
def GU{ys:LL}{i:Nat}(h:i<ys.length)(f:Int):ofF (ys.take (i+1)) f=if ys[i]!.1=f then ofF (ys.take i) f++[ys[i]!] else ofF (ys.take i) f:=by
 rw[aD h,getElem!_of h];unfold ofF;rw[du];by_cases e:ys[i].1=f
 ·rw[if_pos e,cF (by simpa using e)];rfl
 ·rw[if_neg e,cG (by simpa using e),List.filter_nil,aQ]
def qW(ys:LL)(f:Int):(ofF ys f).length≤ys.length:=gc _ _
abbrev AP:=ay5 [.ef 8,.ef 9,.ef 10]
abbrev xE:=ay3 [.ev 4,.ev 6,.ef 5,.ef 7,.ev 8,.ev 9,.ev 10]
abbrev xD:=ay3 [.ev 4,.ev 6,.ef 5,.ev 7,.ef 8,.ev 9]
def Tj{φ ψ:Prop}(k:ψ)(h:Hid ψ→φ:=by intro k;(repeat (first|refine aa ?_|intro zzz|refine G.dr 98 6 AP ?_|refine G.dr 98 17 xE ?_|refine G.dr 98 23 xD ?_));(repeat revert zzz);exact Hid.out k):φ:=h ⟨k⟩
set_option maxRecDepth 10000 in
def wv{L:LH}(ad:OA)(n c:Nat)(a0:LL)[hr:Rds L ad Lot aj 3 a0](ad2:OA)(n2 c2:Nat)(ps:LL)[i0:Rds L ad2 Lot aj 3 ps](hn:n=a0.length)(g0:n2=ps.length)(hs:∀x∈a0,LotOk x)(h7:a0.length≤4096)(hp:∀x∈ps,LotOk x)(h8:ps.length≤4096)(ha:Apart ps) :
  Tri ai 153 #[ah ad n c,ah ad2 n2 c2] L (fun v L'=>∃d2 b1,v=.tuple #[ah d2 (dP a0 ps).length b1,.bool (dB (lsum ps - OO ps a0=0))]∧L' = osl aj 3 tLot d2 b1 (dP a0 ps)::L):=by
 subst hn g0;refine Tri.bd ?_;refine Tj ?_;intros;refine GO.ef (Ef.d9 kvI Stk.v (.inl rfl)) ag ?_;rintro _ _⟨bm,rfl,rfl⟩;refine Tj ?_;intros;refine GO.ca (rO ad2 ps.length c2 ps rfl ab) ?_;rintro _ _⟨c6,cy,ys,rfl,b5,rfl⟩;have h6:=b5.1.length_eq;have f2:∀x∈ys,LotOk x:=fun x hx=>hp x (b5.1.mem_iff.1 hx);refine Tj ?_;intros;refine G.loop (α:=Nat×List (Int×Stk)) (fun g=>g.1≤ys.length∧((g.2.map (·.1)).Nodup∧(∀f,(fM g.2 f).lots=ofF (ys.take g.1) f))∧0≤lsum (ys.take g.1)∧lsum (ys.take g.1)≤(g.1:Int)*1099511627776) (fun g=>[(0,ah ad a0.length c),(6,.map (some bm)),(7,ac (lsum (ys.take g.1))),(20,ah c6 ys.length cy),(21,ac ys.length),(22,ac (g.1:Int))]) (fun g=>gmap kvI Stk.v bm g.2::bigO gd g.2::osl aj 3 tLot c6 cy ys::L) (fun g=>ys.length - g.1) (0,[]) ⟨aw _,⟨List.nodup_nil,fun _=>rfl⟩,bg _,bg _⟩ av (Ent.trans ae ((Ent.l0 gd).trans ae)) ?_;rintro⟨i,m⟩ ⟨hi,⟨b4,a9⟩,e0,d0⟩;dsimp only at hi b4 a9 e0 d0 ⊢;by_cases a6:i<ys.length
 case pos =>
  have b2:(i:Int).toNat=i:=aC i;have b8 : (i:Int).toNat<ys.length:=ab;have a8:=eJ ys a6;have h2:=f2 _ (aI a6);unfold LotOk at h2;have d3:(i:Int)*1099511627776≤4096*1099511627776:=bV ab ag
  have d1:((i+1:Nat):Int)*1099511627776=(i:Int)*1099511627776+1099511627776:=by
   rw[Int.natCast_add,Int.add_mul];rfl
  refine G.ent (L':=osl aj 3 tLot (fM m ys[(i:Int).toNat]!.1).ad (fM m ys[(i:Int).toNat]!.1).cap (fM m ys[(i:Int).toNat]!.1).lots::bigO gd (gera m ys[(i:Int).toNat]!.1)::gmap kvI Stk.v bm m::osl aj 3 tLot c6 cy ys::L) (Ent.swap.trans ((rU b4).trans ae)) ?_
  have g5:(fM m ys[(i:Int).toNat]!.1).lots.length≤4096:=by
   rw[a9];refine cK (qW _ _) ?_;rw[bG];omega
  have hv:=qP m ys[(i:Int).toNat]!.1;unfold glk at hv;refine Tj ?_;intros;refine GPW.evL (Ev.e8 rfl rfl) ag ?_;rw[hv];refine Tj ?_;intros;refine GPK.keep (by rw[←hv];exact Ev.e8 rfl rfl) ?_;refine Tj ?_;intros;refine GPW.ef (Ef.d7 (enc:=aj) (e:=ys[(i:Int).toNat]!) rfl rfl rfl rfl rfl aK (co _) ab ab) ag ?_;rintro _ _⟨c4,a7,rfl,rfl⟩;refine Tj ?_;intros;refine GPW.efu (Ef.e7 (enc:=Stk.v) (e:=(⟨c4,a7,(fM m ys[(i:Int).toNat]!.1).lots++[ys[(i:Int).toNat]!]⟩:Stk)) rfl rfl rfl rfl) ?_;rintro _ _⟨rfl,rfl⟩;have g1:1≤ys[(i:Int).toNat]!.2.2∧ys[(i:Int).toNat]!.2.2≤1099511627776:=by rw[b2];omega
  refine Tj ?_;intros;refine⟨(i+1,gins m ys[(i:Int).toNat]!.1 ⟨c4,a7,(fM m ys[(i:Int).toNat]!.1).lots++[ys[(i:Int).toNat]!]⟩),⟨by dsimp only;omega,⟨mm b4,fun f=>?_⟩,by dsimp only;rw[a8];omega,by dsimp only;rw[a8,d1];omega⟩,by dsimp only;omega,?_,?_⟩
  ·dsimp only;rw[oD,GU a6,b2];by_cases e:ys[i]!.1=f
   ·rw[if_pos e.symm,if_pos e,a9,e]
   ·rw[if_neg (fun q=>e q.symm),if_neg e];exact a9 f
  ·dsimp only;rw[aV i,a8,show ys[i]! = ys[(i:Int).toNat]! by rw[b2]];exact av
  ·dsimp only;refine Ent.trans ?_ (Ent.swap.trans (Ent.d7 (Ent.refl _)));refine Ent.trans ?_ (pQ (f:=ys[(i:Int).toNat]!.1) b4 ⟨c4,a7,(fM m ys[(i:Int).toNat]!.1).lots++[ys[(i:Int).toNat]!]⟩);exact ae
 obtain rfl:i=ys.length:=ab;rw[bu] at a9 e0 d0 ⊢;have e4:lsum ys≤4096*1099511627776:=Int.le_trans d0 (bV ab ag);refine G.ent (L':=gmap kvI Stk.v bm m::allP stkI m::L) (Ent.swap.trans ((HX m).trans ae)) ?_;refine Tj ?_;intros;refine G.loop (α:=Nat×OA×Nat×LL×Int) (fun g=>g.1≤a0.length∧wAll ys (a0.take g.1) ([],lsum ys)=(g.2.2.2.1,g.2.2.2.2)∧(∀y∈g.2.2.2.1,LotW y)∧g.2.2.2.1.length≤g.1*4097∧-((g.1:Int)*1099511627776)≤g.2.2.2.2∧g.2.2.2.2≤lsum ys) (fun g=>[(6,.map (some bm)),(7,ac g.2.2.2.2),(10,ah g.2.1 g.2.2.2.1.length g.2.2.1),(41,ah ad a0.length c),(42,ac a0.length),(43,ac (g.1:Int))]) (fun g=>osl aj 3 tLot g.2.1 g.2.2.1 g.2.2.2.1::gmap kvI Stk.v bm m::allP stkI m::L) (fun g=>a0.length - g.1) (0,none,0,[],lsum ys) ⟨aw _,rfl,fun y hy=>absurd hy aU,aw _,by dsimp only;omega,bg _⟩ av ((Ent.d8 aj 3 tLot).trans ae) ?_;clear hi a6;rintro⟨i,oa,oc,out,a3⟩ ⟨hi,hw,a2,b3,g3,d3⟩;dsimp only at hi hw a2 b3 g3 d3 ⊢;by_cases a6:i<a0.length
 case neg =>
  rw[aF ab,Gx b5 hp ha hs] at hw;obtain⟨e1,e2⟩:=Prod.mk.injEq ..▸hw;rw[e1,e2];refine Tj ?_;intros;refine KX.d7 al ?_ ⟨oa,oc,rfl,rfl⟩;exact ae
 have b2:(i:Int).toNat=i:=aC i;have b8 : (i:Int).toNat<a0.length:=ab;have f3:=hs _ (aI a6)
 have e5:wAll ys (a0.take (i+1)) ([],lsum ys)=wLot a0[i]! (ofF ys a0[i]!.1) (out,a3):=by
  rw[aD a6,←getElem!_of a6];unfold wAll at hw ⊢;rw[cv,hw];rfl
 have hv:=qP m a0[(i:Int).toNat]!.1;unfold glk at hv;have c1:=a9 a0[(i:Int).toNat]!.1;have h3:=qW ys a0[(i:Int).toNat]!.1;refine Tj ?_;intros;refine GO.ev (Ev.e8 rfl rfl) ag ?_;rw[hv];rw[c1];refine Tj ?_;intros;rename_i d5;clear hv;rw[b2] at c1 h3 ⊢;generalize a0[i]! = x at *;have h1:=BA b5 hp ha x.1;have g4:∀p∈ofF ys x.1,LotOk p∧p.1=x.1:=fun p hp=>⟨f2 p (ofF_mem.1 hp).1,(ofF_mem.1 hp).2⟩;generalize hqs:ofF ys x.1=qs at *;generalize (fM m x.1).cap=qc
 have c9:∀{L:LH},Ent (allP stkI m::L) (isl aj 3 (fM m x.1).ad qs::allP stkI m::L):=fun {L}=>by
  have:=HW m x.1 (L:=L)
  rw[c1] at this;exact this
 generalize (fM m x.1).ad=qa at *;have d6:=f3.w;have c8:=f3;unfold LotOk at c8;have h4:(i:Int)*1099511627776≤4096*1099511627776:=bV ab ag
 have d1:((i+1:Nat):Int)*1099511627776=(i:Int)*1099511627776+1099511627776:=by
  rw[Int.natCast_add,Int.add_mul];rfl
 have h0:(qs.take 0).foldl (gC x) (out,x.2.1,a3)=(out,x.2.1,a3):=by rw[bH,List.foldl_nil]
 refine G.loop (α:=Nat×OA×Nat×LL×Int×Int) (fun g=>g.1≤qs.length∧(qs.take g.1).foldl (gC x) (out,x.2.1,a3)=(g.2.2.2.1,g.2.2.2.2.1,g.2.2.2.2.2)∧(∀y∈g.2.2.2.1,LotW y)∧g.2.2.2.1.length≤i*4097+g.1∧x.2.1≤g.2.2.2.2.1∧g.2.2.2.2.1≤x.2.1+x.2.2∧a3 - (g.2.2.2.2.1 - x.2.1)≤g.2.2.2.2.2∧g.2.2.2.2.2≤a3) (fun g=>[(6,.map (some bm)),(7,ac g.2.2.2.2.2),(10,ah g.2.1 g.2.2.2.1.length g.2.2.1),(12,ax d5),(13,ac g.2.2.2.2.1),(41,ah ad a0.length c),(42,ac a0.length),(43,ac (i:Int)),(52,ah qa qs.length qc),(53,ac qs.length),(54,ac (g.1:Int))]) (fun g=>osl aj 3 tLot g.2.1 g.2.2.1 g.2.2.2.1::isl aj 3 qa qs::obj d5 tLot (aj x)::gmap kvI Stk.v bm m::allP stkI m::L) (fun g=>qs.length - g.1) (0,oa,oc,out,x.2.1,a3) (by dsimp only;exact⟨aw _,h0,a2,ab,bg _,ab,ab,bg _⟩) av ((Ent.at (A:=allP stkI m) c9).trans ae) ?_;clear a2 b3;rintro⟨k,oa,oc,o2,at_,a4⟩ ⟨hk,hf,a2,b3,f0,f1,e3,d4⟩;dsimp only at hk hf a2 b3 f0 f1 e3 d4 ⊢;by_cases c3:k<qs.length
 case neg =>
  rw[aF ab] at hf
  have f6:wLot x qs (out,a3)=(aY o2 (x.1,at_,x.2.1+x.2.2 - at_),a4):=by
   unfold wLot;rw[hf]
  rw[f6] at e5;refine Tj ?_;intros;refine GPW.cr (jh x d6) ?_;refine Tj ?_;intros;(first|refine GPW.ef (Ef.call (mM (L:=[]) oa oc o2.length oc o2 (x.1,at_,x.2.1+x.2.2 - at_) rfl rfl ab a2 (by unfold LotW;dsimp only;omega)) rfl cJ) ag ?_);rintro _ _⟨_,⟨a5,c5,rfl,rfl⟩,hL⟩;simp only[ao,an] at hL;subst hL;have g6:=kY o2 (x.1,at_,x.2.1+x.2.2 - at_);refine Tj ?_;intros;refine⟨(i+1,a5,c5,aY o2 (x.1,at_,x.2.1+x.2.2 - at_),a4),⟨by dsimp only;omega,e5,qX a2 (by unfold LotW;dsimp only;omega),by dsimp only;omega,by dsimp only;rw[d1];omega,by dsimp only;omega⟩,by dsimp only;omega,?_,by exact ae⟩;dsimp only;rw[aV i];exact av
 have b6:(k:Int).toNat=k:=aC k;have g2 : (k:Int).toNat<qs.length:=ab
 have b0:(qs.take (k+1)).foldl (gC x) (out,x.2.1,a3)=gC x (o2,at_,a4) qs[k]!:=by
  rw[aD c3,cv,hf,getElem!_of c3];rfl
 have e6:=(g4 _ (aI c3)).1;have f5:=e6.w;have c0:=e6;unfold LotOk at c0;refine Tj ?_;intros;have c7 : LotW qs[(k:Int).toNat]!:=by rw[b6];exact f5
 refine GPW.cr (jh qs[(k:Int).toNat]! c7) ?_;refine Tj ?_;intros;refine GPW.cr (jh x d6) ?_
 have f4:0≤qs[(k:Int).toNat]!.2.1∧1≤qs[(k:Int).toNat]!.2.2∧qs[(k:Int).toNat]!.2.1+qs[(k:Int).toNat]!.2.2≤1099511627776:=by
  rw[b6];omega
 by_cases hc:max qs[(k:Int).toNat]!.2.1 at_ ≥ min (qs[(k:Int).toNat]!.2.1+qs[(k:Int).toNat]!.2.2) (x.2.1+x.2.2)
 ·have a1:gC x (o2,at_,a4) qs[k]! = (o2,at_,a4):=by
   rw[b6] at hc;exact if_pos hc
  rw[a1] at b0;refine Tj ?_;intros;refine⟨(k+1,oa,oc,o2,at_,a4),⟨by dsimp only;omega,b0,a2,by dsimp only;omega,f0,f1,e3,d4⟩,by dsimp only;omega,?_,by exact ae⟩;dsimp only;rw[aV k];exact av
 ·have a1:gC x (o2,at_,a4) qs[k]! = (aY o2 (x.1,at_,max qs[(k:Int).toNat]!.2.1 at_ - at_),min (qs[(k:Int).toNat]!.2.1+qs[(k:Int).toNat]!.2.2) (x.2.1+x.2.2),a4 - (min (qs[(k:Int).toNat]!.2.1+qs[(k:Int).toNat]!.2.2) (x.2.1+x.2.2) - max qs[(k:Int).toNat]!.2.1 at_)):=by
   rw[b6] at hc ⊢;exact if_neg hc
  rw[a1] at b0;refine Tj ?_;intros;obtain⟨fr,b9⟩:∃fr,fr=max qs[(k:Int).toNat]!.2.1 at_:=⟨_,rfl⟩;obtain⟨to,b7⟩:∃to,to=min (qs[(k:Int).toNat]!.2.1+qs[(k:Int).toNat]!.2.2) (x.2.1+x.2.2):=⟨_,rfl⟩;rw[←b9,←b7] at b0;rw[←b9,←b7];rw[←b9,←b7] at hc;have h5:at_≤fr:=ab;have h9:fr<to:=ab;have f9:to≤x.2.1+x.2.2:=ab;clear a1;(first|refine GO.ef (Ef.call (mM (L:=[]) oa oc o2.length oc o2 (x.1,at_,fr - at_) rfl rfl ab a2 (by unfold LotW;dsimp only;omega)) rfl cJ) ag ?_);rintro _ _⟨_,⟨a5,c5,rfl,rfl⟩,hL⟩;simp only[ao,an] at hL;subst hL;have g6:=kY o2 (x.1,at_,fr - at_);refine Tj ?_;intros;refine⟨(k+1,a5,c5,aY o2 (x.1,at_,fr - at_),to,a4 - (to - fr)),⟨by dsimp only;omega,b0,qX a2 (by unfold LotW;dsimp only;omega),by dsimp only;omega,by dsimp only;omega,f9,by dsimp only;omega,by dsimp only;omega⟩,by dsimp only;omega,?_,by exact ae⟩;dsimp only;rw[aV k];exact av
abbrev Rst:=Int×Int
def encR(x:Rst):LV:=[ac x.1,.int .u64 x.2]
def pi(t:Rst):∀u∈encR t,u.oneCell' = true:=by simp[encR,Value.oneCell']
instance:EncC encR:=⟨pi⟩
abbrev tRst:Nat:=290
def Gh{L:LH}(x y:Rst):Tri ai 244 #[aN (encR x),aN (encR y)] L (fun v L'=>v=ac (cmpI y.2 x.2)∧L' = L):=by
 refine Tri.bd ?_;refine Jq ?_;intros;refine GO.cr (vG y.2 x.2) ?_;refine Jq ?_;intros;exact KX.en ⟨rfl,rfl⟩
def rle(x y:Rst):Prop:=y.2<x.2∨(x.2=y.2∧x.1<y.1)
def Fb{x y z:Rst}(h:rle x y)(h' : rle y z):rle x z:=by unfold rle at *;omega
def cmpI_neg{a b:Int}:cmpI a b<0↔a<b:=by
 unfold cmpI;(repeat' split)<;>omega
abbrev fvR:Value:=.func (.func 244) #[] #[]
def Jb(A:List Rst)(a e:Rst)(R:List Rst):((A++a::e::R).set (A.length+1) a).set A.length e=A++e::a::R:=by
 induction A with
 | nil=>rfl
 | cons x A ih=>simp
def midR(A:List Rst)(e:Rst)(R:List Rst):(A++e::R)[A.length]! = e:=by
 rw[getElem!_of bZ];simp
abbrev AO:=ay7 [.ev 13,.ef 14,.ev 15,.ev 16]
abbrev AN:=ay7 [.ev 13,.ev 14,.ef 15,.ev 16,.ef 17]
def TD{φ ψ:Prop}(k:ψ)(h:Hid ψ→φ:=by intro k;(repeat (first|refine aa ?_|intro zzz|refine G.dr 53 4 AO ?_|refine G.dr 53 6 AN ?_));(repeat revert zzz);exact Hid.out k):φ:=h ⟨k⟩
def FE{L:LH}(ad:OA)(cap n:Nat)(xs:List Rst)(hn:n=xs.length)(hl:n≤1000)(hx:xs.Pairwise (fun a b=>a.1<b.1)) :
  Tri ai 293 #[ah ad n cap,ac 0,ac (n:Int),fvR] (osl encR 2 tRst ad cap xs::L) (fun _ L'=>∃ys,(ys.Perm xs∧ys.Pairwise rle)∧L' = osl encR 2 tRst ad cap ys::L):=by
 refine Tri.bd ?_;refine TD ?_;intros;refine G.loop (α:=Nat×List Rst) (fun z=>1≤z.1∧(z.1≤n∨z.1=1)∧z.2.Perm (xs.take z.1)∧z.2.Pairwise rle) (fun z=>[(0,ah ad n cap),(1,ac 0),(2,ac (n:Int)),(3,fvR),(8,ac (z.1:Int))]) (fun z=>osl encR 2 tRst ad cap (z.2++xs.drop z.1)::L) (fun z=>n - z.1) (1,xs.take 1) ⟨aB _,.inr rfl,List.Perm.refl _,?_⟩ av (by dsimp only;rw[ew];exact Ent.refl _) ?_
 ·cases xs with
  | nil=>simp
  | cons x r=>simp
 rintro⟨i,P⟩ ⟨b6,c1,hp,hs⟩;dsimp only at b6 c1 hp hs ⊢;have b9:=hp.length_eq;rw[bG] at b9;by_cases c4:i<n
 case neg =>
  have e0:xs.drop i=[]:=bC ab;rw[aF ab] at hp;rw[e0,aQ];refine TD ?_;intros;exact KX.e7 al (Ent.refl _) ⟨P,⟨hp,hs⟩,rfl⟩
 obtain⟨e,he⟩:∃e,e=xs[i]!:=⟨_,rfl⟩;obtain⟨C,hC⟩:∃C,C=xs.drop (i+1):=⟨_,rfl⟩
 have b8:P++xs.drop i=P++e::([]++C):=by
  rw[he,hC,eZ (ab:i<xs.length),an]
 have a5:∀a∈P,a.1<e.1:=fun a ha=>by
  have h1:=hp.mem_iff.1 ha;obtain⟨j,hj,e1⟩:=List.mem_iff_getElem.1 h1;rw[bG] at hj;rw[List.getElem_take] at e1;have h2:=(List.pairwise_iff_getElem.1 hx) j i ab ab ab;rw[e1,←getElem!_of ab,←he] at h2;exact h2
 have b3:(P++[e]).Perm (xs.take (i+1)):=by
  rw[aD (ab:i<xs.length),←getElem!_of (ab:i<xs.length),←he];exact hp.append_right _
 rw[b8];have b5:P.length=i:=ab;have c7:i+1+C.length=n:=by rw[hC,dQ];omega
 refine TD ?_;intros;refine G.loop (α:=Nat×List Rst×List Rst) (fun z=>z.2.1.length=z.1∧z.1+z.2.2.length=i∧(z.2.1++z.2.2).Perm P∧(z.2.1++z.2.2).Pairwise rle∧∀b∈z.2.2,rle e b) (fun z=>[(0,ah ad n cap),(1,ac 0),(2,ac (n:Int)),(3,fvR),(8,ac (i:Int)),(9,ac (z.1:Int))]) (fun z=>osl encR 2 tRst ad cap (z.2.1++e::(z.2.2++C))::L) (fun z=>z.1) (i,P,[]) ⟨b5,rfl,by dsimp only;rw[aQ],by dsimp only;rw[aQ];exact hs,fun b hb=>absurd hb aU⟩ av (Ent.refl _) ?_;rintro⟨j,A,B⟩ ⟨hA,c0,a3,a1,hB⟩;dsimp only at hA c0 a3 a1 hB ⊢
 have a6:(A++e::(B++C)).length=n:=by
  rw[ay,bh,ay];omega
 have b1:(A++e::B).Perm (xs.take (i+1)):=by
  refine List.Perm.trans ?_ b3;refine List.perm_middle.trans ?_;exact(List.Perm.cons e a3).trans (dW e P).symm
 have a0:A++e::(B++C)=(A++e::B)++xs.drop (i+1):=by rw[←hC];simp
 by_cases b4:j=0
 ·have b7:A=[]:=aX ab;subst b7;refine TD ?_;intros;refine⟨(i+1,[]++e::B),⟨by dsimp only;omega,.inl fm,b1,?_⟩,by dsimp only;omega,?_,by rw[a0];exact Ent.refl _⟩
  ·dsimp only;rw[an,ey];exact⟨hB,by simpa using a1⟩
  ·dsimp only;rw[aV i];exact av
 obtain⟨A',a,c3⟩:∃A' a,A=A'++[a]:=by
  rcases List.eq_nil_or_concat A with h|⟨A',a,h⟩
  ·rw[h] at hA;exact absurd hA.symm b4
  ·exact⟨A',a,by simpa using h⟩
 subst c3;have c5:A'.length+1=j:=by simpa using hA
 have a2:A'++[a]++e::(B++C)=A'++a::e::(B++C):=by simp
 rw[a2] at a6 a0 ⊢
 have b0:(A'++a::e::(B++C))[(j:Int).toNat]! = e:=by
  have:=midR (A'++[a]) e (B++C)
  rw[a2] at this;rw[show(j:Int).toNat=(A'++[a]).length by simp;omega];exact this
 have a9:(A'++a::e::(B++C))[((j:Int) - 1).toNat]! = a:=by
  rw[show((j:Int) - 1).toNat=A'.length by omega];exact midR A' a (e::(B++C))
 have a7:a.1<e.1:=a5 a (a3.mem_iff.1 bZ);refine TD ?_;intros;rw[b0,a9];refine GPW.ef (Ef.d8 rfl rfl (Gh e a)) ag ?_;rintro _ _⟨rfl,rfl⟩;by_cases hk:a.2<e.2
 case neg =>
  have b2:¬cmpI a.2 e.2<0:=fun h=>hk (cmpI_neg.1 h);have a8:rle a e:=by unfold rle;omega
  refine TD ?_;intros;refine⟨(i+1,A'++[a]++e::B),⟨by dsimp only;omega,.inl fm,b1,?_⟩,by dsimp only;omega,?_,by rw[a0];exact Ent.refl _⟩
  ·dsimp only;rw[List.pairwise_append] at a1 ⊢;obtain⟨s1,s2,s3⟩:=a1;refine⟨s1,List.pairwise_cons.2 ⟨hB,s2⟩,?_⟩
   have a4:∀x∈A'++[a],rle x e:=by
    intro x hx;rcases List.mem_append.1 hx with hx|hx
    ·exact Fb ((List.pairwise_append.1 s1).2.2 x hx a bZ) a8
    ·rw[List.mem_singleton] at hx;subst hx;exact a8
   intro x hx y hy;rcases List.mem_cons.1 hy with rfl|hy
   ·exact a4 x hx
   ·exact s3 x hx y hy
  ·dsimp only;rw[aV i];exact av
 ·have b2:cmpI a.2 e.2<0:=cmpI_neg.2 hk;refine TD ?_;intros;refine GPW.efu (Ef.e8 (enc:=encR) (e:=(A'++a::e::(B++C))[((j:Int) - 1).toNat]!) rfl rfl aK aK (pi _) ab) ?_;rintro _ _ rfl;have c6:((A'++a::e::(B++C)).set (j:Int).toNat (A'++a::e::(B++C))[((j:Int) - 1).toNat]!).length=n:=by rw[cu];exact a6
  refine TD ?_;intros;refine GPW.efu (Ef.e8 (enc:=encR) (e:=(A'++a::e::(B++C))[(j:Int).toNat]!) rfl rfl aK aK (pi _) ab) ?_;rintro _ _ rfl
  have c2:((A'++a::e::(B++C)).set (j:Int).toNat (A'++a::e::(B++C))[((j:Int) - 1).toNat]!).set ((j:Int) - 1).toNat (A'++a::e::(B++C))[(j:Int).toNat]! = A'++e::((a::B)++C):=by
   rw[b0,a9,show((j:Int) - 1).toNat=A'.length by omega,show(j:Int).toNat=A'.length+1 by omega,Jb];rfl
  rw[c2];refine TD ?_;intros;refine⟨(j - 1,A',a::B),⟨by dsimp only;omega,by dsimp only;simp;omega,?_,?_,?_⟩,by dsimp only;omega,?_,Ent.refl _⟩
  ·dsimp only;simpa using a3
  ·dsimp only;simpa using a1
  ·intro b hb;rcases List.mem_cons.1 hb with rfl|hb
   ·exact .inl hk
   ·exact hB b hb
  ·dsimp only;rw[show((j - 1:Nat):Int)=(j:Int) - 1 by omega];exact av
def yX{L:LH}(ad:OA)(cap n:Nat)(xs:List Rst)(hn:n=xs.length)(hl:n<20)(hx:xs.Pairwise (fun a b=>a.1<b.1)) :
  Tri ai 277 #[ah ad n cap,ac (n:Int),fvR] (osl encR 2 tRst ad cap xs::L) (fun _ L'=>∃ys,(ys.Perm xs∧ys.Pairwise rle)∧L' = osl encR 2 tRst ad cap ys::L):=by
 refine Tri.bd ?_;refine Jq ?_;intros;refine G.f7 1 (GR.step ?_);refine Jq ?_;intros;refine GO.ca (FE ad cap n xs hn ab hx) ?_;rintro _ _⟨ys,a0,rfl⟩;refine Jq ?_;intros;refine G.f7 1 (GR.step ?_);refine Jq ?_;intros;exact KX.e7 al (Ent.refl _) ⟨ys,a0,rfl⟩
def th{L:LH}(ad:OA)(cap n:Nat)(xs:List Rst)(hn:n=xs.length)(hl:n<20)(hx:xs.Pairwise (fun a b=>a.1<b.1)) :
  Tri ai 243 #[ah ad n cap,fvR] (osl encR 2 tRst ad cap xs::L) (fun _ L'=>∃ys,(ys.Perm xs∧ys.Pairwise rle)∧L' = osl encR 2 tRst ad cap ys::L):=by
 refine Tri.bd ?_;refine Jq ?_;intros;refine GO.ca (yX ad cap n xs hn hl hx) ?_;rintro _ _⟨ys,a0,rfl⟩;refine Jq ?_;intros;exact KX.e7 al (Ent.refl _) ⟨ys,a0,rfl⟩
def kn(n i:Nat)(f:Nat→Int):List Rst:=(List.range n).map (fun k:Nat=>if k<i then((k:Int),f k) else(0,0))
def FX(n i:Nat)(f:Nat→Int):(kn n i f).length=n:=by simp[kn]
def DY(n:Nat)(f:Nat→Int):kn n 0 f=List.replicate n (0,0):=by
 apply dS
 ·simp[kn]
 ·intro i h1 h2;simp[kn]
def FV{n i:Nat}(f:Nat→Int)(h:i<n):(kn n i f).set i ((i:Int),f i)=kn n (i+1) f:=by
 apply dS
 ·simp[kn]
 ·intro j h1 h2;rw[fJ];simp only[kn,dR,List.getElem_range];by_cases hj:i=j
  ·subst hj;simp
  ·rw[if_neg hj];by_cases h3:j<i
   ·rw[if_pos h3,if_pos ab]
   ·rw[if_neg h3,if_neg ab]
def vA(n:Nat)(f:Nat→Int):kn n n f=(List.range n).map (fun k:Nat=>((k:Int),f k)):=by
 apply dc;intro k hk;rw[if_pos (List.mem_range.1 hk)]
def FU(n:Nat)(f:Nat→Int):(kn n n f).Pairwise (fun a b=>a.1<b.1):=by
 rw[vA,List.pairwise_map];refine List.pairwise_lt_range.imp (fun {a b} h=>?_);dsimp only;omega
def Fx{L:LH}(n w:Int)(h0:0≤n)(h1:n≤1099511627776)(h2:0≤w)(h3:w≤1099511627776) :
  Tri ai 241 #[.int .u64 n,.int .u64 w] L (fun v L'=>v=.tuple #[.int .u64 (n*w / 18446744073709551616),.int .u64 (n*w % 18446744073709551616)]∧L' = L):=by
 obtain⟨nN,rfl⟩:∃nN:Nat,n=(nN:Int):=⟨n.toNat,ab⟩;obtain⟨wN,rfl⟩:∃wN:Nat,w=(wN:Int):=⟨w.toNat,ab⟩;have e1:(nN:Int)*(wN:Int) / 18446744073709551616=((nN*wN / 18446744073709551616:Nat):Int):=by rw[Int.natCast_ediv,gw];rfl
 have e2:(nN:Int)*(wN:Int) % 18446744073709551616=((nN*wN % 18446744073709551616:Nat):Int):=by rw[Int.natCast_emod,gw];rfl
 rw[e1,e2];exact tH nN wN ab ab
def Gf{L:LH}(p y:Int)(h0:0≤p)(h1:0<y)(h2:y≤1152921504606846976)(h3:p / 18446744073709551616<y) :
  Tri ai 242 #[.int .u64 (p / 18446744073709551616),.int .u64 (p % 18446744073709551616),.int .u64 y] L (fun v L'=>v=.tuple #[.int .u64 (p / y),.int .u64 (p % y)]∧L' = L):=by
 obtain⟨pN,rfl⟩:∃pN:Nat,p=(pN:Int):=⟨p.toNat,ab⟩;obtain⟨yN,rfl⟩:∃yN:Nat,y=(yN:Int):=⟨y.toNat,ab⟩;have e1:(pN:Int) / 18446744073709551616=((pN / 18446744073709551616:Nat):Int):=by rw[Int.natCast_ediv];rfl
 have e2:(pN:Int) % 18446744073709551616=((pN % 18446744073709551616:Nat):Int):=by rw[Int.natCast_emod];rfl
 have e:=fT pN 18446744073709551616;rw[fh] at e;rw[e1] at h3;rw[e1,e2,←Int.natCast_ediv,←Int.natCast_emod];have h:=tV (L:=L) (pN / 18446744073709551616) (pN % 18446744073709551616) yN ab ab ab;rw[e] at h;exact h
def rj{L:LH}(ad:OA)(n c:Nat)(l:LL)(m:Int)[hr:Rds L ad Lot aj 3 l](hn:n=l.length)(c9:l.length<20)(hl:∀x∈l,LotOk x)(b5:l≠[])(h0:0≤m)(h1:m≤lsum l)(h2:m≤1099511627776) :
  Tri ai 155 #[ah ad n c,ac m] L (fun v L'=>∃b4 a8,v=ah b4 l.length a8∧L' = osl (encZ .i64) 1 tInt b4 a8 ((List.range l.length).map (shC l m))::L):=by
 subst hn;have b2:0<l.length:=List.length_pos_iff.2 b5;have hs:=jk hl b2;have d1:=gV hl l.length (aB _);rw[iu] at d1;refine Tri.bd ?_;refine Jq ?_;intros;refine G.loop (α:=Nat) (fun i=>i≤l.length) (fun i=>[(0,ah ad l.length c),(1,ac m),(5,ac (lsum (l.take i))),(19,ah ad l.length c),(20,ac l.length),(21,ac (i:Int))]) (fun _=>L) (fun i=>l.length - i) 0 (aw _) av (Ent.refl _) ?_;intro i hi;by_cases a1:i<l.length
 case pos =>
  have a3:(i:Int).toNat=i:=aC i;have a7 : (i:Int).toNat<l.length:=ab;have a9:=hl _ (aI a1);unfold LotOk at a9;have c5:=gV hl i ab;have d3:=eJ l a1;have b1:1≤l[(i:Int).toNat]!.2.2∧l[(i:Int).toNat]!.2.2≤1099511627776:=by rw[a3];omega
  refine Jq ?_;intros;refine⟨i+1,ab,ab,?_,by exact ae⟩;rw[d3,aV i,show l[i]! = l[(i:Int).toNat]! by rw[a3]];exact av
 obtain rfl:i=l.length:=ab;rw[iu];refine Jq ?_;intros;refine GO.ef (Ef.makeSlice (encZ .i64) 0 rfl rfl rfl ab ab ab) ag ?_;rintro _ _⟨bp,rfl,rfl⟩;rw[aC,←ko l.length (shQ l m)];refine Jq ?_;intros;refine GO.ef (Ef.e9 encR ((0,0):Rst) rfl rfl rfl ab ab ab ab) ag ?_;rintro _ _⟨br,rfl,rfl⟩;rw[aC,←DY l.length (shR l m)];refine Jq ?_;intros;refine G.loop (α:=Nat) (fun i=>i≤l.length) (fun i=>[(1,ac m),(5,ac (lsum l)),(8,ah (some ⟨bp,0,none⟩) l.length l.length),(9,ah (some ⟨br,0,none⟩) l.length l.length),(10,ac (m - db i (shQ l m))),(37,ah ad l.length c),(38,ac l.length),(39,ac (i:Int))]) (fun i=>osl (encZ .i64) 1 tInt (some ⟨bp,0,none⟩) l.length (gx l.length i (shQ l m))::osl encR 2 tRst (some ⟨br,0,none⟩) l.length (kn l.length i (shR l m))::L) (fun i=>l.length - i) 0 (aw _) ?_ ae ?_
 ·rw[kh,fG];exact av
 clear hi a1;intro i hi;have b9:=kf l.length i (shQ l m);have b8:=FX l.length i (shR l m);by_cases a1:i<l.length
 case pos =>
  have a3:(i:Int).toNat=i:=aC i;have a7 : (i:Int).toNat<l.length:=ab;have a9:=hl _ (aI a1);unfold LotOk at a9;have b1:1≤l[(i:Int).toNat]!.2.2∧l[(i:Int).toNat]!.2.2≤1099511627776:=by rw[a3];omega
  obtain⟨q1,q2⟩:=jP hl h0 h1 a1;have e5:0≤shR l m i:=dA _ ab;have d5:shR l m i<lsum l:=dF _ hs;refine Jq ?_;intros;have d0:m*l[(i:Int).toNat]!.2.2=m*l[i]!.2.2:=by rw[a3]
  have c0:0≤m*l[i]!.2.2:=dI h0 ab;have e2:m*l[i]!.2.2≤1099511627776*1099511627776:=fH h2 ab ab ag
  have b0:m*l[i]!.2.2 / 18446744073709551616<lsum l:=by
   have h5:shQ l m i≤1099511627776:=ab;unfold shQ at h5;have h6:=Int.lt_ediv_add_one_mul_self (m*l[i]!.2.2) hs;have h7:(m*l[i]!.2.2 / lsum l+1)*lsum l≤1099511627777*lsum l:=bV ab ab;omega
  refine GO.cr (Fx m l[(i:Int).toNat]!.2.2 h0 h2 ab ab) ?_;rw[d0];refine Jq ?_;intros;refine GO.cr (Gf (m*l[i]!.2.2) (lsum l) c0 hs ab b0) ?_;rw[show m*l[i]!.2.2 / lsum l=shQ l m i from rfl,show m*l[i]!.2.2 % lsum l=shR l m i from rfl];refine Jq ?_;intros;refine GO.efu (Ef.e8 (enc:=encR) (e:=((i:Int),shR l m i)) rfl rfl aK aK (pi ((i:Int),shR l m i)) ab) ?_;rintro _ _ rfl
  have d4:0≤db i (shQ l m)∧db i (shQ l m)≤lsum (l.take i):=by
   rw[show lsum (l.take i)=db i (fun k=>l[k]!.2.2) by unfold db;rw[mG l i hi]];refine⟨?_,lB (fun k hk=>(jP hl h0 h1 ab).2)⟩;have:=lB (n:=i) (f:=fun _=>0) (g:=shQ l m) (fun k hk=>(jP hl h0 h1 ab).1)
   rw[nH] at this;omega
  have c5:=gV hl i ab;have c8:=eG i (shQ l m);refine Jq ?_;intros;rw[a3,la (shQ l m) a1,FV (shR l m) a1];refine⟨i+1,ab,ab,?_,by exact ae⟩;rw[c8,show m - (db i (shQ l m)+shQ l m i)=m - db i (shQ l m) - shQ l m i by omega,aV i];exact av
 obtain rfl:i=l.length:=ab;rw[lc,←kR];obtain⟨e0,e4⟩:=ma (n:=m) hl b5;refine Jq ?_;intros;(first|refine GO.ef (Ef.call (th (L:=[]) (some ⟨br,0,none⟩) l.length l.length (kn l.length l.length (shR l m)) b8.symm c9 (FU _ _)) rfl cJ) ag ?_);rintro _ _⟨_,⟨ys,⟨a4,b7⟩,rfl⟩,hL⟩;simp only[ao,an] at hL;subst hL;rw[vA] at a4;obtain⟨o,ho⟩:∃o,o=ys.map (fun r:Rst=>r.1.toNat):=⟨_,rfl⟩
 have a2:o.Perm (List.range l.length):=by
  have:=a4.map (fun r:Rst=>r.1.toNat)
  rw[gy,show((fun r:Rst=>r.1.toNat) ∘ fun k:Nat=>((k:Int),shR l m k))=id from rfl,List.map_id] at this;rw[ho];exact this
 have a5:o.Pairwise (rkLt (shR l m)):=by
  rw[ho,List.pairwise_map];refine b7.imp_of_mem (fun {a b} ha hb h=>?_);obtain⟨k,_,rfl⟩:=List.mem_map.1 (a4.mem_iff.1 ha);obtain⟨j,_,rfl⟩:=List.mem_map.1 (a4.mem_iff.1 hb);unfold rle at h;unfold rkLt;show shR l m (j:Int).toNat<shR l m (k:Int).toNat∨_;rw[aC,aC];dsimp only at h ⊢;omega
 have e3:o.length=l.length:=by have:=a2.length_eq;simpa using this
 have d6:ys.length=l.length:=by have:=a4.length_eq;simpa using this
 have c3:∀i,i<ys.length→ys[i]!.1=(o[i]! : Int):=fun i hi=>by
  have h3:o[i]! = ys[i]!.1.toNat:=by rw[ho,el _ hi]
  have h4:=a4.mem_iff.1 (aI hi);obtain⟨k,_,e⟩:=List.mem_map.1 h4;rw[h3,←e];show(k:Int)=((k:Int).toNat:Int);omega
 have c1:∀i,i<o.length→o[i]! < l.length:=fun i hi=>List.mem_range.1 (a2.mem_iff.1 (aI hi));clear b7 a4 ho hi a1 b9 b8;refine Jq ?_;intros;obtain⟨lf,c6⟩:∃lf:Nat,lf=(ge l m).toNat:=⟨_,rfl⟩;rw[←c6];have c7:lf<l.length:=ab
 refine G.loop (α:=Nat) (fun i=>i≤lf) (fun i=>[(8,ah (some ⟨bp,0,none⟩) l.length l.length),(81,ah (some ⟨br,0,none⟩) lf l.length),(82,ac (lf:Int)),(83,ac (i:Int))])
  (fun i=>osl encR 2 tRst (some ⟨br,0,none⟩) l.length ys::osl (encZ .i64) 1 tInt (some ⟨bp,0,none⟩) l.length ((List.range l.length).map (fun k=>shQ l m k+if k∈o.take i then 1 else 0))::L) (fun i=>lf - i) 0 (aw _) av ?_ ?_
 ·have e:(List.range l.length).map (fun k=>shQ l m k+if k∈o.take 0 then 1 else 0)=(List.range l.length).map (shQ l m):=dc (fun k _=>by simp);rw[e];exact ae
 intro i hi;by_cases a1:i<lf
 case neg =>
  have e:(List.range l.length).map (fun k=>shQ l m k+if k∈o.take i then 1 else 0)=(List.range l.length).map (shC l m):=by
   apply dc;intro k hk;have c4:=List.mem_range.1 hk;unfold shC;rw[oH];congr 1;have h3:=iR a2 a5 (m:=i) c4;by_cases h4:fi (shR l m) l.length k<i
   ·rw[if_pos (h3.2 h4),if_pos ab]
   ·rw[if_neg (fun h=>h4 (h3.1 h)),if_neg ab]
  rw[e];refine Jq ?_;intros;exact KX.en ⟨some ⟨bp,0,none⟩,l.length,rfl,rfl⟩
 have a3:(i:Int).toNat=i:=ab;have a6:i<o.length:=ab;have a0:=c1 i a6;have d2:=c3 i ab;have e1:((List.range l.length).map (fun k=>shQ l m k+if k∈o.take i then 1 else 0)).length=l.length:=by simp
 have c2:((List.range l.length).map (fun k=>shQ l m k+if k∈o.take i then 1 else 0))[o[i]!]! = shQ l m o[i]!:=by
  rw[ie a0,if_neg,da];intro b3;have h3:=(iR a2 a5 a0).1 b3;rw[getElem!_of a6,jR a2 a5 a6] at h3;omega
 obtain⟨q1,q2⟩:=jP hl h0 h1 a0;have a9:=hl _ (aI a0);unfold LotOk at a9;have b6:((o[i]! : Nat):Int).toNat=o[i]!:=ab;have a7 : (i:Int).toNat<ys.length:=ab;refine Jq ?_;intros;rw[a3,d2];refine Jq ?_;intros;rw[b6,c2];refine Jq ?_;intros
 have e:((List.range l.length).map (fun k=>shQ l m k+if k∈o.take i then 1 else 0)).set o[i]! (shQ l m o[i]! + 1)=(List.range l.length).map (fun k=>shQ l m k+if k∈o.take (i+1) then 1 else 0):=by
  apply dS
  ·simp
  ·intro k h3 h4;have hk:k<l.length:=by simpa using h4
   rw[fJ];simp only[dR,List.getElem_range];have m1:=iR a2 a5 (m:=i) hk;have m2:=iR a2 a5 (m:=i+1) hk;by_cases h5:o[i]! = k
   ·subst h5;have h6:fi (shR l m) l.length o[i]! = i:=by rw[getElem!_of a6];exact jR a2 a5 a6
    rw[if_pos rfl,if_pos (m2.2 ab)]
   ·rw[if_neg h5];congr 1
    have h6:fi (shR l m) l.length k≠i:=by
     intro h7;refine h5 (tz (R:=shR l m) a0 hk ?_);rw[h7,getElem!_of a6];exact jR a2 a5 a6
    by_cases h7:fi (shR l m) l.length k<i
    ·rw[if_pos (m1.2 h7),if_pos (m2.2 ab)]
    ·rw[if_neg (fun h=>h7 (m1.1 h)),if_neg (fun h=>absurd (m2.1 h) ab)]
 try rw[b6]
 rw[e];refine⟨i+1,ab,ab,?_,by exact ae⟩;rw[aV i];exact av
