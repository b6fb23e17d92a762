/- Lemmas. -/
import Derived.Test.YtommnllbflbdmaaGreatDoorFbe
set_option linter.all false
set_option maxHeartbeats 4000000
namespace Go.Proofs.YtommnllbflbdmaaGreatDoor
section
open Go.V
attribute [local irreducible] G GO GP GPW GPK Ev Ef EfR Ent CB GB V.Enters
def Hn{ys:LL}{i:Nat}(h:i<ys.length)(f:Int):ofF (ys.take (i+1)) f=if ys[i]!.1=f then ofF (ys.take i) f++[ys[i]!] else ofF (ys.take i) f:=by
 rw[aG h,getElem!_of h];unfold ofF;rw[dm];by_cases e:ys[i].1=f
 ·rw[if_pos e,cI (by simpa using e)];rfl
 ·rw[if_neg e,cJ (by simpa using e),List.filter_nil,aR]
def rc(ys:LL)(f:Int):(ofF ys f).length≤ys.length:=gc _ _
abbrev Bh:=aH1 [.ef 8,.ef 9,.ef 10]
abbrev xT:=aG9 [.ev 4,.ev 6,.ef 5,.ef 7,.ev 8,.ev 9,.ev 10]
abbrev xS:=aG9 [.ev 4,.ev 6,.ef 5,.ev 7,.ef 8,.ev 9]
def Su{φ ψ:Prop}(k:ψ)(h:Hid ψ→φ:=by intro k;(repeat (first|refine aa ?_|intro zzz|refine G.dr 98 6 Bh ?_|refine G.dr 98 17 xT ?_|refine G.dr 98 23 xS ?_));(repeat revert zzz);exact Hid.out k):φ:=h ⟨k⟩
set_option maxRecDepth 10000 in
def wH{L:LH}(ad:OA)(n c:Nat)(a0:LL)[hr:Rds L ad Lot aj 3 a0](ad2:OA)(n2 c2:Nat)(ps:LL)[h6:Rds L ad2 Lot aj 3 ps](hn:n=a0.length)(f9:n2=ps.length)(hs:∀x∈a0,LotOk x)(h7:a0.length≤4096)(hp:∀x∈ps,LotOk x)(h5:ps.length≤4096)(ha:Apart ps) :
  Tri ai 153 #[ah ad n c,ah ad2 n2 c2] L (fun v L'=>∃d0 a9,v=.tuple #[ah d0 (dS a0 ps).length a9,.bool (dB (lsum ps - OO ps a0=0))]∧L' = osl aj 3 tLot d0 a9 (dS a0 ps)::L):=by
 subst hn f9;refine Tri.bd ?_;refine Su ?_;intros;refine GO.ef (Ef.e7 kvI Stk.v (.inl rfl)) ae ?_;rintro _ _⟨bm,rfl,rfl⟩;refine Su ?_;intros;refine GO.ca (rT ad2 ps.length c2 ps rfl ab) ?_;rintro _ _⟨b6,cy,ys,rfl,b5,rfl⟩;have h8:=b5.1.length_eq;have f1:∀x∈ys,LotOk x:=fun x hx=>hp x (b5.1.mem_iff.1 hx);refine Su ?_;intros;refine G.loop (α:=Nat×List (Int×Stk)) (fun g=>g.1≤ys.length∧((g.2.map (·.1)).Nodup∧(∀f,(fK g.2 f).lots=ofF (ys.take g.1) f))∧0≤lsum (ys.take g.1)∧lsum (ys.take g.1)≤(g.1:Int)*1099511627776) (fun g=>[(0,ah ad a0.length c),(6,.map (some bm)),(7,ac (lsum (ys.take g.1))),(20,ah b6 ys.length cy),(21,ac ys.length),(22,ac (g.1:Int))]) (fun g=>gmap kvI Stk.v bm g.2::bigO ge g.2::osl aj 3 tLot b6 cy ys::L) (fun g=>ys.length - g.1) (0,[]) ⟨ax _,⟨List.nodup_nil,fun _=>rfl⟩,bB _,bB _⟩ av (Ent.trans ag ((Ent.l5 ge).trans ag)) ?_;rintro⟨i,m⟩ ⟨hi,⟨b3,a8⟩,d4,b7⟩;dsimp only at hi b3 a8 d4 b7 ⊢;by_cases a6:i<ys.length
 case pos =>
  have b1:(i:Int).toNat=i:=aC i;have c3 : (i:Int).toNat<ys.length:=ab;have a7:=eK ys a6;have g0:=f1 _ (aJ a6);unfold LotOk at g0;have e0:(i:Int)*1099511627776≤4096*1099511627776:=cd ab ae
  have c4:((i+1:Nat):Int)*1099511627776=(i:Int)*1099511627776+1099511627776:=by
   rw[Int.natCast_add,Int.add_mul];rfl
  refine G.ent (L':=osl aj 3 tLot (fK m ys[(i:Int).toNat]!.1).ad (fK m ys[(i:Int).toNat]!.1).cap (fK m ys[(i:Int).toNat]!.1).lots::bigO ge (gera m ys[(i:Int).toNat]!.1)::gmap kvI Stk.v bm m::osl aj 3 tLot b6 cy ys::L) (Ent.swap.trans ((rX b3).trans ag)) ?_
  have g6:(fK m ys[(i:Int).toNat]!.1).lots.length≤4096:=by
   rw[a8];refine cO (rc _ _) ?_;rw[bg];omega
  have hv:=qT m ys[(i:Int).toNat]!.1;unfold glk at hv;refine Su ?_;intros;refine GPW.evL (Ev.e8 rfl rfl) ae ?_;rw[hv];refine Su ?_;intros;refine GPK.keep (by rw[←hv];exact Ev.e8 rfl rfl) ?_;refine Su ?_;intros;refine GPW.ef (Ef.d7 (enc:=aj) (e:=ys[(i:Int).toNat]!) rfl rfl rfl rfl rfl aK (bX _) ab ab) ae ?_;rintro _ _⟨ad3,cap3,rfl,rfl⟩;refine Su ?_;intros;refine GPW.efu (Ef.e8 (enc:=Stk.v) (e:=(⟨ad3,cap3,(fK m ys[(i:Int).toNat]!.1).lots++[ys[(i:Int).toNat]!]⟩:Stk)) rfl rfl rfl rfl) ?_;rintro _ _⟨rfl,rfl⟩;have g1:1≤ys[(i:Int).toNat]!.2.2∧ys[(i:Int).toNat]!.2.2≤1099511627776:=by rw[b1];omega
  refine Su ?_;intros;refine⟨(i+1,gins m ys[(i:Int).toNat]!.1 ⟨ad3,cap3,(fK m ys[(i:Int).toNat]!.1).lots++[ys[(i:Int).toNat]!]⟩),⟨by dsimp only;omega,⟨mq b3,fun f=>?_⟩,by dsimp only;rw[a7];omega,by dsimp only;rw[a7,c4];omega⟩,by dsimp only;omega,?_,?_⟩
  ·dsimp only;rw[oD,Hn a6,b1];by_cases e:ys[i]!.1=f
   ·rw[if_pos e.symm,if_pos e,a8,e]
   ·rw[if_neg (fun q=>e q.symm),if_neg e];exact a8 f
  ·dsimp only;rw[aY i,a7,show ys[i]! = ys[(i:Int).toNat]! by rw[b1]];exact av
  ·dsimp only;refine Ent.trans ?_ (Ent.swap.trans (Ent.d7 (Ent.refl _)));refine Ent.trans ?_ (pT (f:=ys[(i:Int).toNat]!.1) b3 ⟨ad3,cap3,(fK m ys[(i:Int).toNat]!.1).lots++[ys[(i:Int).toNat]!]⟩);exact ag
 obtain rfl:i=ys.length:=ab;rw[bC] at a8 d4 b7 ⊢;have e4:lsum ys≤4096*1099511627776:=Int.le_trans b7 (cd ab ae);refine G.ent (L':=gmap kvI Stk.v bm m::allP stkI m::L) (Ent.swap.trans ((Iq m).trans ag)) ?_;refine Su ?_;intros;refine G.loop (α:=Nat×OA×Nat×LL×Int) (fun g=>g.1≤a0.length∧wAll ys (a0.take g.1) ([],lsum ys)=(g.2.2.2.1,g.2.2.2.2)∧(∀y∈g.2.2.2.1,LotW y)∧g.2.2.2.1.length≤g.1*4097∧-((g.1:Int)*1099511627776)≤g.2.2.2.2∧g.2.2.2.2≤lsum ys) (fun g=>[(6,.map (some bm)),(7,ac g.2.2.2.2),(10,ah g.2.1 g.2.2.2.1.length g.2.2.1),(41,ah ad a0.length c),(42,ac a0.length),(43,ac (g.1:Int))]) (fun g=>osl aj 3 tLot g.2.1 g.2.2.1 g.2.2.2.1::gmap kvI Stk.v bm m::allP stkI m::L) (fun g=>a0.length - g.1) (0,none,0,[],lsum ys) ⟨ax _,rfl,fun y hy=>absurd hy aV,ax _,by dsimp only;omega,bB _⟩ av ((Ent.d8 aj 3 tLot).trans ag) ?_;clear hi a6;rintro⟨i,oa,oc,out,a4⟩ ⟨hi,hw,a2,b4,f6,e0⟩;dsimp only at hi hw a2 b4 f6 e0 ⊢;by_cases a6:i<a0.length
 case neg =>
  rw[aD ab,GW b5 hp ha hs] at hw;obtain⟨e1,e2⟩:=Prod.mk.injEq ..▸hw;rw[e1,e2];refine Su ?_;intros;refine KX.d7 an ?_ ⟨oa,oc,rfl,rfl⟩;exact ag
 have b1:(i:Int).toNat=i:=aC i;have c3 : (i:Int).toNat<a0.length:=ab;have e6:=hs _ (aJ a6)
 have e5:wAll ys (a0.take (i+1)) ([],lsum ys)=wLot a0[i]! (ofF ys a0[i]!.1) (out,a4):=by
  rw[aG a6,←getElem!_of a6];unfold wAll at hw ⊢;rw[cv,hw];rfl
 have hv:=qT m a0[(i:Int).toNat]!.1;unfold glk at hv;have c1:=a8 a0[(i:Int).toNat]!.1;have f3:=rc ys a0[(i:Int).toNat]!.1;refine Su ?_;intros;refine GO.ev (Ev.e8 rfl rfl) ae ?_;rw[hv];rw[c1];refine Su ?_;intros;rename_i d1;clear hv;rw[b1] at c1 f3 ⊢;generalize a0[i]! = x at *;have g2:=BT b5 hp ha x.1;have g5:∀p∈ofF ys x.1,LotOk p∧p.1=x.1:=fun p hp=>⟨f1 p (ofF_mem.1 hp).1,(ofF_mem.1 hp).2⟩;generalize hqs:ofF ys x.1=qs at *;generalize (fK m x.1).cap=qc
 have b9:∀{L:LH},Ent (allP stkI m::L) (isl aj 3 (fK m x.1).ad qs::allP stkI m::L):=fun {L}=>by
  have:=Ip m x.1 (L:=L)
  rw[c1] at this;exact this
 generalize (fK m x.1).ad=qa at *;have f0:=e6.w;have c9:=e6;unfold LotOk at c9;have h4:(i:Int)*1099511627776≤4096*1099511627776:=cd ab ae
 have c4:((i+1:Nat):Int)*1099511627776=(i:Int)*1099511627776+1099511627776:=by
  rw[Int.natCast_add,Int.add_mul];rfl
 have h0:(qs.take 0).foldl (gG x) (out,x.2.1,a4)=(out,x.2.1,a4):=by rw[bK,List.foldl_nil]
 refine G.loop (α:=Nat×OA×Nat×LL×Int×Int) (fun g=>g.1≤qs.length∧(qs.take g.1).foldl (gG x) (out,x.2.1,a4)=(g.2.2.2.1,g.2.2.2.2.1,g.2.2.2.2.2)∧(∀y∈g.2.2.2.1,LotW y)∧g.2.2.2.1.length≤i*4097+g.1∧x.2.1≤g.2.2.2.2.1∧g.2.2.2.2.1≤x.2.1+x.2.2∧a4 - (g.2.2.2.2.1 - x.2.1)≤g.2.2.2.2.2∧g.2.2.2.2.2≤a4) (fun g=>[(6,.map (some bm)),(7,ac g.2.2.2.2.2),(10,ah g.2.1 g.2.2.2.1.length g.2.2.1),(12,ay d1),(13,ac g.2.2.2.2.1),(41,ah ad a0.length c),(42,ac a0.length),(43,ac (i:Int)),(52,ah qa qs.length qc),(53,ac qs.length),(54,ac (g.1:Int))]) (fun g=>osl aj 3 tLot g.2.1 g.2.2.1 g.2.2.2.1::isl aj 3 qa qs::obj d1 tLot (aj x)::gmap kvI Stk.v bm m::allP stkI m::L) (fun g=>qs.length - g.1) (0,oa,oc,out,x.2.1,a4) (by dsimp only;exact⟨ax _,h0,a2,ab,bB _,ab,ab,bB _⟩) av ((Ent.at (A:=allP stkI m) b9).trans ag) ?_;clear a2 b4;rintro⟨k,oa,oc,o2,at_,a3⟩ ⟨hk,hf,a2,b4,d2,d3,d5,d6⟩;dsimp only at hk hf a2 b4 d2 d3 d5 d6 ⊢;by_cases c0:k<qs.length
 case neg =>
  rw[aD ab] at hf
  have h1:wLot x qs (out,a4)=(aZ o2 (x.1,at_,x.2.1+x.2.2 - at_),a3):=by
   unfold wLot;rw[hf]
  rw[h1] at e5;refine Su ?_;intros;refine GPW.cr (jf x f0) ?_;refine Su ?_;intros;(first|refine GPW.ef (Ef.call (mL (L:=[]) oa oc o2.length oc o2 (x.1,at_,x.2.1+x.2.2 - at_) rfl rfl ab a2 (by unfold LotW;dsimp only;omega)) rfl cN) ae ?_);rintro _ _⟨_,⟨a5,c5,rfl,rfl⟩,hL⟩;simp only[ao,al] at hL;subst hL;have f4:=kU o2 (x.1,at_,x.2.1+x.2.2 - at_);refine Su ?_;intros;refine⟨(i+1,a5,c5,aZ o2 (x.1,at_,x.2.1+x.2.2 - at_),a3),⟨by dsimp only;omega,e5,rh a2 (by unfold LotW;dsimp only;omega),by dsimp only;omega,by dsimp only;rw[c4];omega,by dsimp only;omega⟩,by dsimp only;omega,?_,by exact ag⟩;dsimp only;rw[aY i];exact av
 have b2:(k:Int).toNat=k:=aC k;have f5 : (k:Int).toNat<qs.length:=ab
 have b0:(qs.take (k+1)).foldl (gG x) (out,x.2.1,a4)=gG x (o2,at_,a3) qs[k]!:=by
  rw[aG c0,cv,hf,getElem!_of c0];rfl
 have e3:=(g5 _ (aJ c0)).1;have g4:=e3.w;have c6:=e3;unfold LotOk at c6;refine Su ?_;intros;have c7 : LotW qs[(k:Int).toNat]!:=by rw[b2];exact g4
 refine GPW.cr (jf qs[(k:Int).toNat]! c7) ?_;refine Su ?_;intros;refine GPW.cr (jf x f0) ?_
 have g3:0≤qs[(k:Int).toNat]!.2.1∧1≤qs[(k:Int).toNat]!.2.2∧qs[(k:Int).toNat]!.2.1+qs[(k:Int).toNat]!.2.2≤1099511627776:=by
  rw[b2];omega
 by_cases hc:max qs[(k:Int).toNat]!.2.1 at_ ≥ min (qs[(k:Int).toNat]!.2.1+qs[(k:Int).toNat]!.2.2) (x.2.1+x.2.2)
 ·have a1:gG x (o2,at_,a3) qs[k]! = (o2,at_,a3):=by
   rw[b2] at hc;exact if_pos hc
  rw[a1] at b0;refine Su ?_;intros;refine⟨(k+1,oa,oc,o2,at_,a3),⟨by dsimp only;omega,b0,a2,by dsimp only;omega,d2,d3,d5,d6⟩,by dsimp only;omega,?_,by exact ag⟩;dsimp only;rw[aY k];exact av
 ·have a1:gG x (o2,at_,a3) qs[k]! = (aZ o2 (x.1,at_,max qs[(k:Int).toNat]!.2.1 at_ - at_),min (qs[(k:Int).toNat]!.2.1+qs[(k:Int).toNat]!.2.2) (x.2.1+x.2.2),a3 - (min (qs[(k:Int).toNat]!.2.1+qs[(k:Int).toNat]!.2.2) (x.2.1+x.2.2) - max qs[(k:Int).toNat]!.2.1 at_)):=by
   rw[b2] at hc ⊢;exact if_neg hc
  rw[a1] at b0;refine Su ?_;intros;obtain⟨fr,b8⟩:∃fr,fr=max qs[(k:Int).toNat]!.2.1 at_:=⟨_,rfl⟩;obtain⟨to,c8⟩:∃to,to=min (qs[(k:Int).toNat]!.2.1+qs[(k:Int).toNat]!.2.2) (x.2.1+x.2.2):=⟨_,rfl⟩;rw[←b8,←c8] at b0;rw[←b8,←c8];rw[←b8,←c8] at hc;have h2:at_≤fr:=ab;have h3:fr<to:=ab;have f2:to≤x.2.1+x.2.2:=ab;clear a1;(first|refine GO.ef (Ef.call (mL (L:=[]) oa oc o2.length oc o2 (x.1,at_,fr - at_) rfl rfl ab a2 (by unfold LotW;dsimp only;omega)) rfl cN) ae ?_);rintro _ _⟨_,⟨a5,c5,rfl,rfl⟩,hL⟩;simp only[ao,al] at hL;subst hL;have f4:=kU o2 (x.1,at_,fr - at_);refine Su ?_;intros;refine⟨(k+1,a5,c5,aZ o2 (x.1,at_,fr - at_),to,a3 - (to - fr)),⟨by dsimp only;omega,b0,rh a2 (by unfold LotW;dsimp only;omega),by dsimp only;omega,by dsimp only;omega,f2,by dsimp only;omega,by dsimp only;omega⟩,by dsimp only;omega,?_,by exact ag⟩;dsimp only;rw[aY k];exact av
abbrev Rst:=Int×Int
def encR(x:Rst):LV:=[ac x.1,.int .u64 x.2]
def pq(t:Rst):∀u∈encR t,u.oneCell' = true:=by simp[encR,Value.oneCell']
instance:EncC encR:=⟨pq⟩
abbrev tRst:Nat:=290
def Gy{L:LH}(x y:Rst):Tri ai 244 #[aO (encR x),aO (encR y)] L (rtQ (ac (cmpI y.2 x.2)) L):=by
 refine Tri.bd ?_;refine JM ?_;intros;refine GO.cr (vP y.2 x.2) ?_;refine JM ?_;intros;exact KX.en ⟨rfl,rfl⟩
def rle(x y:Rst):Prop:=y.2<x.2∨(x.2=y.2∧x.1<y.1)
def Fq{x y z:Rst}(h:rle x y)(h' : rle y z):rle x z:=by unfold rle at *;omega
def cmpI_neg{a b:Int}:cmpI a b<0↔a<b:=by
 unfold cmpI;(repeat' split)<;>omega
abbrev fvR:Value:=.func (.func 244) #[] #[]
def Ju(A:List Rst)(a e:Rst)(R:List Rst):((A++a::e::R).set (A.length+1) a).set A.length e=A++e::a::R:=by
 induction A with
 | nil=>rfl
 | cons x A ih=>simp
def midR(A:List Rst)(e:Rst)(R:List Rst):(A++e::R)[A.length]! = e:=by
 rw[getElem!_of ce];simp
abbrev Bg:=aH3 [.ev 13,.ef 14,.ev 15,.ev 16]
abbrev Bf:=aH3 [.ev 13,.ev 14,.ef 15,.ev 16,.ef 17]
def SO{φ ψ:Prop}(k:ψ)(h:Hid ψ→φ:=by intro k;(repeat (first|refine aa ?_|intro zzz|refine G.dr 53 4 Bg ?_|refine G.dr 53 6 Bf ?_));(repeat revert zzz);exact Hid.out k):φ:=h ⟨k⟩
def FT{L:LH}(ad:OA)(cap n:Nat)(xs:List Rst)(hn:n=xs.length)(hl:n≤1000)(hx:xs.Pairwise (fun a b=>a.1<b.1)) :
  Tri ai 293 #[ah ad n cap,ac 0,ac (n:Int),fvR] (osl encR 2 tRst ad cap xs::L) (fun _ L'=>∃ys,(ys.Perm xs∧ys.Pairwise rle)∧L' = osl encR 2 tRst ad cap ys::L):=by
 refine Tri.bd ?_;refine SO ?_;intros;refine G.loop (α:=Nat×List Rst) (fun z=>1≤z.1∧(z.1≤n∨z.1=1)∧z.2.Perm (xs.take z.1)∧z.2.Pairwise rle) (fun z=>[(0,ah ad n cap),(1,ac 0),(2,ac (n:Int)),(3,fvR),(8,ac (z.1:Int))]) (fun z=>osl encR 2 tRst ad cap (z.2++xs.drop z.1)::L) (fun z=>n - z.1) (1,xs.take 1) ⟨aB _,.inr rfl,List.Perm.refl _,?_⟩ av (by dsimp only;rw[dj];exact Ent.refl _) ?_
 ·cases xs with
  | nil=>simp
  | cons x r=>simp
 rintro⟨i,P⟩ ⟨b8,b9,hp,hs⟩;dsimp only at b8 b9 hp hs ⊢;have c1:=hp.length_eq;rw[bg] at c1;by_cases c6:i<n
 case neg =>
  have e0:xs.drop i=[]:=bG ab;rw[aD ab] at hp;rw[e0,aR];refine SO ?_;intros;exact KX.e7 an (Ent.refl _) ⟨P,⟨hp,hs⟩,rfl⟩
 obtain⟨e,he⟩:∃e,e=xs[i]!:=⟨_,rfl⟩;obtain⟨C,hC⟩:∃C,C=xs.drop (i+1):=⟨_,rfl⟩
 have c3:P++xs.drop i=P++e::([]++C):=by
  rw[he,hC,ej (ab:i<xs.length),al]
 have a5:∀a∈P,a.1<e.1:=fun a ha=>by
  have h1:=hp.mem_iff.1 ha;obtain⟨j,hj,e1⟩:=List.mem_iff_getElem.1 h1;rw[bg] at hj;rw[List.getElem_take] at e1;have h2:=(List.pairwise_iff_getElem.1 hx) j i ab ab ab;rw[e1,←getElem!_of ab,←he] at h2;exact h2
 have b6:(P++[e]).Perm (xs.take (i+1)):=by
  rw[aG (ab:i<xs.length),←getElem!_of (ab:i<xs.length),←he];exact hp.append_right _
 rw[c3];have b5:P.length=i:=ab;have c5:i+1+C.length=n:=by rw[hC,cu];omega
 refine SO ?_;intros;refine G.loop (α:=Nat×List Rst×List Rst) (fun z=>z.2.1.length=z.1∧z.1+z.2.2.length=i∧(z.2.1++z.2.2).Perm P∧(z.2.1++z.2.2).Pairwise rle∧∀b∈z.2.2,rle e b) (fun z=>[(0,ah ad n cap),(1,ac 0),(2,ac (n:Int)),(3,fvR),(8,ac (i:Int)),(9,ac (z.1:Int))]) (fun z=>osl encR 2 tRst ad cap (z.2.1++e::(z.2.2++C))::L) (fun z=>z.1) (i,P,[]) ⟨b5,rfl,by dsimp only;rw[aR],by dsimp only;rw[aR];exact hs,fun b hb=>absurd hb aV⟩ av (Ent.refl _) ?_;rintro⟨j,A,B⟩ ⟨hA,b3,a3,a2,hB⟩;dsimp only at hA b3 a3 a2 hB ⊢
 have a8:(A++e::(B++C)).length=n:=by
  rw[aq,bD,aq];omega
 have a9:(A++e::B).Perm (xs.take (i+1)):=by
  refine List.Perm.trans ?_ b6;refine List.perm_middle.trans ?_;exact(List.Perm.cons e a3).trans (ee e P).symm
 have a0:A++e::(B++C)=(A++e::B)++xs.drop (i+1):=by rw[←hC];simp
 by_cases c0:j=0
 ·have b4:A=[]:=aX ab;subst b4;refine SO ?_;intros;refine⟨(i+1,[]++e::B),⟨by dsimp only;omega,.inl fi,a9,?_⟩,by dsimp only;omega,?_,by rw[a0];exact Ent.refl _⟩
  ·dsimp only;rw[al,eC];exact⟨hB,by simpa using a2⟩
  ·dsimp only;rw[aY i];exact av
 obtain⟨A',a,b2⟩:∃A' a,A=A'++[a]:=by
  rcases List.eq_nil_or_concat A with h|⟨A',a,h⟩
  ·rw[h] at hA;exact absurd hA.symm c0
  ·exact⟨A',a,by simpa using h⟩
 subst b2;have c4:A'.length+1=j:=by simpa using hA
 have a1:A'++[a]++e::(B++C)=A'++a::e::(B++C):=by simp
 rw[a1] at a8 a0 ⊢
 have b1:(A'++a::e::(B++C))[(j:Int).toNat]! = e:=by
  have:=midR (A'++[a]) e (B++C)
  rw[a1] at this;rw[show(j:Int).toNat=(A'++[a]).length by simp;omega];exact this
 have b0:(A'++a::e::(B++C))[((j:Int) - 1).toNat]! = a:=by
  rw[show((j:Int) - 1).toNat=A'.length by omega];exact midR A' a (e::(B++C))
 have a7:a.1<e.1:=a5 a (a3.mem_iff.1 ce);refine SO ?_;intros;rw[b1,b0];refine GPW.ef (Ef.d8 rfl rfl (Gy e a)) ae ?_;rintro _ _⟨rfl,rfl⟩;by_cases hk:a.2<e.2
 case neg =>
  have b7:¬cmpI a.2 e.2<0:=fun h=>hk (cmpI_neg.1 h);have a6:rle a e:=by unfold rle;omega
  refine SO ?_;intros;refine⟨(i+1,A'++[a]++e::B),⟨by dsimp only;omega,.inl fi,a9,?_⟩,by dsimp only;omega,?_,by rw[a0];exact Ent.refl _⟩
  ·dsimp only;rw[List.pairwise_append] at a2 ⊢;obtain⟨s1,s2,s3⟩:=a2;refine⟨s1,List.pairwise_cons.2 ⟨hB,s2⟩,?_⟩
   have a4:∀x∈A'++[a],rle x e:=by
    intro x hx;rcases List.mem_append.1 hx with hx|hx
    ·exact Fq ((List.pairwise_append.1 s1).2.2 x hx a ce) a6
    ·rw[List.mem_singleton] at hx;subst hx;exact a6
   intro x hx y hy;rcases List.mem_cons.1 hy with rfl|hy
   ·exact a4 x hx
   ·exact s3 x hx y hy
  ·dsimp only;rw[aY i];exact av
 ·have b7:cmpI a.2 e.2<0:=cmpI_neg.2 hk;refine SO ?_;intros;refine GPW.efu (Ef.f7 (enc:=encR) (e:=(A'++a::e::(B++C))[((j:Int) - 1).toNat]!) rfl rfl aK aK (pq _) ab) ?_;rintro _ _ rfl;have c7:((A'++a::e::(B++C)).set (j:Int).toNat (A'++a::e::(B++C))[((j:Int) - 1).toNat]!).length=n:=by rw[bh];exact a8
  refine SO ?_;intros;refine GPW.efu (Ef.f7 (enc:=encR) (e:=(A'++a::e::(B++C))[(j:Int).toNat]!) rfl rfl aK aK (pq _) ab) ?_;rintro _ _ rfl
  have c2:((A'++a::e::(B++C)).set (j:Int).toNat (A'++a::e::(B++C))[((j:Int) - 1).toNat]!).set ((j:Int) - 1).toNat (A'++a::e::(B++C))[(j:Int).toNat]! = A'++e::((a::B)++C):=by
   rw[b1,b0,show((j:Int) - 1).toNat=A'.length by omega,show(j:Int).toNat=A'.length+1 by omega,Ju];rfl
  rw[c2];refine SO ?_;intros;refine⟨(j - 1,A',a::B),⟨by dsimp only;omega,by dsimp only;simp;omega,?_,?_,?_⟩,by dsimp only;omega,?_,Ent.refl _⟩
  ·dsimp only;simpa using a3
  ·dsimp only;simpa using a2
  ·intro b hb;rcases List.mem_cons.1 hb with rfl|hb
   ·exact .inl hk
   ·exact hB b hb
  ·dsimp only;rw[show((j - 1:Nat):Int)=(j:Int) - 1 by omega];exact av
def zp{L:LH}(ad:OA)(cap n:Nat)(xs:List Rst)(hn:n=xs.length)(hl:n<20)(hx:xs.Pairwise (fun a b=>a.1<b.1)) :
  Tri ai 277 #[ah ad n cap,ac (n:Int),fvR] (osl encR 2 tRst ad cap xs::L) (fun _ L'=>∃ys,(ys.Perm xs∧ys.Pairwise rle)∧L' = osl encR 2 tRst ad cap ys::L):=by
 refine Tri.bd ?_;refine JM ?_;intros;refine G.e8 1 (GR.step ?_);refine JM ?_;intros;refine GO.ca (FT ad cap n xs hn ab hx) ?_;rintro _ _⟨ys,a0,rfl⟩;refine JM ?_;intros;refine G.e8 1 (GR.step ?_);refine JM ?_;intros;exact KX.e7 an (Ent.refl _) ⟨ys,a0,rfl⟩
def tn{L:LH}(ad:OA)(cap n:Nat)(xs:List Rst)(hn:n=xs.length)(hl:n<20)(hx:xs.Pairwise (fun a b=>a.1<b.1)) :
  Tri ai 243 #[ah ad n cap,fvR] (osl encR 2 tRst ad cap xs::L) (fun _ L'=>∃ys,(ys.Perm xs∧ys.Pairwise rle)∧L' = osl encR 2 tRst ad cap ys::L):=by
 refine Tri.bd ?_;refine JM ?_;intros;refine GO.ca (zp ad cap n xs hn hl hx) ?_;rintro _ _⟨ys,a0,rfl⟩;refine JM ?_;intros;exact KX.e7 an (Ent.refl _) ⟨ys,a0,rfl⟩
def kl(n i:Nat)(f:Nat→Int):List Rst:=(List.range n).map (fun k:Nat=>if k<i then((k:Int),f k) else(0,0))
def Go(n i:Nat)(f:Nat→Int):(kl n i f).length=n:=by simp[kl]
def Ep(n:Nat)(f:Nat→Int):kl n 0 f=List.replicate n (0,0):=by
 apply dd
 ·simp[kl]
 ·intro i h1 h2;simp[kl]
def Gn{n i:Nat}(f:Nat→Int)(h:i<n):(kl n i f).set i ((i:Int),f i)=kl n (i+1) f:=by
 apply dd
 ·simp[kl]
 ·intro j h1 h2;rw[cP];simp only[kl,cK,List.getElem_range];by_cases hj:i=j
  ·subst hj;simp
  ·rw[if_neg hj];by_cases h3:j<i
   ·rw[if_pos h3,if_pos ab]
   ·rw[if_neg h3,if_neg ab]
def vI(n:Nat)(f:Nat→Int):kl n n f=(List.range n).map (fun k:Nat=>((k:Int),f k)):=by
 apply df;intro k hk;rw[if_pos (List.mem_range.1 hk)]
def Gm(n:Nat)(f:Nat→Int):(kl n n f).Pairwise (fun a b=>a.1<b.1):=by
 rw[vI,List.pairwise_map];refine List.pairwise_lt_range.imp (fun {a b} h=>?_);dsimp only;omega
def FM{L:LH}(n w:Int)(h0:0≤n)(h1:n≤1099511627776)(h2:0≤w)(h3:w≤1099511627776) :
  Tri ai 241 #[.int .u64 n,.int .u64 w] L (rtQ (.tuple #[.int .u64 (n*w / 18446744073709551616),.int .u64 (n*w % 18446744073709551616)]) L):=by
 obtain⟨nN,rfl⟩:∃nN:Nat,n=(nN:Int):=⟨n.toNat,ab⟩;obtain⟨wN,rfl⟩:∃wN:Nat,w=(wN:Int):=⟨w.toNat,ab⟩;have e1:(nN:Int)*(wN:Int) / 18446744073709551616=((nN*wN / 18446744073709551616:Nat):Int):=by rw[Int.natCast_ediv,gB];rfl
 have e2:(nN:Int)*(wN:Int) % 18446744073709551616=((nN*wN % 18446744073709551616:Nat):Int):=by rw[Int.natCast_emod,gB];rfl
 rw[e1,e2];exact tN nN wN ab ab
def Gw{L:LH}(p y:Int)(h0:0≤p)(h1:0<y)(h2:y≤1152921504606846976)(h3:p / 18446744073709551616<y) :
  Tri ai 242 #[.int .u64 (p / 18446744073709551616),.int .u64 (p % 18446744073709551616),.int .u64 y] L (rtQ (.tuple #[.int .u64 (p / y),.int .u64 (p % y)]) L):=by
 obtain⟨pN,rfl⟩:∃pN:Nat,p=(pN:Int):=⟨p.toNat,ab⟩;obtain⟨yN,rfl⟩:∃yN:Nat,y=(yN:Int):=⟨y.toNat,ab⟩;have e1:(pN:Int) / 18446744073709551616=((pN / 18446744073709551616:Nat):Int):=by rw[Int.natCast_ediv];rfl
 have e2:(pN:Int) % 18446744073709551616=((pN % 18446744073709551616:Nat):Int):=by rw[Int.natCast_emod];rfl
 have e:=fQ pN 18446744073709551616;rw[eX] at e;rw[e1] at h3;rw[e1,e2,←Int.natCast_ediv,←Int.natCast_emod];have h:=uc (L:=L) (pN / 18446744073709551616) (pN % 18446744073709551616) yN ab ab ab;rw[e] at h;exact h
def ro{L:LH}(ad:OA)(n c:Nat)(l:LL)(m:Int)[hr:Rds L ad Lot aj 3 l](hn:n=l.length)(c5:l.length<20)(hl:∀x∈l,LotOk x)(b6:l≠[])(h0:0≤m)(h1:m≤lsum l)(h2:m≤1099511627776) :
  Tri ai 155 #[ah ad n c,ac m] L (fun v L'=>∃b4 a7,v=ah b4 l.length a7∧L' = osl (encZ .i64) 1 tInt b4 a7 ((List.range l.length).map (shC l m))::L):=by
 subst hn;have b1:0<l.length:=List.length_pos_iff.2 b6;have hs:=jy hl b1;have d0:=gZ hl l.length (aB _);rw[im] at d0;refine Tri.bd ?_;refine JM ?_;intros;refine G.loop (α:=Nat) (fun i=>i≤l.length) (fun i=>[(0,ah ad l.length c),(1,ac m),(5,ac (lsum (l.take i))),(19,ah ad l.length c),(20,ac l.length),(21,ac (i:Int))]) (fun _=>L) (fun i=>l.length - i) 0 (ax _) av (Ent.refl _) ?_;intro i hi;by_cases a1:i<l.length
 case pos =>
  have a3:(i:Int).toNat=i:=aC i;have a8 : (i:Int).toNat<l.length:=ab;have b0:=hl _ (aJ a1);unfold LotOk at b0;have b9:=gZ hl i ab;have c0:=eK l a1;have b3:1≤l[(i:Int).toNat]!.2.2∧l[(i:Int).toNat]!.2.2≤1099511627776:=by rw[a3];omega
  refine JM ?_;intros;refine⟨i+1,ab,ab,?_,by exact ag⟩;rw[c0,aY i,show l[i]! = l[(i:Int).toNat]! by rw[a3]];exact av
 obtain rfl:i=l.length:=ab;rw[im];refine JM ?_;intros;refine GO.ef (Ef.makeSlice (encZ .i64) 0 rfl rfl rfl ab ab ab) ae ?_;rintro _ _⟨bp,rfl,rfl⟩;rw[aC,←km l.length (shQ l m)];refine JM ?_;intros;refine GO.ef (Ef.f8 encR ((0,0):Rst) rfl rfl rfl ab ab ab ab) ae ?_;rintro _ _⟨br,rfl,rfl⟩;rw[aC,←Ep l.length (shR l m)];refine JM ?_;intros;refine G.loop (α:=Nat) (fun i=>i≤l.length) (fun i=>[(1,ac m),(5,ac (lsum l)),(8,ah (some ⟨bp,0,none⟩) l.length l.length),(9,ah (some ⟨br,0,none⟩) l.length l.length),(10,ac (m - de i (shQ l m))),(37,ah ad l.length c),(38,ac l.length),(39,ac (i:Int))]) (fun i=>osl (encZ .i64) 1 tInt (some ⟨bp,0,none⟩) l.length (gC l.length i (shQ l m))::osl encR 2 tRst (some ⟨br,0,none⟩) l.length (kl l.length i (shR l m))::L) (fun i=>l.length - i) 0 (ax _) ?_ ag ?_
 ·rw[kg,fE];exact av
 clear hi a1;intro i hi;have c1:=kd l.length i (shQ l m);have b5:=Go l.length i (shR l m);by_cases a1:i<l.length
 case pos =>
  have a3:(i:Int).toNat=i:=aC i;have a8 : (i:Int).toNat<l.length:=ab;have b0:=hl _ (aJ a1);unfold LotOk at b0;have b3:1≤l[(i:Int).toNat]!.2.2∧l[(i:Int).toNat]!.2.2≤1099511627776:=by rw[a3];omega
  obtain⟨q1,q2⟩:=jC hl h0 h1 a1;have e2:0≤shR l m i:=dC _ ab;have e3:shR l m i<lsum l:=dE _ hs;refine JM ?_;intros;have c6:m*l[(i:Int).toNat]!.2.2=m*l[i]!.2.2:=by rw[a3]
  have c9:0≤m*l[i]!.2.2:=dH h0 ab;have e0:m*l[i]!.2.2≤1099511627776*1099511627776:=fF h2 ab ab ae
  have a9:m*l[i]!.2.2 / 18446744073709551616<lsum l:=by
   have h5:shQ l m i≤1099511627776:=ab;unfold shQ at h5;have h6:=Int.lt_ediv_add_one_mul_self (m*l[i]!.2.2) hs;have h7:(m*l[i]!.2.2 / lsum l+1)*lsum l≤1099511627777*lsum l:=cd ab ab;omega
  refine GO.cr (FM m l[(i:Int).toNat]!.2.2 h0 h2 ab ab) ?_;rw[c6];refine JM ?_;intros;refine GO.cr (Gw (m*l[i]!.2.2) (lsum l) c9 hs ab a9) ?_;rw[show m*l[i]!.2.2 / lsum l=shQ l m i from rfl,show m*l[i]!.2.2 % lsum l=shR l m i from rfl];refine JM ?_;intros;refine GO.efu (Ef.f7 (enc:=encR) (e:=((i:Int),shR l m i)) rfl rfl aK aK (pq ((i:Int),shR l m i)) ab) ?_;rintro _ _ rfl
  have e4:0≤de i (shQ l m)∧de i (shQ l m)≤lsum (l.take i):=by
   rw[show lsum (l.take i)=de i (fun k=>l[k]!.2.2) by unfold de;rw[mF l i hi]];refine⟨?_,lB (fun k hk=>(jC hl h0 h1 ab).2)⟩;have:=lB (n:=i) (f:=fun _=>0) (g:=shQ l m) (fun k hk=>(jC hl h0 h1 ab).1)
   rw[nK] at this;omega
  have b9:=gZ hl i ab;have d1:=eJ i (shQ l m);refine JM ?_;intros;rw[a3,kY (shQ l m) a1,Gn (shR l m) a1];refine⟨i+1,ab,ab,?_,by exact ag⟩;rw[d1,show m - (de i (shQ l m)+shQ l m i)=m - de i (shQ l m) - shQ l m i by omega,aY i];exact av
 obtain rfl:i=l.length:=ab;rw[kZ,←kO];obtain⟨d4,d5⟩:=me (n:=m) hl b6;refine JM ?_;intros;(first|refine GO.ef (Ef.call (tn (L:=[]) (some ⟨br,0,none⟩) l.length l.length (kl l.length l.length (shR l m)) b5.symm c5 (Gm _ _)) rfl cN) ae ?_);rintro _ _⟨_,⟨ys,⟨a5,b8⟩,rfl⟩,hL⟩;simp only[ao,al] at hL;subst hL;rw[vI] at a5;obtain⟨o,ho⟩:∃o,o=ys.map (fun r:Rst=>r.1.toNat):=⟨_,rfl⟩
 have a2:o.Perm (List.range l.length):=by
  have:=a5.map (fun r:Rst=>r.1.toNat)
  rw[dW,show((fun r:Rst=>r.1.toNat) ∘ fun k:Nat=>((k:Int),shR l m k))=id from rfl,List.map_id] at this;rw[ho];exact this
 have a6:o.Pairwise (rkLt (shR l m)):=by
  rw[ho,List.pairwise_map];refine b8.imp_of_mem (fun {a b} ha hb h=>?_);obtain⟨k,_,rfl⟩:=List.mem_map.1 (a5.mem_iff.1 ha);obtain⟨j,_,rfl⟩:=List.mem_map.1 (a5.mem_iff.1 hb);unfold rle at h;unfold rkLt;show shR l m (j:Int).toNat<shR l m (k:Int).toNat∨_;rw[aC,aC];dsimp only at h ⊢;omega
 have d6:o.length=l.length:=by have:=a2.length_eq;simpa using this
 have e5:ys.length=l.length:=by have:=a5.length_eq;simpa using this
 have d2:∀i,i<ys.length→ys[i]!.1=(o[i]! : Int):=fun i hi=>by
  have h3:o[i]! = ys[i]!.1.toNat:=by rw[ho,dI _ hi]
  have h4:=a5.mem_iff.1 (aJ hi);obtain⟨k,_,e⟩:=List.mem_map.1 h4;rw[h3,←e];show(k:Int)=((k:Int).toNat:Int);omega
 have c7:∀i,i<o.length→o[i]! < l.length:=fun i hi=>List.mem_range.1 (a2.mem_iff.1 (aJ hi));clear b8 a5 ho hi a1 c1 b5;refine JM ?_;intros;obtain⟨lf,c3⟩:∃lf:Nat,lf=(gg l m).toNat:=⟨_,rfl⟩;rw[←c3];have c4:lf<l.length:=ab
 refine G.loop (α:=Nat) (fun i=>i≤lf) (fun i=>[(8,ah (some ⟨bp,0,none⟩) l.length l.length),(81,ah (some ⟨br,0,none⟩) lf l.length),(82,ac (lf:Int)),(83,ac (i:Int))])
  (fun i=>osl encR 2 tRst (some ⟨br,0,none⟩) l.length ys::osl (encZ .i64) 1 tInt (some ⟨bp,0,none⟩) l.length ((List.range l.length).map (fun k=>shQ l m k+if k∈o.take i then 1 else 0))::L) (fun i=>lf - i) 0 (ax _) av ?_ ?_
 ·have e:(List.range l.length).map (fun k=>shQ l m k+if k∈o.take 0 then 1 else 0)=(List.range l.length).map (shQ l m):=df (fun k _=>by simp);rw[e];exact ag
 intro i hi;by_cases a1:i<lf
 case neg =>
  have e:(List.range l.length).map (fun k=>shQ l m k+if k∈o.take i then 1 else 0)=(List.range l.length).map (shC l m):=by
   apply df;intro k hk;have c2:=List.mem_range.1 hk;unfold shC;rw[oH];congr 1;have h3:=iI a2 a6 (m:=i) c2;by_cases h4:eZ (shR l m) l.length k<i
   ·rw[if_pos (h3.2 h4),if_pos ab]
   ·rw[if_neg (fun h=>h4 (h3.1 h)),if_neg ab]
  rw[e];refine JM ?_;intros;exact KX.en ⟨some ⟨bp,0,none⟩,l.length,rfl,rfl⟩
 have a3:(i:Int).toNat=i:=ab;have a4:i<o.length:=ab;have a0:=c7 i a4;have d3:=d2 i ab;have e1:((List.range l.length).map (fun k=>shQ l m k+if k∈o.take i then 1 else 0)).length=l.length:=by simp
 have c8:((List.range l.length).map (fun k=>shQ l m k+if k∈o.take i then 1 else 0))[o[i]!]! = shQ l m o[i]!:=by
  rw[hJ a0,if_neg,gd];intro b2;have h3:=(iI a2 a6 a0).1 b2;rw[getElem!_of a4,jE a2 a6 a4] at h3;omega
 obtain⟨q1,q2⟩:=jC hl h0 h1 a0;have b0:=hl _ (aJ a0);unfold LotOk at b0;have b7:((o[i]! : Nat):Int).toNat=o[i]!:=ab;have a8 : (i:Int).toNat<ys.length:=ab;refine JM ?_;intros;rw[a3,d3];refine JM ?_;intros;rw[b7,c8];refine JM ?_;intros
 have e:((List.range l.length).map (fun k=>shQ l m k+if k∈o.take i then 1 else 0)).set o[i]! (shQ l m o[i]! + 1)=(List.range l.length).map (fun k=>shQ l m k+if k∈o.take (i+1) then 1 else 0):=by
  apply dd
  ·simp
  ·intro k h3 h4;have hk:k<l.length:=by simpa using h4
   rw[cP];simp only[cK,List.getElem_range];have m1:=iI a2 a6 (m:=i) hk;have m2:=iI a2 a6 (m:=i+1) hk;by_cases h5:o[i]! = k
   ·subst h5;have h6:eZ (shR l m) l.length o[i]! = i:=by rw[getElem!_of a4];exact jE a2 a6 a4
    rw[if_pos rfl,if_pos (m2.2 ab)]
   ·rw[if_neg h5];congr 1
    have h6:eZ (shR l m) l.length k≠i:=by
     intro h7;refine h5 (tD (R:=shR l m) a0 hk ?_);rw[h7,getElem!_of a4];exact jE a2 a6 a4
    by_cases h7:eZ (shR l m) l.length k<i
    ·rw[if_pos (m1.2 h7),if_pos (m2.2 ab)]
    ·rw[if_neg (fun h=>h7 (m1.1 h)),if_neg (fun h=>absurd (m2.1 h) ab)]
 try rw[b7]
 rw[e];refine⟨i+1,ab,ab,?_,by exact ag⟩;rw[aY i];exact av
