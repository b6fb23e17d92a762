/- Lemmas. -/
import Derived.Test.YtommnllbflbdmaaGreatDoorCatbe
set_option linter.all false
set_option maxHeartbeats 4000000
namespace Go.Proofs.YtommnllbflbdmaaGreatDoor
section
open Go.V
attribute [local irreducible] G GO GP GPW GPK Ev Ef EfR Ent CB GB V.Enters
def FX{ys:LL1}{i:Nat}(h:i<ys.length)(f:Int):ofF (ys.take (i+1)) f=if ys[i]!.1=f then ofF (ys.take i) f++[ys[i]!] else ofF (ys.take i) f:=by
 rw[aC h,getElem!_of h];unfold ofF;rw[dG];by_cases e:ys[i].1=f
 ·rw[if_pos e,cO (by simpa using e)];rfl
 ·rw[if_neg e,cP (by simpa using e),List.filter_nil,aO]
def qx(ys:LL1)(f:Int):(ofF ys f).length≤ys.length:=List.length_filter_le _ _
abbrev zM:=ar5 [.ef 8,.ef 9,.ef 10]
abbrev wM:=ar3 [.ev 4,.ev 6,.ef 5,.ef 7,.ev 8,.ev 9,.ev 10]
abbrev wL:=ar3 [.ev 4,.ev 6,.ef 5,.ev 7,.ef 8,.ev 9]
def NL{φ ψ:Prop}(k:ψ)(h:Hid ψ→φ:=by intro k;(repeat (first|refine aa ?_|intro zzz|refine G.dr 98 6 zM ?_|refine G.dr 98 17 wM ?_|refine G.dr 98 23 wL ?_));(repeat revert zzz);exact Hid.out k):φ:=h ⟨k⟩
set_option maxRecDepth 10000 in
def vz{L:LH}(ad:OA)(n c:Nat)(a0:LL1)[hr:Rds L ad Lot ay 3 a0](b7:OA)(n2 c2:Nat)(ps:LL1)[h6:Rds L b7 Lot ay 3 ps](hn:n=a0.length)(g1:n2=ps.length)(hs:∀x∈a0,LotOk x)(h7:a0.length≤4096)(hp:∀x∈ps,LotOk x)(h5:ps.length≤4096)(ha:Apart ps) :
  Tri ai 153 #[ae ad n c,ae b7 n2 c2] L (fun v L'=>∃d3 b0,v=.tuple #[ae d3 (fq a0 ps).length b0,.bool (dB (lsum ps - OO ps a0=0))]∧L' = osl ay 3 tLot d3 b0 (fq a0 ps)::L):=by
 subst hn g1;refine Tri.bd ?_;refine NL ?_;intros;refine GO.ef (Ef.e8 kvI Stk.v (.inl rfl)) ag ?_;rintro _ _⟨bm,rfl,rfl⟩;refine NL ?_;intros;refine GO.ca (rh b7 ps.length c2 ps rfl ab) ?_;rintro _ _⟨b9,cy,ys,rfl,b6,rfl⟩;have h8:=b6.1.length_eq;have f4:∀x∈ys,LotOk x:=fun x hx=>hp x (b6.1.mem_iff.1 hx);refine NL ?_;intros;refine G.loop (α:=Nat×List (Int×Stk)) (fun g=>g.1≤ys.length∧((g.2.map (·.1)).Nodup∧(∀f,(fu g.2 f).lots=ofF (ys.take g.1) f))∧0≤lsum (ys.take g.1)∧lsum (ys.take g.1)≤(g.1:Int)*1099511627776) (fun g=>[(0,ae ad a0.length c),(6,.map (some bm)),(7,ac (lsum (ys.take g.1))),(20,ae b9 ys.length cy),(21,ac ys.length),(22,ac (g.1:Int))]) (fun g=>gmap kvI Stk.v bm g.2::bigO fO g.2::osl ay 3 tLot b9 cy ys::L) (fun g=>ys.length - g.1) (0,[]) ⟨az _,⟨List.nodup_nil,fun _=>rfl⟩,bG _,bG _⟩ an (Ent.trans ah ((Ent.l8 fO).trans ah)) ?_;rintro⟨i,m⟩ ⟨hi,⟨b4,a9⟩,e0,c0⟩;dsimp only at hi b4 a9 e0 c0 ⊢;by_cases a6:i<ys.length
 case pos =>
  have b2:(i:Int).toNat=i:=aD i;have c7 : (i:Int).toNat<ys.length:=ab;have a8:=fC ys a6;have g2:=f4 _ (aL a6);unfold LotOk at g2;have e5:(i:Int)*1099511627776≤4096*1099511627776:=cF ab ag
  have c8:((i+1:Nat):Int)*1099511627776=(i:Int)*1099511627776+1099511627776:=by
   rw[Int.natCast_add,Int.add_mul];rfl
  refine G.ent (L':=osl ay 3 tLot (fu m ys[(i:Int).toNat]!.1).ad (fu m ys[(i:Int).toNat]!.1).cap (fu m ys[(i:Int).toNat]!.1).lots::bigO fO (gera m ys[(i:Int).toNat]!.1)::gmap kvI Stk.v bm m::osl ay 3 tLot b9 cy ys::L) (Ent.swap.trans ((rm b4).trans ah)) ?_
  have g8:(fu m ys[(i:Int).toNat]!.1).lots.length≤4096:=by
   rw[a9];refine cN (qx _ _) ?_;rw[bg];omega
  have hv:=qp m ys[(i:Int).toNat]!.1;unfold glk at hv;refine NL ?_;intros;refine GPW.evL (Ev.d8 rfl rfl) ag ?_;rw[hv];refine NL ?_;intros;refine GPK.keep (by rw[←hv];exact Ev.d8 rfl rfl) ?_;refine NL ?_;intros;refine GPW.ef (Ef.d7 (enc:=ay) (e:=ys[(i:Int).toNat]!) rfl rfl rfl rfl rfl aJ (dH _) ab ab) ag ?_;rintro _ _⟨b8,a7,rfl,rfl⟩;refine NL ?_;intros;refine GPW.efu (Ef.e9 (enc:=Stk.v) (e:=(⟨b8,a7,(fu m ys[(i:Int).toNat]!.1).lots++[ys[(i:Int).toNat]!]⟩:Stk)) rfl rfl rfl rfl) ?_;rintro _ _⟨rfl,rfl⟩;have g3:1≤ys[(i:Int).toNat]!.2.2∧ys[(i:Int).toNat]!.2.2≤1099511627776:=by rw[b2];omega
  refine NL ?_;intros;refine⟨(i+1,gins m ys[(i:Int).toNat]!.1 ⟨b8,a7,(fu m ys[(i:Int).toNat]!.1).lots++[ys[(i:Int).toNat]!]⟩),⟨by dsimp only;omega,⟨me b4,fun f=>?_⟩,by dsimp only;rw[a8];omega,by dsimp only;rw[a8,c8];omega⟩,by dsimp only;omega,?_,?_⟩
  ·dsimp only;rw[nX,FX a6,b2];by_cases e:ys[i]!.1=f
   ·rw[if_pos e.symm,if_pos e,a9,e]
   ·rw[if_neg (fun q=>e q.symm),if_neg e];exact a9 f
  ·dsimp only;rw[aU i,a8,show ys[i]! = ys[(i:Int).toNat]! by rw[b2]];exact an
  ·dsimp only;refine Ent.trans ?_ (Ent.swap.trans (Ent.d7 (Ent.refl _)));refine Ent.trans ?_ (pk (f:=ys[(i:Int).toNat]!.1) b4 ⟨b8,a7,(fu m ys[(i:Int).toNat]!.1).lots++[ys[(i:Int).toNat]!]⟩);exact ah
 obtain rfl:i=ys.length:=ab;rw[cd] at a9 e0 c0 ⊢;have f0:lsum ys≤4096*1099511627776:=Int.le_trans c0 (cF ab ag);refine G.ent (L':=gmap kvI Stk.v bm m::allP stkI m::L) (Ent.swap.trans ((Hh m).trans ah)) ?_;refine NL ?_;intros;refine G.loop (α:=Nat×OA×Nat×LL1×Int) (fun g=>g.1≤a0.length∧wAll ys (a0.take g.1) ([],lsum ys)=(g.2.2.2.1,g.2.2.2.2)∧(∀y∈g.2.2.2.1,LotW y)∧g.2.2.2.1.length≤g.1*4097∧-((g.1:Int)*1099511627776)≤g.2.2.2.2∧g.2.2.2.2≤lsum ys) (fun g=>[(6,.map (some bm)),(7,ac g.2.2.2.2),(10,ae g.2.1 g.2.2.2.1.length g.2.2.1),(41,ae ad a0.length c),(42,ac a0.length),(43,ac (g.1:Int))]) (fun g=>osl ay 3 tLot g.2.1 g.2.2.1 g.2.2.2.1::gmap kvI Stk.v bm m::allP stkI m::L) (fun g=>a0.length - g.1) (0,none,0,[],lsum ys) ⟨az _,rfl,fun y hy=>absurd hy aH,az _,by dsimp only;omega,bG _⟩ an ((Ent.d8 ay 3 tLot).trans ah) ?_;clear hi a6;rintro⟨i,oa,oc,out,a4⟩ ⟨hi,hw,a2,b5,g0,e5⟩;dsimp only at hi hw a2 b5 g0 e5 ⊢;by_cases a6:i<a0.length
 case neg =>
  rw[aB ab,FC b6 hp ha hs] at hw;obtain⟨e1,e2⟩:=Prod.mk.injEq ..▸hw;rw[e1,e2];refine NL ?_;intros;refine KX.d7 av ?_ ⟨oa,oc,rfl,rfl⟩;exact ah
 have b2:(i:Int).toNat=i:=aD i;have c7 : (i:Int).toNat<a0.length:=ab;have f2:=hs _ (aL a6)
 have f1:wAll ys (a0.take (i+1)) ([],lsum ys)=wLot a0[i]! (ofF ys a0[i]!.1) (out,a4):=by
  rw[aC a6,←getElem!_of a6];unfold wAll at hw ⊢;rw[cB,hw];rfl
 have hv:=qp m a0[(i:Int).toNat]!.1;unfold glk at hv;have c6:=a9 a0[(i:Int).toNat]!.1;have f6:=qx ys a0[(i:Int).toNat]!.1;refine NL ?_;intros;refine GO.ev (Ev.d8 rfl rfl) ag ?_;rw[hv];rw[c6];refine NL ?_;intros;rename_i d4;clear hv;rw[b2] at c6 f6 ⊢;generalize a0[i]! = x at *;have g4:=AN b6 hp ha x.1;have g7:∀p∈ofF ys x.1,LotOk p∧p.1=x.1:=fun p hp=>⟨f4 p (ofF_mem.1 hp).1,(ofF_mem.1 hp).2⟩;generalize hqs:ofF ys x.1=qs at *;generalize (fu m x.1).cap=qc
 have c3:∀{L:LH},Ent (allP stkI m::L) (isl ay 3 (fu m x.1).ad qs::allP stkI m::L):=fun {L}=>by
  have:=Hg m x.1 (L:=L)
  rw[c6] at this;exact this
 generalize (fu m x.1).ad=qa at *;have f3:=f2.w;have d2:=f2;unfold LotOk at d2;have h4:(i:Int)*1099511627776≤4096*1099511627776:=cF ab ag
 have c8:((i+1:Nat):Int)*1099511627776=(i:Int)*1099511627776+1099511627776:=by
  rw[Int.natCast_add,Int.add_mul];rfl
 have h0:(qs.take 0).foldl (gw x) (out,x.2.1,a4)=(out,x.2.1,a4):=by rw[bC,List.foldl_nil]
 refine G.loop (α:=Nat×OA×Nat×LL1×Int×Int) (fun g=>g.1≤qs.length∧(qs.take g.1).foldl (gw x) (out,x.2.1,a4)=(g.2.2.2.1,g.2.2.2.2.1,g.2.2.2.2.2)∧(∀y∈g.2.2.2.1,LotW y)∧g.2.2.2.1.length≤i*4097+g.1∧x.2.1≤g.2.2.2.2.1∧g.2.2.2.2.1≤x.2.1+x.2.2∧a4 - (g.2.2.2.2.1 - x.2.1)≤g.2.2.2.2.2∧g.2.2.2.2.2≤a4) (fun g=>[(6,.map (some bm)),(7,ac g.2.2.2.2.2),(10,ae g.2.1 g.2.2.2.1.length g.2.2.1),(12,aq d4),(13,ac g.2.2.2.2.1),(41,ae ad a0.length c),(42,ac a0.length),(43,ac (i:Int)),(52,ae qa qs.length qc),(53,ac qs.length),(54,ac (g.1:Int))]) (fun g=>osl ay 3 tLot g.2.1 g.2.2.1 g.2.2.2.1::isl ay 3 qa qs::obj d4 tLot (ay x)::gmap kvI Stk.v bm m::allP stkI m::L) (fun g=>qs.length - g.1) (0,oa,oc,out,x.2.1,a4) (by dsimp only;exact⟨az _,h0,a2,ab,bG _,ab,ab,bG _⟩) an ((Ent.at (A:=allP stkI m) c3).trans ah) ?_;clear a2 b5;rintro⟨k,oa,oc,o2,at_,a3⟩ ⟨hk,hf,a2,b5,d5,d6,e3,e4⟩;dsimp only at hk hf a2 b5 d5 d6 e3 e4 ⊢;by_cases c4:k<qs.length
 case neg =>
  rw[aB ab] at hf
  have h1:wLot x qs (out,a4)=(ba o2 (x.1,at_,x.2.1+x.2.2 - at_),a3):=by
   unfold wLot;rw[hf]
  rw[h1] at f1;refine NL ?_;intros;refine GPW.cr (jg x f3) ?_;refine NL ?_;intros;(first|refine GPW.ef (Ef.call (mF (L:=[]) oa oc o2.length oc o2 (x.1,at_,x.2.1+x.2.2 - at_) rfl rfl ab a2 (by unfold LotW;dsimp only;omega)) rfl cT) ag ?_);rintro _ _⟨_,⟨a5,c5,rfl,rfl⟩,hL⟩;simp only[ak,aj] at hL;subst hL;have f7:=kP o2 (x.1,at_,x.2.1+x.2.2 - at_);refine NL ?_;intros;refine⟨(i+1,a5,c5,ba o2 (x.1,at_,x.2.1+x.2.2 - at_),a3),⟨by dsimp only;omega,f1,qy a2 (by unfold LotW;dsimp only;omega),by dsimp only;omega,by dsimp only;rw[c8];omega,by dsimp only;omega⟩,by dsimp only;omega,?_,by exact ah⟩;dsimp only;rw[aU i];exact an
 have b3:(k:Int).toNat=k:=aD k;have f9 : (k:Int).toNat<qs.length:=ab
 have b1:(qs.take (k+1)).foldl (gw x) (out,x.2.1,a4)=gw x (o2,at_,a3) qs[k]!:=by
  rw[aC c4,cB,hf,getElem!_of c4];rfl
 have e6:=(g7 _ (aL c4)).1;have g6:=e6.w;have c9:=e6;unfold LotOk at c9;refine NL ?_;intros;have d0 : LotW qs[(k:Int).toNat]!:=by rw[b3];exact g6
 refine GPW.cr (jg qs[(k:Int).toNat]! d0) ?_;refine NL ?_;intros;refine GPW.cr (jg x f3) ?_
 have g5:0≤qs[(k:Int).toNat]!.2.1∧1≤qs[(k:Int).toNat]!.2.2∧qs[(k:Int).toNat]!.2.1+qs[(k:Int).toNat]!.2.2≤1099511627776:=by
  rw[b3];omega
 by_cases hc:max qs[(k:Int).toNat]!.2.1 at_ ≥ min (qs[(k:Int).toNat]!.2.1+qs[(k:Int).toNat]!.2.2) (x.2.1+x.2.2)
 ·have a1:gw x (o2,at_,a3) qs[k]! = (o2,at_,a3):=by
   rw[b3] at hc;exact if_pos hc
  rw[a1] at b1;refine NL ?_;intros;refine⟨(k+1,oa,oc,o2,at_,a3),⟨by dsimp only;omega,b1,a2,by dsimp only;omega,d5,d6,e3,e4⟩,by dsimp only;omega,?_,by exact ah⟩;dsimp only;rw[aU k];exact an
 ·have a1:gw x (o2,at_,a3) qs[k]! = (ba o2 (x.1,at_,max qs[(k:Int).toNat]!.2.1 at_ - at_),min (qs[(k:Int).toNat]!.2.1+qs[(k:Int).toNat]!.2.2) (x.2.1+x.2.2),a3 - (min (qs[(k:Int).toNat]!.2.1+qs[(k:Int).toNat]!.2.2) (x.2.1+x.2.2) - max qs[(k:Int).toNat]!.2.1 at_)):=by
   rw[b3] at hc ⊢;exact if_neg hc
  rw[a1] at b1;refine NL ?_;intros;obtain⟨fr,c1⟩:∃fr,fr=max qs[(k:Int).toNat]!.2.1 at_:=⟨_,rfl⟩;obtain⟨to,d1⟩:∃to,to=min (qs[(k:Int).toNat]!.2.1+qs[(k:Int).toNat]!.2.2) (x.2.1+x.2.2):=⟨_,rfl⟩;rw[←c1,←d1] at b1;rw[←c1,←d1];rw[←c1,←d1] at hc;have h2:at_≤fr:=ab;have h3:fr<to:=ab;have f5:to≤x.2.1+x.2.2:=ab;clear a1;(first|refine GO.ef (Ef.call (mF (L:=[]) oa oc o2.length oc o2 (x.1,at_,fr - at_) rfl rfl ab a2 (by unfold LotW;dsimp only;omega)) rfl cT) ag ?_);rintro _ _⟨_,⟨a5,c5,rfl,rfl⟩,hL⟩;simp only[ak,aj] at hL;subst hL;have f7:=kP o2 (x.1,at_,fr - at_);refine NL ?_;intros;refine⟨(k+1,a5,c5,ba o2 (x.1,at_,fr - at_),to,a3 - (to - fr)),⟨by dsimp only;omega,b1,qy a2 (by unfold LotW;dsimp only;omega),by dsimp only;omega,by dsimp only;omega,f5,by dsimp only;omega,by dsimp only;omega⟩,by dsimp only;omega,?_,by exact ah⟩;dsimp only;rw[aU k];exact an
abbrev Rst:=Int×Int
def encR(x:Rst):LV:=[ac x.1,.int .u64 x.2]
def oK(t:Rst):∀u∈encR t,u.oneCell' = true:=by simp[encR,Value.oneCell']
instance:EncC encR:=⟨oK⟩
abbrev tRst:Nat:=290
def Fk{L:LH}(x y:Rst):Tri ai 244 #[aN (encR x),aN (encR y)] L (rtQ (ac (cmpI y.2 x.2)) L):=by
 refine Tri.bd ?_;refine IF ?_;intros;refine GO.cr (uO y.2 x.2) ?_;refine IF ?_;intros;exact KX.en ⟨rfl,rfl⟩
def rle(x y:Rst):Prop:=y.2<x.2∨(x.2=y.2∧x.1<y.1)
def Eg{x y z:Rst}(h:rle x y)(h' : rle y z):rle x z:=by unfold rle at *;omega
def cmpI_neg{a b:Int}:cmpI a b<0↔a<b:=by
 unfold cmpI;(repeat' split)<;>omega
abbrev fvR:Value:=.func (.func 244) #[] #[]
def Il(A:List Rst)(a e:Rst)(R:List Rst):((A++a::e::R).set (A.length+1) a).set A.length e=A++e::a::R:=by
 induction A with
 | nil=>rfl
 | cons x A ih=>simp
def midR(A:List Rst)(e:Rst)(R:List Rst):(A++e::R)[A.length]! = e:=by
 rw[getElem!_of bH];simp
abbrev zL:=ar7 [.ev 13,.ef 14,.ev 15,.ev 16]
abbrev zK:=ar7 [.ev 13,.ev 14,.ef 15,.ev 16,.ef 17]
def Og{φ ψ:Prop}(k:ψ)(h:Hid ψ→φ:=by intro k;(repeat (first|refine aa ?_|intro zzz|refine G.dr 53 4 zL ?_|refine G.dr 53 6 zK ?_));(repeat revert zzz);exact Hid.out k):φ:=h ⟨k⟩
def EF{L:LH}(ad:OA)(cap n:Nat)(xs:List Rst)(hn:n=xs.length)(hl:n≤1000)(hx:xs.Pairwise (fun a b=>a.1<b.1)) :
  Tri ai 293 #[ae ad n cap,ac 0,ac (n:Int),fvR] (osl encR 2 tRst ad cap xs::L) (fun _ L'=>∃ys,(ys.Perm xs∧ys.Pairwise rle)∧L' = osl encR 2 tRst ad cap ys::L):=by
 refine Tri.bd ?_;refine Og ?_;intros;refine G.loop (α:=Nat×List Rst) (fun z=>1≤z.1∧(z.1≤n∨z.1=1)∧z.2.Perm (xs.take z.1)∧z.2.Pairwise rle) (fun z=>[(0,ae ad n cap),(1,ac 0),(2,ac (n:Int)),(3,fvR),(8,ac (z.1:Int))]) (fun z=>osl encR 2 tRst ad cap (z.2++xs.drop z.1)::L) (fun z=>n - z.1) (1,xs.take 1) ⟨aI _,.inr rfl,List.Perm.refl _,?_⟩ an (by dsimp only;rw[dq];exact Ent.refl _) ?_
 ·cases xs with
  | nil=>simp
  | cons x r=>simp
 rintro⟨i,P⟩ ⟨b8,b9,hp,hs⟩;dsimp only at b8 b9 hp hs ⊢;have c1:=hp.length_eq;rw[bg] at c1;by_cases c6:i<n
 case neg =>
  have e0:xs.drop i=[]:=bM ab;rw[aB ab] at hp;rw[e0,aO];refine Og ?_;intros;exact KX.e7 av (Ent.refl _) ⟨P,⟨hp,hs⟩,rfl⟩
 obtain⟨e,he⟩:∃e,e=xs[i]!:=⟨_,rfl⟩;obtain⟨C,hC⟩:∃C,C=xs.drop (i+1):=⟨_,rfl⟩
 have c3:P++xs.drop i=P++e::([]++C):=by
  rw[he,hC,fA (ab:i<xs.length),aj]
 have a5:∀a∈P,a.1<e.1:=fun a ha=>by
  have h1:=hp.mem_iff.1 ha;obtain⟨j,hj,e1⟩:=List.mem_iff_getElem.1 h1;rw[bg] at hj;rw[List.getElem_take] at e1;have h2:=(List.pairwise_iff_getElem.1 hx) j i ab ab ab;rw[e1,←getElem!_of ab,←he] at h2;exact h2
 have b6:(P++[e]).Perm (xs.take (i+1)):=by
  rw[aC (ab:i<xs.length),←getElem!_of (ab:i<xs.length),←he];exact hp.append_right _
 rw[c3];have b5:P.length=i:=ab;have c5:i+1+C.length=n:=by rw[hC,dQ];omega
 refine Og ?_;intros;refine G.loop (α:=Nat×List Rst×List Rst) (fun z=>z.2.1.length=z.1∧z.1+z.2.2.length=i∧(z.2.1++z.2.2).Perm P∧(z.2.1++z.2.2).Pairwise rle∧∀b∈z.2.2,rle e b) (fun z=>[(0,ae ad n cap),(1,ac 0),(2,ac (n:Int)),(3,fvR),(8,ac (i:Int)),(9,ac (z.1:Int))]) (fun z=>osl encR 2 tRst ad cap (z.2.1++e::(z.2.2++C))::L) (fun z=>z.1) (i,P,[]) ⟨b5,rfl,by dsimp only;rw[aO],by dsimp only;rw[aO];exact hs,fun b hb=>absurd hb aH⟩ an (Ent.refl _) ?_;rintro⟨j,A,B⟩ ⟨hA,b3,a3,a2,hB⟩;dsimp only at hA b3 a3 a2 hB ⊢
 have a8:(A++e::(B++C)).length=n:=by
  rw[ax,bE,ax];omega
 have a9:(A++e::B).Perm (xs.take (i+1)):=by
  refine List.Perm.trans ?_ b6;refine List.perm_middle.trans ?_;exact(List.Perm.cons e a3).trans (dV e P).symm
 have a0:A++e::(B++C)=(A++e::B)++xs.drop (i+1):=by rw[←hC];simp
 by_cases c0:j=0
 ·have b4:A=[]:=aW ab;subst b4;refine Og ?_;intros;refine⟨(i+1,[]++e::B),⟨by dsimp only;omega,.inl gn,a9,?_⟩,by dsimp only;omega,?_,by rw[a0];exact Ent.refl _⟩
  ·dsimp only;rw[aj,eu];exact⟨hB,by simpa using a2⟩
  ·dsimp only;rw[aU i];exact an
 obtain⟨A',a,b2⟩:∃A' a,A=A'++[a]:=by
  rcases List.eq_nil_or_concat A with h|⟨A',a,h⟩
  ·rw[h] at hA;exact absurd hA.symm c0
  ·exact⟨A',a,by simpa using h⟩
 subst b2;have c4:A'.length+1=j:=by simpa using hA
 have a1:A'++[a]++e::(B++C)=A'++a::e::(B++C):=by simp
 rw[a1] at a8 a0 ⊢
 have b1:(A'++a::e::(B++C))[(j:Int).toNat]! = e:=by
  have:=midR (A'++[a]) e (B++C)
  rw[a1] at this;rw[show(j:Int).toNat=(A'++[a]).length by simp;omega];exact this
 have b0:(A'++a::e::(B++C))[((j:Int) - 1).toNat]! = a:=by
  rw[show((j:Int) - 1).toNat=A'.length by omega];exact midR A' a (e::(B++C))
 have a7:a.1<e.1:=a5 a (a3.mem_iff.1 bH);refine Og ?_;intros;rw[b1,b0];refine GPW.ef (Ef.d8 rfl rfl (Fk e a)) ag ?_;rintro _ _⟨rfl,rfl⟩;by_cases hk:a.2<e.2
 case neg =>
  have b7:¬cmpI a.2 e.2<0:=fun h=>hk (cmpI_neg.1 h);have a6:rle a e:=by unfold rle;omega
  refine Og ?_;intros;refine⟨(i+1,A'++[a]++e::B),⟨by dsimp only;omega,.inl gn,a9,?_⟩,by dsimp only;omega,?_,by rw[a0];exact Ent.refl _⟩
  ·dsimp only;rw[List.pairwise_append] at a2 ⊢;obtain⟨s1,s2,s3⟩:=a2;refine⟨s1,List.pairwise_cons.2 ⟨hB,s2⟩,?_⟩
   have a4:∀x∈A'++[a],rle x e:=by
    intro x hx;rcases List.mem_append.1 hx with hx|hx
    ·exact Eg ((List.pairwise_append.1 s1).2.2 x hx a bH) a6
    ·rw[List.mem_singleton] at hx;subst hx;exact a6
   intro x hx y hy;rcases List.mem_cons.1 hy with rfl|hy
   ·exact a4 x hx
   ·exact s3 x hx y hy
  ·dsimp only;rw[aU i];exact an
 ·have b7:cmpI a.2 e.2<0:=cmpI_neg.2 hk;refine Og ?_;intros;refine GPW.efu (Ef.e7 (enc:=encR) (e:=(A'++a::e::(B++C))[((j:Int) - 1).toNat]!) rfl rfl aJ aJ (oK _) ab) ?_;rintro _ _ rfl;have c7:((A'++a::e::(B++C)).set (j:Int).toNat (A'++a::e::(B++C))[((j:Int) - 1).toNat]!).length=n:=by rw[bJ];exact a8
  refine Og ?_;intros;refine GPW.efu (Ef.e7 (enc:=encR) (e:=(A'++a::e::(B++C))[(j:Int).toNat]!) rfl rfl aJ aJ (oK _) ab) ?_;rintro _ _ rfl
  have c2:((A'++a::e::(B++C)).set (j:Int).toNat (A'++a::e::(B++C))[((j:Int) - 1).toNat]!).set ((j:Int) - 1).toNat (A'++a::e::(B++C))[(j:Int).toNat]! = A'++e::((a::B)++C):=by
   rw[b1,b0,show((j:Int) - 1).toNat=A'.length by omega,show(j:Int).toNat=A'.length+1 by omega,Il];rfl
  rw[c2];refine Og ?_;intros;refine⟨(j - 1,A',a::B),⟨by dsimp only;omega,by dsimp only;simp;omega,?_,?_,?_⟩,by dsimp only;omega,?_,Ent.refl _⟩
  ·dsimp only;simpa using a3
  ·dsimp only;simpa using a2
  ·intro b hb;rcases List.mem_cons.1 hb with rfl|hb
   ·exact .inl hk
   ·exact hB b hb
  ·dsimp only;rw[show((j - 1:Nat):Int)=(j:Int) - 1 by omega];exact an
def yv{L:LH}(ad:OA)(cap n:Nat)(xs:List Rst)(hn:n=xs.length)(hl:n<20)(hx:xs.Pairwise (fun a b=>a.1<b.1)) :
  Tri ai 277 #[ae ad n cap,ac (n:Int),fvR] (osl encR 2 tRst ad cap xs::L) (fun _ L'=>∃ys,(ys.Perm xs∧ys.Pairwise rle)∧L' = osl encR 2 tRst ad cap ys::L):=by
 refine Tri.bd ?_;refine IF ?_;intros;refine G.d9 1 (GR.step ?_);refine IF ?_;intros;refine GO.ca (EF ad cap n xs hn ab hx) ?_;rintro _ _⟨ys,a0,rfl⟩;refine IF ?_;intros;refine G.d9 1 (GR.step ?_);refine IF ?_;intros;exact KX.e7 av (Ent.refl _) ⟨ys,a0,rfl⟩
def sq{L:LH}(ad:OA)(cap n:Nat)(xs:List Rst)(hn:n=xs.length)(hl:n<20)(hx:xs.Pairwise (fun a b=>a.1<b.1)) :
  Tri ai 243 #[ae ad n cap,fvR] (osl encR 2 tRst ad cap xs::L) (fun _ L'=>∃ys,(ys.Perm xs∧ys.Pairwise rle)∧L' = osl encR 2 tRst ad cap ys::L):=by
 refine Tri.bd ?_;refine IF ?_;intros;refine GO.ca (yv ad cap n xs hn hl hx) ?_;rintro _ _⟨ys,a0,rfl⟩;refine IF ?_;intros;exact KX.e7 av (Ent.refl _) ⟨ys,a0,rfl⟩
def ki(n i:Nat)(f:Nat→Int):List Rst:=(List.range n).map (fun k:Nat=>if k<i then((k:Int),f k) else(0,0))
def EV(n i:Nat)(f:Nat→Int):(ki n i f).length=n:=by simp[ki]
def CZ(n:Nat)(f:Nat→Int):ki n 0 f=List.replicate n (0,0):=by
 apply dZ
 ·simp[ki]
 ·intro i h1 h2;simp[ki]
def EU{n i:Nat}(f:Nat→Int)(h:i<n):(ki n i f).set i ((i:Int),f i)=ki n (i+1) f:=by
 apply dZ
 ·simp[ki]
 ·intro j h1 h2;rw[List.getElem_set];simp only[ki,dY,List.getElem_range];by_cases hj:i=j
  ·subst hj;simp
  ·rw[if_neg hj];by_cases h3:j<i
   ·rw[if_pos h3,if_pos ab]
   ·rw[if_neg h3,if_neg ab]
def uI(n:Nat)(f:Nat→Int):ki n n f=(List.range n).map (fun k:Nat=>((k:Int),f k)):=by
 apply dm;intro k hk;rw[if_pos (List.mem_range.1 hk)]
def ET(n:Nat)(f:Nat→Int):(ki n n f).Pairwise (fun a b=>a.1<b.1):=by
 rw[uI,List.pairwise_map];refine List.pairwise_lt_range.imp (fun {a b} h=>?_);dsimp only;omega
def Ex{L:LH}(n w:Int)(h0:0≤n)(h1:n≤1099511627776)(h2:0≤w)(h3:w≤1099511627776) :
  Tri ai 241 #[.int .u64 n,.int .u64 w] L (rtQ (.tuple #[.int .u64 (n*w / 18446744073709551616),.int .u64 (n*w % 18446744073709551616)]) L):=by
 obtain⟨nN,rfl⟩:∃nN:Nat,n=(nN:Int):=⟨n.toNat,ab⟩;obtain⟨wN,rfl⟩:∃wN:Nat,w=(wN:Int):=⟨w.toNat,ab⟩;have e1:(nN:Int)*(wN:Int) / 18446744073709551616=((nN*wN / 18446744073709551616:Nat):Int):=by rw[Int.natCast_ediv,Int.natCast_mul];rfl
 have e2:(nN:Int)*(wN:Int) % 18446744073709551616=((nN*wN % 18446744073709551616:Nat):Int):=by rw[Int.natCast_emod,Int.natCast_mul];rfl
 rw[e1,e2];exact sD nN wN ab ab
def Fg{L:LH}(p y:Int)(h0:0≤p)(h1:0<y)(h2:y≤1152921504606846976)(h3:p / 18446744073709551616<y) :
  Tri ai 242 #[.int .u64 (p / 18446744073709551616),.int .u64 (p % 18446744073709551616),.int .u64 y] L (rtQ (.tuple #[.int .u64 (p / y),.int .u64 (p % y)]) L):=by
 obtain⟨pN,rfl⟩:∃pN:Nat,p=(pN:Int):=⟨p.toNat,ab⟩;obtain⟨yN,rfl⟩:∃yN:Nat,y=(yN:Int):=⟨y.toNat,ab⟩;have e1:(pN:Int) / 18446744073709551616=((pN / 18446744073709551616:Nat):Int):=by rw[Int.natCast_ediv];rfl
 have e2:(pN:Int) % 18446744073709551616=((pN % 18446744073709551616:Nat):Int):=by rw[Int.natCast_emod];rfl
 have e:=fE pN 18446744073709551616;rw[fM] at e;rw[e1] at h3;rw[e1,e2,←Int.natCast_ediv,←Int.natCast_emod];have h:=sU (L:=L) (pN / 18446744073709551616) (pN % 18446744073709551616) yN ab ab ab;rw[e] at h;exact h
def qH{L:LH}(ad:OA)(n c:Nat)(l:LL1)(m:Int)[hr:Rds L ad Lot ay 3 l](hn:n=l.length)(c5:l.length<20)(hl:∀x∈l,LotOk x)(b6:l≠[])(h0:0≤m)(h1:m≤lsum l)(h2:m≤1099511627776) :
  Tri ai 155 #[ae ad n c,ac m] L (fun v L'=>∃b4 a7,v=ae b4 l.length a7∧L' = osl (encZ .i64) 1 tInt b4 a7 ((List.range l.length).map (shC l m))::L):=by
 subst hn;have b1:0<l.length:=List.length_pos_iff.2 b6;have hs:=jO hl b1;have d0:=jH hl l.length (aI _);rw[jA] at d0;refine Tri.bd ?_;refine IF ?_;intros;refine G.loop (α:=Nat) (fun i=>i≤l.length) (fun i=>[(0,ae ad l.length c),(1,ac m),(5,ac (lsum (l.take i))),(19,ae ad l.length c),(20,ac l.length),(21,ac (i:Int))]) (fun _=>L) (fun i=>l.length - i) 0 (az _) an (Ent.refl _) ?_;intro i hi;by_cases a1:i<l.length
 case pos =>
  have a3:(i:Int).toNat=i:=aD i;have a8 : (i:Int).toNat<l.length:=ab;have b0:=hl _ (aL a1);unfold LotOk at b0;have b9:=jH hl i ab;have c0:=fC l a1;have b3:1≤l[(i:Int).toNat]!.2.2∧l[(i:Int).toNat]!.2.2≤1099511627776:=by rw[a3];omega
  refine IF ?_;intros;refine⟨i+1,ab,ab,?_,by exact ah⟩;rw[c0,aU i,show l[i]! = l[(i:Int).toNat]! by rw[a3]];exact an
 obtain rfl:i=l.length:=ab;rw[jA];refine IF ?_;intros;refine GO.ef (Ef.makeSlice (encZ .i64) 0 rfl rfl rfl ab ab ab) ag ?_;rintro _ _⟨bp,rfl,rfl⟩;rw[aD,←kj l.length (shQ l m)];refine IF ?_;intros;refine GO.ef (Ef.f8 encR ((0,0):Rst) rfl rfl rfl ab ab ab ab) ag ?_;rintro _ _⟨br,rfl,rfl⟩;rw[aD,←CZ l.length (shR l m)];refine IF ?_;intros;refine G.loop (α:=Nat) (fun i=>i≤l.length) (fun i=>[(1,ac m),(5,ac (lsum l)),(8,ae (some ⟨bp,0,none⟩) l.length l.length),(9,ae (some ⟨br,0,none⟩) l.length l.length),(10,ac (m - eQ i (shQ l m))),(37,ae ad l.length c),(38,ac l.length),(39,ac (i:Int))]) (fun i=>osl (encZ .i64) 1 tInt (some ⟨bp,0,none⟩) l.length (gj l.length i (shQ l m))::osl encR 2 tRst (some ⟨br,0,none⟩) l.length (ki l.length i (shR l m))::L) (fun i=>l.length - i) 0 (az _) ?_ ah ?_
 ·rw[mo,Int.sub_zero];exact an
 clear hi a1;intro i hi;have c1:=jR l.length i (shQ l m);have b5:=EV l.length i (shR l m);by_cases a1:i<l.length
 case pos =>
  have a3:(i:Int).toNat=i:=aD i;have a8 : (i:Int).toNat<l.length:=ab;have b0:=hl _ (aL a1);unfold LotOk at b0;have b3:1≤l[(i:Int).toNat]!.2.2∧l[(i:Int).toNat]!.2.2≤1099511627776:=by rw[a3];omega
  obtain⟨q1,q2⟩:=lV hl h0 h1 a1;have e2:0≤shR l m i:=eA _ ab;have e3:shR l m i<lsum l:=dS _ hs;refine IF ?_;intros;have c6:m*l[(i:Int).toNat]!.2.2=m*l[i]!.2.2:=by rw[a3]
  have c9:0≤m*l[i]!.2.2:=ed h0 ab;have e0:m*l[i]!.2.2≤1099511627776*1099511627776:=Int.mul_le_mul h2 ab ab ag
  have a9:m*l[i]!.2.2 / 18446744073709551616<lsum l:=by
   have h5:shQ l m i≤1099511627776:=ab;unfold shQ at h5;have h6:=Int.lt_ediv_add_one_mul_self (m*l[i]!.2.2) hs;have h7:(m*l[i]!.2.2 / lsum l+1)*lsum l≤1099511627777*lsum l:=cF ab ab;omega
  refine GO.cr (Ex m l[(i:Int).toNat]!.2.2 h0 h2 ab ab) ?_;rw[c6];refine IF ?_;intros;refine GO.cr (Fg (m*l[i]!.2.2) (lsum l) c9 hs ab a9) ?_;rw[show m*l[i]!.2.2 / lsum l=shQ l m i from rfl,show m*l[i]!.2.2 % lsum l=shR l m i from rfl];refine IF ?_;intros;refine GO.efu (Ef.e7 (enc:=encR) (e:=((i:Int),shR l m i)) rfl rfl aJ aJ (oK ((i:Int),shR l m i)) ab) ?_;rintro _ _ rfl
  have e4:0≤eQ i (shQ l m)∧eQ i (shQ l m)≤lsum (l.take i):=by
   rw[show lsum (l.take i)=eQ i (fun k=>l[k]!.2.2) by unfold eQ;rw[mw l i hi]];refine⟨?_,lA (fun k hk=>(lV hl h0 h1 ab).2)⟩;have:=lA (n:=i) (f:=fun _=>0) (g:=shQ l m) (fun k hk=>(lV hl h0 h1 ab).1)
   rw[ny] at this;omega
  have b9:=jH hl i ab;have d1:=gC i (shQ l m);refine IF ?_;intros;rw[a3,kU (shQ l m) a1,EU (shR l m) a1];refine⟨i+1,ab,ab,?_,by exact ah⟩;rw[d1,show m - (eQ i (shQ l m)+shQ l m i)=m - eQ i (shQ l m) - shQ l m i by omega,aU i];exact an
 obtain rfl:i=l.length:=ab;rw[kV,←pu];obtain⟨d4,d5⟩:=ug (n:=m) hl b6;refine IF ?_;intros;(first|refine GO.ef (Ef.call (sq (L:=[]) (some ⟨br,0,none⟩) l.length l.length (ki l.length l.length (shR l m)) b5.symm c5 (ET _ _)) rfl cT) ag ?_);rintro _ _⟨_,⟨ys,⟨a5,b8⟩,rfl⟩,hL⟩;simp only[ak,aj] at hL;subst hL;rw[uI] at a5;obtain⟨o,ho⟩:∃o,o=ys.map (fun r:Rst=>r.1.toNat):=⟨_,rfl⟩
 have a2:o.Perm (List.range l.length):=by
  have:=a5.map (fun r:Rst=>r.1.toNat)
  rw[eM,show((fun r:Rst=>r.1.toNat) ∘ fun k:Nat=>((k:Int),shR l m k))=id from rfl,List.map_id] at this;rw[ho];exact this
 have a6:o.Pairwise (rkLt (shR l m)):=by
  rw[ho,List.pairwise_map];refine b8.imp_of_mem (fun {a b} ha hb h=>?_);obtain⟨k,_,rfl⟩:=List.mem_map.1 (a5.mem_iff.1 ha);obtain⟨j,_,rfl⟩:=List.mem_map.1 (a5.mem_iff.1 hb);unfold rle at h;unfold rkLt;show shR l m (j:Int).toNat<shR l m (k:Int).toNat∨_;rw[aD,aD];dsimp only at h ⊢;omega
 have d6:o.length=l.length:=by have:=a2.length_eq;simpa using this
 have e5:ys.length=l.length:=by have:=a5.length_eq;simpa using this
 have d2:∀i,i<ys.length→ys[i]!.1=(o[i]! : Int):=fun i hi=>by
  have h3:o[i]! = ys[i]!.1.toNat:=by rw[ho,eD _ hi]
  have h4:=a5.mem_iff.1 (aL hi);obtain⟨k,_,e⟩:=List.mem_map.1 h4;rw[h3,←e];show(k:Int)=((k:Int).toNat:Int);omega
 have c7:∀i,i<o.length→o[i]! < l.length:=fun i hi=>List.mem_range.1 (a2.mem_iff.1 (aL hi));clear b8 a5 ho hi a1 c1 b5;refine IF ?_;intros;obtain⟨lf,c3⟩:∃lf:Nat,lf=(iI l m).toNat:=⟨_,rfl⟩;rw[←c3];have c4:lf<l.length:=ab
 refine G.loop (α:=Nat) (fun i=>i≤lf) (fun i=>[(8,ae (some ⟨bp,0,none⟩) l.length l.length),(81,ae (some ⟨br,0,none⟩) lf l.length),(82,ac (lf:Int)),(83,ac (i:Int))])
  (fun i=>osl encR 2 tRst (some ⟨br,0,none⟩) l.length ys::osl (encZ .i64) 1 tInt (some ⟨bp,0,none⟩) l.length ((List.range l.length).map (fun k=>shQ l m k+if k∈o.take i then 1 else 0))::L) (fun i=>lf - i) 0 (az _) an ?_ ?_
 ·have e:(List.range l.length).map (fun k=>shQ l m k+if k∈o.take 0 then 1 else 0)=(List.range l.length).map (shQ l m):=dm (fun k _=>by simp);rw[e];exact ah
 intro i hi;by_cases a1:i<lf
 case neg =>
  have e:(List.range l.length).map (fun k=>shQ l m k+if k∈o.take i then 1 else 0)=(List.range l.length).map (shC l m):=by
   apply dm;intro k hk;have c2:=List.mem_range.1 hk;unfold shC;rw[vX];congr 1;have h3:=iH a2 a6 (m:=i) c2;by_cases h4:jI (shR l m) l.length k<i
   ·rw[if_pos (h3.2 h4),if_pos ab]
   ·rw[if_neg (fun h=>h4 (h3.1 h)),if_neg ab]
  rw[e];refine IF ?_;intros;exact KX.en ⟨some ⟨bp,0,none⟩,l.length,rfl,rfl⟩
 have a3:(i:Int).toNat=i:=ab;have a4:i<o.length:=ab;have a0:=c7 i a4;have d3:=d2 i ab;have e1:((List.range l.length).map (fun k=>shQ l m k+if k∈o.take i then 1 else 0)).length=l.length:=by simp
 have c8:((List.range l.length).map (fun k=>shQ l m k+if k∈o.take i then 1 else 0))[o[i]!]! = shQ l m o[i]!:=by
  rw[jE a0,if_neg,Int.add_zero];intro b2;have h3:=(iH a2 a6 a0).1 b2;rw[getElem!_of a4,li a2 a6 a4] at h3;omega
 obtain⟨q1,q2⟩:=lV hl h0 h1 a0;have b0:=hl _ (aL a0);unfold LotOk at b0;have b7:((o[i]! : Nat):Int).toNat=o[i]!:=ab;have a8 : (i:Int).toNat<ys.length:=ab;refine IF ?_;intros;rw[a3,d3];refine IF ?_;intros;rw[b7,c8];refine IF ?_;intros
 have e:((List.range l.length).map (fun k=>shQ l m k+if k∈o.take i then 1 else 0)).set o[i]! (shQ l m o[i]! + 1)=(List.range l.length).map (fun k=>shQ l m k+if k∈o.take (i+1) then 1 else 0):=by
  apply dZ
  ·simp
  ·intro k h3 h4;have hk:k<l.length:=by simpa using h4
   rw[List.getElem_set];simp only[dY,List.getElem_range];have m1:=iH a2 a6 (m:=i) hk;have m2:=iH a2 a6 (m:=i+1) hk;by_cases h5:o[i]! = k
   ·subst h5;have h6:jI (shR l m) l.length o[i]! = i:=by rw[getElem!_of a4];exact li a2 a6 a4
    rw[if_pos rfl,if_pos (m2.2 ab)]
   ·rw[if_neg h5];congr 1
    have h6:jI (shR l m) l.length k≠i:=by
     intro h7;refine h5 (Eh (R:=shR l m) a0 hk ?_);rw[h7,getElem!_of a4];exact li a2 a6 a4
    by_cases h7:jI (shR l m) l.length k<i
    ·rw[if_pos (m1.2 h7),if_pos (m2.2 ab)]
    ·rw[if_neg (fun h=>h7 (m1.1 h)),if_neg (fun h=>absurd (m2.1 h) ab)]
 try rw[b7]
 rw[e];refine⟨i+1,ab,ab,?_,by exact ah⟩;rw[aU i];exact an
