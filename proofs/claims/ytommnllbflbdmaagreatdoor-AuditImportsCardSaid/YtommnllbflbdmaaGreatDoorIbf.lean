/- Lemmas. -/
import Derived.Test.YtommnllbflbdmaaGreatDoorIbe
set_option linter.all false
set_option maxHeartbeats 4000000
namespace Go.Proofs.YtommnllbflbdmaaGreatDoor
section
open Go.V
attribute [local irreducible] G GO GP GPW GPK Ev Ef EfR Ent CB GB V.Enters
def EO{ys:LL}{i:Nat}(h:i<ys.length)(f:Int):ofF (ys.take (i+1)) f=if ys[i]!.1=f then ofF (ys.take i) f++[ys[i]!] else ofF (ys.take i) f:=by
 rw[aC h,getElem!_of h];unfold ofF;rw[dK];by_cases e:ys[i].1=f
 ·rw[if_pos e,cj (by simpa using e)];rfl
 ·rw[if_neg e,cn (by simpa using e),List.filter_nil,aY]
def nJ(ys:LL)(f:Int):(ofF ys f).length≤ys.length:=List.length_filter_le _ _
abbrev zm:List Stp:=[.ev 0,.ev 1,.ev 2,.ev 3,.ev 4,.ev 5,.ev 6,.ev 7,.ef 8,.ef 9,.ef 10]
abbrev wu:List Stp:=[.ev 0,.ev 1,.ev 2,.ev 3,.ev 4,.ev 6,.ef 5,.ef 7,.ev 8,.ev 9,.ev 10]
abbrev wt:List Stp:=[.ev 0,.ev 1,.ev 2,.ev 3,.ev 4,.ev 6,.ef 5,.ev 7,.ef 8,.ev 9]
def Rz{φ ψ:Prop}(k:ψ)(h:Hid ψ→φ:=by intro k;(repeat (first|refine aa ?_|intro zzz|((with_reducible apply G.d8);first|refine G.d7 (N:=98) (id:=6) zm mixed aw ?_|refine G.d7 (N:=98) (id:=17) wu mixed aw ?_|refine G.d7 (N:=98) (id:=23) wt mixed aw ?_)));(repeat revert zzz);exact Hid.out k):φ:=h ⟨k⟩
set_option maxRecDepth 10000 in
def vz{L:LH}(ad:OA)(n c:Nat)(a0:LL)[hr:Rds L ad Lot ao 3 a0](ad2:OA)(n2 c2:Nat)(ps:LL)[h5:Rds L ad2 Lot ao 3 ps](hn:n=a0.length)(f8:n2=ps.length)(hs:∀x∈a0,LotOk x)(h9:a0.length≤4096)(hp:∀x∈ps,LotOk x)(h3:ps.length≤4096)(ha:Apart ps) :
  Tri ag 153 #[.slice ad n c,.slice ad2 n2 c2] L (fun v L'=>∃d2 b2,v=.tuple #[.slice d2 (el a0 ps).length b2,.bool (dB (lsum ps - OO ps a0=0))]∧L' = osl ao 3 tLot d2 b2 (el a0 ps)::L):=by
 subst hn f8;refine Tri.bd ?_;refine Rz ?_;intros;refine GO.ef (Ef.d9 kvI Stk.v (.inl rfl)) ah ?_;rintro _ _⟨bm,rfl,rfl⟩;refine Rz ?_;intros;refine GO.ca (qP ad2 ps.length c2 ps rfl ab) ?_;rintro _ _⟨c7,cy,ys,rfl,b5,rfl⟩;have h6:=b5.1.length_eq;have d6:∀x∈ys,LotOk x:=fun x hx=>hp x (b5.1.mem_iff.1 hx);refine Rz ?_;intros;refine G.loop (α:=Nat×List (Int×Stk)) (fun g=>g.1≤ys.length∧((g.2.map (·.1)).Nodup∧(∀f,(eY g.2 f).lots=ofF (ys.take g.1) f))∧0≤lsum (ys.take g.1)∧lsum (ys.take g.1)≤(g.1:Int)*1099511627776) (fun g=>[(0,.slice ad a0.length c),(6,.map (some bm)),(7,ac (lsum (ys.take g.1))),(20,.slice c7 ys.length cy),(21,ac ys.length),(22,ac (g.1:Int))]) (fun g=>gmap kvI Stk.v bm g.2::bigO dO g.2::osl ao 3 tLot c7 cy ys::L) (fun g=>ys.length - g.1) (0,[]) ⟨aj _,⟨List.nodup_nil,fun _=>rfl⟩,bj _,bj _⟩ ai (Ent.trans ae ((Ent.l0 dO).trans ae)) ?_;rintro⟨i,m⟩ ⟨hi,⟨b6,a9⟩,d4,b9⟩;dsimp only at hi b6 a9 d4 b9 ⊢;by_cases a6:i<ys.length
 case pos =>
  have b1:(i:Int).toNat=i:=ay i;have c9 : (i:Int).toNat<ys.length:=ab;have a7:=dX ys a6;have g3:=d6 _ (aG a6);unfold LotOk at g3;have d3:(i:Int)*1099511627776≤4096*1099511627776:=bW ab ah
  have d1:((i+1:Nat):Int)*1099511627776=(i:Int)*1099511627776+1099511627776:=by
   rw[Int.natCast_add,Int.add_mul];rfl
  refine G.ent (L':=osl ao 3 tLot (eY m ys[(i:Int).toNat]!.1).ad (eY m ys[(i:Int).toNat]!.1).cap (eY m ys[(i:Int).toNat]!.1).lots::bigO dO (gera m ys[(i:Int).toNat]!.1)::gmap kvI Stk.v bm m::osl ao 3 tLot c7 cy ys::L) (Ent.swap.trans ((nX b6).trans ae)) ?_
  have g1:(eY m ys[(i:Int).toNat]!.1).lots.length≤4096:=by
   rw[a9];refine cg (nJ _ _) ?_;rw[bh];omega
  have hv:=nC m ys[(i:Int).toNat]!.1;unfold glk at hv;refine Rz ?_;intros;refine GPW.evL (Ev.d7 rfl rfl) ah ?_;rw[hv];refine Rz ?_;intros;refine GPK.keep (by rw[←hv];exact Ev.d7 rfl rfl) ?_;refine Rz ?_;intros;refine GPW.ef (Ef.d7 (enc:=ao) (e:=ys[(i:Int).toNat]!) rfl rfl rfl rfl rfl (by rfl) (cK _) ab ab) ah ?_;rintro _ _⟨c4,a8,rfl,rfl⟩;refine Rz ?_;intros;refine GPW.efu (Ef.e8 (enc:=Stk.v) (e:=(⟨c4,a8,(eY m ys[(i:Int).toNat]!.1).lots++[ys[(i:Int).toNat]!]⟩:Stk)) rfl rfl rfl rfl) ?_;rintro _ _⟨rfl,rfl⟩;have g5:1≤ys[(i:Int).toNat]!.2.2∧ys[(i:Int).toNat]!.2.2≤1099511627776:=by rw[b1];omega
  refine Rz ?_;intros;refine⟨(i+1,gins m ys[(i:Int).toNat]!.1 ⟨c4,a8,(eY m ys[(i:Int).toNat]!.1).lots++[ys[(i:Int).toNat]!]⟩),⟨by dsimp only;omega,⟨kE b6,fun f=>?_⟩,by dsimp only;rw[a7];omega,by dsimp only;rw[a7,d1];omega⟩,by dsimp only;omega,?_,?_⟩
  ·dsimp only;rw[lU,EO a6,b1];by_cases e:ys[i]!.1=f
   ·rw[if_pos e.symm,if_pos e,a9,e]
   ·rw[if_neg (fun q=>e q.symm),if_neg e];exact a9 f
  ·dsimp only;rw[aK i,a7,show ys[i]! = ys[(i:Int).toNat]! by rw[b1]];exact ai
  ·dsimp only;refine Ent.trans ?_ (Ent.swap.trans (Ent.d7 (Ent.refl _)));refine Ent.trans ?_ (mO (f:=ys[(i:Int).toNat]!.1) b6 ⟨c4,a8,(eY m ys[(i:Int).toNat]!.1).lots++[ys[(i:Int).toNat]!]⟩);exact ae
 obtain rfl:i=ys.length:=ab;rw[bD] at a9 d4 b9 ⊢;have f0:lsum ys≤4096*1099511627776:=Int.le_trans b9 (bW ab ah);refine G.ent (L':=gmap kvI Stk.v bm m::allP stkI m::L) (Ent.swap.trans ((FP m).trans ae)) ?_;refine Rz ?_;intros;refine G.loop (α:=Nat×OA×Nat×LL×Int) (fun g=>g.1≤a0.length∧wAll ys (a0.take g.1) ([],lsum ys)=(g.2.2.2.1,g.2.2.2.2)∧(∀y∈g.2.2.2.1,LotW y)∧g.2.2.2.1.length≤g.1*4097∧-((g.1:Int)*1099511627776)≤g.2.2.2.2∧g.2.2.2.2≤lsum ys) (fun g=>[(6,.map (some bm)),(7,ac g.2.2.2.2),(10,.slice g.2.1 g.2.2.2.1.length g.2.2.1),(41,.slice ad a0.length c),(42,ac a0.length),(43,ac (g.1:Int))]) (fun g=>osl ao 3 tLot g.2.1 g.2.2.1 g.2.2.2.1::gmap kvI Stk.v bm m::allP stkI m::L) (fun g=>a0.length - g.1) (0,none,0,[],lsum ys) ⟨aj _,rfl,fun y hy=>absurd hy aV,aj _,by dsimp only;omega,bj _⟩ ai ((Ent.d9 ao 3 tLot).trans ae) ?_;clear hi a6;rintro⟨i,oa,oc,out,a4⟩ ⟨hi,hw,a2,b3,g6,d3⟩;dsimp only at hi hw a2 b3 g6 d3 ⊢;by_cases a6:i<a0.length
 case neg =>
  rw[aF ab,EA b5 hp ha hs] at hw;obtain⟨e1,e2⟩:=Prod.mk.injEq ..▸hw;rw[e1,e2];refine Rz ?_;intros;refine KX.d7 an ?_ ⟨oa,oc,rfl,rfl⟩;exact ae
 have b1:(i:Int).toNat=i:=ay i;have c9 : (i:Int).toNat<a0.length:=ab;have e0:=hs _ (aG a6)
 have f3:wAll ys (a0.take (i+1)) ([],lsum ys)=wLot a0[i]! (ofF ys a0[i]!.1) (out,a4):=by
  rw[aC a6,←getElem!_of a6];unfold wAll at hw ⊢;rw[cJ,hw];rfl
 have hv:=nC m a0[(i:Int).toNat]!.1;unfold glk at hv;have b7:=a9 a0[(i:Int).toNat]!.1;have f5:=nJ ys a0[(i:Int).toNat]!.1;refine Rz ?_;intros;refine GO.ev (Ev.d7 rfl rfl) ah ?_;rw[hv];rw[b7];refine Rz ?_;intros;rename_i f1;clear hv;rw[b1] at b7 f5 ⊢;generalize a0[i]! = x at *;have f4:=zZ b5 hp ha x.1;have h2:∀p∈ofF ys x.1,LotOk p∧p.1=x.1:=fun p hp=>⟨d6 p (ofF_mem.1 hp).1,(ofF_mem.1 hp).2⟩;generalize hqs:ofF ys x.1=qs at *;generalize (eY m x.1).cap=qc
 have c8:∀{L:LH},Ent (allP stkI m::L) (isl ao 3 (eY m x.1).ad qs::allP stkI m::L):=fun {L}=>by
  have:=FO m x.1 (L:=L)
  rw[b7] at this;exact this
 generalize (eY m x.1).ad=qa at *;have e6:=e0.w;have d0:=e0;unfold LotOk at d0;have h7:(i:Int)*1099511627776≤4096*1099511627776:=bW ab ah
 have d1:((i+1:Nat):Int)*1099511627776=(i:Int)*1099511627776+1099511627776:=by
  rw[Int.natCast_add,Int.add_mul];rfl
 have h0:(qs.take 0).foldl (gd x) (out,x.2.1,a4)=(out,x.2.1,a4):=by rw[cd,List.foldl_nil]
 refine G.loop (α:=Nat×OA×Nat×LL×Int×Int) (fun g=>g.1≤qs.length∧(qs.take g.1).foldl (gd x) (out,x.2.1,a4)=(g.2.2.2.1,g.2.2.2.2.1,g.2.2.2.2.2)∧(∀y∈g.2.2.2.1,LotW y)∧g.2.2.2.1.length≤i*4097+g.1∧x.2.1≤g.2.2.2.2.1∧g.2.2.2.2.1≤x.2.1+x.2.2∧a4 - (g.2.2.2.2.1 - x.2.1)≤g.2.2.2.2.2∧g.2.2.2.2.2≤a4) (fun g=>[(6,.map (some bm)),(7,ac g.2.2.2.2.2),(10,.slice g.2.1 g.2.2.2.1.length g.2.2.1),(12,av f1),(13,ac g.2.2.2.2.1),(41,.slice ad a0.length c),(42,ac a0.length),(43,ac (i:Int)),(52,.slice qa qs.length qc),(53,ac qs.length),(54,ac (g.1:Int))]) (fun g=>osl ao 3 tLot g.2.1 g.2.2.1 g.2.2.2.1::isl ao 3 qa qs::obj f1 tLot (ao x)::gmap kvI Stk.v bm m::allP stkI m::L) (fun g=>qs.length - g.1) (0,oa,oc,out,x.2.1,a4) (by dsimp only;exact⟨aj _,h0,a2,ab,bj _,ab,ab,bj _⟩) ai ((Ent.at (A:=allP stkI m) c8).trans ae) ?_;clear a2 b3;rintro⟨k,oa,oc,o2,at_,a3⟩ ⟨hk,hf,a2,b3,e3,f2,e5,e4⟩;dsimp only at hk hf a2 b3 e3 f2 e5 e4 ⊢;by_cases c6:k<qs.length
 case neg =>
  rw[aF ab] at hf
  have g2:wLot x qs (out,a4)=(ba o2 (x.1,at_,x.2.1+x.2.2 - at_),a3):=by
   unfold wLot;rw[hf]
  rw[g2] at f3;refine Rz ?_;intros;refine GPW.cr (iN x e6) ?_;refine Rz ?_;intros;(first|refine GPW.ef (Ef.call (mb (L:=[]) oa oc o2.length oc o2 (x.1,at_,x.2.1+x.2.2 - at_) rfl rfl ab a2 (by unfold LotW;dsimp only;omega)) rfl (by repeat (first|exact Ent.refl _|apply Ent.take))) ah ?_);rintro _ _⟨_,⟨a5,c5,rfl,rfl⟩,hL⟩;simp only[ax,ap] at hL;subst hL;have f6:=kC o2 (x.1,at_,x.2.1+x.2.2 - at_);refine Rz ?_;intros;refine⟨(i+1,a5,c5,ba o2 (x.1,at_,x.2.1+x.2.2 - at_),a3),⟨by dsimp only;omega,f3,qh a2 (by unfold LotW;dsimp only;omega),by dsimp only;omega,by dsimp only;rw[d1];omega,by dsimp only;omega⟩,by dsimp only;omega,?_,by exact ae⟩;dsimp only;rw[aK i];exact ai
 have b4:(k:Int).toNat=k:=ay k;have h1 : (k:Int).toNat<qs.length:=ab
 have b0:(qs.take (k+1)).foldl (gd x) (out,x.2.1,a4)=gd x (o2,at_,a3) qs[k]!:=by
  rw[aC c6,cJ,hf,getElem!_of c6];rfl
 have d5:=(h2 _ (aG c6)).1;have g4:=d5.w;have c0:=d5;unfold LotOk at c0;refine Rz ?_;intros;have c1 : LotW qs[(k:Int).toNat]!:=by rw[b4];exact g4
 refine GPW.cr (iN qs[(k:Int).toNat]! c1) ?_;refine Rz ?_;intros;refine GPW.cr (iN x e6) ?_
 have f9:0≤qs[(k:Int).toNat]!.2.1∧1≤qs[(k:Int).toNat]!.2.2∧qs[(k:Int).toNat]!.2.1+qs[(k:Int).toNat]!.2.2≤1099511627776:=by
  rw[b4];omega
 by_cases hc:max qs[(k:Int).toNat]!.2.1 at_ ≥ min (qs[(k:Int).toNat]!.2.1+qs[(k:Int).toNat]!.2.2) (x.2.1+x.2.2)
 ·have a1:gd x (o2,at_,a3) qs[k]! = (o2,at_,a3):=by
   rw[b4] at hc;exact if_pos hc
  rw[a1] at b0;refine Rz ?_;intros;refine⟨(k+1,oa,oc,o2,at_,a3),⟨by dsimp only;omega,b0,a2,by dsimp only;omega,e3,f2,e5,e4⟩,by dsimp only;omega,?_,by exact ae⟩;dsimp only;rw[aK k];exact ai
 ·have a1:gd x (o2,at_,a3) qs[k]! = (ba o2 (x.1,at_,max qs[(k:Int).toNat]!.2.1 at_ - at_),min (qs[(k:Int).toNat]!.2.1+qs[(k:Int).toNat]!.2.2) (x.2.1+x.2.2),a3 - (min (qs[(k:Int).toNat]!.2.1+qs[(k:Int).toNat]!.2.2) (x.2.1+x.2.2) - max qs[(k:Int).toNat]!.2.1 at_)):=by
   rw[b4] at hc ⊢;exact if_neg hc
  rw[a1] at b0;refine Rz ?_;intros;obtain⟨fr,c3⟩:∃fr,fr=max qs[(k:Int).toNat]!.2.1 at_:=⟨_,rfl⟩;obtain⟨to,b8⟩:∃to,to=min (qs[(k:Int).toNat]!.2.1+qs[(k:Int).toNat]!.2.2) (x.2.1+x.2.2):=⟨_,rfl⟩;rw[←c3,←b8] at b0;rw[←c3,←b8];rw[←c3,←b8] at hc;have h8:at_≤fr:=ab;have h4:fr<to:=ab;have g0:to≤x.2.1+x.2.2:=ab;clear a1;(first|refine GO.ef (Ef.call (mb (L:=[]) oa oc o2.length oc o2 (x.1,at_,fr - at_) rfl rfl ab a2 (by unfold LotW;dsimp only;omega)) rfl (by repeat (first|exact Ent.refl _|apply Ent.take))) ah ?_);rintro _ _⟨_,⟨a5,c5,rfl,rfl⟩,hL⟩;simp only[ax,ap] at hL;subst hL;have f6:=kC o2 (x.1,at_,fr - at_);refine Rz ?_;intros;refine⟨(k+1,a5,c5,ba o2 (x.1,at_,fr - at_),to,a3 - (to - fr)),⟨by dsimp only;omega,b0,qh a2 (by unfold LotW;dsimp only;omega),by dsimp only;omega,by dsimp only;omega,g0,by dsimp only;omega,by dsimp only;omega⟩,by dsimp only;omega,?_,by exact ae⟩;dsimp only;rw[aK k];exact ai
abbrev Rst:=Int×Int
def encR(x:Rst):LV:=[ac x.1,.int .u64 x.2]
def oJ(t:Rst):∀u∈encR t,u.oneCell' = true:=by simp[encR,Value.oneCell']
instance:EncC encR:=⟨oJ⟩
abbrev tRst:Nat:=290
def El{L:LH}(x y:Rst):Tri ag 244 #[.agg (encR x).toArray,.agg (encR y).toArray] L (fun v L'=>v=ac (cmpI y.2 x.2)∧L' = L):=by
 refine Tri.bd ?_;refine Hz ?_;intros;refine GO.cr (uI y.2 x.2) ?_;refine Hz ?_;intros;exact KX.en ⟨rfl,rfl⟩
def rle(x y:Rst):Prop:=y.2<x.2∨(x.2=y.2∧x.1<y.1)
def CY{x y z:Rst}(h:rle x y)(h' : rle y z):rle x z:=by unfold rle at *;omega
def cmpI_neg{a b:Int}:cmpI a b<0↔a<b:=by
 unfold cmpI;(repeat' split)<;>omega
abbrev fvR:Value:=.func (.func 244) #[] #[]
def Hh(A:List Rst)(a e:Rst)(R:List Rst):((A++a::e::R).set (A.length+1) a).set A.length e=A++e::a::R:=by
 induction A with
 | nil=>rfl
 | cons x A ih=>simp
def midR(A:List Rst)(e:Rst)(R:List Rst):(A++e::R)[A.length]! = e:=by
 rw[getElem!_of (by simp)];simp
abbrev zl:List Stp:=[.ev 0,.ev 1,.ev 2,.ev 3,.ev 4,.ev 5,.ev 6,.ev 7,.ev 8,.ev 9,.ev 10,.ev 11,.ev 12,.ev 13,.ef 14,.ev 15,.ev 16]
abbrev zk:List Stp:=[.ev 0,.ev 1,.ev 2,.ev 3,.ev 4,.ev 5,.ev 6,.ev 7,.ev 8,.ev 9,.ev 10,.ev 11,.ev 12,.ev 13,.ev 14,.ef 15,.ev 16,.ef 17]
def RU{φ ψ:Prop}(k:ψ)(h:Hid ψ→φ:=by intro k;(repeat (first|refine aa ?_|intro zzz|((with_reducible apply G.d8);first|refine G.d7 (N:=53) (id:=4) zl mixed aw ?_|refine G.d7 (N:=53) (id:=6) zk mixed aw ?_)));(repeat revert zzz);exact Hid.out k):φ:=h ⟨k⟩
def DC{L:LH}(ad:OA)(cap n:Nat)(xs:List Rst)(hn:n=xs.length)(hl:n≤1000)(hx:xs.Pairwise (fun a b=>a.1<b.1)) :
  Tri ag 293 #[.slice ad n cap,ac 0,ac (n:Int),fvR] (osl encR 2 tRst ad cap xs::L) (fun _ L'=>∃ys,(ys.Perm xs∧ys.Pairwise rle)∧L' = osl encR 2 tRst ad cap ys::L):=by
 refine Tri.bd ?_;refine RU ?_;intros;refine G.loop (α:=Nat×List Rst) (fun z=>1≤z.1∧(z.1≤n∨z.1=1)∧z.2.Perm (xs.take z.1)∧z.2.Pairwise rle) (fun z=>[(0,.slice ad n cap),(1,ac 0),(2,ac (n:Int)),(3,fvR),(8,ac (z.1:Int))]) (fun z=>osl encR 2 tRst ad cap (z.2++xs.drop z.1)::L) (fun z=>n - z.1) (1,xs.take 1) ⟨aB _,.inr rfl,List.Perm.refl _,?_⟩ ai (by dsimp only;rw[ft];exact Ent.refl _) ?_
 ·cases xs with
  | nil=>simp
  | cons x r=>simp
 rintro⟨i,P⟩ ⟨c1,b8,hp,hs⟩;dsimp only at c1 b8 hp hs ⊢;have b7:=hp.length_eq;rw[bh] at b7;by_cases c6:i<n
 case neg =>
  have e0:xs.drop i=[]:=bg ab;rw[aF ab] at hp;rw[e0,aY];refine RU ?_;intros;exact KX.e9 an (Ent.refl _) ⟨P,⟨hp,hs⟩,rfl⟩
 obtain⟨e,he⟩:∃e,e=xs[i]!:=⟨_,rfl⟩;obtain⟨C,hC⟩:∃C,C=xs.drop (i+1):=⟨_,rfl⟩
 have b3:P++xs.drop i=P++e::([]++C):=by
  rw[he,hC,dF (show i<xs.length by omega),ap]
 have a5:∀a∈P,a.1<e.1:=fun a ha=>by
  have h1:=hp.mem_iff.1 ha;obtain⟨j,hj,e1⟩:=List.mem_iff_getElem.1 h1;rw[bh] at hj;rw[dY] at e1;have h2:=(List.pairwise_iff_getElem.1 hx) j i ab ab ab;rw[e1,←getElem!_of ab,←he] at h2;exact h2
 have b2:(P++[e]).Perm (xs.take (i+1)):=by
  rw[aC (show i<xs.length by omega),←getElem!_of (show i<xs.length by omega),←he];exact hp.append_right _
 rw[b3];have c0:P.length=i:=ab;have c5:i+1+C.length=n:=by rw[hC,cH];omega
 refine RU ?_;intros;refine G.loop (α:=Nat×List Rst×List Rst) (fun z=>z.2.1.length=z.1∧z.1+z.2.2.length=i∧(z.2.1++z.2.2).Perm P∧(z.2.1++z.2.2).Pairwise rle∧∀b∈z.2.2,rle e b) (fun z=>[(0,.slice ad n cap),(1,ac 0),(2,ac (n:Int)),(3,fvR),(8,ac (i:Int)),(9,ac (z.1:Int))]) (fun z=>osl encR 2 tRst ad cap (z.2.1++e::(z.2.2++C))::L) (fun z=>z.1) (i,P,[]) ⟨c0,rfl,by dsimp only;rw[aY],by dsimp only;rw[aY];exact hs,fun b hb=>absurd hb aV⟩ ai (Ent.refl _) ?_;rintro⟨j,A,B⟩ ⟨hA,c3,a3,a1,hB⟩;dsimp only at hA c3 a3 a1 hB ⊢
 have a9:(A++e::(B++C)).length=n:=by
  rw[aD,bu,aD];omega
 have a6:(A++e::B).Perm (xs.take (i+1)):=by
  refine List.Perm.trans ?_ b2;refine List.perm_middle.trans ?_;exact(List.Perm.cons e a3).trans (dR e P).symm
 have a0:A++e::(B++C)=(A++e::B)++xs.drop (i+1):=by rw[←hC];simp
 by_cases b4:j=0
 ·have b5:A=[]:=aW ab;subst b5;refine RU ?_;intros;refine⟨(i+1,[]++e::B),⟨by dsimp only;omega,.inl (by dsimp only;omega),a6,?_⟩,by dsimp only;omega,?_,by rw[a0];exact Ent.refl _⟩
  ·dsimp only;rw[ap,List.pairwise_cons];exact⟨hB,by simpa using a1⟩
  ·dsimp only;rw[aK i];exact ai
 obtain⟨A',a,b6⟩:∃A' a,A=A'++[a]:=by
  rcases List.eq_nil_or_concat A with h|⟨A',a,h⟩
  ·rw[h] at hA;exact absurd hA.symm b4
  ·exact⟨A',a,by simpa using h⟩
 subst b6;have c4:A'.length+1=j:=by simpa using hA
 have a2:A'++[a]++e::(B++C)=A'++a::e::(B++C):=by simp
 rw[a2] at a9 a0 ⊢
 have a7:(A'++a::e::(B++C))[(j:Int).toNat]! = e:=by
  have:=midR (A'++[a]) e (B++C)
  rw[a2] at this;rw[show(j:Int).toNat=(A'++[a]).length by simp;omega];exact this
 have b1:(A'++a::e::(B++C))[((j:Int) - 1).toNat]! = a:=by
  rw[show((j:Int) - 1).toNat=A'.length by omega];exact midR A' a (e::(B++C))
 have b0:a.1<e.1:=a5 a (a3.mem_iff.1 (by simp));refine RU ?_;intros;rw[a7,b1];refine GPW.ef (Ef.d8 rfl rfl (El e a)) ah ?_;rintro _ _⟨rfl,rfl⟩;by_cases hk:a.2<e.2
 case neg =>
  have c2:¬cmpI a.2 e.2<0:=fun h=>hk (cmpI_neg.1 h);have a8:rle a e:=by unfold rle;omega
  refine RU ?_;intros;refine⟨(i+1,A'++[a]++e::B),⟨by dsimp only;omega,.inl (by dsimp only;omega),a6,?_⟩,by dsimp only;omega,?_,by rw[a0];exact Ent.refl _⟩
  ·dsimp only;rw[List.pairwise_append] at a1 ⊢;obtain⟨s1,s2,s3⟩:=a1;refine⟨s1,List.pairwise_cons.2 ⟨hB,s2⟩,?_⟩
   have a4:∀x∈A'++[a],rle x e:=by
    intro x hx;rcases List.mem_append.1 hx with hx|hx
    ·exact CY ((List.pairwise_append.1 s1).2.2 x hx a (by simp)) a8
    ·rw[List.mem_singleton] at hx;subst hx;exact a8
   intro x hx y hy;rcases List.mem_cons.1 hy with rfl|hy
   ·exact a4 x hx
   ·exact s3 x hx y hy
  ·dsimp only;rw[aK i];exact ai
 ·have c2:cmpI a.2 e.2<0:=cmpI_neg.2 hk;refine RU ?_;intros;refine GPW.efu (Ef.e7 (enc:=encR) (e:=(A'++a::e::(B++C))[((j:Int) - 1).toNat]!) rfl rfl (by rfl) (by rfl) (oJ _) ab) ?_;rintro _ _ rfl;have c7:((A'++a::e::(B++C)).set (j:Int).toNat (A'++a::e::(B++C))[((j:Int) - 1).toNat]!).length=n:=by rw[bE];exact a9
  refine RU ?_;intros;refine GPW.efu (Ef.e7 (enc:=encR) (e:=(A'++a::e::(B++C))[(j:Int).toNat]!) rfl rfl (by rfl) (by rfl) (oJ _) ab) ?_;rintro _ _ rfl
  have b9:((A'++a::e::(B++C)).set (j:Int).toNat (A'++a::e::(B++C))[((j:Int) - 1).toNat]!).set ((j:Int) - 1).toNat (A'++a::e::(B++C))[(j:Int).toNat]! = A'++e::((a::B)++C):=by
   rw[a7,b1,show((j:Int) - 1).toNat=A'.length by omega,show(j:Int).toNat=A'.length+1 by omega,Hh];rfl
  rw[b9];refine RU ?_;intros;refine⟨(j - 1,A',a::B),⟨by dsimp only;omega,by dsimp only;simp;omega,?_,?_,?_⟩,by dsimp only;omega,?_,Ent.refl _⟩
  ·dsimp only;simpa using a3
  ·dsimp only;simpa using a1
  ·intro b hb;rcases List.mem_cons.1 hb with rfl|hb
   ·exact .inl hk
   ·exact hB b hb
  ·dsimp only;rw[show((j - 1:Nat):Int)=(j:Int) - 1 by omega];exact ai
def xL{L:LH}(ad:OA)(cap n:Nat)(xs:List Rst)(hn:n=xs.length)(hl:n<20)(hx:xs.Pairwise (fun a b=>a.1<b.1)) :
  Tri ag 277 #[.slice ad n cap,ac (n:Int),fvR] (osl encR 2 tRst ad cap xs::L) (fun _ L'=>∃ys,(ys.Perm xs∧ys.Pairwise rle)∧L' = osl encR 2 tRst ad cap ys::L):=by
 refine Tri.bd ?_;refine Hz ?_;intros;refine G.e9 1 (GR.step ?_);refine Hz ?_;intros;refine GO.ca (DC ad cap n xs hn ab hx) ?_;rintro _ _⟨ys,a0,rfl⟩;refine Hz ?_;intros;refine G.e9 1 (GR.step ?_);refine Hz ?_;intros;exact KX.e9 an (Ent.refl _) ⟨ys,a0,rfl⟩
def rZ{L:LH}(ad:OA)(cap n:Nat)(xs:List Rst)(hn:n=xs.length)(hl:n<20)(hx:xs.Pairwise (fun a b=>a.1<b.1)) :
  Tri ag 243 #[.slice ad n cap,fvR] (osl encR 2 tRst ad cap xs::L) (fun _ L'=>∃ys,(ys.Perm xs∧ys.Pairwise rle)∧L' = osl encR 2 tRst ad cap ys::L):=by
 refine Tri.bd ?_;refine Hz ?_;intros;refine GO.ca (xL ad cap n xs hn hl hx) ?_;rintro _ _⟨ys,a0,rfl⟩;refine Hz ?_;intros;exact KX.e9 an (Ent.refl _) ⟨ys,a0,rfl⟩
def jP(n i:Nat)(f:Nat→Int):List Rst:=(List.range n).map (fun k:Nat=>if k<i then((k:Int),f k) else(0,0))
def DX(n i:Nat)(f:Nat→Int):(jP n i f).length=n:=by simp[jP]
def Cd(n:Nat)(f:Nat→Int):jP n 0 f=List.replicate n (0,0):=by
 apply du
 ·simp[jP]
 ·intro i h1 h2;simp[jP]
def DW{n i:Nat}(f:Nat→Int)(h:i<n):(jP n i f).set i ((i:Int),f i)=jP n (i+1) f:=by
 apply du
 ·simp[jP]
 ·intro j h1 h2;rw[fH];simp only[jP,eW,List.getElem_range];by_cases hj:i=j
  ·subst hj;simp
  ·rw[if_neg hj];by_cases h3:j<i
   ·rw[if_pos h3,if_pos ab]
   ·rw[if_neg h3,if_neg ab]
def uy(n:Nat)(f:Nat→Int):jP n n f=(List.range n).map (fun k:Nat=>((k:Int),f k)):=by
 apply cU;intro k hk;rw[if_pos (List.mem_range.1 hk)]
def DV(n:Nat)(f:Nat→Int):(jP n n f).Pairwise (fun a b=>a.1<b.1):=by
 rw[uy,List.pairwise_map];refine List.pairwise_lt_range.imp (fun {a b} h=>?_);dsimp only;omega
def Dr{L:LH}(n w:Int)(h0:0≤n)(h1:n≤1099511627776)(h2:0≤w)(h3:w≤1099511627776) :
  Tri ag 241 #[.int .u64 n,.int .u64 w] L (fun v L'=>v=.tuple #[.int .u64 (n*w / 18446744073709551616),.int .u64 (n*w % 18446744073709551616)]∧L' = L):=by
 obtain⟨nN,rfl⟩:∃nN:Nat,n=(nN:Int):=⟨n.toNat,ab⟩;obtain⟨wN,rfl⟩:∃wN:Nat,w=(wN:Int):=⟨w.toNat,ab⟩;have e1:(nN:Int)*(wN:Int) / 18446744073709551616=((nN*wN / 18446744073709551616:Nat):Int):=by rw[Int.natCast_ediv,fO];rfl
 have e2:(nN:Int)*(wN:Int) % 18446744073709551616=((nN*wN % 18446744073709551616:Nat):Int):=by rw[Int.natCast_emod,fO];rfl
 rw[e1,e2];exact sA nN wN ab ab
def Eh{L:LH}(p y:Int)(h0:0≤p)(h1:0<y)(h2:y≤1152921504606846976)(h3:p / 18446744073709551616<y) :
  Tri ag 242 #[.int .u64 (p / 18446744073709551616),.int .u64 (p % 18446744073709551616),.int .u64 y] L (fun v L'=>v=.tuple #[.int .u64 (p / y),.int .u64 (p % y)]∧L' = L):=by
 obtain⟨pN,rfl⟩:∃pN:Nat,p=(pN:Int):=⟨p.toNat,ab⟩;obtain⟨yN,rfl⟩:∃yN:Nat,y=(yN:Int):=⟨y.toNat,ab⟩;have e1:(pN:Int) / 18446744073709551616=((pN / 18446744073709551616:Nat):Int):=by rw[Int.natCast_ediv];rfl
 have e2:(pN:Int) % 18446744073709551616=((pN % 18446744073709551616:Nat):Int):=by rw[Int.natCast_emod];rfl
 have e:=fh pN 18446744073709551616;rw[ej] at e;rw[e1] at h3;rw[e1,e2,←Int.natCast_ediv,←Int.natCast_emod];have h:=sR (L:=L) (pN / 18446744073709551616) (pN % 18446744073709551616) yN ab ab ab;rw[e] at h;exact h
def qn{L:LH}(ad:OA)(n c:Nat)(l:LL)(m:Int)[hr:Rds L ad Lot ao 3 l](hn:n=l.length)(c0:l.length<20)(hl:∀x∈l,LotOk x)(b6:l≠[])(h0:0≤m)(h1:m≤lsum l)(h2:m≤1099511627776) :
  Tri ag 155 #[.slice ad n c,ac m] L (fun v L'=>∃b4 a8,v=.slice b4 l.length a8∧L' = osl (encZ .i64) 1 tInt b4 a8 ((List.range l.length).map (shC l m))::L):=by
 subst hn;have b3:0<l.length:=List.length_pos_iff.2 b6;have hs:=jI hl b3;have c2:=gD hl l.length (aB _);rw[gS] at c2;refine Tri.bd ?_;refine Hz ?_;intros;refine G.loop (α:=Nat) (fun i=>i≤l.length) (fun i=>[(0,.slice ad l.length c),(1,ac m),(5,ac (lsum (l.take i))),(19,.slice ad l.length c),(20,ac l.length),(21,ac (i:Int))]) (fun _=>L) (fun i=>l.length - i) 0 (aj _) ai (Ent.refl _) ?_;intro i hi;by_cases a1:i<l.length
 case pos =>
  have a3:(i:Int).toNat=i:=ay i;have a9 : (i:Int).toNat<l.length:=ab;have a7:=hl _ (aG a1);unfold LotOk at a7;have c3:=gD hl i ab;have c1:=dX l a1;have b1:1≤l[(i:Int).toNat]!.2.2∧l[(i:Int).toNat]!.2.2≤1099511627776:=by rw[a3];omega
  refine Hz ?_;intros;refine⟨i+1,ab,ab,?_,by exact ae⟩;rw[c1,aK i,show l[i]! = l[(i:Int).toNat]! by rw[a3]];exact ai
 obtain rfl:i=l.length:=ab;rw[gS];refine Hz ?_;intros;refine GO.ef (Ef.makeSlice (encZ .i64) 0 rfl rfl rfl ab ab ab) ah ?_;rintro _ _⟨bp,rfl,rfl⟩;rw[ay,←jQ l.length (shQ l m)];refine Hz ?_;intros;refine GO.ef (Ef.g8 encR ((0,0):Rst) rfl rfl rfl ab ab ab ab) ah ?_;rintro _ _⟨br,rfl,rfl⟩;rw[ay,←Cd l.length (shR l m)];refine Hz ?_;intros;refine G.loop (α:=Nat) (fun i=>i≤l.length) (fun i=>[(1,ac m),(5,ac (lsum l)),(8,.slice (some ⟨bp,0,none⟩) l.length l.length),(9,.slice (some ⟨br,0,none⟩) l.length l.length),(10,ac (m - cS i (shQ l m))),(37,.slice ad l.length c),(38,ac l.length),(39,ac (i:Int))]) (fun i=>osl (encZ .i64) 1 tInt (some ⟨bp,0,none⟩) l.length (fQ l.length i (shQ l m))::osl encR 2 tRst (some ⟨br,0,none⟩) l.length (jP l.length i (shR l m))::L) (fun i=>l.length - i) 0 (aj _) ?_ ae ?_
 ·rw[jM,fu];exact ai
 clear hi a1;intro i hi;have d2:=jK l.length i (shQ l m);have b7:=DX l.length i (shR l m);by_cases a1:i<l.length
 case pos =>
  have a3:(i:Int).toNat=i:=ay i;have a9 : (i:Int).toNat<l.length:=ab;have a7:=hl _ (aG a1);unfold LotOk at a7;have b1:1≤l[(i:Int).toNat]!.2.2∧l[(i:Int).toNat]!.2.2≤1099511627776:=by rw[a3];omega
  obtain⟨q1,q2⟩:=jt hl h0 h1 a1;have d5:0≤shR l m i:=dD _ ab;have e1:shR l m i<lsum l:=dL _ hs;refine Hz ?_;intros;have c8:m*l[(i:Int).toNat]!.2.2=m*l[i]!.2.2:=by rw[a3]
  have c7:0≤m*l[i]!.2.2:=dy h0 ab;have d4:m*l[i]!.2.2≤1099511627776*1099511627776:=eQ h2 ab ab ah
  have b0:m*l[i]!.2.2 / 18446744073709551616<lsum l:=by
   have h5:shQ l m i≤1099511627776:=ab;unfold shQ at h5;have h6:=Int.lt_ediv_add_one_mul_self (m*l[i]!.2.2) hs;have h7:(m*l[i]!.2.2 / lsum l+1)*lsum l≤1099511627777*lsum l:=bW ab ab;omega
  refine GO.cr (Dr m l[(i:Int).toNat]!.2.2 h0 h2 ab ab) ?_;rw[c8];refine Hz ?_;intros;refine GO.cr (Eh (m*l[i]!.2.2) (lsum l) c7 hs ab b0) ?_;rw[show m*l[i]!.2.2 / lsum l=shQ l m i from rfl,show m*l[i]!.2.2 % lsum l=shR l m i from rfl];refine Hz ?_;intros;refine GO.efu (Ef.e7 (enc:=encR) (e:=((i:Int),shR l m i)) rfl rfl (by rfl) (by rfl) (oJ ((i:Int),shR l m i)) ab) ?_;rintro _ _ rfl
  have e2:0≤cS i (shQ l m)∧cS i (shQ l m)≤lsum (l.take i):=by
   rw[show lsum (l.take i)=cS i (fun k=>l[k]!.2.2) by unfold cS;rw[lV l i hi]];refine⟨?_,kZ (fun k hk=>(jt hl h0 h1 ab).2)⟩;have:=kZ (n:=i) (f:=fun _=>0) (g:=shQ l m) (fun k hk=>(jt hl h0 h1 ab).1)
   rw[nj] at this;omega
  have c3:=gD hl i ab;have c6:=dW i (shQ l m);refine Hz ?_;intros;rw[a3,kG (shQ l m) a1,DW (shR l m) a1];refine⟨i+1,ab,ab,?_,by exact ae⟩;rw[c6,show m - (cS i (shQ l m)+shQ l m i)=m - cS i (shQ l m) - shQ l m i by omega,aK i];exact ai
 obtain rfl:i=l.length:=ab;rw[kH,←kz];obtain⟨e0,d6⟩:=lB (n:=m) hl b6;refine Hz ?_;intros;(first|refine GO.ef (Ef.call (rZ (L:=[]) (some ⟨br,0,none⟩) l.length l.length (jP l.length l.length (shR l m)) b7.symm c0 (DV _ _)) rfl (by repeat (first|exact Ent.refl _|apply Ent.take))) ah ?_);rintro _ _⟨_,⟨ys,⟨a6,b8⟩,rfl⟩,hL⟩;simp only[ax,ap] at hL;subst hL;rw[uy] at a6;obtain⟨o,ho⟩:∃o,o=ys.map (fun r:Rst=>r.1.toNat):=⟨_,rfl⟩
 have a2:o.Perm (List.range l.length):=by
  have:=a6.map (fun r:Rst=>r.1.toNat)
  rw[eO,show((fun r:Rst=>r.1.toNat) ∘ fun k:Nat=>((k:Int),shR l m k))=id from rfl,List.map_id] at this;rw[ho];exact this
 have a5:o.Pairwise (rkLt (shR l m)):=by
  rw[ho,List.pairwise_map];refine b8.imp_of_mem (fun {a b} ha hb h=>?_);obtain⟨k,_,rfl⟩:=List.mem_map.1 (a6.mem_iff.1 ha);obtain⟨j,_,rfl⟩:=List.mem_map.1 (a6.mem_iff.1 hb);unfold rle at h;unfold rkLt;show shR l m (j:Int).toNat<shR l m (k:Int).toNat∨_;rw[ay,ay];dsimp only at h ⊢;omega
 have e4:o.length=l.length:=by have:=a2.length_eq;simpa using this
 have e5:ys.length=l.length:=by have:=a6.length_eq;simpa using this
 have d0:∀i,i<ys.length→ys[i]!.1=(o[i]! : Int):=fun i hi=>by
  have h3:o[i]! = ys[i]!.1.toNat:=by rw[ho,dP _ hi]
  have h4:=a6.mem_iff.1 (aG hi);obtain⟨k,_,e⟩:=List.mem_map.1 h4;rw[h3,←e];show(k:Int)=((k:Int).toNat:Int);omega
 have d1:∀i,i<o.length→o[i]! < l.length:=fun i hi=>List.mem_range.1 (a2.mem_iff.1 (aG hi));clear b8 a6 ho hi a1 d2 b7;refine Hz ?_;intros;obtain⟨lf,b9⟩:∃lf:Nat,lf=(fx l m).toNat:=⟨_,rfl⟩;rw[←b9];have c9:lf<l.length:=ab
 refine G.loop (α:=Nat) (fun i=>i≤lf) (fun i=>[(8,.slice (some ⟨bp,0,none⟩) l.length l.length),(81,.slice (some ⟨br,0,none⟩) lf l.length),(82,ac (lf:Int)),(83,ac (i:Int))])
  (fun i=>osl encR 2 tRst (some ⟨br,0,none⟩) l.length ys::osl (encZ .i64) 1 tInt (some ⟨bp,0,none⟩) l.length ((List.range l.length).map (fun k=>shQ l m k+if k∈o.take i then 1 else 0))::L) (fun i=>lf - i) 0 (aj _) ai ?_ ?_
 ·have e:(List.range l.length).map (fun k=>shQ l m k+if k∈o.take 0 then 1 else 0)=(List.range l.length).map (shQ l m):=cU (fun k _=>by simp);rw[e];exact ae
 intro i hi;by_cases a1:i<lf
 case neg =>
  have e:(List.range l.length).map (fun k=>shQ l m k+if k∈o.take i then 1 else 0)=(List.range l.length).map (shC l m):=by
   apply cU;intro k hk;have c5:=List.mem_range.1 hk;unfold shC;rw[oe];congr 1;have h3:=iw a2 a5 (m:=i) c5;by_cases h4:eo (shR l m) l.length k<i
   ·rw[if_pos (h3.2 h4),if_pos ab]
   ·rw[if_neg (fun h=>h4 (h3.1 h)),if_neg ab]
  rw[e];refine Hz ?_;intros;exact KX.en ⟨some ⟨bp,0,none⟩,l.length,rfl,rfl⟩
 have a3:(i:Int).toNat=i:=ab;have a4:i<o.length:=ab;have a0:=d1 i a4;have c4:=d0 i ab;have e3:((List.range l.length).map (fun k=>shQ l m k+if k∈o.take i then 1 else 0)).length=l.length:=by simp
 have d3:((List.range l.length).map (fun k=>shQ l m k+if k∈o.take i then 1 else 0))[o[i]!]! = shQ l m o[i]!:=by
  rw[gL a0,if_neg,Int.add_zero];intro b2;have h3:=(iw a2 a5 a0).1 b2;rw[getElem!_of a4,jv a2 a5 a4] at h3;omega
 obtain⟨q1,q2⟩:=jt hl h0 h1 a0;have a7:=hl _ (aG a0);unfold LotOk at a7;have b5:((o[i]! : Nat):Int).toNat=o[i]!:=ab;have a9 : (i:Int).toNat<ys.length:=ab;refine Hz ?_;intros;rw[a3,c4];refine Hz ?_;intros;rw[b5,d3];refine Hz ?_;intros
 have e:((List.range l.length).map (fun k=>shQ l m k+if k∈o.take i then 1 else 0)).set o[i]! (shQ l m o[i]! + 1)=(List.range l.length).map (fun k=>shQ l m k+if k∈o.take (i+1) then 1 else 0):=by
  apply du
  ·simp
  ·intro k h3 h4;have hk:k<l.length:=by simpa using h4
   rw[fH];simp only[eW,List.getElem_range];have m1:=iw a2 a5 (m:=i) hk;have m2:=iw a2 a5 (m:=i+1) hk;by_cases h5:o[i]! = k
   ·subst h5;have h6:eo (shR l m) l.length o[i]! = i:=by rw[getElem!_of a4];exact jv a2 a5 a4
    rw[if_pos rfl,if_pos (m2.2 ab)]
   ·rw[if_neg h5];congr 1
    have h6:eo (shR l m) l.length k≠i:=by
     intro h7;refine h5 (so (R:=shR l m) a0 hk ?_);rw[h7,getElem!_of a4];exact jv a2 a5 a4
    by_cases h7:eo (shR l m) l.length k<i
    ·rw[if_pos (m1.2 h7),if_pos (m2.2 ab)]
    ·rw[if_neg (fun h=>h7 (m1.1 h)),if_neg (fun h=>absurd (m2.1 h) ab)]
 try rw[b5]
 rw[e];refine⟨i+1,ab,ab,?_,by exact ae⟩;rw[aK i];exact ai
