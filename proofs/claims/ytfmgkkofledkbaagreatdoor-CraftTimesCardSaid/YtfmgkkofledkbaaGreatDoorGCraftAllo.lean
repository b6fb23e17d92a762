/- Lemmas and contracts of functions, in the order: Z3, Z4, Z5, Z6, Z7. -/
import Derived.Test.YtfmgkkofledkbaaGreatDoorGCraftAlln
import Derived.Test.YtfmgkkofledkbaaGreatDoorGCraftAllg
import Derived.Test.YtfmgkkofledkbaaGreatDoorGCraftAlli
set_option linter.all false
set_option maxHeartbeats 4000000
namespace Go.Proofs.YtfmgkkofledkbaaGreatDoor
open Go.V
attribute [local irreducible] G GO GP GPW GPK Ev Ef EfR Ent CB GB V.Enters
section
theorem tz {L:List HP} (n w s:Int) (h0:0≤n) (h1:n≤1099511627776) (h2:0≤w) (h3:w≤1152921504606846976) (h4:0<s) (h5:s≤1152921504606846976) (hq:n*w / s≤1099511627776) :
  Tri Tryz.prog 338 #[.int .i64 n,.int .i64 w,.int .i64 s] L (fun v L'=>v=.tuple #[.int .i64 (n*w / s),.int .i64 (n*w % s),.bool true]∧L' = L):=by
 obtain ⟨N,rfl⟩:∃ N:Nat,n=N:=⟨n.toNat,ab⟩
 obtain ⟨W,rfl⟩:∃ W:Nat,w=W:=⟨w.toNat,ab⟩
 obtain ⟨S,rfl⟩:∃ S:Nat,s=S:=⟨s.toNat,ab⟩
 have e1:((N*W / S:Nat):Int)=(N:Int)*W / S:=by rw [← Int.natCast_mul];rfl
 have e2:((N*W % S:Nat):Int)=(N:Int)*W % S:=by rw [← Int.natCast_mul];rfl
 have h:=uw (L:=L) N W S ab ab ab ab (by rw [← e1] at hq;exact Int.ofNat_le.1 hq)
 rw [e1,e2] at h
 exact h
theorem qD {L:List HP} (n:Int) (h0:0≤n) (h1:n≤1099511627776):Tri Tryz.prog 337 #[.int .i64 n] L (fun v L'=>v=.bool true∧L' = L):=by
 refine Tri.body (args:=[.int .i64 n]) 9 Gr Tryz.func337 rfl rfl rfl (by simp) ?_
 repeat first|refine aa ?_|intro _
 exact KX.a6 ai (Ent.refl _) ⟨by rw [aw h1];rfl,rfl⟩
theorem na {f:Nat→Int} {n b:Nat} {v:Int}:((List.range n).map f).set b v=(List.range n).map (fun k=>if k=b then v else f k):=by
 apply List.ext_getElem
 ·simp
 ·intro k h1 h2
  rw [List.getElem_set]
  by_cases e:b=k
  ·subst e;simp
  ·rw [if_neg e]
   simp
   intro q
   exact absurd q.symm e
theorem fF {f g:Nat→Int} {n:Nat} (h:∀ k,k<n→f k=g k):(List.range n).map f=(List.range n).map g:=List.map_congr_left (fun k hk=>h k (List.mem_range.1 hk))
def spO (l:List Lot) (n:Int) (m k:Nat):Int:=shQ l n k+(if db (shR l n) l.length k<m then 1 else 0)
def spR (l:List Lot) (n:Int) (m k:Nat):Int:=if db (shR l n) l.length k<m then -1 else shR l n k
theorem EP {R:Nat→Int} {n m b:Nat} (hR:∀ k,k<n→0≤R k) (hm:m<n) (hb:b<n) (h1:∀ j,j<n→(if db R n j<m then (-1:Int) else R j)≤(if db R n b<m then -1 else R b)) (h2:∀ j,j<b→(if db R n j<m then (-1:Int) else R j)<(if db R n b<m then -1 else R b)):db R n b=m:=by
 obtain ⟨k,hk,hkm,hlt⟩:=Gb (R:=R) hm
 by_cases e:b=k
 ·rw [e];exact hkm
 exfalso
 have a1:=h1 k hk
 rw [if_neg (by omega:¬db R n k<m)] at a1
 have r0:=hR k hk
 have hbm:¬db R n b<m:=fun q=>by rw [if_pos q] at a1;omega
 rw [if_neg hbm] at a1
 rcases hlt b hb e ab with q|⟨q1,q2⟩
 ·omega
 ·have a2:=h2 k q2
  rw [if_neg (by omega:¬db R n k<m),if_neg hbm] at a2
  omega
theorem Do {l:List Lot} {n:Int} {m b:Nat} (hb:b<l.length) (h:db (shR l n) l.length b=m):((List.range l.length).map (spO l n m)).set b (spO l n m b+1)=(List.range l.length).map (spO l n (m+1)):=by
 rw [na]
 apply fF
 intro k hk
 by_cases e:k=b
 ·rw [if_pos e]
  subst e
  unfold spO
  rw [if_neg ab,if_pos ab]
  omega
 ·rw [if_neg e]
  have:db (shR l n) l.length k≠m:=fun q=>e (uu hk hb (by rw [q,h]))
  unfold spO
  by_cases c:db (shR l n) l.length k<m
  ·rw [if_pos c,if_pos ab]
  ·rw [if_neg c,if_neg ab]
theorem Dn {l:List Lot} {n:Int} {m b:Nat} (hb:b<l.length) (h:db (shR l n) l.length b=m):((List.range l.length).map (spR l n m)).set b (-1)=(List.range l.length).map (spR l n (m+1)):=by
 rw [na]
 apply fF
 intro k hk
 by_cases e:k=b
 ·rw [if_pos e]
  subst e
  unfold spR
  rw [if_pos ab]
 ·rw [if_neg e]
  have:db (shR l n) l.length k≠m:=fun q=>e (uu hk hb (by rw [q,h]))
  unfold spR
  by_cases c:db (shR l n) l.length k<m
  ·rw [if_pos c,if_pos ab]
  ·rw [if_neg c,if_neg ab]
theorem Fb {l:List Lot} (hl:∀ x∈l,LotOk x) (hll:l.length≤4096):lsum l≤4096*1099511627776:=by
 have h:=(fg hl l.length (Nat.le_refl _)).2
 rw [fk] at h
 have h2:(l.length:Int)*1099511627776≤4096*1099511627776:=Int.mul_le_mul_of_nonneg_right ab ac
 omega
abbrev wF:List Stp:=[.ev 0,.ev 1,.ev 2,.ev 3,.ev 4,.ev 5,.ev 6,.ev 7,.ev 8]
theorem cD {φ ψ:Prop} (k:ψ) (h:Hid ψ→φ:=by intro k;(with_reducible apply G.a7);first|refine G.a6 (N:=113) (id:=26) wF mixed ah (Hid.out k)):φ:=h ⟨k⟩
theorem wn {L:List HP} (ad:Option Addr) (c:Nat) (l:List Lot) (n:Int) [hrd:Rds L ad Int (encZ .i64) 1 (wts l)] (hll:l.length≤4096) (hl:∀ x∈l,LotOk x) (hne:l≠[]) (h0:0≤n) (h1:n≤lsum l) (h2:n≤1099511627776) :
  Tri Tryz.prog 325 #[.int .i64 n,.slice ad l.length c] L (fun v L'=>∃ ad' cap',v=.tuple #[.slice ad' l.length cap',.int .i64 0]∧L' = osl (encZ .i64) 1 tInt ad' cap' ((List.range l.length).map (shC l n))::L):=by
 have hwl:=ry l
 have hpos:0<l.length:=List.length_pos_iff.2 hne
 have hs0:=jj hl hpos
 have hsl:=Fb hl hll
 refine Tri.body (args:=[.int .i64 n,.slice ad l.length c]) 113 Gx Tryz.func325 rfl rfl rfl (by simp) ?_
 repeat first|refine aa ?_|intro _|refine cD ?_
 refine G.loop (α:=Nat) (fun i=>i≤l.length) (fun i=>[(0,.int .i64 n),(1,.slice ad l.length c),(6,.int .i64 (lsum (l.take i))),(7,.int .i64 (i:Int))]) (fun _=>L) (fun i=>l.length - i) 0 (Nat.zero_le _) aj (Ent.refl _) ?_
 intro i hi
 have hb1:=fg hl i hi
 have hb2:(i:Int)*1099511627776≤4096*1099511627776:=Int.mul_le_mul_of_nonneg_right ab ac
 by_cases hlt:i<l.length
 case pos =>
  have hii:(i:Int).toNat=i:=Int.toNat_natCast i
  have hw:(wts l)[(i:Int).toNat]! = l[i]!.2.2:=by rw [hii];exact lx hlt
  have hlo:=hl _ (ap hlt)
  have hlw:=hlo.w
  obtain ⟨o1,o2,o3,o4,o5⟩:=hlo
  have hst:=dL l hlt
  repeat first|refine aa ?_|intro _|refine cD ?_
  rw [hw]
  refine GO.ef (Ef.a6 (qD l[i]!.2.2 ab ab) rfl) ac ?_
  rintro _ L ⟨rfl,rfl⟩
  repeat first|refine aa ?_|intro _|refine cD ?_
  rw [hw]
  repeat first|refine aa ?_|intro _|refine cD ?_
  refine ⟨i+1,ab,ab,?_,Ent.refl _⟩
  rw [show ((i+1:Nat):Int)=(i:Int)+1 by omega,hst]
  exact aj
 obtain rfl:i=l.length:=ab
 rw [fk]
 repeat first|refine aa ?_|intro _|refine cD ?_
 refine GO.ef (Ef.a6 (qD n h0 h2) rfl) ac ?_
 rintro _ L ⟨rfl,rfl⟩
 repeat first|refine aa ?_|intro _|refine cD ?_
 refine G.loop (α:=Nat×(Option Addr×Nat)×Option Addr×Nat) (fun z=>z.1≤l.length) (fun z=>[(0,.int .i64 n),(1,.slice ad l.length c),(6,.int .i64 (lsum l)),(10,.slice z.2.1.1 z.1 z.2.1.2),(11,.slice z.2.2.1 z.1 z.2.2.2),(12,.int .i64 (n - bQ z.1 (shQ l n))),(13,.int .i64 (z.1:Int))]) (fun z=>osl (encZ .i64) 1 tInt z.2.1.1 z.2.1.2 ((List.range z.1).map (shQ l n))::osl (encZ .i64) 1 tInt z.2.2.1 z.2.2.2 ((List.range z.1).map (shR l n))::L) (fun z=>l.length - z.1) (0,(none,0),none,0) (Nat.zero_le _) ?_ ((Ent.a7 (encZ .i64) 1 tInt).trans (Ent.a7 (encZ .i64) 1 tInt)) ?_
 ·rw [iP,Int.sub_zero]
  exact aj
 rintro ⟨i,⟨a1,c1⟩,a2,c2⟩ hi
 dsimp only at hi ⊢
 have hql:((List.range i).map (shQ l n)).length=i:=by simp
 have hrl:((List.range i).map (shR l n)).length=i:=by simp
 have hsb:0≤bQ i (shQ l n)∧bQ i (shQ l n)≤n:=by
  have h3:bQ l.length (shQ l n)≤n:=by
   have:=(kL (n:=n) hl hne).1
   rw [jF] at this
   omega
  have h4:∀ j,j≤l.length→0≤bQ j (shQ l n):=by
   intro j
   induction j with
   | zero=>intro _;exact Int.le_refl _
   | succ j ih =>
    intro hj
    rw [cH]
    have:=ih ab
    have:=(jE hl h0 h1 (show j<l.length by omega)).1
    omega
  have h5:∀ d,i+d≤l.length→bQ i (shQ l n)≤bQ (i+d) (shQ l n):=by
   intro d
   induction d with
   | zero=>intro _;exact Int.le_refl _
   | succ d ih =>
    intro hd
    have:=ih ab
    rw [show i+(d+1)=(i+d)+1 by omega,cH]
    have:=(jE hl h0 h1 (show i+d<l.length by omega)).1
    omega
  have h6:=h5 (l.length - i) ab
  rw [show i+(l.length - i)=l.length by omega] at h6
  exact ⟨h4 i hi,ab⟩
 by_cases hlt:i<l.length
 case pos =>
  have hii:(i:Int).toNat=i:=Int.toNat_natCast i
  have hw:(wts l)[(i:Int).toNat]! = l[i]!.2.2:=by rw [hii];exact lx hlt
  obtain ⟨o1,o2,o3,o4,o5⟩:=hl _ (ap hlt)
  have hqb:=jE hl h0 h1 hlt
  have eq:shQ l n i=n*l[i]!.2.2 / lsum l:=rfl
  have er:shR l n i=n*l[i]!.2.2 % lsum l:=rfl
  repeat first|refine aa ?_|intro _|refine cD ?_
  rw [hw]
  refine GO.ef (Ef.a6 (tz n l[i]!.2.2 (lsum l) h0 h2 ab ab hs0 ab (by rw [← eq];omega)) rfl) ac ?_
  rintro _ _ ⟨rfl,rfl⟩
  rw [← eq,← er]
  repeat first|refine aa ?_|intro _|refine cD ?_
  refine GO.ef (Ef.a7 (enc:=encZ .i64) (shQ l n i) rfl rfl rfl hql.symm rfl (by rfl) (eS _ _) ab ab) ac ?_
  rintro _ _ ⟨a3,c3,rfl,rfl⟩
  repeat first|refine aa ?_|intro _|refine cD ?_
  refine GO.ef (Ef.a7 (enc:=encZ .i64) (shR l n i) rfl rfl rfl hrl.symm rfl (by rfl) (eS _ _) ab ab) ac ?_
  rintro _ _ ⟨a4,c4,rfl,rfl⟩
  repeat first|refine aa ?_|intro _|refine cD ?_
  have e1:(List.range i).map (shQ l n)++[shQ l n i]=(List.range (i+1)).map (shQ l n):=by rw [List.range_succ,List.map_append];rfl
  have e2:(List.range i).map (shR l n)++[shR l n i]=(List.range (i+1)).map (shR l n):=by rw [List.range_succ,List.map_append];rfl
  rw [e1,e2]
  refine ⟨(i+1,(a3,c3),a4,c4),by dsimp only;omega,by dsimp only;omega,?_,by exact ae⟩
  dsimp only
  rw [show ((i+1:Nat):Int)=(i:Int)+1 by omega,cH,show ((List.range (i+1)).map (shQ l n)).length=i+1 by simp,show ((List.range (i+1)).map (shR l n)).length=i+1 by simp,show n - (bQ i (shQ l n)+shQ l n i)=n - bQ i (shQ l n) - shQ l n i by omega]
  exact aj
 obtain rfl:i=l.length:=ab
 have hle:n - bQ l.length (shQ l n)=dD l n:=(jF l n).symm
 rw [hle]
 obtain ⟨hl1,hl2⟩:=kL (n:=n) hl hne
 have hO0:(List.range l.length).map (shQ l n)=(List.range l.length).map (spO l n 0):=fF (fun k _=>by unfold spO;rw [if_neg ab];omega)
 have hR0:(List.range l.length).map (shR l n)=(List.range l.length).map (spR l n 0):=fF (fun k _=>by unfold spR;rw [if_neg ab])
 rw [hO0,hR0]
 repeat first|refine aa ?_|intro _|refine cD ?_
 refine G.loop (α:=Nat) (fun m=>(m:Int)≤dD l n) (fun m=>[(0,.int .i64 n),(1,.slice ad l.length c),(6,.int .i64 (lsum l)),(10,.slice a1 l.length c1),(11,.slice a2 l.length c2),(12,.int .i64 (dD l n - (m:Int)))]) (fun m=>osl (encZ .i64) 1 tInt a1 c1 ((List.range l.length).map (spO l n m))::osl (encZ .i64) 1 tInt a2 c2 ((List.range l.length).map (spR l n m))::L) (fun m=>(dD l n).toNat - m) 0 ab ?_ (Ent.refl _) ?_
 ·rw [show ((0:Nat):Int)=0 from rfl,Int.sub_zero]
  exact aj
 intro m hm
 have hxl:∀ f:Nat→Int,((List.range l.length).map f).length=l.length:=fun f=>by simp
 by_cases hml:(m:Int)=dD l n
 ·have hO:(List.range l.length).map (spO l n m)=(List.range l.length).map (shC l n):=fF (fun k _=>by
   unfold spO shC
   rw [po,← hml]
   by_cases q:db (shR l n) l.length k<m
   ·rw [if_pos q,if_pos ab]
   ·rw [if_neg q,if_neg ab])
  rw [hO]
  repeat first|refine aa ?_|intro _|refine cD ?_
  exact KX.a6 ai ae ⟨a1,c1,rfl,rfl⟩
 have hmn:m<l.length:=ab
 have hxO:=hxl (spO l n m)
 have hxR:=hxl (spR l n m)
 have hgO:∀ k,k<l.length→((List.range l.length).map (spO l n m))[k]! = spO l n m k:=fun k hk=>dZ hk
 have hgR:∀ k,k<l.length→((List.range l.length).map (spR l n m))[k]! = spR l n m k:=fun k hk=>dZ hk
 have hsO:=fun b (hb:b<l.length) h=>Do (n:=n) (m:=m) hb h
 have hsR:=fun b (hb:b<l.length) h=>Dn (n:=n) (m:=m) hb h
 obtain ⟨xs,hxs⟩:∃ xs,xs=(List.range l.length).map (spO l n m):=⟨_,rfl⟩
 obtain ⟨ys,hys⟩:∃ ys,ys=(List.range l.length).map (spR l n m):=⟨_,rfl⟩
 rw [← hxs] at hxO hgO hsO ⊢
 rw [← hys] at hxR hgR hsR ⊢
 repeat first|refine aa ?_|intro _|refine cD ?_
 refine G.loop (α:=Nat×Nat) (fun z=>z.1≤l.length∧z.2<z.1∧(∀ j,j<z.1→ys[j]!≤ys[z.2]!)∧∀ j,j<z.2→ys[j]! < ys[z.2]!) (fun z=>[(0,.int .i64 n),(1,.slice ad l.length c),(6,.int .i64 (lsum l)),(10,.slice a1 l.length c1),(11,.slice a2 l.length c2),(12,.int .i64 (dD l n - (m:Int))),(17,.int .i64 (z.2:Int)),(18,.int .i64 (z.1:Int))]) (fun _=>osl (encZ .i64) 1 tInt a1 c1 xs::osl (encZ .i64) 1 tInt a2 c2 ys::L) (fun z=>l.length - z.1) (1,0) ⟨hpos,Nat.zero_lt_one,fun j hj=>(show j=0 by omega)▸Int.le_refl _,fun j hj=>absurd hj (Nat.not_lt_zero j)⟩ aj (Ent.refl _) ?_
 rintro ⟨i,b⟩ ⟨i1,i2,i3,i4⟩
 dsimp only at i1 i2 i3 i4 ⊢
 have hbb:(b:Int).toNat=b:=Int.toNat_natCast b
 by_cases hlt:i<l.length
 case pos =>
  have hii:(i:Int).toNat=i:=Int.toNat_natCast i
  by_cases hc:ys[(b:Int).toNat]! < ys[(i:Int).toNat]!
  ·repeat first|refine aa ?_|intro _|refine cD ?_
   rw [hbb,hii] at hc
   refine ⟨(i+1,i),⟨by dsimp only;omega,by dsimp only;omega,?_,?_⟩,by dsimp only;omega,?_,by exact ae⟩
   ·dsimp only
    intro j hj
    by_cases e:j=i
    ·subst e;exact Int.le_refl _
    ·have:=i3 j ab;omega
   ·dsimp only
    intro j hj
    have:=i3 j hj
    omega
   ·dsimp only
    rw [show ((i+1:Nat):Int)=(i:Int)+1 by omega]
    exact aj
  ·repeat first|refine aa ?_|intro _|refine cD ?_
   rw [hbb,hii] at hc
   refine ⟨(i+1,b),⟨by dsimp only;omega,by dsimp only;omega,?_,i4⟩,by dsimp only;omega,?_,by exact ae⟩
   ·dsimp only
    intro j hj
    by_cases e:j=i
    ·subst e;omega
    ·exact i3 j ab
   ·dsimp only
    rw [show ((i+1:Nat):Int)=(i:Int)+1 by omega]
    exact aj
 obtain rfl:i=l.length:=ab
 have hbest:db (shR l n) l.length b=m:=by
  refine EP (fun k hk=>Int.emod_nonneg _ ab) hmn i2 ?_ ?_
  ·intro j hj
   have:=i3 j hj
   rw [hgR j hj,hgR b i2] at this
   exact this
  ·intro j hj
   have:=i4 j hj
   rw [hgR j ab,hgR b i2] at this
   exact this
 have hOs:=hsO b i2 hbest
 have hRs:=hsR b i2 hbest
 have hOb:0≤spO l n m b∧spO l n m b≤1099511627776*2:=by
  have q1:=jE hl h0 h1 i2
  obtain ⟨o1,o2,o3,o4,o5⟩:=hl _ (ap i2)
  unfold spO
  split<;>omega
 rw [← hgO b i2,← hbb] at hOs hOb
 have hRs' : ys.set (b:Int).toNat (-1)=(List.range l.length).map (spR l n (m+1)):=by rw [hbb];exact hRs
 have hbl:(b:Int).toNat<xs.length:=ab
 repeat first|refine aa ?_|intro _|refine cD ?_
 rw [hOs,hRs']
 refine ⟨m+1,ab,ab,?_,by exact ae⟩
 rw [show ((m+1:Nat):Int)=(m:Int)+1 by omega,show dD l n - ((m:Int)+1)=dD l n - (m:Int) - 1 by omega]
 exact aj
end
section
theorem ux {L:List HP} (ad:Option Addr) (c:Nat) (l:List Lot) (n:Int) (mx:Bool) [hrd:Rds L ad Lot av 3 l] (hll:l.length≤4096) (hl:∀ x∈l,LotOk x) (h0:0≤n) (h1:n≤lsum l) (h2:n≤1099511627776) :
  Tri Tryz.prog 308 #[.slice ad l.length c,.int .i64 n,.bool mx] L (fun v L'=>∃ ad' cap',v=.slice ad' l.length cap'∧L' = osl (encZ .i64) 1 tInt ad' cap' ((List.range l.length).map (tkC mx l n))::L):=by
 have hwl:=ry l
 refine Tri.body (args:=[.slice ad l.length c,.int .i64 n,.bool mx]) 56 GD Tryz.func308 rfl rfl rfl (by simp) ?_
 repeat first|refine aa ?_|intro _
 refine G.loop (α:=Nat×(Option Addr×Nat)×Option Addr×Nat) (fun z=>z.1≤l.length) (fun z=>[(0,.slice ad l.length c),(1,.int .i64 n),(2,.bool mx),(7,.slice z.2.1.1 z.1 z.2.1.2),(8,.slice z.2.2.1 z.1 z.2.2.2),(9,.int .i64 (fuR l n z.1)),(10,.int .i64 (z.1:Int))]) (fun z=>osl (encZ .i64) 1 tInt z.2.1.1 z.2.1.2 ((wts l).take z.1)::osl (encZ .i64) 1 tInt z.2.2.1 z.2.2.2 ((List.range z.1).map (fuC l n))::L) (fun z=>l.length - z.1) (0,(none,0),none,0) (Nat.zero_le _) aj ((Ent.a7 (encZ .i64) 1 tInt).trans (Ent.a7 (encZ .i64) 1 tInt)) ?_
 rintro ⟨i,⟨a1,c1⟩,a2,c2⟩ hi
 dsimp only at hi ⊢
 have hql:((wts l).take i).length=i:=by rw [List.length_take];omega
 have hrl:((List.range i).map (fuC l n)).length=i:=by simp
 have hfr:=qU h0 (fun x h=>(hl x h).w) i hi
 by_cases hlt:i<l.length
 case pos =>
  have hii:(i:Int).toNat=i:=Int.toNat_natCast i
  obtain ⟨o1,o2,o3,o4,o5⟩:=hl _ (ap hlt)
  have hfc:=lI h0 (fun x h=>(hl x h).w) i hlt
  have e1:(wts l).take i++[l[i]!.2.2]=(wts l).take (i+1):=by
   rw [List.take_succ_eq_append_getElem ab,← getElem!_of ab,lx hlt]
  have e2:(List.range i).map (fuC l n)++[fuC l n i]=(List.range (i+1)).map (fuC l n):=by rw [List.range_succ,List.map_append];rfl
  have ec:min (fuR l n i) l[i]!.2.2=fuC l n i:=rfl
  have er:fuR l n i - fuC l n i=fuR l n (i+1):=rfl
  repeat first|refine aa ?_|intro _
  rw [hii]
  refine GO.ef (Ef.a7 (enc:=encZ .i64) (l[i]!.2.2) rfl rfl rfl hql.symm rfl (by rfl) (eS _ _) ab ab) ac ?_
  rintro _ _ ⟨a3,c3,rfl,rfl⟩
  rw [e1]
  repeat first|refine aa ?_|intro _
  rw [hii,ec]
  repeat first|refine aa ?_|intro _
  refine GO.ef (Ef.a7 (enc:=encZ .i64) (fuC l n i) rfl rfl rfl hrl.symm rfl (by rfl) (eS _ _) ab ab) ac ?_
  rintro _ _ ⟨a4,c4,rfl,rfl⟩
  rw [e2]
  repeat first|refine aa ?_|intro _
  rw [er]
  refine ⟨(i+1,(a3,c3),a4,c4),by dsimp only;omega,by dsimp only;omega,?_,by exact ae⟩
  dsimp only
  rw [show ((i+1:Nat):Int)=(i:Int)+1 by omega,show ((wts l).take (i+1)).length=i+1 by rw [List.length_take];omega,show ((List.range (i+1)).map (fuC l n)).length=i+1 by simp]
  exact aj
 obtain rfl:i=l.length:=ab
 rw [← hwl,List.take_length,hwl]
 cases mx with
 | false =>
  have et:(List.range l.length).map (fuC l n)=(List.range l.length).map (tkC false l n):=rfl
  rw [et]
  repeat first|refine aa ?_|intro _
  exact KX.a6 ai ae ⟨a2,c2,rfl,rfl⟩
 | true =>
  by_cases hn:0<n
  ·have et:tkC true l n=shC l n:=if_pos ⟨rfl,hn⟩
   rw [et]
   have hne:l≠[]:=by
    intro q
    subst q
    have:lsum ([]:List Lot)=0:=rfl
    omega
   repeat first|refine aa ?_|intro _
   refine GO.ef (Ef.a6 (wn a1 c1 l n hll hl hne h0 h1 h2) rfl) ac ?_
   rintro _ _ ⟨a3,c3,rfl,rfl⟩
   repeat first|refine aa ?_|intro _
   exact KX.a6 ai ae ⟨a3,c3,rfl,rfl⟩
  ·have et:tkC true l n=fuC l n:=if_neg (fun q=>hn q.2)
   rw [et]
   repeat first|refine aa ?_|intro _
   exact KX.a6 ai ae ⟨a2,c2,rfl,rfl⟩
abbrev wE:List Stp:=[.ev 0,.ev 1,.ev 2,.ev 3,.ev 4,.ev 5,.ev 6,.ev 7,.ev 8,.ev 9,.ev 10,.ev 11,.ev 12,.ev 13,.ev 14,.ev 15,.ef 16,.ev 17]
abbrev wD:List Stp:=[.ev 0,.ev 1,.ev 2,.ev 3,.ev 4,.ev 5,.ev 6,.ev 7,.ev 8,.ev 9,.ev 10,.ev 11,.ev 12,.ev 13,.ev 14,.ev 15,.ev 16,.ev 17,.ev 18,.ev 19,.ev 20,.ev 21,.ev 22,.ev 23,.ev 24,.ev 25,.ev 26,.ef 27,.ev 28]
theorem eo {φ ψ:Prop} (k:ψ) (h:Hid ψ→φ:=by intro k;(with_reducible apply G.a7);first|refine G.a6 (N:=87) (id:=11) wE mixed ah (Hid.out k)|refine G.a6 (N:=87) (id:=12) wD mixed ah (Hid.out k)):φ:=h ⟨k⟩
theorem zp {L:List HP} (ad:Option Addr) (c:Nat) (xs:List Lot) (n:Int) (mx:Bool) [hrd:Rds L ad Lot av 3 xs] (hb:xs.length≤4096) (hx:∀ l∈xs,LotOk l) (hn0:0≤n) (hn1:n≤1099511627776) :
  Tri Tryz.prog 270 #[.slice ad xs.length c,.int .i64 n,.bool mx] L (fun v L' =>
   (lsum xs<n∧v=.tuple #[.slice none 0 0,.slice none 0 0,.int .i64 10]∧L' = L) ∨
   (n≤lsum xs∧∃ ad1 c1 ad2 c2,v=.tuple #[.slice ad1 (fC mx xs n).length c1,.slice ad2 (eX mx xs n).length c2,.int .i64 0]∧L' = osl av 3 tLot ad1 c1 (fC mx xs n)::osl av 3 tLot ad2 c2 (eX mx xs n)::L)):=by
 refine Tri.body (args:=[.slice ad xs.length c,.int .i64 n,.bool mx]) 87 He Tryz.func270 rfl rfl rfl (by simp) ?_
 repeat first|refine aa ?_|intro _|refine eo ?_
 refine GO.ef (Ef.a6 (oS ad xs.length c xs rfl hb hx) rfl) ac ?_
 rintro _ L ⟨rfl,rfl⟩
 repeat first|refine aa ?_|intro _|refine eo ?_
 refine GO.ef (Ef.a6 (gj ad xs.length c xs rfl hb hx) rfl) ac ?_
 rintro _ L ⟨rfl,rfl⟩
 by_cases hs:lsum xs<n
 ·repeat first|refine aa ?_|intro _|refine eo ?_
  exact KX.a6 ai (Ent.refl _) (.inl ⟨hs,rfl,rfl⟩)
 have hs' : n≤lsum xs:=ab
 repeat first|refine aa ?_|intro _|refine eo ?_
 refine GO.ef (Ef.a6 (ux ad c xs n mx hb hx hn0 hs' hn1) rfl) ac ?_
 rintro _ _ ⟨ak,ck,rfl,rfl⟩
 obtain ⟨cs,hcs⟩:∃ cs,cs=tkC mx xs n:=⟨_,rfl⟩
 have hcb:∀ k,k<xs.length→0≤cs k∧cs k≤xs[k]!.2.2:=by rw [hcs];exact ua mx xs n hx hn0 hs'
 have ht:fC mx xs n=divF xs cs xs.length:=by rw [hcs];rfl
 have hlf:eX mx xs n=divR xs cs xs.length:=by rw [hcs];rfl
 have hkl:((List.range xs.length).map cs).length=xs.length:=by simp
 rw [← hcs,ht,hlf]
 repeat first|refine aa ?_|intro _|refine eo ?_
 refine G.loop (α:=Nat×(Option Addr×Nat)×Option Addr×Nat) (fun z=>z.1≤xs.length) (fun z=>[(0,.slice ad xs.length c),(10,.slice ak xs.length ck),(11,.slice z.2.1.1 (divF xs cs z.1).length z.2.1.2),(12,.slice z.2.2.1 (divR xs cs z.1).length z.2.2.2),(13,.int .i64 (z.1:Int))]) (fun z=>osl av 3 tLot z.2.1.1 z.2.1.2 (divF xs cs z.1)::osl av 3 tLot z.2.2.1 z.2.2.2 (divR xs cs z.1)::osl (encZ .i64) 1 tInt ak ck ((List.range xs.length).map cs)::L) (fun z=>xs.length - z.1) (0,(none,0),none,0) (Nat.zero_le _) aj ((Ent.a7 av 3 tLot).trans (Ent.a7 av 3 tLot)) ?_
 rintro ⟨i,⟨a1,c1⟩,a2,c2⟩ hi
 dsimp only at hi ⊢
 by_cases hlt:i<xs.length
 case neg =>
  obtain rfl:i=xs.length:=ab
  repeat first|refine aa ?_|intro _|refine eo ?_
  refine KX.a6 ai ?_ (.inr ⟨hs',a1,c1,a2,c2,rfl,rfl⟩)
  exact ae
 have hii:(i:Int).toNat=i:=Int.toNat_natCast i
 have hw:=hx _ (ap hlt)
 obtain ⟨w1,w2,w3,w4⟩:=hw.w
 obtain ⟨k0,k1⟩:=hcb i hlt
 have hkg:((List.range xs.length).map cs)[(i:Int).toNat]! = cs i:=by rw [hii];exact dZ hlt
 obtain ⟨dw1,dw2⟩:=EB (fun x h=>(hx x h).w) hcb i hi
 obtain ⟨p1,p2⟩:=pc_w hlt (fun x h=>(hx x h).w) ⟨k0,k1⟩
 obtain ⟨dl1,dl2⟩:=hZ xs cs i
 have hl0:(i:Int).toNat<xs.length:=ab
 obtain ⟨kv,hkv⟩:∃ kv,kv=((List.range xs.length).map cs)[(i:Int).toNat]!:=⟨_,rfl⟩
 have hkc:kv=cs i:=by rw [hkv,hkg]
 have e1:bR (divF xs cs i) (xs[(i:Int).toNat]!.1,xs[(i:Int).toNat]!.2.1,((List.range xs.length).map cs)[(i:Int).toNat]!)=divF xs cs (i+1):=by rw [hkg,hii,tg];rfl
 have e2:bR (divR xs cs i) (xs[(i:Int).toNat]!.1,xs[(i:Int).toNat]!.2.1+((List.range xs.length).map cs)[(i:Int).toNat]!,xs[(i:Int).toNat]!.2.2 - ((List.range xs.length).map cs)[(i:Int).toNat]!)=divR xs cs (i+1):=by rw [hkg,hii,nV];rfl
 have q1:LotW (xs[(i:Int).toNat]!.1,xs[(i:Int).toNat]!.2.1,((List.range xs.length).map cs)[(i:Int).toNat]!):=by rw [hkg,hii];exact p1
 have q2:LotW (xs[(i:Int).toNat]!.1,xs[(i:Int).toNat]!.2.1+((List.range xs.length).map cs)[(i:Int).toNat]!,xs[(i:Int).toNat]!.2.2 - ((List.range xs.length).map cs)[(i:Int).toNat]!):=by rw [hkg,hii];exact p2
 have k0' : 0≤((List.range xs.length).map cs)[(i:Int).toNat]!∧((List.range xs.length).map cs)[(i:Int).toNat]!≤xs[(i:Int).toNat]!.2.2:=by rw [hkg,hii];exact ⟨k0,k1⟩
 rw [← hii] at w1 w2 w3 w4
 repeat first|refine aa ?_|intro _|refine eo ?_
 refine GPW.ef (Ef.a6 (lj a1 (divF xs cs i).length c1 (divF xs cs i) _ rfl ab dw1 q1) rfl) ac ?_
 rintro _ _ ⟨a3,c3,rfl,rfl⟩
 rw [e1]
 repeat first|refine aa ?_|intro _|refine eo ?_
 refine GPW.ef (Ef.a6 (lj a2 (divR xs cs i).length c2 (divR xs cs i) _ rfl ab dw2 q2) rfl) ac ?_
 rintro _ _ ⟨a4,c4,rfl,rfl⟩
 rw [e2]
 repeat first|refine aa ?_|intro _|refine eo ?_
 refine ⟨(i+1,(a3,c3),a4,c4),by dsimp only;omega,by dsimp only;omega,?_,by exact ae⟩
 dsimp only
 rw [show ((i+1:Nat):Int)=(i:Int)+1 by omega]
 exact aj
end
section
structure RStk where
 acc:Int
 item:Int
 stk:Stk
 deriving Inhabited
def eZ (s:RStk):List Value:=[.int .i64 s.acc,.int .i64 s.item,.slice s.stk.ad s.stk.lots.length s.stk.cap]
theorem te (s:RStk):∀ u∈eZ s,u.oneCell' = true:=by simp [eZ,Value.oneCell']
abbrev rsP (s:RStk):HP:=stkP s.stk
theorem Er (s:RStk):PersM (rsP s):=ue s.stk
abbrev tRS:Nat:=224
abbrev RStk.is (s:RStk) (a i:Int):Prop:=s.acc=a∧s.item=i
def stk0:Stk:=⟨none,0,[]⟩
def bX:List RStk→Int→Int→Stk
 | [],_,_=>stk0
 | s::l,a,i=>if s.is a i then s.stk else bX l a i
def rset:List RStk→Int→Int→Stk→List RStk
 | [],a,i,t=>[⟨a,i,t⟩]
 | s::l,a,i,t=>if s.is a i then ⟨s.acc,s.item,t⟩::l else s::rset l a i t
def rsum:List RStk→Int→Int
 | [],_=>0
 | s::l,i=>(if s.item=i then lsum s.stk.lots else 0)+rsum l i
theorem mh:∀ (l:List RStk) (a i:Int) (t:Stk) (a' i' : Int),bX (rset l a i t) a' i' = if a' = a∧i' = i then t else bX l a' i'
 | [],a,i,t,a',i'=>by
  unfold rset bX bX
  by_cases h:a' = a∧i' = i
  ·rw [if_pos h,if_pos ⟨h.1.symm,h.2.symm⟩]
  ·rw [if_neg h,if_neg (fun q=>h ⟨q.1.symm,q.2.symm⟩)]
 | s::l,a,i,t,a',i'=>by
  unfold rset
  by_cases h:s.is a i
  ·rw [if_pos h]
   unfold bX
   by_cases h2:a' = a∧i' = i
   ·rw [if_pos h2,if_pos (show s.acc=a'∧s.item=i' from ⟨h.1.trans h2.1.symm,h.2.trans h2.2.symm⟩)]
   ·rw [if_neg h2,if_neg (show ¬(s.acc=a'∧s.item=i') from fun q=>h2 ⟨q.1.symm.trans h.1,q.2.symm.trans h.2⟩),if_neg (show ¬s.is a' i' from fun q=>h2 ⟨q.1.symm.trans h.1,q.2.symm.trans h.2⟩)]
  ·rw [if_neg h]
   unfold bX
   by_cases h3:s.is a' i'
   ·rw [if_pos h3,if_pos h3,if_neg (fun q=>h ⟨h3.1.trans q.1,h3.2.trans q.2⟩)]
   ·rw [if_neg h3,if_neg h3,mh l a i t a' i']
theorem nw:∀ (l:List RStk) (a i:Int) (t:Stk) (j:Int),rsum (rset l a i t) j=rsum l j+(if j=i then lsum t.lots - lsum (bX l a i).lots else 0)
 | [],a,i,t,j=>by
  show (if i=j then lsum t.lots else 0)+0=0+(if j=i then lsum t.lots - 0 else 0)
  by_cases h:j=i
  ·rw [if_pos h,if_pos h.symm];omega
  ·rw [if_neg h,if_neg (fun q=>h q.symm)]
 | s::l,a,i,t,j=>by
  unfold rset bX
  by_cases h:s.is a i
  ·rw [if_pos h,if_pos h]
   show (if s.item=j then lsum t.lots else 0)+rsum l j=((if s.item=j then lsum s.stk.lots else 0)+rsum l j)+_
   rw [h.2]
   by_cases h2:j=i
   ·rw [if_pos h2.symm,if_pos h2.symm,if_pos h2];omega
   ·rw [if_neg (fun q=>h2 q.symm),if_neg (fun q=>h2 q.symm),if_neg h2];omega
  ·rw [if_neg h,if_neg h]
   show (if s.item=j then lsum s.stk.lots else 0)+rsum (rset l a i t) j=((if s.item=j then lsum s.stk.lots else 0)+rsum l j)+_
   rw [nw l a i t j]
   omega
theorem pt:∀ {l:List RStk} {a i:Int} {k:Nat},k<l.length→l[k]!.is a i→(∀ j,j<k→¬l[j]!.is a i)→bX l a i=l[k]!.stk∧∀ t,rset l a i t=l.set k ⟨l[k]!.acc,l[k]!.item,t⟩
 | [],_,_,_,h,_,_=>by simp at h
 | s::l,a,i,0,_,h1,_=>by
  have h1' : s.is a i:=h1
  refine ⟨?_,fun t=>?_⟩
  ·unfold bX;rw [if_pos h1'];rfl
  ·unfold rset;rw [if_pos h1'];rfl
 | s::l,a,i,k+1,h,h1,h2=>by
  have h0:¬s.is a i:=h2 0 (Nat.zero_lt_succ _)
  obtain ⟨e1,e2⟩:=pt (l:=l) (a:=a) (i:=i) (k:=k) (by simpa using h) h1 (fun j hj=>h2 (j+1) ab)
  refine ⟨?_,fun t=>?_⟩
  ·unfold bX;rw [if_neg h0,e1];rfl
  ·unfold rset;rw [if_neg h0,e2 t];rfl
theorem pr:∀ {l:List RStk} {a i:Int},(∀ j,j<l.length→¬l[j]!.is a i)→bX l a i=stk0∧∀ t,rset l a i t=l++[⟨a,i,t⟩]
 | [],_,_,_=>⟨rfl,fun _=>rfl⟩
 | s::l,a,i,h=>by
  have h0:¬s.is a i:=h 0 (Nat.zero_lt_succ _)
  obtain ⟨e1,e2⟩:=pr (l:=l) (a:=a) (i:=i) (fun j hj=>h (j+1) (by simp only [List.length_cons];omega))
  refine ⟨?_,fun t=>?_⟩
  ·unfold bX;rw [if_neg h0,e1]
  ·unfold rset;rw [if_neg h0,e2 t];rfl
theorem pq:∀ (l:List RStk) (a i:Int) (t:Stk),(rset l a i t).length≤l.length+1
 | [],_,_,_=>Nat.le_refl _
 | s::l,a,i,t=>by
  unfold rset
  split
  ·simp
  ·have:=pq l a i t
   simp only [List.length_cons]
   omega
theorem pp:∀ {l:List RStk} {a i:Int} {t:Stk} {s:RStk},s∈rset l a i t→s∈l∨s.stk=t
 | [],_,_,_,_,h=>by
  obtain rfl:=List.mem_singleton.1 h
  exact .inr rfl
 | u::l,a,i,t,s,h=>by
  unfold rset at h
  split at h
  ·rcases List.mem_cons.1 h with h|h
   ·exact .inr (by rw [h])
   ·exact .inl (List.mem_cons_of_mem _ h)
  ·rcases List.mem_cons.1 h with h|h
   ·exact .inl (by rw [h];exact List.mem_cons_self ..)
   ·rcases pp h with h|h
    ·exact .inl (List.mem_cons_of_mem _ h)
    ·exact .inr h
theorem ny:∀ (l:List RStk) (a i:Int),bX l a i=stk0∨∃ s∈l,bX l a i=s.stk
 | [],_,_=>.inl rfl
 | s::l,a,i=>by
  unfold bX
  split
  ·exact .inr ⟨s,List.mem_cons_self ..,rfl⟩
  ·rcases ny l a i with h|⟨u,hu,h⟩
   ·exact .inl h
   ·exact .inr ⟨u,List.mem_cons_of_mem _ hu,h⟩
theorem lB:∀ (l:List RStk) (i:Int) {k:Nat},k<l.length→rsum (l.take (k+1)) i=rsum (l.take k) i+(if l[k]!.item=i then lsum l[k]!.stk.lots else 0)
 | [],_,_,h=>by simp at h
 | s::l,i,0,_=>by
  show (if s.item=i then lsum s.stk.lots else 0)+0=0+_
  rw [Int.add_zero,Int.zero_add]
  rfl
 | s::l,i,k+1,h=>by
  have:=lB l i (k:=k) (by simpa using h)
  show (if s.item=i then lsum s.stk.lots else 0)+rsum (l.take (k+1)) i=((if s.item=i then lsum s.stk.lots else 0)+rsum (l.take k) i)+_
  rw [this]
  show _+(_+(if l[k]!.item=i then lsum l[k]!.stk.lots else 0))=_+(if l[k]!.item=i then lsum l[k]!.stk.lots else 0)
  omega
def rOk (l:List RStk):Prop:=∀ s∈l,s.stk.lots.length≤4096∧∀ x∈s.stk.lots,LotOk x
theorem rK {l:List Lot} (h:∀ x∈l,LotOk x):0≤lsum l:=by
 have:=(fg h l.length (Nat.le_refl _)).1
 rw [fk] at this
 exact this
theorem rE:∀ {l:List RStk} (i:Int),rOk l→0≤rsum l i
 | [],_,_=>Int.le_refl _
 | s::l,i,h=>by
  have h1:=rE (l:=l) i (fun u hu=>h u (List.mem_cons_of_mem _ hu))
  have h2:=rK (h s List.mem_cons_self).2
  unfold rsum
  split<;>omega
theorem kr:∀ {l:List RStk} (i:Int) (k:Nat),rOk l→rsum (l.take k) i≤rsum l i
 | [],_,k,_=>by simp
 | s::l,i,0,h=>rE i h
 | s::l,i,k+1,h=>by
  have:=kr (l:=l) i k (fun u hu=>h u (List.mem_cons_of_mem _ hu))
  show (if s.item=i then lsum s.stk.lots else 0)+rsum (l.take k) i≤(if s.item=i then lsum s.stk.lots else 0)+rsum l i
  omega
structure RLX where
 cat:CatV
 stks:List RStk
 sad:Option Addr
 scap:Nat
 flows:List FlV
 fad:Option Addr
 fcap:Nat
 steps:List StV
 tad:Option Addr
 tcap:Nat
abbrev az (sh:Int) (x:RLX):List Value:=[.int .i64 sh,.slice x.cat.iad x.cat.items.length x.cat.icap,.slice x.cat.rad x.cat.rules.length x.cat.rcap,.slice x.cat.tad x.cat.tables.length x.cat.tcap,.slice x.cat.xad x.cat.taxes.length x.cat.xcap,.slice x.sad x.stks.length x.scap,.slice x.fad x.flows.length x.fcap,.slice x.tad x.steps.length x.tcap]
abbrev rlL (b:Nat) (sh:Int) (x:RLX) (L:List HP):List HP :=
 obj b tRL (az sh x)::osl eZ 3 tRS x.sad x.scap x.stks::osl bH 11 cz x.fad x.fcap x.flows::osl aK 7 cy x.tad x.tcap x.steps::catP x.cat::allP rsP x.stks::allP flP x.flows::allP fx x.steps::L
abbrev zL:List Stp:=[.ev 0,.ev 1,.ev 2,.ev 3,.ev 4,.ev 5,.ev 6,.ev 7,.ev 8,.ev 9,.ev 10,.ev 11,.ev 12,.ev 13]
theorem nX {φ ψ:Prop} (k:ψ) (h:Hid ψ→φ:=by intro k;(with_reducible apply G.a7);first|refine G.a6 (N:=22) (id:=3) zL mixed ah (Hid.out k)):φ:=h ⟨k⟩
theorem zy {L R:List HP} {b:Nat} {sh:Int} {x:RLX} [hp:PickObj L b tRL (az sh x) R] [hr:Rds L x.tad StV aK 7 x.steps] (hl:x.steps.length≤100000) :
  Tri Tryz.prog 127 #[.pointer (some ⟨b,0,none⟩)] L (fun v L'=>v=.int .i64 ((x.steps.getLast?.map (·.tick)).getD 0)∧L' = L):=by
 refine Tri.body (args:=[.pointer (some ⟨b,0,none⟩)]) 22 Ez Tryz.func127 rfl rfl rfl (by simp) ?_
 by_cases h0:x.steps.length=0
 ·repeat first|refine aa ?_|intro _|refine nX ?_
  exact KX.a6 ai (Ent.refl _) ⟨by rw [List.eq_nil_of_length_eq_zero h0];rfl,rfl⟩
 ·repeat first|refine aa ?_|intro _|refine nX ?_
  refine KX.a6 ai (Ent.refl _) ⟨?_,rfl⟩
  have e:x.steps.getLast? = some x.steps[((x.steps.length:Int) - 1).toNat]!:=by
   rw [show ((x.steps.length:Int) - 1).toNat=x.steps.length - 1 by omega,List.getLast?_eq_getElem?,getElem!_of ab,List.getElem?_eq_getElem]
  rw [e]
  rfl
theorem qA {L R:List HP} {b:Nat} {sh:Int} {x:RLX} [hp:PickObj L b tRL (az sh x) R] [hr:Rds L x.sad RStk eZ 3 x.stks] (a i:Int) (hl:x.stks.length≤100000000) :
  Tri Tryz.prog 273 #[.pointer (some ⟨b,0,none⟩),.int .i64 a,.int .i64 i] L (fun v L'=>((v=.int .i64 (-1)∧∀ j,j<x.stks.length→¬x.stks[j]!.is a i)∨∃ k:Nat,v=.int .i64 (k:Int)∧k<x.stks.length∧x.stks[k]!.is a i∧∀ j,j<k→¬x.stks[j]!.is a i)∧L' = L):=by
 refine Tri.body (args:=[.pointer (some ⟨b,0,none⟩),.int .i64 a,.int .i64 i]) 40 Hc Tryz.func273 rfl rfl rfl (by simp) ?_
 repeat first|refine aa ?_|intro _
 refine G.loop (α:=Nat) (fun k=>k≤x.stks.length∧∀ j,j<k→¬x.stks[j]!.is a i) (fun k=>[(0,.pointer (some ⟨b,0,none⟩)),(1,.int .i64 a),(2,.int .i64 i),(7,.int .i64 (k:Int))]) (fun _=>L) (fun k=>x.stks.length - k) 0 ⟨Nat.zero_le _,fun j hj=>absurd hj (Nat.not_lt_zero j)⟩ aj (Ent.refl _) ?_
 rintro k ⟨hk,hb⟩
 by_cases hlt:k<x.stks.length
 case neg =>
  obtain rfl:k=x.stks.length:=ab
  repeat first|refine aa ?_|intro _
  exact KX.a6 ai (Ent.refl _) ⟨.inl ⟨rfl,hb⟩,rfl⟩
 have hkk:(k:Int).toNat=k:=Int.toNat_natCast k
 have hlt' : (k:Int).toNat<x.stks.length:=ab
 have next:¬x.stks[k]!.is a i→k+1≤x.stks.length∧∀ j,j<k+1→¬x.stks[j]!.is a i:=fun hn=>⟨ab,fun j hj=>by
  rcases Nat.lt_or_ge j k with h|h
  ·exact hb j h
  ·obtain rfl:j=k:=ab
   exact hn⟩
 by_cases h1:x.stks[(k:Int).toNat]!.acc=a
 ·by_cases h2:x.stks[(k:Int).toNat]!.item=i
  ·repeat first|refine aa ?_|intro _
   rw [hkk] at h1 h2
   exact KX.a6 ai (Ent.refl _) ⟨.inr ⟨k,rfl,hlt,⟨h1,h2⟩,hb⟩,rfl⟩
  ·repeat first|refine aa ?_|intro _
   rw [hkk] at h1 h2
   refine ⟨k+1,next (fun q=>h2 q.2),ab,?_,Ent.refl _⟩
   rw [show ((k+1:Nat):Int)=(k:Int)+1 by omega]
   exact aj
 ·repeat first|refine aa ?_|intro _
  rw [hkk] at h1
  refine ⟨k+1,next (fun q=>h1 q.1),ab,?_,Ent.refl _⟩
  rw [show ((k+1:Nat):Int)=(k:Int)+1 by omega]
  exact aj
theorem li {L R:List HP} {b:Nat} {sh:Int} {x:RLX} [hp:PickObj L b tRL (az sh x) R] [hr:Rds L x.sad RStk eZ 3 x.stks] (a i:Int) (hl:x.stks.length≤100000000) :
  Tri Tryz.prog 195 #[.pointer (some ⟨b,0,none⟩),.int .i64 a,.int .i64 i] L (fun v L'=>v=.slice (bX x.stks a i).ad (bX x.stks a i).lots.length (bX x.stks a i).cap∧L' = L):=by
 refine Tri.body (args:=[.pointer (some ⟨b,0,none⟩),.int .i64 a,.int .i64 i]) 22 Io Tryz.func195 rfl rfl rfl (by simp) ?_
 repeat first|refine aa ?_|intro _
 refine GO.ef (Ef.a6 (qA (b:=b) (sh:=sh) (x:=x) a i hl) rfl) ac ?_
 rintro _ L ⟨⟨rfl,hn⟩|⟨k,rfl,hk,h1,h2⟩,rfl⟩
 ·rw [(pr hn).1]
  repeat first|refine aa ?_|intro _
  exact KX.a6 ai (Ent.refl _) ⟨rfl,rfl⟩
 ·have hkk:(k:Int).toNat=k:=Int.toNat_natCast k
  rw [(pt hk h1 h2).1]
  repeat first|refine aa ?_|intro _
  rw [hkk]
  repeat first|refine aa ?_|intro _
  exact KX.a6 ai (Ent.refl _) ⟨rfl,rfl⟩
end
section
theorem El {α:Type} {f:α→HP} (hf:∀ x,PersM (f x)) {l:List α} {k:Nat} {e:α} {L:List HP}:Ent (f e::allP f l::L) (allP f (l.set k e)::L) :=
 (Ent.c9 hf).trans (Ent.g6 (fun _ hx=>by
  rcases List.mem_or_eq_of_mem_set hx with h|h
  ·exact List.mem_cons_of_mem _ h
  ·rw [h];exact List.mem_cons_self ..))
theorem og {α:Type} {f:α→HP} (hf:∀ x,PersM (f x)) {l:List α} {e:α} {L:List HP}:Ent (f e::allP f l::L) (allP f (l++[e])::L) :=
 (Ent.c9 hf).trans (Ent.g6 (fun x hx=>by
  rcases List.mem_append.1 hx with h|h
  ·exact List.mem_cons_of_mem _ h
  ·rw [List.mem_singleton.1 h];exact List.mem_cons_self ..))
theorem qz {L:List HP} (b:Nat) (sh:Int) (x:RLX) (a i:Int) (t:Stk) (hl:x.stks.length≤10000000) :
  Tri Tryz.prog 196 #[.pointer (some ⟨b,0,none⟩),.int .i64 a,.int .i64 i,.slice t.ad t.lots.length t.cap] (rlL b sh x (stkP t::L)) (fun _ L'=>∃ ad' cap',L' = rlL b sh { x with stks:=rset x.stks a i t,sad:=ad',scap:=cap' } L):=by
 refine Tri.body (args:=[.pointer (some ⟨b,0,none⟩),.int .i64 a,.int .i64 i,.slice t.ad t.lots.length t.cap]) 36 In Tryz.func196 rfl rfl rfl (by simp) ?_
 simp only [rlL]
 repeat first|refine aa ?_|intro _
 refine GO.ef (Ef.a6 (qA (b:=b) (sh:=sh) (x:=x) a i ab) rfl) ac ?_
 rintro _ _ ⟨⟨rfl,hn⟩|⟨k,rfl,hk,h1,h2⟩,rfl⟩
 ·have e:=(pr hn).2 t
  have henc:([.int .i64 a,.int .i64 i,.slice t.ad t.lots.length t.cap]:List Value)=eZ ⟨a,i,t⟩:=rfl
  repeat first|refine aa ?_|intro _
  refine GO.ef (Ef.a7 (enc:=eZ) (⟨a,i,t⟩:RStk) rfl rfl rfl rfl rfl (by rfl) (te _) ab ab) ac ?_
  rintro _ _ ⟨ad3,cap3,rfl,rfl⟩
  repeat first|refine aa ?_|intro _
  refine KX.a6 ai ?_ ⟨ad3,cap3,rfl⟩
  rw [e]
  simp only [rlL,az]
  refine Ent.trans (B:=rsP ⟨a,i,t⟩::allP rsP x.stks::obj b tRL (az sh { x with stks:=x.stks++[⟨a,i,t⟩],sad:=ad3,scap:=cap3 })::osl eZ 3 tRS ad3 cap3 (x.stks++[⟨a,i,t⟩])::osl bH 11 cz x.fad x.fcap x.flows::osl aK 7 cy x.tad x.tcap x.steps::catP x.cat::allP flP x.flows::allP fx x.steps::L) ?_ ((og Er).trans ?_)
  ·simp only [rsP]
   exact ae
  ·exact ae
 ·have e:=(pt hk h1 h2).2 t
  have hkk:(k:Int).toNat=k:=Int.toNat_natCast k
  have hk' : (k:Int).toNat<x.stks.length:=ab
  repeat first|refine aa ?_|intro _
  rw [hkk]
  refine GO.efu (Ef.f8 (enc:=eZ) (⟨x.stks[k]!.acc,x.stks[k]!.item,t⟩:RStk) rfl rfl rfl rfl hk ac) ?_
  rintro _ _ rfl
  repeat first|refine aa ?_|intro _
  refine KX.a8 ai ?_ ⟨x.sad,x.scap,rfl⟩
  rw [e]
  have hlen:(x.stks.set k ⟨x.stks[k]!.acc,x.stks[k]!.item,t⟩).length=x.stks.length:=List.length_set ..
  simp only [rlL,az]
  rw [hlen]
  refine Ent.trans (B:=rsP ⟨x.stks[k]!.acc,x.stks[k]!.item,t⟩::allP rsP x.stks::obj b tRL (az sh x)::osl eZ 3 tRS x.sad x.scap (x.stks.set k ⟨x.stks[k]!.acc,x.stks[k]!.item,t⟩)::osl bH 11 cz x.fad x.fcap x.flows::osl aK 7 cy x.tad x.tcap x.steps::catP x.cat::allP flP x.flows::allP fx x.steps::L) ?_ ((El Er (k:=k)).trans ?_)
  ·simp only [rsP]
   exact ae
  ·exact ae
theorem ur {l:List RStk} (h:rOk l) (a i:Int):(bX l a i).lots.length≤4096∧∀ x∈(bX l a i).lots,LotOk x:=by
 rcases ny l a i with e|⟨s,hs,e⟩
 ·rw [e]
  exact ⟨Nat.zero_le _,fun x hx=>by cases hx⟩
 ·rw [e]
  exact h s hs
theorem nz {l:List RStk} (a i:Int) {L:List HP}:Ent (allP rsP l::L) (stkP (bX l a i)::allP rsP l::L):=by
 rcases ny l a i with e|⟨s,hs,e⟩
 ·rw [e]
  exact Ent.c8 av 3 none
 ·rw [e]
  exact Ent.a8 (f:=rsP) hs
theorem BS {L:List HP} (b:Nat) (sh:Int) (x:RLX) (a i:Int) (hl:x.stks.length≤10000000) (hO:rOk x.stks) :
  Tri Tryz.prog 186 #[.pointer (some ⟨b,0,none⟩),.int .i64 a,.int .i64 i] (rlL b sh x L) (fun v L'=>v=.int .i64 (lsum (bX x.stks a i).lots)∧L' = rlL b sh x L):=by
 obtain ⟨o1,o2⟩:=ur hO a i
 refine Tri.body (args:=[.pointer (some ⟨b,0,none⟩),.int .i64 a,.int .i64 i]) 12 Ix Tryz.func186 rfl rfl rfl (by simp) ?_
 simp only [rlL]
 repeat first|refine aa ?_|intro _
 refine GO.ef (Ef.a6 (li (b:=b) (sh:=sh) (x:=x) a i ab) rfl) ac ?_
 rintro _ _ ⟨rfl,rfl⟩
 refine GO.ent (Ent.at (A:=allP rsP x.stks) (nz a i)) ?_
 repeat first|refine aa ?_|intro _
 refine GO.ef (Ef.a6 (gj (bX x.stks a i).ad (bX x.stks a i).lots.length (bX x.stks a i).cap (bX x.stks a i).lots rfl o1 o2) rfl) ac ?_
 rintro _ _ ⟨rfl,rfl⟩
 repeat first|refine aa ?_|intro _
 exact KX.a6 ai ae ⟨rfl,rfl⟩
theorem BP {L:List HP} (b:Nat) (sh:Int) (x:RLX) (i:Int) (hl:x.stks.length≤10000000) (hO:rOk x.stks) (hs:rsum x.stks i≤1099511627776) :
  Tri Tryz.prog 193 #[.pointer (some ⟨b,0,none⟩),.int .i64 i] (rlL b sh x L) (fun v L'=>v=.int .i64 (rsum x.stks i)∧L' = rlL b sh x L):=by
 refine Tri.body (args:=[.pointer (some ⟨b,0,none⟩),.int .i64 i]) 38 Iq Tryz.func193 rfl rfl rfl (by simp) ?_
 simp only [rlL]
 repeat first|refine aa ?_|intro _
 refine G.loop (α:=Nat) (fun k=>k≤x.stks.length) (fun k=>[(0,.pointer (some ⟨b,0,none⟩)),(1,.int .i64 i),(5,.int .i64 (rsum (x.stks.take k) i)),(6,.int .i64 (k:Int))]) (fun _=>rlL b sh x L) (fun k=>x.stks.length - k) 0 (Nat.zero_le _) aj (Ent.refl _) ?_
 intro k hk
 simp only [rlL]
 by_cases hlt:k<x.stks.length
 case neg =>
  obtain rfl:k=x.stks.length:=ab
  rw [List.take_length]
  repeat first|refine aa ?_|intro _
  exact KX.a6 ai ae ⟨rfl,rfl⟩
 have hkk:(k:Int).toNat=k:=Int.toNat_natCast k
 have hlt' : (k:Int).toNat<x.stks.length:=ab
 have hst:=lB x.stks i hlt
 have hb1:=kr i k hO
 have hb2:=kr i (k+1) hO
 have hb3:0≤rsum (x.stks.take k) i:=rE i (fun u hu=>hO u (List.mem_of_mem_take hu))
 have hmem:=ap hlt
 obtain ⟨o1,o2⟩:=hO _ hmem
 have hnn:=rK o2
 by_cases h1:x.stks[(k:Int).toNat]!.item=i
 ·have h1' : x.stks[k]!.item=i:=by rw [← hkk];exact h1
  rw [if_pos h1'] at hst
  repeat first|refine aa ?_|intro _
  rw [hkk]
  refine GO.ent (Ent.at (A:=allP rsP x.stks) (Ent.a8 (f:=rsP) hmem)) ?_
  refine GO.ef (Ef.a6 (gj x.stks[k]!.stk.ad x.stks[k]!.stk.lots.length x.stks[k]!.stk.cap x.stks[k]!.stk.lots rfl o1 o2) rfl) ac ?_
  rintro _ _ ⟨rfl,rfl⟩
  repeat first|refine aa ?_|intro _
  refine ⟨k+1,ab,ab,?_,by exact ae⟩
  rw [show ((k+1:Nat):Int)=(k:Int)+1 by omega,hst]
  exact aj
 ·have h1' : ¬x.stks[k]!.item=i:=by rw [← hkk];exact h1
  rw [if_neg h1',Int.add_zero] at hst
  repeat first|refine aa ?_|intro _
  refine ⟨k+1,ab,ab,?_,by exact ae⟩
  rw [show ((k+1:Nat):Int)=(k:Int)+1 by omega,hst]
  exact aj
abbrev zK:List Stp:=[.ev 0,.ev 1,.ev 2,.ev 3,.ev 4,.ev 5,.ev 6,.ev 7,.ev 8,.ef 9,.ev 10]
abbrev zJ:List Stp:=[.ev 0,.ev 1,.ev 2,.ev 3,.ev 4,.ev 5,.ev 6,.ev 7,.ev 8,.ef 9,.ev 10,.ev 11,.ef 12]
abbrev zI:List Stp:=[.ev 0,.ev 1,.ev 2,.ev 3,.ev 4,.ev 5,.ev 6,.ev 7,.ev 8,.ef 9,.ev 10,.ev 11,.ef 12]
abbrev zH:List Stp:=[.ev 0,.ev 1,.ev 2,.ev 3,.ev 4,.ev 5,.ev 6,.ev 7,.ev 8,.ef 9,.ev 10,.ev 11,.ef 12]
theorem iZ {φ ψ:Prop} (k:ψ) (h:Hid ψ→φ:=by intro k;(with_reducible apply G.a7);first|refine G.a6 (N:=51) (id:=1) zK mixed ah (Hid.out k)|refine G.a6 (N:=51) (id:=2) zJ mixed ah (Hid.out k)|refine G.a6 (N:=51) (id:=3) zI mixed ah (Hid.out k)|refine G.a6 (N:=51) (id:=4) zH mixed ah (Hid.out k)):φ:=h ⟨k⟩
theorem wt {L:List HP} (b:Nat) (sh:Int) (x:RLX) (h1:x.stks.length≤10000000) (h2:x.flows.length≤10000000) (h3:x.steps.length≤10000000) :
  Tri Tryz.prog 131 #[.pointer (some ⟨b,0,none⟩)] (rlL b sh x L) (fun v L'=>∃ b' x',v=.pointer (some ⟨b',0,none⟩)∧(x'.cat=x.cat∧x'.stks=x.stks∧x'.flows=x.flows∧x'.steps=x.steps)∧L' = obj b' tRL (az sh x')::osl eZ 3 tRS x'.sad x'.scap x'.stks::osl bH 11 cz x'.fad x'.fcap x'.flows::rlL b sh x L):=by
 refine Tri.body (args:=[.pointer (some ⟨b,0,none⟩)]) 51 Jg Tryz.func131 rfl rfl rfl (by simp) ?_
 simp only [rlL]
 repeat first|refine aa ?_|intro _|refine iZ ?_
 rename_i b3
 refine GPW.ent (Ent.a7 eZ 3 tRS) ?_
 refine GPW.ef (Ef.c6 (xs:=[]) rfl rfl rfl rfl rfl (fun e _=>te e) (by simp;omega) (by simp;omega)) ac ?_
 rintro _ _ ⟨a1,c1,rfl,rfl⟩
 simp only [List.nil_append]
 repeat first|refine aa ?_|intro _|refine iZ ?_
 refine GPW.ent (Ent.a7 bH 11 cz) ?_
 refine GPW.ef (Ef.c6 (xs:=[]) rfl rfl rfl rfl rfl (fun e _=>iL e) (by simp;omega) (by simp;omega)) ac ?_
 rintro _ _ ⟨a2,c2,rfl,rfl⟩
 simp only [List.nil_append]
 repeat first|refine aa ?_|intro _|refine iZ ?_
 refine GPW.ent (Ent.a7 aK 7 cy) ?_
 refine GPW.ef (Ef.c6 (xs:=[]) rfl rfl rfl rfl rfl (fun e _=>mL e) (by simp;omega) (by simp;omega)) ac ?_
 rintro _ _ ⟨a3,c3,rfl,rfl⟩
 simp only [List.nil_append]
 repeat first|refine aa ?_|intro _|refine iZ ?_
 refine KX.a6 ai ?_ ⟨b3,⟨x.cat,x.stks,a1,c1,x.flows,a2,c2,x.steps,a3,c3⟩,rfl,⟨rfl,rfl,rfl,rfl⟩,rfl⟩
 simp only [rlL,az]
 exact ae
end
section
def fitR (k:Nat) (m:MvM):Prop:=(0≤m.item∧m.item<k)∧(1≤m.n∧m.n≤1099511627776)∧m.frm≠m.to∧(0≤m.frm∧0≤m.to∧m.frm≤1073741824∧m.to≤1073741824)∧m.parts.length=0
instance (k:Nat) (m:MvM):Decidable (fitR k m):=by unfold fitR;infer_instance
theorem fits_fitR {k:Nat} {fp tp:Int→Bool} {m:MvM}:dv k fp tp m=true↔fitR k m∧fp m.frm=true∧tp m.to=true:=by
 unfold dv fitR
 rw [cu,decide_eq_true_iff]
 unfold accP
 constructor
 ·rintro ⟨h1,h2,h3,h4,h5,h6,h7,h8⟩
  exact ⟨⟨h1,h2,h5,⟨h3.1,h4.1,h3.2,h4.2⟩,h8⟩,h6,h7⟩
 ·rintro ⟨⟨h1,h2,h5,⟨a,b,c,d⟩,h8⟩,h6,h7⟩
  exact ⟨h1,h2,⟨a,c⟩,⟨b,d⟩,h5,h6,h7,h8⟩
abbrev zG:List Stp:=[.ev 0,.ev 1,.ev 2,.ev 3,.ev 4,.ev 5,.ev 6,.ev 7,.ev 8,.ev 9,.ev 10,.ev 11,.ev 12,.ev 13,.ev 14,.ev 15,.ev 16,.ev 17,.ev 18,.ev 19,.ev 20,.ev 21,.ev 22,.ev 23,.ev 24,.ev 25,.ev 26,.ev 27,.ev 28,.ev 29,.ev 30,.ev 31,.ev 32,.ev 33,.ev 34,.ev 35,.ev 36,.ev 37,.ev 38,.ev 39,.ev 40,.ev 41,.ev 42,.ev 43,.ev 44,.ev 45,.ev 46,.ev 47,.ev 48,.ev 49,.ev 50]
abbrev zF:List Stp:=[.ev 0,.ev 1,.ev 2,.ev 3,.ev 5,.ev 6,.ef 4,.ev 7,.ev 8,.ev 9,.ev 10,.ev 11,.ev 14,.ev 15,.ef 12,.ef 13,.ev 16,.ev 17,.ev 18]
theorem dT {φ ψ:Prop} (k:ψ) (h:Hid ψ→φ:=by intro k;(with_reducible apply G.a7);first|refine G.a6 (N:=86) (id:=1) zG mixed ah (Hid.out k)|refine G.a6 (N:=86) (id:=6) zF mixed ah (Hid.out k)):φ:=h ⟨k⟩
theorem zw {L R:List HP} {b:Nat} {sh:Int} {x:RLX} [hp:PickObj L b tRL (az sh x) R] (m:MvV) :
  Tri Tryz.prog 189 #[.pointer (some ⟨b,0,none⟩),.agg (aJ m).toArray,.bool false] L (fun v L'=>v=.bool (dB (fitR x.cat.items.length m.m))∧L' = L):=by
 obtain ⟨⟨frm,to,item,n,parts⟩,pad,pcap⟩:=m
 refine Tri.body (args:=[.pointer (some ⟨b,0,none⟩),.agg (aJ ⟨⟨frm,to,item,n,parts⟩,pad,pcap⟩).toArray,.bool false]) 86 Iu Tryz.func189 rfl rfl rfl (by simp) ?_
 simp only [aJ]
 by_cases h1:0≤item
 case neg =>
  repeat first|refine aa ?_|intro _|refine dT ?_
  exact KX.a6 ai ae ⟨by rw [an (fun h=>h1 h.1.1)];rfl,rfl⟩
 by_cases h2:item<x.cat.items.length
 case neg =>
  repeat first|refine aa ?_|intro _|refine dT ?_
  exact KX.a6 ai ae ⟨by rw [an (fun h=>h2 h.1.2)];rfl,rfl⟩
 by_cases h3:1≤n
 case neg =>
  repeat first|refine aa ?_|intro _|refine dT ?_
  exact KX.a6 ai ae ⟨by rw [an (fun h=>h3 h.2.1.1)];rfl,rfl⟩
 by_cases h4:n≤1099511627776
 case neg =>
  repeat first|refine aa ?_|intro _|refine dT ?_
  exact KX.a6 ai ae ⟨by rw [an (fun h=>h4 h.2.1.2)];rfl,rfl⟩
 by_cases h5:frm=to
 case pos =>
  repeat first|refine aa ?_|intro _|refine dT ?_
  exact KX.a6 ai ae ⟨by rw [an (fun h=>h.2.2.1 h5)];rfl,rfl⟩
 by_cases h6:0≤frm
 case neg =>
  repeat first|refine aa ?_|intro _|refine dT ?_
  exact KX.a6 ai ae ⟨by rw [an (fun h=>h6 h.2.2.2.1.1)];rfl,rfl⟩
 by_cases h7:0≤to
 case neg =>
  repeat first|refine aa ?_|intro _|refine dT ?_
  exact KX.a6 ai ae ⟨by rw [an (fun h=>h7 h.2.2.2.1.2.1)];rfl,rfl⟩
 by_cases h8:frm≤1073741824
 case neg =>
  repeat first|refine aa ?_|intro _|refine dT ?_
  exact KX.a6 ai ae ⟨by rw [an (fun h=>h8 h.2.2.2.1.2.2.1)];rfl,rfl⟩
 by_cases h9:to≤1073741824
 case neg =>
  repeat first|refine aa ?_|intro _|refine dT ?_
  exact KX.a6 ai ae ⟨by rw [an (fun h=>h9 h.2.2.2.1.2.2.2)];rfl,rfl⟩
 repeat first|refine aa ?_|intro _|refine dT ?_
 refine KX.a6 ai ae ⟨?_,rfl⟩
 by_cases h10:parts.length=0
 ·rw [aw (show ((parts.length:Nat):Int)=0 by omega),aw (show fitR x.cat.items.length ⟨frm,to,item,n,parts⟩ from ⟨⟨h1,h2⟩,⟨h3,h4⟩,h5,⟨h6,h7,h8,h9⟩,h10⟩)];rfl
 ·rw [an (show ¬((parts.length:Nat):Int)=0 by omega),an (fun h=>h10 h.2.2.2.2)];rfl
theorem ul {L:List HP} (k:Int) (hk:cT k):Tri Tryz.prog 188 #[.int .i64 k] L (fun v L'=>v=.bool false∧L' = L):=by
 unfold cT at hk
 refine Tri.body (args:=[.int .i64 k]) 13 Iv Tryz.func188 rfl rfl rfl (by simp) ?_
 repeat first|refine aa ?_|intro _
 exact KX.a6 ai (Ent.refl _) ⟨by rw [an (show ¬k=9 by omega)];rfl,rfl⟩
def jz (k:Int) (m:MvM):Prop:=if k=0 then m.frm=0 else if k=1∨k=6 then m.to=0 else 0<m.frm∧0<m.to
instance (k:Int) (m:MvM):Decidable (jz k m):=by unfold jz;infer_instance
theorem sX {c:Nat} {k:Int} {m:MvM} (hk:cT k) (h4:k≠4) (hf:fitR c m):jz k m↔eY k m.frm=true∧kTo k m.to=true:=by
 obtain ⟨_,_,f3,⟨f4,f5,_,_⟩,_⟩:=hf
 unfold cT at hk
 unfold jz eY kTo
 rw [if_neg h4]
 by_cases h0:k=0
 ·subst h0
  rw [if_pos rfl,if_pos rfl,if_neg ac]
  rw [cu,cu,decide_eq_true_iff,decide_eq_true_iff]
  omega
 ·rw [if_neg h0,if_neg h0]
  by_cases h1:k=1∨k=6
  ·rw [if_pos h1,if_pos h1,cu,cu,decide_eq_true_iff,decide_eq_true_iff]
   omega
  ·rw [if_neg h1,if_neg h1,cu,cu,decide_eq_true_iff,decide_eq_true_iff]
   omega
theorem zB {L:List HP} (k:Int) (hk:cT k) (h4:k≠4) (m:MvV):Tri Tryz.prog 191 #[.int .i64 k,.agg (aJ m).toArray] L (fun v L'=>v=.bool (dB (jz k m.m))∧L' = L):=by
 obtain ⟨⟨frm,to,item,n,parts⟩,pad,pcap⟩:=m
 unfold cT at hk
 refine Tri.body (args:=[.int .i64 k,.agg (aJ ⟨⟨frm,to,item,n,parts⟩,pad,pcap⟩).toArray]) 36 Is Tryz.func191 rfl rfl rfl (by simp) ?_
 simp only [aJ]
 by_cases h0:k=0
 ·subst h0
  repeat first|refine aa ?_|intro _
  refine KX.a6 ai ae ⟨?_,rfl⟩
  unfold jz
  simp only [if_true]
  rfl
 by_cases h1:k=1
 ·subst h1
  repeat first|refine aa ?_|intro _
  refine KX.a6 ai ae ⟨?_,rfl⟩
  rfl
 by_cases h6:k=6
 ·subst h6
  repeat first|refine aa ?_|intro _
  refine KX.a6 ai ae ⟨?_,rfl⟩
  rfl
 have e:jz k ⟨frm,to,item,n,parts⟩↔0<frm∧0<to:=by
  unfold jz
  rw [if_neg h0,if_neg ab]
 by_cases h7:0<frm
 ·repeat first|refine aa ?_|intro _
  refine KX.a6 ai ae ⟨?_,rfl⟩
  by_cases h8:0<to
  ·rw [aw h8,aw (e.2 ⟨h7,h8⟩)];rfl
  ·rw [an h8,an (fun q=>h8 (e.1 q).2)];rfl
 ·repeat first|refine aa ?_|intro _
  refine KX.a6 ai ae ⟨?_,rfl⟩
  rw [an (fun q=>h7 (e.1 q).1)];rfl
end
end Go.Proofs.YtfmgkkofledkbaaGreatDoor
