/- Lemmas. -/
import Derived.Test.YtlgpgjdggilkgaaGreatDoorEcaw
set_option linter.all false
set_option maxHeartbeats 4000000
namespace Go.Proofs.YtlgpgjdggilkgaaGreatDoor
section
open Go.V
def pcI(l set:LL):LL:=(pcIn (l.flatMap (pcs set))).foldl bN []
def pcO(l set:LL):LL:=(gn (l.flatMap (pcs set))).foldl bN []
def ET(l:List (Lot×Bool))(q:Lot×Bool):pcIn (l++[q])=pcIn l++(if q.2=true then[q.1] else[]):=by
 rw[xH];obtain⟨x,b⟩:=q;cases b<;>rfl
def tu(l:List (Lot×Bool))(q:Lot×Bool):gn (l++[q])=gn l++(if q.2=true then[] else[q.1]):=by
 rw[nv];obtain⟨x,b⟩:=q;cases b<;>rfl
def Iy{l set:LL}(hs:SetOk set)(hw:∀x∈l,LotOk x):(∀q∈l.flatMap (pcs set),LotOk q.1)∧(l.flatMap (pcs set)).length≤l.length*(2*set.length+1):=by
 induction l with
 | nil=>exact⟨(fun q h=>by cases h),by simp⟩
 | cons x l ih =>
  obtain⟨i1,i2⟩:=ih (fun y hy=>hw y (au _ hy));obtain⟨p1,p2⟩:=ES hs (hw x av);rw[aO];refine⟨fun q hq=>?_,?_⟩
  ·rcases List.mem_append.1 hq with h|h
   ·exact p1 q h
   ·exact i1 q h
  ·rw[aj,aM,fW];omega
def Iz(l:List (Lot×Bool)):(pcIn l).length≤l.length∧(gn l).length≤l.length:=by
 unfold pcIn gn;rw[an,an];exact⟨dv _ _,dv _ _⟩
def GQ{l:List (Lot×Bool)}(h:∀q∈l,LotOk q.1):(∀x∈pcIn l,LotW x)∧∀x∈gn l,LotW x:=by
 constructor
 ·intro x hx;obtain⟨q,hq,rfl⟩:=List.mem_map.1 hx;exact(h q (List.mem_filter.1 hq).1).w
 ·intro x hx;obtain⟨q,hq,rfl⟩:=List.mem_map.1 hx;exact(h q (List.mem_filter.1 hq).1).w
attribute [local irreducible] G GO GP GPW GPK Ev Ef EfR Ent CB GB V.Enters
abbrev CM:List Stp:=[.ev 0,.ev 1,.ef 2,.ef 3]
def dO{φ ψ:Prop}(k:ψ)(h:Hid ψ→φ:=by intro k;first|refine GO.ci (f:=119) (Hid.out k)|refine GPW.ci (f:=119) (Hid.out k)|refine GO.cf (f:=119) rfl (Hid.out k)|refine GPW.cf (f:=119) rfl (Hid.out k)|refine KX.inA (Hid.out k)):φ:=h ⟨k⟩
def ge{φ ψ:Prop}(k:ψ)(h:Hid ψ→φ:=by intro k;(with_reducible apply G.a8);first|refine G.dr 22 7 CM (Hid.out k)):φ:=h ⟨k⟩
def Xx{φ ψ:Prop}(k:ψ)(h:Hid ψ→φ:=by intro k;(repeat (first|refine aa ?_|intro zzz|refine ge ?_|refine dO ?_));(repeat revert zzz);exact Hid.out k):φ:=h ⟨k⟩
def qC(ad:OA)(c:Nat)(l:LL)(sad:OA)(sc:Nat)(set:LL)(a5:l.length≤4500)(b0:set.length≤4500)(hw:∀x∈l,LotOk x)(hs:SetOk set) :
  Tri Tryz.prog 303 #[ag ad l.length c,ag sad set.length sc] [isl aG 3 ad l,isl aG 3 sad set] (fun v L'=>∃a0 c1 a1 c2,v=.tuple #[ag a0 (pcI l set).length c1,ag a1 (pcO l set).length c2]∧L' = [osl aG 3 tLot a0 c1 (pcI l set),osl aG 3 tLot a1 c2 (pcO l set)]):=by
 obtain⟨hq,a9⟩:=Iy hs hw;have a3:l.length*(2*set.length+1)≤4500*9001:=Nat.mul_le_mul a5 ab;unfold pcI pcO;have a4:=fun bl bs=>pY bl bs ad c l sad sc set ab ab hw hs;generalize l.flatMap (pcs set)=V at *;refine Tri.bd ?_;refine Xx ?_;intros;rename_i b4 b5 bx bf;refine G.d8 (a4 bx bf) rfl en171.1 ae ?_ (fun k=>[stkO b4 ((pcIn (V.take k)).foldl bN []),stkO b5 ((gn (V.take k)).foldl bN [])]) ?_ ?_ ?_
 ·intro vs a7;obtain⟨q,_,rfl⟩:=List.mem_map.1 a7;rfl
 ·simp only[al,ak,aR];rw[show(pcIn []).foldl bN []=[] from rfl,show(gn []).foldl bN []=[] from rfl];refine Ent.trans ?_ (Ent.g8 (none,0) (f:=stkA b4 []) (Ent.refl _));refine Ent.trans ?_ (Ent.append (Ent.refl (stkA b4 [] (none,0))) (Ent.g8 (none,0) (f:=stkA b5 []) (Ent.refl _)));simp only[stkA,bz,al,ak];refine Ent.trans (Ent.c8 aG 3 tLot) (Ent.trans (Ent.c8 aG 3 tLot) ?_);exact ah
 ·intro k hk;rw[an] at hk;rw[eC];have a6:V.take (k+1)=V.take k++[V[k]]:=az hk;have a2:=hq _ (bR hk);obtain⟨l1,l2⟩:=Iz (V.take k);obtain⟨w1,w2⟩:=GQ (l:=V.take k) (fun q h=>hq q (bF h));have b1:(V.take k).length≤41000000:=by rw[aK];omega
  have g1:=iV (pcIn (V.take k)) [];have g2:=iV (gn (V.take k)) [];have g3:=ko (l:=[]) (xs:=pcIn (V.take k)) (fun _ h=>by cases h) w1;have g4:=ko (l:=[]) (xs:=gn (V.take k)) (fun _ h=>by cases h) w2;rw[bz] at g1 g2;rw[a6,ET,tu,cF,cF];generalize (pcIn (V.take k)).foldl bN []=T at *;generalize (gn (V.take k)).foldl bN []=R at *;generalize V[k]=q at a2 ⊢;obtain⟨x,b⟩:=q;dsimp only at a2 ⊢;cases b with
  | true =>
   show G _ _ _ ((12,.bool true)::(11,aU (aG x))::_) _ _;rw[if_pos rfl,if_pos rfl];refine G.c8 (f:=stkA b4 T) ?_;rintro⟨a0,c1⟩;simp only[stkA,al,ak,eO,List.foldl_nil];refine Xx ?_;intros;refine GO.ent (Ent.at (A:=osl aG 3 tLot a0 c1 T) (Ent.refl _)) ?_;refine GO.ca (vd a0 c1 T x ab g3 a2.w) ?_;rintro _ _⟨a1,c2,rfl,rfl⟩;refine Xx ?_;intros;refine KX.round ?_;refine Ent.trans ?_ (Ent.g8 (a1,c2) (f:=stkA b4 (bN T x)) (Ent.refl _));simp only[stkA,al,ak];exact ah
  | false =>
   show G _ _ _ ((12,.bool false)::(11,aU (aG x))::_) _ _;rw[if_neg ae,if_neg ae];refine G.ent Ent.swap ?_;refine G.c8 (f:=stkA b5 R) ?_;rintro⟨a0,c1⟩;simp only[stkA,al,ak,eO,List.foldl_nil];refine Xx ?_;intros;refine GO.ent (Ent.at (A:=osl aG 3 tLot a0 c1 R) (Ent.refl _)) ?_;refine GO.ca (vd a0 c1 R x ab g4 a2.w) ?_;rintro _ _⟨a1,c2,rfl,rfl⟩;refine Xx ?_;intros;refine KX.round ?_;refine Ent.trans ?_ (Ent.swap (A:=stkO b5 (bN R x)));refine Ent.trans ?_ (Ent.g8 (a1,c2) (f:=stkA b5 (bN R x)) (Ent.refl _));simp only[stkA,al,ak];exact ah
 ·rw[an,cC];generalize (pcIn V).foldl bN []=T;generalize (gn V).foldl bN []=R;simp only[aH];refine KX.c7 (KX.d9 ?_);refine G.c8 (f:=stkA b4 T) ?_;rintro⟨a0,c1⟩;refine G.ent (L':=stkO b5 R::stkA b4 T (a0,c1)) (Ent.perm (by simp only[stkA,al,ak];exact(List.Perm.cons _ (List.Perm.swap _ _ _)).trans (List.Perm.swap _ _ _))) ?_;refine G.c8 (f:=stkA b5 R) ?_;rintro⟨a1,c2⟩;simp only[stkA,al,ak];refine Xx ?_;intros;refine KX.a8 (vs:=[ag a0 T.length c1,ag a1 R.length c2]) (ResOk.a8 rfl (ResOk.a8 rfl ResOk.nil)) ?_ ⟨a0,c1,a1,c2,rfl,rfl⟩;exact ah
def Xy{φ ψ:Prop}(k:ψ)(h:Hid ψ→φ:=by intro k;(repeat (first|refine aa ?_|intro zzz|refine dO ?_));(repeat revert zzz);exact Hid.out k):φ:=h ⟨k⟩
def Cd(ad:OA)(c:Nat)(l:LL)(sad:OA)(sc:Nat)(set:LL)(a3:l.length≤4500)(a4:set.length≤4500)(hw:∀x∈l,LotOk x)(hs:SetOk set) :
  Tri Tryz.prog 57 #[ag ad l.length c,ag sad set.length sc] [isl aG 3 ad l,isl aG 3 sad set] (rtQ (.bool (dB (gn (l.flatMap (pcs set))=[]))) ([])):=by
 have a0:=fun bl bs=>pY bl bs ad c l sad sc set ab ab hw hs;generalize l.flatMap (pcs set)=V at *;refine Tri.bd ?_;refine Xy ?_;intros;rename_i b4 bx bf;refine G.d8 (a0 bx bf) rfl en171.1 ae ?_ (fun k=>[cY (gn (V.take k)=[]),obj b4 4 [.bool false]]) ?_ ?_ ?_
 ·intro vs a2;obtain⟨q,_,rfl⟩:=List.mem_map.1 a2;rfl
 ·simp only[al,ak,aR];refine Ent.trans ?_ (Ent.pure rfl (Ent.refl _));exact ah
 ·intro k hk;rw[an] at hk;rw[eC];have a1:V.take (k+1)=V.take k++[V[k]]:=az hk;have hV:V=V.take k++(V[k]::V.drop (k+1)):=by rw[←bV hk,cK]
  generalize V[k]=q at *;obtain⟨x,b⟩:=q;refine G.d7 ?_;intro hp;cases b with
  | true =>
   show G _ _ _ ((11,.bool true)::_) _ _;refine Xy ?_;intros;refine KX.round ?_;rw[a1,tu,hp];refine Ent.trans ?_ (Ent.pure rfl (Ent.refl _));exact Ent.refl _
  | false =>
   show G _ _ _ ((11,.bool false)::_) _ _
   have hn:¬gn V=[]:=fun h=>by
    rw[hV,nv] at h;have h2:=(List.append_eq_nil_iff.1 h).2;cases h2
   refine Xy ?_;intros;refine KX.g9 ?_;simp only[aH];refine Xy ?_;intros;refine KX.a8 (vs:=[.bool false]) (ResOk.a8 rfl ResOk.nil) (Ent.nil _) ⟨by rw[aW hn];rfl,rfl⟩
 ·rw[an,cC];simp only[aH];refine KX.c7 (KX.d9 ?_);refine G.d7 ?_;intro hp;rw[bE hp];refine Xy ?_;intros;exact KX.a8 (vs:=[.bool true]) (ResOk.a8 rfl ResOk.nil) (Ent.nil _) ⟨rfl,rfl⟩
end
section
open Go.V
def oP{zs:LL}(hs:SetOk zs):∀{l:LL},(∀x∈l,LotOk x)→gn (l.flatMap (pcs zs))=l.flatMap (gm zs)
 | [],_=>rfl
 | x::l,h=>by
  rw[aO,aO,nv,Ix hs (h x av),oP hs (fun y hy=>h y (au _ hy))]
def pV{ps zs:LL}(hp:∀y∈ps,LotOk y)(hz:∀y∈zs,LotOk y)(h:∀f a,hasU ps f a↔hasU zs f a):∀{l:LL},(∀x∈l,LotOk x)→l.flatMap (gm zs)=l.flatMap (gm ps)
 | [],_=>rfl
 | x::l,hl=>by
  rw[aO,aO,EI hp hz h (hl x av),pV hp hz h (fun y hy=>hl y (au _ hy))]
def Ep{ps own ys:LL}(h1:eQ ps)(ha:Apart ps)(h2:eQ own)(ho:Apart own)(hy:gV hdC own ys):gn (ps.flatMap (pcs (zset ys)))=[]↔ic ps own:=by
 obtain⟨s1,_,_,s4⟩:=kr hy h2.1;have hu:=fun f a=>(BX s1.ok h2.1 (s4 ho) f a).symm;rw[oP s1 h1.1,pV h2.1 s1.ok hu h1.1,oy h1 ha h2 ho];have e:ps.flatMap (gm own)=own.foldl subL ps:=(lC own ps).symm
 have a0:∀x∈ps.flatMap (gm own),LotOk x:=fun x hx=>by
  obtain⟨y,hy,hx⟩:=List.mem_flatMap.1 hx;exact(oI h2.1 (h1.1 y hy)).1 x hx
 rw[e] at a0 ⊢;have a1:=uL h2.1 h1.1 ho;rw[←a1];constructor
 ·intro h;rw[h,iM]
 ·intro h;cases hm:own.foldl subL ps with
  | nil=>rfl
  | cons x l =>
   rw[hm] at h a0;have:=ky a0 (Nat.zero_lt_succ l.length)
   omega
def Cc{s ps ys:LL}(hs:∀x∈s,LotOk x)(hp:∀x∈ps,LotOk x)(ha:Apart ps)(hy:gV hdC ps ys):pcO s (zset ys)=gX s ps:=by
 obtain⟨s1,_,_,s4⟩:=kr hy hp;have hu:=fun f a=>(BX s1.ok hp (s4 ha) f a).symm;unfold pcO gX;rw[oP s1 hs,pV hp s1.ok hu hs,ph]
attribute [local irreducible] G GO GP GPW GPK Ev Ef EfR Ent CB GB V.Enters
def dN{φ ψ:Prop}(k:ψ)(h:Hid ψ→φ:=by intro k;first|refine GO.ci (f:=116) (Hid.out k)|refine GPW.ci (f:=116) (Hid.out k)|refine GO.cf (f:=116) rfl (Hid.out k)|refine GPW.cf (f:=116) rfl (Hid.out k)|refine KX.inA (Hid.out k)):φ:=h ⟨k⟩
def Xz{φ ψ:Prop}(k:ψ)(h:Hid ψ→φ:=by intro k;(repeat (first|refine aa ?_|intro zzz|refine dN ?_));(repeat revert zzz);exact Hid.out k):φ:=h ⟨k⟩
def xS{L:LH}(ad:OA)(n c:Nat)(xs:LL)[Rds L ad Lot aG 3 xs](hn:n=xs.length)(hm:n≤9223372036854775807) :
  Tri Tryz.prog 54 #[ag ad n c] L (rtQ (.bool (dB (eQ xs))) L):=by
 subst hn;refine Tri.bd ?_;by_cases hb:xs.length≤4096
 case neg =>
  rw[aW (fun q:eQ xs=>hb q.2)];refine Xz ?_;intros;exact KX.en ⟨rfl,rfl⟩
 refine Xz ?_;intros;refine G.loop (α:=Nat) (fun i=>i≤xs.length∧∀k,k<i→LotOk xs[k]!) (fun i=>[(0,ag ad xs.length c),(8,ag ad xs.length c),(9,ac xs.length),(10,ac (i:Int))]) (fun _=>L) (fun i=>xs.length - i) 0 ⟨aw _,fun k hk=>absurd hk (fN k)⟩ aC (Ent.refl _) ?_;rintro i ⟨hi,a4⟩;by_cases a6:i<xs.length
 case neg =>
  have a1:∀x∈xs,LotOk x:=fun x hx=>by
   obtain⟨k,hk,e⟩:=List.mem_iff_getElem.1 hx;have h2:=a4 k ab;rw[getElem!_of hk,e] at h2;exact h2
  rw[bE (show eQ xs from⟨a1,hb⟩)];refine Xz ?_;intros;exact KX.en ⟨rfl,rfl⟩
 have a5:(i:Int).toNat=i:=aY i;have a2:=aV a6
 have a3:LotOk xs[i]!→∀k,k<i+1→LotOk xs[k]!:=fun h k hk=>by
  by_cases e:k=i
  ·rw[e];exact h
  ·exact a4 k ab
 have a0:¬LotOk xs[i]!→¬eQ xs:=fun h q=>h (q.1 _ a2);rw[show xs[i]! = xs[(i:Int).toNat]! by rw[a5]] at a3 a0;by_cases o1:0≤xs[(i:Int).toNat]!.1
 case neg =>
  rw[aW (a0 (fun q=>o1 q.1))];refine Xz ?_;intros;exact KX.en ⟨rfl,rfl⟩
 by_cases o2:0≤xs[(i:Int).toNat]!.2.1
 case neg =>
  rw[aW (a0 (fun q=>o2 q.2.1))];refine Xz ?_;intros;exact KX.en ⟨rfl,rfl⟩
 by_cases o3:xs[(i:Int).toNat]!.2.1≤1099511627776
 case neg =>
  rw[aW (a0 (fun q=>o3 q.2.2.1))];refine Xz ?_;intros;exact KX.en ⟨rfl,rfl⟩
 by_cases o4:1≤xs[(i:Int).toNat]!.2.2
 case neg =>
  rw[aW (a0 (fun q=>o4 q.2.2.2.1))];refine Xz ?_;intros;exact KX.en ⟨rfl,rfl⟩
 by_cases o5:xs[(i:Int).toNat]!.2.2≤1099511627776 - xs[(i:Int).toNat]!.2.1
 case neg =>
  rw[aW (a0 (fun q=>o5 q.2.2.2.2))];refine Xz ?_;intros;rw[aW o5];refine Xz ?_;intros;exact KX.en ⟨rfl,rfl⟩
 refine Xz ?_;intros;rw[bE o5];refine Xz ?_;intros;refine⟨i+1,⟨ab,a3 ⟨o1,o2,o3,o4,o5⟩⟩,ab,?_,by exact ah⟩;rw[bh i];exact aC
def qm{L:LH}(pad:OA)(pc:Nat)(ps:LL)(sad:OA)(sc:Nat)(own:LL)(h1:eQ ps)(ha:Apart ps)(h2:eQ own)(ho:Apart own) :
  Tri Tryz.prog 19 #[ag pad ps.length pc,ag sad own.length sc] (isl aG 3 pad ps::isl aG 3 sad own::L) (rtQ (.bool (dB (ic ps own))) (isl aG 3 pad ps::isl aG 3 sad own::L)):=by
 refine Tri.bd ?_;refine Ks ?_;intros;refine GO.cr (gF pad ps.length pc ps rfl h1.2 h1.1) ?_;refine Ks ?_;intros;refine GO.cr (gF sad own.length sc own rfl h2.2 h2.1) ?_;refine Ks ?_;intros;refine GO.ca (jf sad own.length sc own rfl (by have:=h2.2;omega) h2.1) ?_;rintro _ _⟨a0,zc,ys,rfl,a1,rfl⟩;obtain⟨s1,s2,_,_⟩:=kr a1 h2.1;refine Ks ?_;intros;refine GO.ent (L':=[isl aG 3 pad ps,isl aG 3 a0 (zset ys)]++(isl aG 3 pad ps::isl aG 3 sad own::L)) ((Ent.at (A:=isl aG 3 pad ps) (Ent.dup (bO _ _ _ _).pers)).trans ((Ent.at (A:=osl aG 3 tLot a0 zc (zset ys)) Ent.freezeSl).trans (by simp only[al,ak];exact ah))) ?_;simp only[al,ak];(first|refine GO.ef (Ef.call (Cd pad pc ps a0 zc (zset ys) (by have:=h1.2;omega) (by have:=h2.2;omega) h1.1 s1) rfl dd) ae ?_);rintro _ _⟨_,⟨rfl,rfl⟩,hL⟩;simp only[al,ak] at hL;subst hL;refine Ks ?_;intros;refine KX.a8 aA (Ent.refl _) ⟨?_,rfl⟩;rw[show dB (gn (ps.flatMap (pcs (zset ys)))=[])=dB (ic ps own) by rw[dK,dK];exact decide_eq_decide.2 (Ep h1 ha h2 ho a1)];rfl
def vS{L:LH}(sad:OA)(sc:Nat)(s:LL)(pad:OA)(pc:Nat)(ps:LL)(h1:eQ ps)(ha:Apart ps)(h2:eQ s) :
  Tri Tryz.prog 301 #[ag sad s.length sc,ag pad ps.length pc] (isl aG 3 pad ps::isl aG 3 sad s::L) (fun v L'=>∃a1 c',v=ag a1 (gX s ps).length c'∧L' = osl aG 3 tLot a1 c' (gX s ps)::isl aG 3 pad ps::isl aG 3 sad s::L):=by
 refine Tri.bd ?_;refine Ks ?_;intros;refine GO.cr (gF sad s.length sc s rfl h2.2 h2.1) ?_;refine Ks ?_;intros;refine GO.cr (gF pad ps.length pc ps rfl h1.2 h1.1) ?_;refine Ks ?_;intros;refine GO.ca (jf pad ps.length pc ps rfl (by have:=h1.2;omega) h1.1) ?_;rintro _ _⟨a0,zc,ys,rfl,a2,rfl⟩;obtain⟨s1,s2,_,_⟩:=kr a2 h1.1;refine Ks ?_;intros;refine GO.ent (L':=[isl aG 3 sad s,isl aG 3 a0 (zset ys)]++(isl aG 3 pad ps::isl aG 3 sad s::L)) ((Ent.at (A:=isl aG 3 sad s) (Ent.dup (bO _ _ _ _).pers)).trans ((Ent.at (A:=osl aG 3 tLot a0 zc (zset ys)) Ent.freezeSl).trans (by simp only[al,ak];exact ah))) ?_;simp only[al,ak];(first|refine GO.ef (Ef.call (qC sad sc s a0 zc (zset ys) (by have:=h2.2;omega) (by have:=h1.2;omega) h2.1 s1) rfl dd) ae ?_);rintro _ _⟨_,⟨a4,c1,a3,c2,rfl,rfl⟩,hL⟩;simp only[al,ak] at hL;subst hL;rw[Cc h2.1 h1.1 ha a2];refine Ks ?_;intros;exact KX.en ⟨a3,c2,rfl,rfl⟩
