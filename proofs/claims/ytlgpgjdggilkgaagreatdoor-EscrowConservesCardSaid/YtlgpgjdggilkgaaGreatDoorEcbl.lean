/- Lemmas. -/
import Derived.Test.YtlgpgjdggilkgaaGreatDoorEcbk
set_option linter.all false
set_option maxHeartbeats 8000000
namespace Go.Proofs.YtlgpgjdggilkgaaGreatDoor
section
open Go.V
def kU(a:Int):Prop:=1≤a∧a≤1073741824
noncomputable instance (a:Int):Decidable (kU a):=Classical.propDecidable _
attribute [local irreducible] G GO GP GPW GPK GF GE Ev Ef EfR Ent CB GB V.Enters bX
def qp{L:LH}(a:Int):Tri Tryz.prog 167 #[ac a] L (rtQ (.bool (dB (kU a))) L):=by
 refine Tri.bd ?_;by_cases h0:1≤a
 ·by_cases h1:a≤1073741824
  ·rw[bE (show kU a from⟨h0,h1⟩)];refine Ks ?_;intros;refine KX.a8 aA (Ent.refl _) ⟨?_,rfl⟩;exact congrArg Value.bool (bE h1)
  ·rw[aW (show ¬kU a from fun q=>h1 q.2)];refine Ks ?_;intros;refine KX.a8 aA (Ent.refl _) ⟨?_,rfl⟩;exact congrArg Value.bool (aW h1)
 ·rw[aW (show ¬kU a from fun q=>h0 q.1)];refine Ks ?_;intros;exact KX.en ⟨rfl,rfl⟩
def yS{L:LH}(l:LegV)(hl:l.m.am.length≤1000):Tri Tryz.prog 111 #[aU (bA l)] (legP l::L) (fun v L'=>∃l' : LegV,v=aU (bA l')∧l'.m=l.m∧L' = legP l'::legP l::L):=by
 refine Tri.bd ?_;refine Ks ?_;intros;refine GO.ca (jO l.ad l.m.am.length l.cap l.m.am rfl ab) ?_;rintro _ _⟨a1,a0,rfl,rfl⟩;refine Ks ?_;intros;refine KX.a8 (by exact ResOk.cell rfl aQ (ResOk.nil)) ?_ ⟨⟨l.m,a1,a0⟩,rfl,rfl,rfl⟩;refine(Ent.at (A:=osl cy 2 tAm a1 a0 l.m.am) Ent.freezeSl).trans ?_;exact ah
def lg0:LegV:=⟨⟨0,0,0,0,[]⟩,none,0⟩
def yI{L:LH}(ad:OA)(c:Nat)(ls:List LegV)[hrd:Rds (allP legP ls::L) ad LegV bA 5 ls](hl:ls.length≤1000)(hp:∀l∈ls,l.m.am.length≤1000) :
  Tri Tryz.prog 110 #[ag ad ls.length c,.func (.func 111) #[] #[]] (allP legP ls::L) (fun v L'=>∃a3 c' a1,v=ag a3 a1.length c'∧a1.map (·.m)=ls.map (·.m)∧L' = osl bA 5 tLeg a3 c' a1::allP legP a1::allP legP ls::L):=by
 refine Tri.bd ?_;by_cases h0:ls.length=0
 ·have e:ls=[]:=aZ h0;subst e;refine Ks ?_;intros;exact KX.a8 aA ((Ent.c7 legP).trans (Ent.c8 bA 5 tLeg)) ⟨none,0,[],rfl,rfl,rfl⟩
 refine Ks ?_;intros;refine GO.ef (Ef.f9 bA lg0 rfl rfl rfl ab ab ab ab) ae ?_;rintro _ _⟨bs,rfl,rfl⟩;rw[show(ls.length:Int).toNat=ls.length by omega];refine Ks ?_;intros
 refine G.loop (α:=Nat×List LegV) (fun z=>z.1≤ls.length∧z.2.length=ls.length∧(z.2.take z.1).map (·.m)=(ls.take z.1).map (·.m)) (fun z=>[(1,.func (.func 111) #[] #[]),(5,ag (some ⟨bs,0,none⟩) ls.length ls.length),(14,ag ad ls.length c),(15,ac (ls.length:Int)),(16,ac (z.1:Int))])
  (fun z=>osl bA 5 tLeg (some ⟨bs,0,none⟩) ls.length z.2::allP legP (z.2.take z.1)::allP legP ls::L) (fun z=>ls.length - z.1) (0,List.replicate ls.length lg0) ⟨aw _,by simp,by simp⟩ aC ?_ ?_
 ·dsimp only;rw[aR];refine(Ent.c7 legP).trans ?_;exact ah
 rintro⟨i,zs⟩ ⟨hi,a6,a0⟩;dsimp only at hi a6 a0 ⊢;by_cases a2:i<ls.length
 case neg =>
  have a7:i=ls.length:=ab;subst a7;rw[aD ab,aD ab] at a0;rw[aD (ab:zs.length≤ls.length)];refine Ks ?_;intros;refine KX.a8 aA (Ent.refl _) ⟨some ⟨bs,0,none⟩,ls.length,zs,by rw[a6];rfl,a0,rfl⟩
 have a4:(i:Int).toNat=i:=ab;have a5:ls[i]!∈ls:=aV a2;have b0:=hp _ a5;refine Ks ?_;intros;rename_i b7;rw[a4];refine GO.ent (L':=legP ls[i]!::(osl bA 5 tLeg (some ⟨bs,0,none⟩) ls.length zs::allP legP (zs.take i)::allP legP ls::L)) ((Ent.at (A:=allP legP ls) (Ent.c9 (f:=legP) a5)).trans ah) ?_;refine GO.ef (Ef.c8 (first:=[]) (cap:=[]) (vs:=[aU (bA ls[i]!)]) (yS ls[i]! b0) rfl rfl) ae ?_;rintro _ _⟨m',rfl,a9,rfl⟩;refine Ks ?_;intros;refine GO.efu (Ef.f8 (e:=m') rfl rfl aQ aQ (ld _) ab) ?_;rintro _ _ rfl;rw[a4];refine Ks ?_;intros;refine⟨(i+1,zs.set i m'),⟨by dsimp only;omega,by dsimp only;simp;omega,?_⟩,by dsimp only;omega,?_,?_⟩
 ·dsimp only;rw[dV ab,az a2,aJ,aJ,a0,←getElem!_of a2];simp[a9]
 ·dsimp only;rw[bh i];exact aC
 ·dsimp only;rw[dV ab];refine(Ent.at (A:=legP m') (Ent.d8 (f:=legP) fC)).trans ?_;refine(Ent.at (A:=allP legP [m']) (Ent.refl _)).trans ?_;refine(Ent.at (A:=allP legP (zs.take i)) (Ent.refl _)).trans ?_;refine(Ent.d7 (f:=legP) fC).trans ?_;exact ah
end
section
open Go.V
def amG(n:Int)(a:Int×Int):Prop:=0≤a.1∧a.1<n∧1≤a.2∧a.2≤1099511627776
def bagG(n:Int):Int→List (Int×Int)→Prop
 | _,[]=>True
 | p,a::l=>amG n a∧p<a.1∧bagG n a.1 l
noncomputable instance (n:Int) (a:Int×Int):Decidable (amG n a):=Classical.propDecidable _
noncomputable instance (n p:Int) (l:List (Int×Int)):Decidable (bagG n p l):=Classical.propDecidable _
def qZ(l:List (Int×Int))(i:Nat):Int:=if i=0 then -1 else l[i - 1]!.1
structure LegG (shs n:Int) (l:LegM):Prop where
 sh:0≤l.sh∧l.sh<shs
 ts:0≤l.ts∧l.ts<shs
 fr:kU l.fr
 to:kU l.to
 ne:¬l.am.length=0
 bag:bagG n (-1) l.am
def jT(shs n:Int)(ls:List LegM):Prop:=(1≤ls.length∧ls.length≤32)∧∀l∈ls,LegG shs n l
noncomputable instance (shs n:Int) (ls:List LegM):Decidable (jT shs n ls):=Classical.propDecidable _
attribute [local irreducible] G GO GP GPW GPK GF GE Ev Ef EfR Ent CB GB V.Enters bX
def zA{L:LH}(n:Int)(a:Int×Int):Tri Tryz.prog 129 #[ac n,aU (cy a)] L (rtQ (.bool (dB (amG n a))) L):=by
 by_cases h1:0≤a.1
 ·by_cases h2:a.1<n
  ·by_cases h3:1≤a.2
   ·have e:dB (amG n a)=dB (a.2≤1099511627776):=by
     by_cases h4:a.2≤1099511627776
     ·rw[bE h4,bE ⟨h1,h2,h3,h4⟩]
     ·rw[aW h4,aW fun q=>h4 q.2.2.2]
    rw[e];refine Tri.bd ?_;refine Ks ?_;intros;exact KX.en ⟨rfl,rfl⟩
   ·rw[aW (show ¬amG n a from fun q=>h3 q.2.2.1)];refine Tri.bd ?_;refine Ks ?_;intros;exact KX.en ⟨rfl,rfl⟩
  ·rw[aW (show ¬amG n a from fun q=>h2 q.2.1)];refine Tri.bd ?_;refine Ks ?_;intros;exact KX.en ⟨rfl,rfl⟩
 ·rw[aW (show ¬amG n a from fun q=>h1 q.1)];refine Tri.bd ?_;refine Ks ?_;intros;exact KX.en ⟨rfl,rfl⟩
def vW{L:LH}(n:Int)(hn:0≤n∧n≤64)(ad:OA)(m c:Nat)(l:List (Int×Int))[hrd:Rds L ad (Int×Int) cy 2 l](hm:m=l.length)(hl:l.length≤1000) :
  Tri Tryz.prog 69 #[ac n,ag ad m c] L (rtQ (.bool (dB (bagG n (-1) l))) L):=by
 subst hm;have e1:¬n<0:=ab;have e2:¬n>64:=ab;refine Tri.bd ?_;refine Ks ?_;intros;refine G.loop (α:=Nat) (fun i=>i≤l.length∧(bagG n (-1) l↔bagG n (qZ l i) (l.drop i))) (fun i=>[(0,ac n),(5,ac (qZ l i)),(14,ag ad l.length c),(15,ac (l.length:Int)),(16,ac (i:Int))]) (fun i=>L) (fun i=>l.length - i) 0 ⟨aw _,by rw[List.drop_zero];rfl⟩ aC (Ent.refl _) ?_;rintro i ⟨hi,ha⟩;by_cases a1:i<l.length
 case neg =>
  have hT:bagG n (-1) l:=by
   rw[ha,bQ ab];trivial
  rw[bE hT];refine Ks ?_;intros;exact KX.en ⟨rfl,rfl⟩
 have a3:(i:Int).toNat=i:=ab
 have a2:bagG n (qZ l i) (l.drop i)↔(amG n l[i]!∧qZ l i<l[i]!.1∧bagG n l[i]!.1 (l.drop (i+1))):=by
  rw[bV a1,←getElem!_of a1];rfl
 have a0:qZ l (i+1)=l[i]!.1:=rfl;rw[a2] at ha;generalize qZ l i=p at *;refine Ks ?_;intros;rename_i b7;rw[a3];refine GO.ent (L':=obj b7 67 (cy l[i]!)::L) ah ?_;refine GO.cr (zA n l[i]!) ?_;by_cases h1:amG n l[i]!
 case neg =>
  have hF:¬bagG n (-1) l:=fun q=>h1 (ha.1 q).1;rw[aW hF,aW h1];refine Ks ?_;intros;exact KX.en ⟨rfl,rfl⟩
 rw[bE h1];by_cases h2:p<l[i]!.1
 case neg =>
  have hF:¬bagG n (-1) l:=fun q=>h2 (ha.1 q).2.1;have h3:l[i]!.1≤p:=ab;rw[aW hF];simp only[cy];refine Ks ?_;intros;exact KX.en ⟨rfl,rfl⟩
 have h3:¬l[i]!.1≤p:=ab;simp only[cy];refine Ks ?_;intros;refine⟨i+1,⟨ab,?_⟩,ab,?_,by exact ah⟩
 ·rw[a0,ha];exact⟨fun q=>q.2.2,fun q=>⟨h1,h2,q⟩⟩
 ·rw[bh i,a0];exact aC
def Ed{L:LH}(b:Nat)(S:LedM) :
  Tri Tryz.prog 166 #[ax b] (aS b S::L) (fun v L'=>∃c' : CatV,v=.agg c'.cells.toArray∧(c'.m=S.cat∧c'.B)∧L' = aS b S::L):=by
 refine Tri.bd ?_;refine G.c8 (f:=jb b S) ?_;intro x;simp only[jb,ledL,bW,al,ak];refine G.d7 ?_;intro hF;refine Ks ?_;intros;refine GO.ent (Ent.at (A:=catP x.cat) (Ent.refl _)) ?_;refine GO.ca (pG x.cat hF.catB) ?_;rintro _ _⟨c',rfl,a0,rfl⟩;simp only[CatV.cells];refine Ks ?_;intros;refine KX.a8 (by exact ResOk.cell rfl aQ (ResOk.nil)) ?_ ⟨c',rfl,⟨a0.trans hF.cat,CatV.a8 a0 hF.catB⟩,rfl⟩;refine Ent.drop.trans (Ent.drop.trans ?_);refine Ent.trans ?_ (iU x hF);simp only[ledL,bW];exact ah
def vP{L:LH}(nb lb:Nat)(sh shs cnt hl:Int)(mb mp mr:Nat)(S:LedM)(hc:S.cat.items.length≤64)(ad:OA)(m c:Nat)(ls:List LegV)(hm:m=ls.length)(b2:ls.length≤1000)(a7:∀l∈ls,l.m.am.length≤1000) :
  Tri Tryz.prog 109 #[ax nb,ag ad m c] (obj nb tNd (ndC lb sh shs cnt hl mb mp mr)::aS lb S::isl bA 5 ad ls::allP legP ls::L) (rtQ (.bool (dB (jT shs S.cat.items.length (ls.map (·.m))))) (obj nb tNd (ndC lb sh shs cnt hl mb mp mr)::aS lb S::isl bA 5 ad ls::allP legP ls::L)):=by
 subst hm;have b4:(ls.map (·.m)).length=ls.length:=an _;generalize hN:(S.cat.items.length:Int)=N;have a6:0≤N∧N≤64:=ab;have a3:=fun (k:Int) (M:LH)=>qo (L:=M) nb lb sh shs cnt hl mb mp mr k;simp only[ndC] at a3;refine Tri.bd ?_;simp only[ndC];by_cases h1:ls.length<1
 ·rw[aW (show ¬jT shs N (ls.map (·.m)) from fun q=>by have:=q.1.1;omega)];refine Ks ?_;intros;exact KX.en ⟨rfl,rfl⟩
 by_cases h2:ls.length>32
 ·rw[aW (show ¬jT shs N (ls.map (·.m)) from fun q=>by have:=q.1.2;omega)];refine Ks ?_;intros;exact KX.en ⟨rfl,rfl⟩
 refine Ks ?_;intros;refine GO.ent (L':=aS lb S::(obj nb tNd [ax lb,ac sh,ac shs,ac cnt,ac hl,.map (some mb),.map (some mp),.map (some mr)]::isl bA 5 ad ls::allP legP ls::L)) ah ?_;refine GO.ca (Ed lb S) ?_;rintro _ _⟨cv,rfl,⟨a9,b3⟩,rfl⟩;have b1:(cv.items.length:Int)=N:=by rw[←hN,←a9];rfl
 simp only[CatV.cells];refine GO.ev (Ev.z6 (off:=0) (fs:=Tryz.prog.fieldsOf 116) (fd:=(Tryz.prog.fieldsOf 116)[0]!) krStd0 krStd0 krStd0 (fun _=>krStd0) rfl rfl) ae ?_;refine Ks ?_;intros;rw[b1];refine G.loop (α:=Nat) (fun i=>i≤ls.length∧∀l∈ls.take i,LegG shs N l.m) (fun i=>[(0,ax nb),(5,ac N),(23,ag ad ls.length c),(24,ac (ls.length:Int)),(25,ac (i:Int))]) (fun i=>obj nb tNd [ax lb,ac sh,ac shs,ac cnt,ac hl,.map (some mb),.map (some mp),.map (some mr)]::aS lb S::isl bA 5 ad ls::allP legP ls::L) (fun i=>ls.length - i) 0 ⟨aw _,fun l h=>absurd h (by rw[aR];exact ay)⟩ aC ah ?_;rintro i ⟨hi,ha⟩;by_cases a4:i<ls.length
 case neg =>
  rw[aD ab] at ha
  have hT:jT shs N (ls.map (·.m)):=⟨ab,fun l hl=>by
   obtain⟨x,hx,rfl⟩:=List.mem_map.1 hl;exact ha x hx⟩
  rw[bE hT];refine Ks ?_;intros;exact KX.en ⟨rfl,rfl⟩
 have b0:(i:Int).toNat=i:=ab;have a1:ls[i]!∈ls:=aV a4;have a0:¬LegG shs N ls[i]!.m→¬jT shs N (ls.map (·.m)):=fun h q=>h (q.2 _ (alStd0List_mem_map_of_mem a1));have a2:=a7 _ a1;generalize hle:ls[i]! = l at *;refine Ks ?_;intros;rename_i b7;rw[b0,hle];refine GO.ef (Ef.k8 (a3 l.m.sh _) rfl) ae ?_;rintro _ _⟨rfl,rfl⟩;by_cases h3:0≤l.m.sh∧l.m.sh<shs
 case neg =>
  rw[aW h3,aW (a0 fun q=>h3 q.sh)];refine Ks ?_;intros;exact KX.en ⟨rfl,rfl⟩
 rw[bE h3];refine Ks ?_;intros;refine GO.ef (Ef.k8 (a3 l.m.ts _) rfl) ae ?_;rintro _ _⟨rfl,rfl⟩;by_cases h4:0≤l.m.ts∧l.m.ts<shs
 case neg =>
  rw[aW h4,aW (a0 fun q=>h4 q.ts)];refine Ks ?_;intros;exact KX.en ⟨rfl,rfl⟩
 rw[bE h4];refine Ks ?_;intros;refine GO.cr (qp l.m.fr) ?_;by_cases h5:kU l.m.fr
 case neg =>
  rw[aW h5,aW (a0 fun q=>h5 q.fr)];refine Ks ?_;intros;exact KX.en ⟨rfl,rfl⟩
 rw[bE h5];refine Ks ?_;intros;refine GO.cr (qp l.m.to) ?_;by_cases h6:kU l.m.to
 case neg =>
  rw[aW h6,aW (a0 fun q=>h6 q.to)];refine Ks ?_;intros;exact KX.en ⟨rfl,rfl⟩
 rw[bE h6];by_cases h7:l.m.am.length=0
 ·have a5 : (l.m.am.length:Int)=0:=ab;rw[aW (a0 fun q=>q.ne h7)];refine Ks ?_;intros;exact KX.en ⟨rfl,rfl⟩
 have a5 : ¬(l.m.am.length:Int)=0:=ab;refine Ks ?_;intros;refine GO.ent (Ent.at (A:=allP legP ls) (Ent.c9 (f:=legP) a1)) ?_;refine GO.cr (vW N a6 l.ad l.m.am.length l.cap l.m.am rfl a2) ?_;by_cases h8:bagG N (-1) l.m.am
 case neg =>
  rw[aW h8,aW (a0 fun q=>h8 q.bag)];refine Ks ?_;intros;exact KX.en ⟨rfl,rfl⟩
 rw[bE h8];refine Ks ?_;intros;refine⟨i+1,⟨ab,fun x hx=>?_⟩,ab,?_,by exact ah⟩
 ·rw[az a4] at hx;rcases List.mem_append.1 hx with hx|hx
  ·exact ha x hx
  ·rw[List.mem_singleton.1 hx,←getElem!_of a4,hle];exact⟨h3,h4,h5,h6,h7,h8⟩
 ·rw[bh i];exact aC
end
section
open Go.V
def dR(ls:List LegM)(k:Nat):List Int:=((List.range k).map fun (i:Nat)=>(i:Int)).filter fun s=>decide (∃l∈ls,l.sh=s)
def yn(ls:List LegM)(k:Nat):dR ls (k+1)=dR ls k++(if ∃l∈ls,l.sh=(k:Int) then[(k:Int)] else[]):=by
 unfold dR;rw[fP,aJ,cI];congr 1;by_cases h:∃l∈ls,l.sh=(k:Int)
 ·rw[if_pos h];simp[h]
 ·rw[if_neg h];simp[h]
def lL(ls:List LegM)(k:Nat):(dR ls k).length≤k:=by
 unfold dR;exact aP (dv _ _) (by rw[an,List.length_range];exact aq _)
def giversT_mem{ls:List LegM}{k:Nat}{g:Int}:g∈dR ls k↔(0≤g∧g<k)∧∃l∈ls,l.sh=g:=by
 unfold dR;rw[List.mem_filter,List.mem_map];refine⟨fun⟨⟨i,hi,e⟩,h⟩=>⟨by have:=List.mem_range.1 hi;omega,by simpa using h⟩,fun⟨h,q⟩=>⟨⟨g.toNat,List.mem_range.2 ab,ab⟩,by simpa using q⟩⟩
def pE(ls:List LegM)(k:Nat):(dR ls k).Nodup:=by
 unfold dR;refine List.Pairwise.filter _ ?_;rw[List.pairwise_map];exact(List.nodup_range (n:=k)).imp fun {a b} h q=>h ab
def yZ{n:Int}:∀{p:Int} {l:List (Int×Int)},bagG n p l→p<n→(l.length:Int)≤n - p - 1
 | _,[],_,h=>by rw[bz];omega
 | p,a::l,h,hp=>by
  obtain⟨h1,h2,h3⟩:=h;have:=yZ h3 h1.2.1
  rw[aM];omega
def yY{n:Int}:∀{p:Int} {l:List (Int×Int)},bagG n p l→∀a∈l,amG n a
 | _,[],_,_,h=>absurd h ay
 | _,b::l,h,a,ha=>by
  rcases List.mem_cons.1 ha with rfl|ha
  ·exact h.1
  ·exact yY h.2.2 a ha
def LegG.ok{shs n:Int}{l:LegM}(h:LegG shs n l)(hs:shs≤12)(hn:0≤n∧n≤64):lM l:=by
 obtain⟨h1,h2⟩:=h.fr;obtain⟨h3,h4⟩:=h.to;have h5:=h.sh;have h6:=h.ts;have h7:=yZ h.bag ab;refine⟨⟨?_,?_,?_,?_⟩,ab,fun a ha=>?_⟩;iterate 4 (unfold I64;omega)
 obtain⟨q1,q2,q3,q4⟩:=yY h.bag a ha;unfold I64;omega
noncomputable def eZ(sh shs:Int)(ls:List LegM)(tick until_:Int)(N:NdM)(S:LedM):(Int×Int)×HRes :=
 if until_>1099511627776∨¬jT shs S.cat.items.length ls then((0,1),[],N,S)
 else if until_<tick then((0,14),[],N,S)
 else((sh*4294967296+N.cnt,0),delM sh tick (dl sh (dR ls shs.toNat) [] ⟨1,sh*4294967296+N.cnt,0,false,ls,[]⟩) { N with cnt:=N.cnt+1,begun:=gins N.begun (sh*4294967296+N.cnt) ⟨ls,dR ls shs.toNat,until_,[],[],false,false⟩ } S)
def BB{shs n id:Int}{ls:List LegM}(h:jT shs n ls)(hs:shs≤12)(hn:0≤n∧n≤64)(a0:I64 id):CtOk ⟨1,id,0,false,ls,[]⟩ :=
 ⟨⟨by unfold I64;dsimp only;omega,a0,by unfold I64;dsimp only;omega⟩,h.1.2,fun l hl=>(h.2 l hl).ok hs hn,aw _,fun _ h=>absurd h ay⟩
def qE{sh:Int}{ct:CtM}:∀{gs:List Int},gs.Nodup→fS sh (gs.map fun g=>(⟨sh,g,ct⟩:MsM))≤2*amT ct.legs
 | [],_=>aw _
 | g::gs,h=>by
  obtain⟨h1,h2⟩:=List.nodup_cons.1 h;have ih:=qE (sh:=sh) (ct:=ct) h2;have e:fS sh ((g::gs).map fun g=>(⟨sh,g,ct⟩:MsM))=cost sh ⟨sh,g,ct⟩+fS sh (gs.map fun g=>(⟨sh,g,ct⟩:MsM)):=by unfold fS;rw[aF,aF,cq]
  rw[e];by_cases q:g=sh
  ·have hz:fS sh (gs.map fun g=>(⟨sh,g,ct⟩:MsM))=0:=jZ fun y hy=>by
    obtain⟨k,hk,rfl⟩:=List.mem_map.1 hy;unfold cost;rw[if_neg (fun e=>h1 (by rw[q,←e];exact hk))]
   rw[hz];have hc:cost sh ⟨sh,g,ct⟩=2*amT ct.legs:=if_pos q;omega
  ·rw[show cost sh ⟨sh,g,ct⟩=0 from if_neg q];omega
def mj(sh:Int)(gs:List Int)(ct:CtM):dl sh gs [] ct=gs.map fun g=>(⟨sh,g,ct⟩:MsM):=by
 unfold dl;rw[List.filter_eq_self.2 fun g _=>by simp]
def vG{sh shs n id:Int}{ls:List LegM}(h:jT shs n ls)(hs:shs≤12)(hn:0≤n∧n≤64)(a0:I64 id){gs:List Int}:∀y∈dl sh gs [] ⟨1,id,0,false,ls,[]⟩,POk sh 7 y:=fun y hy=>by
 rw[mj] at hy;obtain⟨g,_,rfl⟩:=List.mem_map.1 hy;exact⟨BB h hs hn a0,by decide,fun _=>by dsimp only;omega⟩
def yX{cat:CatM}{sh shs:Int}{N:NdM}{S:LedM}{id u:Int}{ls:List LegM}(h:HIn cat sh N S)(hs:shs≤12):HIn cat sh { N with cnt:=N.cnt+1,begun:=gins N.begun id ⟨ls,dR ls shs.toNat,u,[],[],false,false⟩ } S :=
 ⟨h.led,h.hl,h.nd,fun p hp=>by
  rcases jM hp with rfl|hp
  ·have:=lL ls shs.toNat
   dsimp only;omega
  ·exact h.giv p hp,h.pts⟩
def kK{α:Type}{f:α→Nat}{C:Nat}:∀{l:List α},(∀x∈l,f x≤C)→(l.map f).sum≤l.length*C
 | [],_=>aw _
 | x::l,h=>by
  have h1:=h x av;have h2:=kK (l:=l) fun y hy=>h y (au _ hy);rw[aF,cq,aM,dc];omega
def Ge{cat:CatM}{sh tick:Int}{gs:List Int}{ct:CtM}{N:NdM}{S:LedM}(hg:gs.length≤100)(hP:∀y∈dl sh gs [] ct,POk sh 7 y)(hN:HIn cat sh N S)(hb:kOf S+pot N+fS sh (dl sh gs [] ct)≤2000):(delM sh tick (dl sh gs [] ct) N S).1.length≤1000000:=by
 obtain⟨_,_,_,h4⟩:=mV (tick:=tick) (d:=7) _ _ _ 2000 (aq _) hP hN hb;have h5:=kK (f:=fun m:MsM=>cMx m.ct.kind) (C:=3300) (l:=dl sh gs [] ct) fun m _=>qG _;have h6:=jQ sh gs [] ct;unfold delM;have h7:(dl sh gs [] ct).length*3300≤100*3300:=bj _ ab;omega
def Kh{n:NdV}{id:Int}(hn:(n.begun.map (·.1)).Nodup)(h:List.lookup id n.begun=none)(y:ExV){L:LH}:Ent (exL y (bigO exF n.begun::L)) (bigO exF (gins n.begun id y)::L):=by
 have e:gera n.begun id=n.begun:=pg (jL h);refine Ent.trans (B:=exF (id,y)::bigO exF (gera n.begun id)::L) ?_ (Ent.j9 hn y);rw[e];exact Ent.f9 (A:=[obj y.b tEx (exC y),gmap kvI bT y.mv (tfL y.voted),gmap kvI bT y.mt (tfL y.told),isl bA 5 y.lad y.legs,allP legP y.legs,isl (encZ .i64) 1 y.gad y.givers])
attribute [local irreducible] G GO GP GPW GPK GF GE Ev Ef EfR Ent CB GB V.Enters bX delM
def DH{L:LH}(l:LegV)(bs:Nat)(s:Int):Tri Tryz.prog 113 #[aU (bA l),ax bs] (obj bs tInt [ac s]::L) (rtQ (.bool (dB (l.m.sh=s))) (obj bs tInt [ac s]::L)):=by
 refine Tri.bd ?_;refine Ks ?_;intros;exact KX.en ⟨rfl,rfl⟩
def vU{L:LH}(bs:Nat)(s:Int)(ad:OA)(n c:Nat)(ls:List LegV)(hn:n=ls.length)(hl:ls.length≤1000) :
  Tri Tryz.prog 169 #[ag ad n c,.func (.func 113) #[] #[ax bs]] (obj bs tInt [ac s]::isl bA 5 ad ls::L) (fun v L'=>∃k:Int,v=ac k∧(0≤k↔∃o∈ls,o.m.sh=s)∧L' = obj bs tInt [ac s]::isl bA 5 ad ls::L):=by
 subst hn;refine Tri.bd ?_;refine Ks ?_;intros;refine G.loop (α:=Nat) (fun i=>i≤ls.length∧∀o∈ls.take i,¬o.m.sh=s) (fun i=>[(0,ag ad ls.length c),(1,.func (.func 113) #[] #[ax bs]),(7,ac (ls.length:Int)),(8,ac (i:Int))]) (fun i=>obj bs tInt [ac s]::isl bA 5 ad ls::L) (fun i=>ls.length - i) 0 ⟨aw _,fun o h=>absurd h (by rw[aR];exact ay)⟩ aC (Ent.refl _) ?_;rintro i ⟨hi,ha⟩;by_cases a0:i<ls.length
 case neg =>
  rw[aD ab] at ha;refine Ks ?_;intros;refine KX.a8 aA (Ent.refl _) ⟨-1,rfl,⟨fun h=>absurd h ae,fun⟨o,ho,h⟩=>absurd h (ha o ho)⟩,rfl⟩
 have a2:(i:Int).toNat=i:=ab;have a1:ls[i]!∈ls:=aV a0;refine Ks ?_;intros;rw[a2];refine GO.ef (Ef.c8 (first:=[]) (cap:=[ax bs]) (vs:=[aU (bA ls[i]!)]) (DH ls[i]! bs s) rfl rfl) ae ?_;rintro _ _⟨rfl,rfl⟩;by_cases hs:ls[i]!.m.sh=s
 ·rw[bE hs];refine Ks ?_;intros;refine KX.a8 aA (Ent.refl _) ⟨(i:Int),rfl,⟨fun _=>⟨ls[i]!,a1,hs⟩,fun _=>by omega⟩,rfl⟩
 ·rw[aW hs];refine Ks ?_;intros;refine⟨i+1,⟨ab,fun o ho=>?_⟩,ab,?_,Ent.refl _⟩
  ·rw[az a0] at ho;rcases List.mem_append.1 ho with ho|ho
   ·exact ha o ho
   ·rw[List.mem_singleton.1 ho,←getElem!_of a0];exact hs
  ·rw[bh i];exact aC
def sE{L:LH}(bs:Nat)(s:Int)(ad:OA)(n c:Nat)(ls:List LegV)(hn:n=ls.length)(hl:ls.length≤1000) :
  Tri Tryz.prog 112 #[ag ad n c,.func (.func 113) #[] #[ax bs]] (obj bs tInt [ac s]::isl bA 5 ad ls::L) (fun v L'=>v=.bool (dB (∃o∈ls.map (·.m),o.sh=s))∧L' = obj bs tInt [ac s]::isl bA 5 ad ls::L):=by
 refine Tri.bd ?_;refine Ks ?_;intros;refine GO.ca (vU (L:=L) bs s ad n c ls hn hl) ?_;rintro _ _⟨k,rfl,hk,rfl⟩;refine Ks ?_;intros;refine KX.a8 aA (Ent.refl _) ⟨?_,rfl⟩;refine congrArg Value.bool ?_;rw[dK,dK];refine decide_eq_decide.2 (hk.trans ⟨fun⟨o,ho,h⟩=>⟨o.m,alStd0List_mem_map_of_mem ho,h⟩,fun⟨o,ho,h⟩=>?_⟩);obtain⟨v,hv,rfl⟩:=List.mem_map.1 ho;exact⟨v,hv,h⟩
end
section
open Go.V
attribute [local irreducible] G GO GP GPW GPK GF GE Ev Ef EfR Ent CB GB V.Enters bX delM
abbrev CZ:=XD [.ev 10]
abbrev zY:=XB [.ef 6,.ef 7,.ev 8,.ev 9,.ef 10]
def VF{φ ψ:Prop}(k:ψ)(h:Hid ψ→φ:=by intro k;(repeat (first|refine aa ?_|intro zzz|refine G.dr 89 5 CZ ?_|refine G.dr 89 12 zY ?_));(repeat revert zzz);exact Hid.out k):φ:=h ⟨k⟩
def tX{L:LH}(nb lb:Nat)(sh shs:Int)(b6:0≤sh∧sh<shs∧shs≤12)(n:NdV)(S:LedM)(cat:CatM)(hN:HIn cat sh n.m S)(hi:S.cat.items.length≤64)(c6:0≤n.cnt∧n.cnt≤1000000)(ad:OA)(m c:Nat)(ls:List LegV)(hm:m=ls.length)(a1:ls.length≤1000)(c0:∀l∈ls,l.m.am.length≤1000)(tick until_:Int)(hk:kOf S+pot n.m+2*amT (ls.map (·.m))≤2000)(b2:glk n.m.begun (sh*4294967296+n.cnt)=none) :
  Tri Tryz.prog 50 #[ax nb,ag ad m c,ac tick,ac until_] (isl bA 5 ad ls::allP legP ls::ndL nb lb sh shs n (aS lb S::L)) (fun v L'=>∃b9 a3 ms n',v=.tuple #[ac (eZ sh shs (ls.map (·.m)) tick until_ n.m S).1.1,ag b9 ms.length a3,ac (eZ sh shs (ls.map (·.m)) tick until_ n.m S).1.2]∧ms.map (·.m)=(eZ sh shs (ls.map (·.m)) tick until_ n.m S).2.1∧n'.m=(eZ sh shs (ls.map (·.m)) tick until_ n.m S).2.2.1∧L' = osl bC 3 tMs b9 a3 ms::allP msP ms::ndL nb lb sh shs n' (aS lb (eZ sh shs (ls.map (·.m)) tick until_ n.m S).2.2.2::L)):=by
 subst hm;have c2:0≤(S.cat.items.length:Int)∧(S.cat.items.length:Int)≤64:=ab;have c1:n.m.cnt=n.cnt:=rfl;generalize hid:sh*4294967296+n.cnt=id at *;have a4:I64 id:=by unfold I64;omega
 have d6:List.lookup id n.begun=none:=by
  rw[gc] at b2;cases h:List.lookup id n.begun with
  | none=>rfl
  | some x=>rw[h] at b2;cases b2
 generalize hR:eZ sh shs (ls.map (·.m)) tick until_ n.m S=R;unfold eZ at hR;rw[c1,hid] at hR;have a0:∀{M:LH},Ent M (osl bC 3 tMs none 0 []::allP msP []::M):=fun {M}=>(Ent.c7 msP).trans (Ent.c8 bC 3 tMs);refine Tri.bd ?_;simp only[ndL,ndC];refine G.c9 (fi (b:=n.mb)) fun hn=>?_;by_cases h1:until_>1099511627776
 ·rw[if_pos (.inl h1)] at hR;subst hR;refine VF ?_;intros;refine KX.a8 aA ?_ ⟨none,0,[],n,rfl,rfl,rfl,rfl⟩;refine a0.trans ?_;simp only[ndL,ndC];exact ah
 refine VF ?_;intros;refine GO.ent (L':=obj nb tNd (ndC lb sh shs n.cnt n.hl n.mb n.mp n.mr)::aS lb S::isl bA 5 ad ls::allP legP ls::(gmap kvI cJ n.mb n.begun::bigO exF n.begun::gmap kvI cL n.mp n.parts::bigO ptF n.parts::gmap kvP bT n.mr (tfK n.recv)::L)) (by simp only[ndC];exact ah) ?_;refine GO.cr (vP nb lb sh shs n.cnt n.hl n.mb n.mp n.mr S hi ad ls.length c ls rfl a1 c0) ?_;simp only[ndC];by_cases h2:jT shs S.cat.items.length (ls.map (·.m))
 case neg =>
  rw[if_pos (.inr h2)] at hR;subst hR;rw[aW h2];refine VF ?_;intros;refine KX.a8 aA ?_ ⟨none,0,[],n,rfl,rfl,rfl,rfl⟩;refine a0.trans ?_;simp only[ndL,ndC];exact ah
 rw[if_neg (fun q=>q.elim h1 fun q=>q h2)] at hR;rw[bE h2];by_cases h3:until_<tick
 ·rw[if_pos h3] at hR;subst hR;refine VF ?_;intros;refine KX.a8 aA ?_ ⟨none,0,[],n,rfl,rfl,rfl,rfl⟩;refine a0.trans ?_;simp only[ndL,ndC];exact ah
 rw[if_neg h3] at hR;have b5:=vG (sh:=sh) h2 b6.2.2 c2 a4 (gs:=dR (ls.map (·.m)) shs.toNat);have hin:=yX (shs:=shs) (id:=id) (u:=until_) (ls:=ls.map (·.m)) hN b6.2.2
 have d0:fS sh (dl sh (dR (ls.map (·.m)) shs.toNat) [] ⟨1,id,0,false,ls.map (·.m),[]⟩)≤2*amT (ls.map (·.m)):=by
  rw[mj];exact qE (pE _ _)
 have e3:=lL (ls.map (·.m)) shs.toNat;have a6:=Ge (tick:=tick) ab b5 hin (by unfold pot at hk ⊢;dsimp only;omega);refine VF ?_;intros;refine GPW.evP (Ev.z8 rfl rfl ab ab) ae ?_;refine VF ?_;intros;rw[hid];refine GO.ent (L':=allP legP ls::(isl bA 5 ad ls::obj nb tNd [ax lb,ac sh,ac shs,ac (n.cnt+1),ac n.hl,.map (some n.mb),.map (some n.mp),.map (some n.mr)]::gmap kvI cJ n.mb n.begun::bigO exF n.begun::gmap kvI cL n.mp n.parts::bigO ptF n.parts::gmap kvP bT n.mr (tfK n.recv)::aS lb S::L)) ah ?_;refine GO.ca (yI ad c ls a1 c0) ?_;rintro _ _⟨lad,lcap,xs,rfl,b7,rfl⟩;refine GO.ent Ent.freezeSl ?_;refine VF ?_;intros;refine GO.ef (Ef.d8 kvI bT (.inl rfl)) ae ?_;rintro _ _⟨mv,rfl,rfl⟩;refine GO.ef (Ef.d8 kvI bT (.inl rfl)) ae ?_;rintro _ _⟨mt,rfl,rfl⟩;refine VF ?_;intros;rename_i bx;refine G.loop (α:=Nat×OA×Nat) (fun g=>(g.1:Int)≤shs) (fun g=>[(0,ax nb),(1,ag ad ls.length c),(2,ac tick),(11,ac id),(12,ax bx),(52,ac shs),(53,ac (g.1:Int))]) (fun g=>osl (encZ .i64) 1 tInt g.2.1 g.2.2 (dR (ls.map (·.m)) g.1)::obj bx tEx [ag lad xs.length lcap,ag g.2.1 (dR (ls.map (·.m)) g.1).length g.2.2,ac until_,.map (some mv),.map (some mt),.bool false,.bool false]::gmap kvI bT mv []::gmap kvI bT mt []::isl bA 5 lad xs::allP legP xs::allP legP ls::isl bA 5 ad ls::obj nb tNd [ax lb,ac sh,ac shs,ac (n.cnt+1),ac n.hl,.map (some n.mb),.map (some n.mp),.map (some n.mr)]::gmap kvI cJ n.mb n.begun::bigO exF n.begun::gmap kvI cL n.mp n.parts::bigO ptF n.parts::gmap kvP bT n.mr (tfK n.recv)::aS lb S::L) (fun g=>shs.toNat - g.1) (0,none,0) kg aC ?_ ?_
 ·dsimp only;refine(Ent.c8 (encZ .i64) 1 tInt).trans ?_;rw[show dR (ls.map (·.m)) 0=[] from rfl];exact ah
 rintro⟨k,gad,gcap⟩ d3;dsimp only at d3 ⊢;have e2:=lL (ls.map (·.m)) k;by_cases e4:(k:Int)<shs
 ·have a7:=yn (ls.map (·.m)) k;refine VF ?_;intros;rename_i bs;refine GO.ent (L':=obj bs tInt [ac (k:Int)]::isl bA 5 ad ls::(osl (encZ .i64) 1 tInt gad gcap (dR (ls.map (·.m)) k)::obj bx tEx [ag lad xs.length lcap,ag gad (dR (ls.map (·.m)) k).length gcap,ac until_,.map (some mv),.map (some mt),.bool false,.bool false]::gmap kvI bT mv []::gmap kvI bT mt []::isl bA 5 lad xs::allP legP xs::allP legP ls::obj nb tNd [ax lb,ac sh,ac shs,ac (n.cnt+1),ac n.hl,.map (some n.mb),.map (some n.mp),.map (some n.mr)]::gmap kvI cJ n.mb n.begun::bigO exF n.begun::gmap kvI cL n.mp n.parts::bigO ptF n.parts::gmap kvP bT n.mr (tfK n.recv)::aS lb S::L)) ah ?_;refine GO.cr (sE bs (k:Int) ad ls.length c ls rfl a1) ?_;by_cases hg:∃l∈ls.map (·.m),l.sh=(k:Int)
  ·rw[if_pos hg] at a7;rw[bE hg];refine VF ?_;intros;refine GPW.ef (Ef.a8 (enc:=encZ .i64) (e:=(k:Int)) rfl rfl rfl rfl rfl aQ (iu _ _) ab ab) ae ?_;rintro _ _⟨c4,a9,rfl,rfl⟩;rw[←a7];refine VF ?_;intros;refine⟨(k+1,c4,a9),by dsimp only;omega,by dsimp only;omega,?_,by exact ah⟩;dsimp only;rw[bh k];exact aC
  ·rw[if_neg hg,aH] at a7;rw[aW hg];refine VF ?_;intros;refine⟨(k+1,gad,gcap),by dsimp only;omega,by dsimp only;omega,?_,?_⟩
   ·dsimp only;rw[bh k];exact aC
   ·dsimp only;rw[a7];exact ah
 have d4:k=shs.toNat:=ab;subst d4;generalize hgs:dR (ls.map (·.m)) shs.toNat=gs at *;refine G.ent Ent.freezeSl ?_;let x:ExV:=⟨bx,xs,lad,lcap,gs,gad,gcap,until_,[],mv,[],mt,false,false⟩
 have e1:x.m=⟨ls.map (·.m),gs,until_,[],[],false,false⟩:=by
  show(⟨xs.map (·.m),gs,until_,[],[],false,false⟩:ExM)=_;rw[b7]
 have b1:=mh (L:=gmap kvI bT mv []::gmap kvI bT mt []::isl bA 5 lad xs::allP legP xs::allP legP ls::isl bA 5 ad ls::gmap kvI cJ n.mb (gins n.begun id x)::bigO exF n.begun::gmap kvI cL n.mp n.parts::bigO ptF n.parts::gmap kvP bT n.mr (tfK n.recv)::aS lb S::L) nb lb sh shs (n.cnt+1) n.hl n.mb n.mp n.mr x (ab:gs.length≤100) (⟨1,id,0,false,xs,lad,lcap,[],none,0⟩:CtV) (by
  have h:=BB h2 b6.2.2 c2 a4;rw[←b7] at h;exact h) none [] (.inl ⟨rfl,rfl⟩)
 refine VF ?_;intros;refine GO.efu (Ef.c9 (enc:=cJ) x rfl rfl rfl rfl) ?_;rintro _ _ rfl;refine VF ?_;intros;refine GO.ent (L':=obj nb tNd (ndC lb sh shs (n.cnt+1) n.hl n.mb n.mp n.mr)::ctP (⟨1,id,0,false,xs,lad,lcap,[],none,0⟩:CtV)::obj x.b tEx (exC x)::isl (encZ .i64) 1 x.gad x.givers::(gmap kvI bT mv []::gmap kvI bT mt []::isl bA 5 lad xs::allP legP xs::allP legP ls::isl bA 5 ad ls::gmap kvI cJ n.mb (gins n.begun id x)::bigO exF n.begun::gmap kvI cL n.mp n.parts::bigO ptF n.parts::gmap kvP bT n.mr (tfK n.recv)::aS lb S::L)) ?_ ?_
 ·refine Ent.trans (B:=isl bA 5 lad xs::allP legP xs::(gmap kvI cJ n.mb (gins n.begun id x)::isl (encZ .i64) 1 gad gs::obj bx tEx (exC x)::gmap kvI bT mv []::gmap kvI bT mt []::allP legP ls::isl bA 5 ad ls::obj nb tNd (ndC lb sh shs (n.cnt+1) n.hl n.mb n.mp n.mr)::bigO exF n.begun::gmap kvI cL n.mp n.parts::bigO ptF n.parts::gmap kvP bT n.mr (tfK n.recv)::aS lb S::L)) (by simp only[ndC,exC];exact ah) ?_;refine(EN (id:=id) (x:=x)).trans ?_;exact ah
 refine GO.ca (b1) ?_;rintro _ _⟨b8,a2,ms,rfl,c3,rfl⟩;have d1:(⟨1,id,0,false,xs,lad,lcap,[],none,0⟩:CtV).m=⟨1,id,0,false,ls.map (·.m),[]⟩:=by rw[←b7];rfl
 rw[d1] at c3;have a5:ms.map (·.m)=dl sh gs [] ⟨1,id,0,false,ls.map (·.m),[]⟩:=c3;rw[←a5] at b5 d0 a6 hR;let n1:NdV:={ n with cnt:=n.cnt+1,begun:=gins n.begun id x }
 have b4:n1.m={ n.m with cnt:=n.m.cnt+1,begun:=gins n.m.begun id ⟨ls.map (·.m),gs,until_,[],[],false,false⟩ }:=by
  show({ n with cnt:=n.cnt+1,begun:=gins n.begun id x }:NdV).m=_;rw[←e1];exact qY { n with cnt:=n.cnt+1 } id x
 rw[c1] at b4 hin a6;rw[←b4] at hin a6 hR;have e0:pot n1.m=pot n.m:=by rw[b4];rfl
 have b3:ms.length≤1000000:=by
  have e:=congrArg List.length a5;have:=jQ sh gs [] ⟨1,id,0,false,ls.map (·.m),[]⟩
  rw[an] at e;omega
 subst hR;dsimp only;refine VF ?_;intros;refine GO.ent (L':=osl bC 3 tMs b8 a2 ms::allP msP ms::ndL nb lb sh shs n1 (aS lb S::L)) ?_ ?_
 ·refine Ent.trans (B:=exL x (bigO exF n.begun::(osl bC 3 tMs b8 a2 ms::allP msP ms::obj nb tNd (ndC lb sh shs (n.cnt+1) n.hl n.mb n.mp n.mr)::gmap kvI cJ n.mb (gins n.begun id x)::gmap kvI cL n.mp n.parts::bigO ptF n.parts::gmap kvP bT n.mr (tfK n.recv)::aS lb S::L))) (by simp only[exL];rw[show tfL x.voted=[] from rfl];exact ah) ?_;refine(Kh hn d6 x).trans ?_;simp only[ndL];exact ah
 refine GO.ca (nc nb lb sh shs n1 S cat 2000 (aq _) tick b8 a2 ms (fun y hy=>b5 _ (alStd0List_mem_map_of_mem hy)) hin ab b3 a6) ?_;rintro _ _⟨c5,b0,ds,n2,rfl,d2,d5,rfl⟩;refine VF ?_;intros;exact KX.en ⟨c5,b0,ds,n2,rfl,d2,d5,rfl⟩
