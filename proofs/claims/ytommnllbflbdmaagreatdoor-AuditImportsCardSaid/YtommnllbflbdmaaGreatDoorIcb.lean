/- Lemmas. -/
import Derived.Test.YtommnllbflbdmaaGreatDoorIca
import Derived.Test.YtommnllbflbdmaaGreatDoorIbx
set_option linter.all false
set_option maxHeartbeats 8000000
namespace Go.Proofs.YtommnllbflbdmaaGreatDoor
section
open Go.V
abbrev FSl:Type:=OA×Nat×List FlV
def ge(z:FSl):LV:=[.slice z.1 z.2.2.length z.2.1]
def pL(t:FSl):∀u∈ge t,u.oneCell' = true:=by simp[ge,Value.oneCell']
def fsP(z:FSl):HP:=andP (isl aM 11 z.1 z.2.2) (allP flP z.2.2)
def Hm(z:FSl):PersM (fsP z):=(bQ _ _ _ _).and (cB lw)
def fsM(z:FSl):List FlM:=z.2.2.map FlV.m
def jA{zs:List FSl}{i:Nat}(h:i<zs.length):(zs.map fsM)[i]! = zs[i]!.2.2.map FlV.m:=dP fsM h
attribute [local irreducible] G GO GP GPW GPK Ev Ef EfR Ent CB GB V.Enters
abbrev BJ:List Stp:=[.ev 0,.ev 1,.ev 2,.ev 3,.ev 4,.ev 5,.ev 6,.ev 7]
abbrev BI:List Stp:=[.ev 0,.ev 1,.ev 2,.ev 3,.ev 4,.ev 5,.ev 6,.ev 7,.ef 8,.ef 9,.ef 10]
def cP{φ ψ:Prop}(k:ψ)(h:Hid ψ→φ:=by intro k;(with_reducible apply G.d8);first|refine G.d7 (N:=94) (id:=1) BJ mixed aw (Hid.out k)|refine G.d7 (N:=94) (id:=9) BI mixed aw (Hid.out k)):φ:=h ⟨k⟩
def ZI{φ ψ:Prop}(k:ψ)(h:Hid ψ→φ:=by intro k;(repeat (first|refine aa ?_|intro zzz|((with_reducible apply G.d8);first|refine G.d7 (N:=94) (id:=1) BJ mixed aw ?_|refine G.d7 (N:=94) (id:=9) BI mixed aw ?_)));(repeat revert zzz);exact Hid.out k):φ:=h ⟨k⟩
def vf{L:LH}(ad:OA)(n c:Nat)(zs:List FSl)[hr:Rds L ad FSl ge 1 zs](hn:n=zs.length)(hW:FlsW (zs.map fsM))(hP:∀z∈zs,Ent L (fsP z::L))(ms:Nat)(mp:List (Int×Stk))(a0:LL)(hm:jp mp a0)(hl:a0.length≤100000)(c0:∀y∈a0,LotOk y)(sh item:Int)(p:Lot)(hp:LotOk p)(hb:p.1≤9223372036854775807)(hs:p.1 / 4294967296≠sh) :
  Tri ag 96 #[.slice ad n c,.map (some ms),ac sh,ac item,.agg (ao p).toArray] (gmap kvI Stk.v ms mp::bigO dO mp::L) (fun v L'=>∃b2,v=ac (wOne (zs.map fsM) item p a0)∧(wOne (zs.map fsM) item p a0=0→jp b2 (a0++[p]))∧L' = gmap kvI Stk.v ms b2::bigO dO b2::L):=by
 subst hn;have b8:=hp.1;have c5:zs.length≤12:=by have:=hW.len;rwa [aA] at this
 have hx:=Fj (item:=item) hW b8;have a5:¬expP (zs.map fsM) item p→wOne (zs.map fsM) item p a0=7:=fun h=>if_pos h;have c4:∀y∈ofF a0 p.1,LotW y:=fun y hy=>(c0 y (ofF_mem.1 hy).1).w;have c9:(ofF a0 p.1).length≤110000:=cg (nJ _ _) ab;refine Tri.bd ?_;simp only[ao];refine ZI ?_;intros;rename_i b9;refine GPW.evP (Ev.A9 rfl rfl) ah ?_;refine ZI ?_;intros;refine GPW.evP (Ev.C8 rfl rfl) ah ?_;refine ZI ?_;intros;obtain⟨fi,a8⟩:∃i:Nat,(i:Int)=p.1 / 4294967296:=⟨(p.1 / 4294967296).toNat,ab⟩;obtain⟨fk,b3⟩:∃i:Nat,(i:Int)=p.1 % 4294967296:=⟨(p.1 % 4294967296).toNat,ab⟩;rw[←a8,←b3];rw[←a8] at hs;have c8:¬(fi:Int)<0:=ab;by_cases c1:fi<zs.length
 case neg =>
  have a9:¬expP (zs.map fsM) item p:=fun q=>by
   obtain⟨i,k,h1,_,h3,_⟩:=hx.1 q;rw[aA] at h3;omega
  rw[a5 a9];refine ZI ?_;intros;exact KX.d7 an ae ⟨mp,rfl,fun h=>absurd h ah,rfl⟩
 have a2:(fi:Int).toNat=fi:=ay fi;have b7 : (fi:Int).toNat<zs.length:=ab;have a4:=jA c1;have a3:=hW.fl fi (by rw[aA];exact c1);have b6:zs[(fi:Int).toNat]!.2.2.length≤1000000:=by rw[a4,aA] at a3;rw[a2];exact a3
 by_cases c2:fk<zs[(fi:Int).toNat]!.2.2.length
 case neg =>
  have a9:¬expP (zs.map fsM) item p:=fun q=>by
   obtain⟨i,k,h1,h2,h3,h4,_⟩:=hx.1 q;obtain rfl:i=fi:=ab;rw[a4,aA] at h4;rw[a2] at c2;omega
  rw[a5 a9];refine ZI ?_;intros;exact KX.d7 an ae ⟨mp,rfl,fun h=>absurd h ah,rfl⟩
 have b4:(fk:Int).toNat=fk:=ay fk;have c6 : (fk:Int).toNat<zs[(fi:Int).toNat]!.2.2.length:=ab;obtain⟨f,hf⟩:∃f,zs[(fi:Int).toNat]!.2.2[(fk:Int).toNat]! = f:=⟨_,rfl⟩
 have b0:((zs.map fsM)[fi]!)[fk]! = f.m:=by
  rw[a4,←hf,a2,b4];exact dP FlV.m (by rw[a2] at c2;exact c2)
 have a6:expP (zs.map fsM) item p↔f.m.kind=6∧f.m.item=item∧p.2.1+p.2.2≤f.m.n:=by
  rw[hx];constructor
  ·rintro⟨i,k,h1,h2,h3,h4,h5,h6,h7⟩;obtain rfl:i=fi:=ab;obtain rfl:k=fk:=ab;rw[b0] at h5 h6 h7;exact⟨h5,h6,h7⟩
  ·rintro⟨h5,h6,h7⟩;refine⟨fi,fk,a8,b3,by rw[aA];exact c1,by rw[a4,aA];rw[a2] at c2;exact c2,?_,?_,?_⟩<;>rw[b0]<;>assumption
 have c7:f.m.n≤9223372036854775807:=by
  have:=(hW.num fi (by rw[aA];exact c1) fk (by rw[a4,aA];rw[a2] at c2;exact c2)).2.2
  rw[b0] at this;omega
 unfold LotOk at hp;repeat first|((fail_if_success (with_reducible refine G.atS 4 ?_));(with_reducible apply G.seq))|refine bA ?_|intro _|refine cP ?_
 refine G.ent (L':=isl aM 11 zs[(fi:Int).toNat]!.1 zs[(fi:Int).toNat]!.2.2::allP flP zs[(fi:Int).toNat]!.2.2::obj b9 tLot [ac p.1,ac p.2.1,ac p.2.2]::gmap kvI Stk.v ms mp::bigO dO mp::L) ((Ent.under (A:=[obj b9 tLot [ac p.1,ac p.2.1,ac p.2.2],gmap kvI Stk.v ms mp,bigO dO mp]) (hP _ (aG b7))).trans Ent.andE) ?_;refine ZI ?_;intros;rw[hf];simp only[aM];by_cases d1:f.m.kind=6
 case neg =>
  rw[a5 (fun q=>d1 (a6.1 q).1)];refine ZI ?_;intros;exact KX.d7 an ae ⟨mp,rfl,fun h=>absurd h ah,rfl⟩
 by_cases d2:f.m.item=item
 case neg =>
  rw[a5 (fun q=>d2 (a6.1 q).2.1)];refine ZI ?_;intros;exact KX.d7 an ae ⟨mp,rfl,fun h=>absurd h ah,rfl⟩
 by_cases d3:p.2.1+p.2.2≤f.m.n
 case neg =>
  rw[a5 (fun q=>d3 (a6.1 q).2.2)];refine ZI ?_;intros;exact KX.d7 an ae ⟨mp,rfl,fun h=>absurd h ah,rfl⟩
 have b5:wOne (zs.map fsM) item p a0=if ∃y∈ofF a0 p.1,ovP p y then 8 else 0:=if_neg (fun q=>q (a6.2 ⟨d1,d2,d3⟩));rw[b5];have hv:=nC mp p.1;have a7:=hm.2 p.1;rw[a7] at hv;unfold glk at hv;refine ZI ?_;intros;refine GO.ent (Ent.at (A:=bigO dO mp) (nX (f:=p.1) hm.1)) ?_;rw[a7];refine GO.ev (Ev.d7 rfl rfl) ah ?_;rw[hv];refine ZI ?_;intros;refine GO.cr (lJ _ _ _ (ofF a0 p.1) p rfl ab c4 ⟨ab,ab,ab,ab⟩) ?_;by_cases c3:∃y∈ofF a0 p.1,ovP p y
 ·rw[if_pos c3,aT c3];refine ZI ?_;intros;refine KX.d7 an ?_ ⟨mp,rfl,fun h=>absurd h ah,rfl⟩;rw[←a7];refine Ent.trans ?_ (Ent.swap (A:=bigO dO mp));refine Ent.trans ?_ (qU (f:=p.1) hm.1);exact ae
 rw[if_neg c3,aH c3];refine ZI ?_;intros;refine GPW.evL (Ev.d7 rfl rfl) ah ?_;rw[hv];refine ZI ?_;intros;refine GPK.keep (by rw[←hv];exact Ev.d7 rfl rfl) ?_;refine ZI ?_;intros;refine GPW.ef (Ef.d7 (enc:=ao) (e:=p) rfl rfl rfl rfl rfl (by rfl) (cK _) ab ab) ah ?_;rintro _ _⟨b1,a1,rfl,rfl⟩;refine ZI ?_;intros;refine GPW.efu (Ef.e8 (enc:=Stk.v) (e:=(⟨b1,a1,ofF a0 p.1++[p]⟩:Stk)) rfl rfl rfl rfl) ?_;rintro _ _⟨rfl,rfl⟩;refine ZI ?_;intros;refine KX.d7 an ?_ ⟨gins mp p.1 ⟨b1,a1,ofF a0 p.1++[p]⟩,rfl,fun _=>⟨kE hm.1,fun g=>?_⟩,rfl⟩
 ·refine Ent.trans ?_ (Ent.swap (A:=bigO dO _));refine Ent.trans ?_ (mO (f:=p.1) hm.1 ⟨b1,a1,ofF a0 p.1++[p]⟩);exact ae
 ·rw[lU,rg];by_cases e:p.1=g
  ·rw[if_pos e.symm,if_pos e,e]
  ·rw[if_neg (fun q=>e q.symm),if_neg e];exact hm.2 g
end
section
open Go.V
abbrev SSl:Type:=OA×Nat×List StV
def gm(z:SSl):LV:=[.slice z.1 z.2.2.length z.2.1]
def pK(t:SSl):∀u∈gm t,u.oneCell' = true:=by simp[gm,Value.oneCell']
def ssP(z:SSl):HP:=andP (isl aL 7 z.1 z.2.2) (allP bK z.2.2)
def Hi(z:SSl):PersM (ssP z):=(bQ _ _ _ _).and (cB ky)
def ssM(z:SSl):List StM:=z.2.2.map StV.m
def oD(item:Int)(p:Lot)(f:FlM):Prop:=f.id=p.1∧f.kind=6∧f.item=item∧p.2.1+p.2.2≤f.n
def Gr{zs:List FSl}{item:Int}{p:Lot}(h:∀i,i<zs.length→∀k,k<zs[i]!.2.2.length→¬oD item p zs[i]!.2.2[k]!.m):¬expP (zs.map fsM) item p:=by
 rintro⟨fl,a1,f,hf,hx⟩;obtain⟨z,hz,rfl⟩:=List.mem_map.1 a1;obtain⟨g,hg,rfl⟩:=List.mem_map.1 hf;obtain⟨i,hi,rfl⟩:=List.mem_iff_getElem.1 hz;obtain⟨k,hk,rfl⟩:=List.mem_iff_getElem.1 hg;have e:zs[i]! = zs[i]:=getElem!_of hi;have a0:k<zs[i]!.2.2.length:=by rw[e];exact hk
 refine h i hi k a0 ?_;rw[getElem!_of a0];simp only[e];exact hx
def Fi{zs:List FSl}{item:Int}{p:Lot}{i k:Nat}(hi:i<zs.length)(hk:k<zs[i]!.2.2.length)(h:oD item p zs[i]!.2.2[k]!.m):expP (zs.map fsM) item p :=
 ⟨_,alStd0List_mem_map_of_mem (aG hi),_,alStd0List_mem_map_of_mem (aG hk),h⟩
attribute [local irreducible] G GO GP GPW GPK Ev Ef EfR Ent CB GB V.Enters
def vg{L:LH}(ad:OA)(n c:Nat)(zs:List FSl)[hr:Rds L ad FSl ge 1 zs](hn:n=zs.length)(b1:zs.length≤12)(a7:∀z∈zs,z.2.2.length≤1000000)(hP:∀z∈zs,Ent L (fsP z::L))(p:Lot)(hp:LotOk p)(item:Int) :
  Tri ag 97 #[.slice ad n c,.agg (ao p).toArray,ac item] L (fun v L'=>v=.bool (dB (expP (zs.map fsM) item p))∧L' = L):=by
 subst hn;have b2:=hp.2;refine Tri.bd ?_;simp only[ao];refine Hz ?_;intros;rename_i b4;refine G.loop (α:=Nat) (fun i=>i≤zs.length∧∀i',i' < i→∀k,k<zs[i']!.2.2.length→¬oD item p zs[i']!.2.2[k]!.m) (fun i=>[(0,.slice ad zs.length c),(2,ac item),(4,av b4),(7,ac (i:Int))]) (fun _=>obj b4 tLot [ac p.1,ac p.2.1,ac p.2.2]::L) (fun i=>zs.length - i) 0 ⟨aj _,fun i' h=>absurd h (bJ _)⟩ ai ae ?_;rintro i ⟨hi,a5⟩;by_cases b0:i<zs.length
 case neg =>
  obtain rfl:i=zs.length:=ab;rw[aH (Gr a5)];refine Hz ?_;intros;exact KX.en ⟨rfl,rfl⟩
 have a8:(i:Int).toNat=i:=ay i;have a1 : (i:Int).toNat<zs.length:=ab;have a6:=a7 _ (aG a1);refine G.ent (L':=isl aM 11 zs[(i:Int).toNat]!.1 zs[(i:Int).toNat]!.2.2::allP flP zs[(i:Int).toNat]!.2.2::obj b4 tLot [ac p.1,ac p.2.1,ac p.2.2]::L) ((Ent.under (A:=[obj b4 tLot [ac p.1,ac p.2.1,ac p.2.2]]) (hP _ (aG a1))).trans Ent.andE) ?_;refine Hz ?_;intros;refine G.loop (α:=Nat) (fun k=>k≤zs[(i:Int).toNat]!.2.2.length∧∀k',k' < k→¬oD item p zs[(i:Int).toNat]!.2.2[k']!.m) (fun k=>[(0,.slice ad zs.length c),(2,ac item),(4,av b4),(7,ac (i:Int)),(8,ac (k:Int))]) (fun _=>isl aM 11 zs[(i:Int).toNat]!.1 zs[(i:Int).toNat]!.2.2::allP flP zs[(i:Int).toNat]!.2.2::obj b4 tLot [ac p.1,ac p.2.1,ac p.2.2]::L) (fun k=>zs[(i:Int).toNat]!.2.2.length - k) 0 ⟨aj _,fun k' h=>absurd h (bJ _)⟩ ai ae ?_;rintro k ⟨hk,a3⟩;by_cases a4:k<zs[(i:Int).toNat]!.2.2.length
 case neg =>
  refine Hz ?_;intros;refine⟨i+1,⟨ab,fun i' h1 k' h2=>?_⟩,ab,?_,by exact ae⟩
  ·by_cases q:i' < i
   ·exact a5 i' q k' h2
   ·obtain rfl:i' = i:=ab;rw[a8] at a3 a4;exact a3 k' ab
  ·rw[aK i];exact ai
 have a9:(k:Int).toNat=k:=ay k;have a2 : (k:Int).toNat<zs[(i:Int).toNat]!.2.2.length:=ab;obtain⟨f,hf⟩:∃f,zs[(i:Int).toNat]!.2.2[(k:Int).toNat]! = f:=⟨_,rfl⟩;by_cases hx:oD item p f.m
 ·have hy:expP (zs.map fsM) item p:=Fi a1 a2 (by rw[hf];exact hx);rw[aT hy];obtain⟨x1,x2,x3,x4⟩:=hx;refine Hz ?_;intros;rw[hf];refine Hz ?_;intros;exact KX.en ⟨rfl,rfl⟩
 have a0:∀k',k' < k+1→¬oD item p zs[(i:Int).toNat]!.2.2[k']!.m:=fun k' h=>by
  by_cases q:k' < k
  ·exact a3 k' q
  ·obtain rfl:k' = k:=ab;rw[a9] at hf;rw[hf];exact hx
 unfold oD at hx;by_cases d1:f.m.id=p.1
 case neg =>
  refine Hz ?_;intros;rw[hf];simp only[aM];refine Hz ?_;intros;refine⟨k+1,⟨ab,a0⟩,ab,?_,by(try simp only[aM]);exact ae⟩;rw[aK k];exact ai
 by_cases d2:f.m.kind=6
 case neg =>
  refine Hz ?_;intros;rw[hf];simp only[aM];refine Hz ?_;intros;refine⟨k+1,⟨ab,a0⟩,ab,?_,by(try simp only[aM]);exact ae⟩;rw[aK k];exact ai
 by_cases d3:f.m.item=item
 case neg =>
  refine Hz ?_;intros;rw[hf];simp only[aM];refine Hz ?_;intros;refine⟨k+1,⟨ab,a0⟩,ab,?_,by(try simp only[aM]);exact ae⟩;rw[aK k];exact ai
 have d4:¬p.2.1+p.2.2≤f.m.n:=fun q=>hx ⟨d1,d2,d3,q⟩;refine Hz ?_;intros;rw[hf];simp only[aM];refine Hz ?_;intros;refine⟨k+1,⟨ab,a0⟩,ab,?_,by(try simp only[aM]);exact ae⟩;rw[aK k];exact ai
