/- Lemmas. -/
import Derived.Test.YtlgpgjdggilkgaaGreatDoorEcak
set_option linter.all false
set_option maxHeartbeats 8000000
namespace Go.Proofs.YtlgpgjdggilkgaaGreatDoor
section
open Go.V
abbrev tLeg:Nat:=135
abbrev tCt:Nat:=222
structure LegM where
 sh:Int
 fr:Int
 ts:Int
 to:Int
 am:List (Int×Int)
 deriving Inhabited,DecidableEq
structure LegV where
 m:LegM
 ad:OA
 cap:Nat
 deriving Inhabited
def bA(l:LegV):LV:=[ac l.m.sh,ac l.m.fr,ac l.m.ts,ac l.m.to,ag l.ad l.m.am.length l.cap]
def ld(l:LegV):∀u∈bA l,u.oneCell' = true:=by simp[bA,Value.oneCell']
instance:EncC bA:=⟨ld⟩
abbrev legP(l:LegV):HP:=isl cy 2 l.ad l.m.am
def fC(l:LegV):PersM (legP l):=bO _ _ _ _
structure CtM where
 kind:Int
 id:Int
 index:Int
 yes:Bool
 legs:List LegM
 flows:List Int
 deriving Inhabited,DecidableEq
structure CtV where
 kind:Int
 id:Int
 index:Int
 yes:Bool
 legs:List LegV
 lad:OA
 lcap:Nat
 flows:List Int
 fad:OA
 fcap:Nat
def CtV.m(c:CtV):CtM:=⟨c.kind,c.id,c.index,c.yes,c.legs.map (·.m),c.flows⟩
def eW(c:CtV):LV:=[ac c.kind,ac c.id,ac c.index,.bool c.yes,ag c.lad c.legs.length c.lcap,ag c.fad c.flows.length c.fcap]
def FM(c:CtV):∀u∈eW c,u.oneCell' = true:=by simp[eW,Value.oneCell']
instance:EncC eW:=⟨FM⟩
def ctP(c:CtV):HP:=andP (isl bA 5 c.lad c.legs) (andP (allP legP c.legs) (isl (encZ .i64) 1 c.fad c.flows))
def yP{c:CtV}{L:LH}:Ent (ctP c::L) (isl bA 5 c.lad c.legs::allP legP c.legs::isl (encZ .i64) 1 c.fad c.flows::L):=Ent.andE.trans (Ent.a8 Ent.andE)
def Kn(c:CtV):PersM (ctP c):=PersM.and (bO _ _ _ _) (PersM.and (cH fC) (bO _ _ _ _))
def dy(l:LegM):List Int:=[l.sh,l.fr,l.ts,l.to]++l.am.flatMap fun a=>[a.1,a.2]
def isB(l:List Int):List Int:=uv l.length++ivs l
def ctB(m:CtM):List Int:=uv (zz m.kind)++uv (zz m.id)++uv (zz m.index)++[if m.yes=true then 1 else 0]++uv (zz m.legs.length)++(m.legs.flatMap fun l=>isB (dy l))++isB m.flows
def lM(l:LegM):Prop:=(I64 l.sh∧I64 l.fr∧I64 l.ts∧I64 l.to)∧l.am.length≤100∧∀a∈l.am,I64 a.1∧I64 a.2
structure CtOk (m:CtM):Prop where
 num:I64 m.kind∧I64 m.id∧I64 m.index
 legs:m.legs.length≤32
 lg:∀l∈m.legs,lM l
 fl:m.flows.length≤1000
 fn:∀f∈m.flows,I64 f
def nsT(l:LegM)(j:Nat):List Int:=[l.sh,l.fr,l.ts,l.to]++(l.am.take j).flatMap fun a=>[a.1,a.2]
def IF(l:LegM):nsT l l.am.length=dy l:=by unfold nsT dy;rw[cC]
def GV(l:LegM){j:Nat}(h:j<l.am.length):nsT l (j+1)=nsT l j++[l.am[j]!.1,l.am[j]!.2]:=by
 unfold nsT;rw[az h,cl,←getElem!_of h,aB];rfl
def qi(l:LegM):(dy l).length=4+2*l.am.length:=by
 have h:∀a:List (Int×Int),(a.flatMap fun a=>[a.1,a.2]).length=2*a.length:=fun a=>by
  induction a with
  | nil=>rfl
  | cons x t ih=>rw[aO,aj,ih,aM];simp;omega
 unfold dy;rw[aj,h];rfl
def IE(l:LegM){j:Nat}(h:j≤l.am.length):(nsT l j).length=4+2*j:=by
 have:=qi ⟨l.sh,l.fr,l.ts,l.to,l.am.take j⟩
 rw[aK,dp h] at this;exact this
def qj{l:LegM}(h:lM l):∀x∈dy l,I64 x:=fun x hx=>by
 obtain⟨⟨h1,h2,h3,h4⟩,_,h5⟩:=h;rcases List.mem_append.1 hx with q|q
 ·rcases List.mem_cons.1 q with rfl|q
  ·exact h1
  rcases List.mem_cons.1 q with rfl|q
  ·exact h2
  rcases List.mem_cons.1 q with rfl|q
  ·exact h3
  ·rw[List.mem_singleton.1 q];exact h4
 ·obtain⟨a,ha,q⟩:=List.mem_flatMap.1 q;have:=h5 a ha
  rcases List.mem_cons.1 q with rfl|q
  ·exact this.1
  ·rw[List.mem_singleton.1 q];exact this.2
def BE{l:List Int}(h:∀x∈l,I64 x)(hl:l.length≤1000000):(isB l).length≤10+10*l.length:=by
 have h1:=mK h;have h2:=ie (n:=l.length) ab;unfold isB;rw[aj];omega
def nz:∀{ls:List LegM},(∀l∈ls,lM l)→(ls.flatMap fun l=>isB (dy l)).length≤2050*ls.length
 | [],_=>aq _
 | l::ls,h=>by
  have h1:=nz (ls:=ls) (fun x hx=>h x (au _ hx));have h2:=h l av;have h3:=qi l;have h4:=BE (qj h2) (by have:=h2.2.1;omega);have h5:=h2.2.1;rw[aO,aj,aM];omega
attribute [local irreducible] G GO GP GPW GPK GF GE Ev Ef EfR Ent CB GB V.Enters
def AK{L:LH}(c:CtV)(hc:CtOk c.m) :
  Tri Tryz.prog 204 #[aU (eW c)] (ctP c::L) (fun v L'=>∃ad cap,v=ag ad (ctB c.m).length cap∧L' = osl (encZ .u8) 1 5 ad cap (ctB c.m)::ctP c::L):=by
 obtain⟨⟨k1,k2,k3⟩,hl,b0,a7,b4⟩:=hc;have c5:c.legs.length≤32:=by have:c.m.legs.length=c.legs.length:=an _;omega
 have a7:c.flows.length≤1000:=a7;have u1:=ie (kJ k1.1 k1.2);have u2:=ie (kJ k2.1 k2.2);have u3:=ie (kJ k3.1 k3.2);have k5:I64 (c.legs.length:Int):=by unfold I64;omega
 have u5:=ie (kJ k5.1 k5.2);refine Tri.bd ?_;refine G.ent ((Ent.dup (Kn c).pers).trans yP) ?_;simp only[eW];refine Ks ?_;intros;rename_i bc bw;refine GO.ent (Ent.trans (B:=wrL bw [] ⟨none,0,0⟩ (obj bc tCt (eW c)::isl bA 5 c.lad c.legs::allP legP c.legs::isl (encZ .i64) 1 c.fad c.flows::ctP c::L)) ((Ent.c8 (encZ .u8) 1 5).trans (by simp only[wrL,bz,eW];exact ah)) (oa ⟨none,0,0⟩)) ?_;refine GO.ca (lP bw [] c.kind k1.1 k1.2 (aw _)) ?_;rintro _ _ rfl;rw[ak];simp only[eW];refine Ks ?_;intros;refine GO.ca (lP bw (uv (zz c.kind)) c.id k2.1 k2.2 (aP u1 ae)) ?_;rintro _ _ rfl;refine Ks ?_;intros;have x2:(uv (zz c.kind)++uv (zz c.id)).length≤20:=by rw[aj];exact Nat.add_le_add u1 u2
 refine GO.ca (lP bw (uv (zz c.kind)++uv (zz c.id)) c.index k3.1 k3.2 (aP x2 ae)) ?_;rintro _ _ rfl;refine Ks ?_;intros;have x3:(uv (zz c.kind)++uv (zz c.id)++uv (zz c.index)).length≤30:=by rw[aj];exact Nat.add_le_add x2 u3
 generalize hX3:uv (zz c.kind)++uv (zz c.id)++uv (zz c.index)=X3 at *;refine GO.ca (Cf bw X3 c.yes ab) ?_;rintro _ _ rfl;refine Ks ?_;intros;have x4:(X3++[if c.yes=true then 1 else 0]).length≤31:=by rw[aj];exact Nat.add_le_add x3 (aq 1)
 generalize hX4:X3++[if c.yes=true then 1 else 0]=X4 at *;refine GO.ca (lP bw X4 (c.legs.length:Int) k5.1 k5.2 ab) ?_;rintro _ _ rfl;refine Ks ?_;intros;have x5:(X4++uv (zz c.legs.length)).length≤41:=by rw[aj];exact Nat.add_le_add x4 u5
 generalize hX5:X4++uv (zz (c.legs.length:Int))=X5 at *;have a2:c.m.legs=c.legs.map (·.m):=rfl;refine G.loop (α:=Nat) (fun i=>i≤c.legs.length) (fun i=>[(1,ax bc),(3,ax bw),(33,ag c.lad c.legs.length c.lcap),(34,ac (c.legs.length:Int)),(35,ac (i:Int))]) (fun i=>WrR bw (X5++(c.m.legs.take i).flatMap fun l=>isB (dy l))::obj bc tCt [ac c.kind,ac c.id,ac c.index,.bool c.yes,ag c.lad c.legs.length c.lcap,ag c.fad c.flows.length c.fcap]::isl bA 5 c.lad c.legs::allP legP c.legs::isl (encZ .i64) 1 c.fad c.flows::ctP c::L) (fun i=>c.legs.length - i) 0 (aw _) aC (by rw[aR,cW,aH];exact Ent.refl _) ?_;intro i hi;have a3:=nz (ls:=c.m.legs.take i) (fun x hx=>b0 x (bF hx));rw[aK] at a3;by_cases a1:i<c.legs.length
 case neg =>
  rw[aD (by rw[a2,an];omega)] at a3 ⊢
  have hW:X5++(c.m.legs.flatMap fun l=>isB (dy l))++uv c.flows.length++ivs c.flows=ctB c.m:=by
   rw[←hX5,←hX4,←hX3];unfold ctB;rw[show c.m.legs.length=c.legs.length by rw[a2,an]];simp only[isB,aB];rfl
  have a0:∀f∈c.flows,I64 f:=b4;have c0:c.m.legs.length≤32:=hl
  have b3:(X5++(c.m.legs.flatMap fun l=>isB (dy l))).length≤41+65600:=by
   rw[aj];have:min i c.m.legs.length≤c.m.legs.length:=Nat.min_le_right _ _;omega
  have c4:(ctB c.m).length≤1000000:=by
   have h1:=mK a0;have h2:=ie (n:=c.flows.length) ab;rw[←hW,aj,aj];omega
  refine Ks ?_;intros;refine GO.ca (sR bw (X5++(c.m.legs.flatMap fun l=>isB (dy l))) c.fad c.flows.length c.fcap c.flows rfl a0 ab) ?_;rintro _ _ rfl;rw[hW];refine Ks ?_;intros;refine GO.ca (Ce bw (ctB c.m) ab) ?_;rintro _ _⟨ad,cap,rfl,_,rfl⟩;refine Ks ?_;intros;exact KX.en ⟨ad,cap,rfl,rfl⟩
 have b5:(i:Int).toNat=i:=ab;have a5:=aV a1;have a6:c.m.legs[i]! = c.legs[i]!.m:=iZ (fun l:LegV=>l.m) a1;have c3:lM c.legs[i]!.m:=b0 _ (by rw[←a6];exact aV (by rw[a2,an];exact a1));obtain⟨⟨g1,g2,g3,g4⟩,g5,g6⟩:=c3;refine G.ent (Ent.at (A:=allP legP c.legs) (Ent.c9 (f:=legP) a5)) ?_;obtain⟨l,a9⟩:∃l,c.legs[i]! = l:=⟨_,rfl⟩;have b9:c.legs[(i:Int).toNat]! = l:=by rw[b5];exact a9
 rw[a9] at g1 g2 g3 g4 g5 g6 a6 ⊢;refine Ks ?_;intros;rw[b9];rename_i bl bn;refine G.loop (α:=Nat×OA×Nat) (fun g=>g.1≤l.m.am.length) (fun g=>[(1,ax bc),(3,ax bw),(33,ag c.lad c.legs.length c.lcap),(34,ac (c.legs.length:Int)),(35,ac (i:Int)),(6,ag g.2.1 (nsT l.m g.1).length g.2.2),(49,ag l.ad l.m.am.length l.cap),(50,ac (l.m.am.length:Int)),(51,ac (g.1:Int))]) (fun g=>osl (encZ .i64) 1 tInt g.2.1 g.2.2 (nsT l.m g.1)::legP l::allP legP c.legs::WrR bw (X5++(c.m.legs.take i).flatMap fun l=>isB (dy l))::obj bc tCt [ac c.kind,ac c.id,ac c.index,.bool c.yes,ag c.lad c.legs.length c.lcap,ag c.fad c.flows.length c.fcap]::isl bA 5 c.lad c.legs::isl (encZ .i64) 1 c.fad c.flows::ctP c::L) (fun g=>l.m.am.length - g.1) (0,some ⟨bn,0,none⟩,4) (aw _) aC ?_ ?_
 ·refine(Ent.f7 (enc:=encZ .i64) (sz:=1) (xs:=nsT l.m 0) (n:=4) rfl rfl (fun _ _=>rfl) ae).trans ?_;exact ah
 rintro⟨j,nad,ncap⟩ hj;dsimp only at hj ⊢;have c2:=IE l.m hj;by_cases b8:j<l.m.am.length
 case neg =>
  have b6:j=l.m.am.length:=ab;subst b6;rw[IF] at c2 ⊢;have c1:∀x∈dy l.m,I64 x:=qj ⟨⟨g1,g2,g3,g4⟩,g5,g6⟩
  have b3:(X5++((c.m.legs.take i).flatMap fun l=>isB (dy l))).length≤41+65600:=by
   rw[aj];have:min i c.m.legs.length≤c.m.legs.length:=Nat.min_le_right _ _;omega
  refine Ks ?_;intros;refine GO.ent (L':=WrR bw (X5++(c.m.legs.take i).flatMap fun l=>isB (dy l))::osl (encZ .i64) 1 tInt nad ncap (dy l.m)::legP l::allP legP c.legs::obj bc tCt [ac c.kind,ac c.id,ac c.index,.bool c.yes,ag c.lad c.legs.length c.lcap,ag c.fad c.flows.length c.fcap]::isl bA 5 c.lad c.legs::isl (encZ .i64) 1 c.fad c.flows::ctP c::L) ah ?_;refine GO.ca (sR bw (X5++(c.m.legs.take i).flatMap fun l=>isB (dy l)) nad (dy l.m).length ncap (dy l.m) rfl c1 ab) ?_;rintro _ _ rfl;refine Ks ?_;intros;refine⟨i+1,ab,ab,?_,?_⟩
  ·rw[bh i];exact aC
  ·rw[az (by rw[a2,an];exact a1),cl,←getElem!_of (by rw[a2,an];exact a1),a6,aO,cW,aH,←aB X5];refine Ent.trans (B:=WrR bw (X5++((c.m.legs.take i).flatMap fun l=>isB (dy l))++uv (dy l.m).length++ivs (dy l.m))::obj bc tCt [ac c.kind,ac c.id,ac c.index,.bool c.yes,ag c.lad c.legs.length c.lcap,ag c.fad c.flows.length c.fcap]::isl bA 5 c.lad c.legs::allP legP c.legs::isl (encZ .i64) 1 c.fad c.flows::ctP c::L) ah ?_;rw[show X5++((c.m.legs.take i).flatMap fun l=>isB (dy l))++uv (dy l.m).length++ivs (dy l.m)=X5++((c.m.legs.take i).flatMap fun l=>isB (dy l))++isB (dy l.m) by simp only[isB,aB]];exact Ent.refl _
 have b7:(j:Int).toNat=j:=ab;refine Ks ?_;intros;rename_i ba b2;rw[b7];refine GO.ent ((Ent.f7 (enc:=encZ .i64) (sz:=1) (xs:=[l.m.am[j]!.1,l.m.am[j]!.2]) (n:=2) rfl rfl (fun _ _=>rfl) ae).trans (Ent.freezeSl.trans ah)) ?_;refine GO.ef (Ef.d7 (ys:=[l.m.am[j]!.1,l.m.am[j]!.2]) rfl rfl rfl rfl rfl (fun e _=>iu _ e) gJ gJ) ae ?_;rintro _ _⟨b1,a4,rfl,rfl⟩;rw[←GV l.m b8];refine Ks ?_;intros;refine⟨(j+1,b1,a4),by dsimp only;omega,by dsimp only;omega,?_,by exact ah⟩;dsimp only;rw[bh j];exact aC
end
section
open Go.V
def Jo(n:Nat):1≤(uv n).length:=by
 by_cases h:n<128
 ·rw[lp h];exact aq _
 ·rw[pL h];simp
def Fr:∀l:List Int,l.length≤(ivs l).length
 | []=>aq _
 | n::l=>by
  have h1:=Fr l;have h2:=Jo (zz n);show l.length+1≤(uv (zz n)++ivs l).length;rw[aj];omega
def rZ(l:List Int):iF (ivs l):=fun x hx=>by
 obtain⟨n,_,h⟩:=List.mem_flatMap.1 hx;exact lq _ x h
def Hi(n:Int)(l:List Int):ivs (n::l)=uv (zz n)++ivs l:=rfl
def iW{a b:List Int}(ha:iF a)(hb:iF b):iF (a++b):=fun x hx=>(List.mem_append.1 hx).elim (ha x) (hb x)
attribute [local irreducible] G GO GP GPW GPK GF GE Ev Ef EfR Ent CB GB V.Enters
def Cv{L:LH}(b:Nat)(ys t:List Int)(hy:∀y∈ys,I64 y)(ht:iF t)(hm:ys.length≤100000)(hl:t.length≤10000000) :
  Tri Tryz.prog 283 #[ax b,.func (.func 198) #[ax b] #[]] (RdR b (uv ys.length++(ivs ys++t)) 0::L)
   (fun v L'=>∃ad cap,v=ag ad ys.length cap∧L' = osl (encZ .i64) 1 3 ad cap ys::RdR b t 0::L):=by
 have a9:=Fr ys;have b1:=mK hy;refine Tri.bd ?_;refine Ks ?_;intros;refine GO.cr (tn b (uv ys.length++(ivs ys++t)) 0 (iW (lq _) (iW (rZ _) ht))) ?_;rw[xd (ab:ys.length<18446744073709551616)];dsimp only;have a3:ys.length≤(ivs ys++t).length∧(ivs ys++t).length≤20000000:=by rw[aj];omega
 obtain⟨a3,b3⟩:=a3;refine GO.c8 (f:=fun x=>rdL b (ivs ys++t) 0 x []) ?_;intro x;simp only[al,ak];refine GO.d7 ?_;intro a2;refine Ks ?_;intros;refine GO.ef (Ef.l8 (encZ .i64) rfl rfl ab ab ab) ae ?_;rintro _ _⟨mb,rfl,rfl⟩;refine Ks ?_;intros;refine G.loop (α:=Nat×SlV) (fun g=>g.1≤ys.length) (fun g=>[(0,ax b),(1,.func (.func 198) #[ax b] #[]),(6,ag g.2.ad (ys.take g.1).length g.2.cap),(29,ac (ys.length:Int)),(30,ac (g.1:Int))]) (fun g=>osl (encZ .i64) 1 3 g.2.ad g.2.cap (ys.take g.1)::RdR b (ivs (ys.drop g.1)++t) 0::L) (fun g=>ys.length - g.1) (0,⟨some ⟨mb,0,none⟩,0,(ys.length:Int).toNat⟩) (aw _) aC (Ent.a8 (gD x a2)) ?_;rintro⟨i,y⟩ hi;dsimp only at hi ⊢;have b4:(ys.take i).length=i:=by rw[aK];omega
 by_cases hin:i<ys.length
 case neg =>
  have b0:i=ys.length:=ab;rw[aD ab,bQ ab];refine Ks ?_;intros;exact KX.en ⟨y.ad,y.cap,rfl,rfl⟩
 have a6:ys.drop i=ys[i]!::ys.drop (i+1):=jl hin;have a7:=hy _ (aV hin);have a5:iF (ivs (ys.drop (i+1))++t):=iW (rZ _) ht
 have b2:(ivs (ys.drop (i+1))++t).length≤20000000:=by
  have h1:=mK (l:=ys.drop (i+1)) (fun x hx=>hy x (cG hx));rw[bY] at h1;rw[aj];omega
 rw[a6,Hi,aB];refine Ks ?_;intros;refine GO.ef (Ef.l5 (vs:=[]) (first:=[ax b]) (cap:=[]) (kM (L:=[]) b ys[i]! (ivs (ys.drop (i+1))++t) a7 a5) rfl rfl (Ent.perm (List.Perm.swap _ _ _))) ae ?_;rintro _ _⟨_,⟨rfl,rfl⟩,hL⟩;simp only[al,ak] at hL;subst hL;refine Ks ?_;intros;refine GO.ef (Ef.a8 (e:=ys[i]!) rfl rfl rfl rfl rfl aQ (iu _ _) ab ab) ae ?_;rintro _ _⟨a4,a1,rfl,rfl⟩;rw[getElem!_of hin,←az hin];refine Ks ?_;intros;refine GO.ent (Ent.at (A:=RdR b (ivs (ys.drop (i+1))++t) 0) (Ent.refl _)) ?_;refine GO.c8 (f:=fun x=>rdL b (ivs (ys.drop (i+1))++t) 0 x []) ?_;intro x2;simp only[al,ak];refine GO.d7 ?_;intro a0;refine Ks ?_;intros;refine⟨(i+1,⟨a4,0,a1⟩),by dsimp only;omega,by dsimp only;omega,?_,?_⟩
 ·dsimp only;rw[show(((i+1:Nat)):Int)=(i:Int)+1 by omega];exact aC
 ·dsimp only;refine(gD x2 a0).trans ?_;exact ah
def tq{L:LH}(b:Nat)(ys t:List Int)(hy:∀y∈ys,I64 y)(ht:iF t)(hm:ys.length≤100000)(hl:t.length≤10000000) :
  Tri Tryz.prog 200 #[ax b] (RdR b (uv ys.length++(ivs ys++t)) 0::L)
   (fun v L'=>∃ad cap,v=ag ad ys.length cap∧L' = osl (encZ .i64) 1 3 ad cap ys::RdR b t 0::L):=by
 refine Tri.bd ?_;refine Ks ?_;intros;refine GO.ca (Cv b ys t hy ht hm hl) ?_;rintro _ _⟨ad,cap,rfl,rfl⟩;refine Ks ?_;intros;exact KX.en ⟨ad,cap,rfl,rfl⟩
end
section
open Go.V
def yc(l:List Int):iF (isB l):=iW (lq _) (rZ _)
def tF(ls:List LegM):iF (ls.flatMap fun l=>isB (dy l)):=fun x hx=>by
 obtain⟨l,_,h⟩:=List.mem_flatMap.1 hx;exact yc _ x h
def Ga(m:CtM):ctB m=uv (zz m.kind)++(uv (zz m.id)++(uv (zz m.index)++((if m.yes=true then 1 else 0)::(uv (zz m.legs.length)++((m.legs.flatMap fun l=>isB (dy l))++isB m.flows))))):=by
 unfold ctB;simp only[aB,al,ak]
def FH{am:List (Int×Int)}:∀{j:Nat},j<am.length→(am.flatMap fun a=>[a.1,a.2])[2*j]! = am[j]!.1∧(am.flatMap fun a=>[a.1,a.2])[2*j+1]! = am[j]!.2:=by
 induction am with
 | nil=>intro j h;exact absurd h (fN _)
 | cons a t ih =>
  intro j h;rw[aO];cases j with
  | zero=>exact⟨rfl,rfl⟩
  | succ j =>
   have:=ih (j:=j) (by rw[aM] at h;omega)
   rw[show 2*(j+1)=2*j+2 by omega,show 2*j+2+1=(2*j+1)+2 by omega];exact this
def Fj{l:LegM}{j:Nat}(h:j<l.am.length):(dy l)[4+2*j]! = l.am[j]!.1∧(dy l)[4+2*j+1]! = l.am[j]!.2:=by
 have:=FH h
 unfold dy;rw[show 4+2*j=2*j+4 by omega,show 2*j+4+1=(2*j+1)+4 by omega];exact this
attribute [local irreducible] G GO GP GPW GPK GF GE Ev Ef EfR Ent CB GB V.Enters
abbrev xF:=XE [.ef 13,.ef 14]
abbrev xE:=XD [.ev 10,.ev 11,.ef 12,.ef 13,.ev 14,.ef 15]
abbrev xD:List Stp:=[.ev 0,.ev 1,.ef 2,.ev 3,.ef 4,.ev 5]
def KK{φ ψ:Prop}(k:ψ)(h:Hid ψ→φ:=by intro k;(repeat (first|refine aa ?_|intro zzz|refine G.dr 93 11 xF ?_|refine G.dr 93 15 xE ?_|refine G.dr 93 19 xD ?_));(repeat revert zzz);exact Hid.out k):φ:=h ⟨k⟩
def AP{L:LH}(ad:OA)(n c:Nat)(m:CtM)(hm:CtOk m)[hrd:Rds L ad Int (encZ .u8) 1 (ctB m)](hn:n=(ctB m).length) :
  Tri Tryz.prog 143 #[ag ad n c] L (fun v L'=>∃c',v=.tuple #[aU (eW c'),.bool true]∧c'.m=m∧L' = ctP c'::L):=by
 subst hn;obtain⟨⟨k1,k2,k3⟩,hl,a9,d2,b9⟩:=hm;have k5:I64 (m.legs.length:Int):=by unfold I64;omega
 have u1:=ie (kJ k1.1 k1.2);have u2:=ie (kJ k2.1 k2.2);have u3:=ie (kJ k3.1 k3.2);have u5:=ie (kJ k5.1 k5.2);have hL:=nz a9;have hF:=BE b9 ab
 have d1:(ctB m).length≤1000000:=by
  rw[Ga];simp only[aj,aM];omega
 have b0:=yc m.flows;have b1:=iW (tF m.legs) b0;have b2:=iW (lq (zz m.legs.length)) b1
 have b3:iF ((if m.yes=true then 1 else 0)::(uv (zz m.legs.length)++((m.legs.flatMap fun l=>isB (dy l))++isB m.flows))):=fun x hx=>by
  rcases List.mem_cons.1 hx with rfl|q
  ·split<;>omega
  ·exact b2 x q
 have b4:=iW (lq (zz m.index)) b3;have b5:=iW (lq (zz m.id)) b4;refine Tri.bd ?_;refine KK ?_;intros;refine GO.ca (EJ ad (ctB m).length c (ctB m) rfl ab) ?_;rintro _ _⟨br,rfl,rfl⟩;rw[Ga];refine KK ?_;intros;refine GO.cr (kM br m.kind _ k1 b5) ?_;refine KK ?_;intros;refine GO.cr (kM br m.id _ k2 b4) ?_;refine KK ?_;intros;refine GO.cr (kM br m.index _ k3 b3) ?_;refine KK ?_;intros;refine GO.cr (zy br m.yes _) ?_;refine KK ?_;intros;rename_i a2 bc;refine GO.ent (Ent.at (A:=RdR br (uv (zz m.legs.length)++((m.legs.flatMap fun l=>isB (dy l))++isB m.flows)) 0) (Ent.refl _)) ?_;refine GO.cr (kM br (m.legs.length:Int) _ k5 b1) ?_;refine KK ?_;intros;refine G.loop (α:=Nat×List LegV×OA×Nat) (fun g=>g.1≤m.legs.length∧g.2.1.map (·.m)=m.legs.take g.1) (fun g=>[(2,ax a2),(4,ax br),(5,ax bc),(6,ac (m.legs.length:Int)),(30,ac (m.legs.length:Int)),(31,ac (g.1:Int))]) (fun g=>RdR br ((m.legs.drop g.1).flatMap (fun l=>isB (dy l))++isB m.flows) 0::obj bc tCt [ac m.kind,ac m.id,ac m.index,.bool m.yes,ag g.2.2.1 g.2.1.length g.2.2.2,ag none 0 0]::osl bA 5 tLeg g.2.2.1 g.2.2.2 g.2.1::allP legP g.2.1::obj a2 tCt [ac 0,ac 0,ac 0,.bool false,ag none 0 0,ag none 0 0]::L) (fun g=>m.legs.length - g.1) (0,[],none,0) ⟨aw _,rfl⟩ aC ?_ ?_
 ·dsimp only;rw[List.drop_zero,bz];refine(Ent.c8 bA 5 tLeg).trans ((Ent.c7 legP).trans ?_);exact ah
 rintro⟨i,vs,lad,lcap⟩ ⟨hi,a5⟩;dsimp only at hi a5 ⊢
 have d3:vs.length=i:=by
  have:=congrArg List.length a5
  rw[an,aK] at this;omega
 by_cases a6:i<m.legs.length
 case neg =>
  rw[aD ab] at a5;rw[bQ ab,cW,ak];refine KK ?_;intros;refine GO.ent (L':=RdR br (uv m.flows.length++(ivs m.flows++[])) 0::(obj bc tCt [ac m.kind,ac m.id,ac m.index,.bool m.yes,ag lad vs.length lcap,ag none 0 0]::osl bA 5 tLeg lad lcap vs::allP legP vs::obj a2 tCt [ac 0,ac 0,ac 0,.bool false,ag none 0 0,ag none 0 0]::L)) (by rw[aH];show Ent (RdR br (isB m.flows) 0::_) (RdR br (isB m.flows) 0::_);exact ah) ?_;refine GO.ca (tq br m.flows [] b9 (fun _ h=>absurd h ay) ab (aw _)) ?_;rintro _ _⟨fad,fcap,rfl,rfl⟩;refine KK ?_;intros;refine GPW.ent (L':=RdR br [] 0::(obj bc tCt [ac m.kind,ac m.id,ac m.index,.bool m.yes,ag lad vs.length lcap,ag fad m.flows.length fcap]::osl (encZ .i64) 1 tInt fad fcap m.flows::osl bA 5 tLeg lad lcap vs::allP legP vs::obj a2 tCt [ac 0,ac 0,ac 0,.bool false,ag none 0 0,ag none 0 0]::L)) ah ?_;refine GPW.cr (EM br [] 0) ?_;rw[if_neg cc,if_pos rfl];refine KK ?_;intros;refine KX.a8 (by exact ResOk.cell rfl aQ (ResOk.tmp rfl (ResOk.nil))) ?_ ⟨⟨m.kind,m.id,m.index,m.yes,vs,lad,lcap,m.flows,fad,fcap⟩,by rw[bE rfl];rfl,by unfold CtV.m;dsimp only;rw[a5],rfl⟩;refine(Ent.at (A:=osl bA 5 tLeg lad lcap vs) Ent.freezeSl).trans ?_;refine(Ent.at (A:=osl (encZ .i64) 1 tInt fad fcap m.flows) Ent.freezeSl).trans ?_;refine Ent.trans (B:=allP legP vs::isl (encZ .i64) 1 fad m.flows::isl bA 5 lad vs::L) ah ?_;exact(Ent.f8 (cH fC) (bO _ _ _ _)).trans (Ent.swap.trans (Ent.f8 (bO _ _ _ _) (PersM.and (cH fC) (bO _ _ _ _))))
 have c6:=aV a6;have b7:=a9 _ c6;have c4:iF ((m.legs.drop (i+1)).flatMap (fun l=>isB (dy l))++isB m.flows):=iW (tF _) b0;have b6:=nz (ls:=m.legs.drop (i+1)) (fun x hx=>a9 x (cG hx));rw[bY] at b6;have c1:=qi m.legs[i]!;have hI:=qj b7;have c2:=b7.2.1;rw[jl a6,aO,aB,show isB (dy m.legs[i]!)=uv (dy m.legs[i]!).length++ivs (dy m.legs[i]!) from rfl,aB];refine KK ?_;intros;refine GO.ca (tq br (dy m.legs[i]!) _ hI c4 ab (by rw[aj];omega)) ?_;rintro _ _⟨nad,ncap,rfl,rfl⟩;obtain⟨l,c0⟩:∃l,m.legs[i]! = l:=⟨_,rfl⟩;rw[c0] at c1 hI c2 b7 ⊢;refine KK ?_;intros;rename_i b8;have e0:(dy l)[Int.toNat 0]! = l.sh:=rfl;have e1:(dy l)[Int.toNat 1]! = l.fr:=rfl;have e2:(dy l)[Int.toNat 2]! = l.ts:=rfl;have e3:(dy l)[Int.toNat 3]! = l.to:=rfl;simp only[e0,e1,e2,e3];refine G.loop (α:=Nat×OA×Nat) (fun g=>g.1≤l.am.length) (fun g=>[(2,ax a2),(4,ax br),(5,ax bc),(6,ac (m.legs.length:Int)),(30,ac (m.legs.length:Int)),(31,ac (i:Int)),(7,ag nad (dy l).length ncap),(8,ax b8),(9,ac (4+2*(g.1:Int)))]) (fun g=>obj b8 tLeg [ac l.sh,ac l.fr,ac l.ts,ac l.to,ag g.2.1 (l.am.take g.1).length g.2.2]::osl cy 2 tAm g.2.1 g.2.2 (l.am.take g.1)::osl (encZ .i64) 1 tInt nad ncap (dy l)::RdR br ((m.legs.drop (i+1)).flatMap (fun l=>isB (dy l))++isB m.flows) 0::obj bc tCt [ac m.kind,ac m.id,ac m.index,.bool m.yes,ag lad vs.length lcap,ag none 0 0]::osl bA 5 tLeg lad lcap vs::allP legP vs::obj a2 tCt [ac 0,ac 0,ac 0,.bool false,ag none 0 0,ag none 0 0]::L) (fun g=>l.am.length - g.1) (0,none,0) (aw _) aC ?_ ?_
 ·dsimp only;rw[aR,bz];refine(Ent.c8 cy 2 tAm).trans ?_;exact ah
 rintro⟨j,a3,a0⟩ hj;dsimp only at hj ⊢;have d0:(l.am.take j).length=j:=by rw[aK];omega
 by_cases a7:j<l.am.length
 case neg =>
  have c5:j=l.am.length:=ab;subst c5;rw[cC] at d0 ⊢;refine KK ?_;intros;refine GO.ef (Ef.a8 (enc:=bA) (e:=(⟨l,a3,a0⟩:LegV)) rfl rfl rfl rfl rfl aQ (ld _) ab ab) ae ?_;rintro _ _⟨a4,a1,rfl,rfl⟩;refine KK ?_;intros;refine⟨(i+1,vs++[⟨l,a3,a0⟩],a4,a1),⟨by dsimp only;omega,by dsimp only;rw[aJ,a5,az a6,←getElem!_of a6,c0];rfl⟩,by dsimp only;omega,?_,?_⟩
  ·dsimp only;rw[bh i];exact aC
  ·dsimp only;refine(Ent.at (A:=osl cy 2 tAm a3 a0 l.am) Ent.freezeSl).trans ?_;refine Ent.trans (B:=legP ⟨l,a3,a0⟩::allP legP vs::osl bA 5 tLeg a4 a1 (vs++[⟨l,a3,a0⟩])::RdR br ((m.legs.drop (i+1)).flatMap (fun l=>isB (dy l))++isB m.flows) 0::obj bc tCt [ac m.kind,ac m.id,ac m.index,.bool m.yes,ag a4 (vs++[(⟨l,a3,a0⟩:LegV)]).length a1,ag none 0 0]::obj a2 tCt [ac 0,ac 0,ac 0,.bool false,ag none 0 0,ag none 0 0]::L) ah ?_;exact(Ent.d8 (f:=legP) fC).trans (Ent.swap.trans ((Ent.d7 (f:=legP) fC).trans ah))
 obtain⟨q1,q2⟩:=Fj a7;have i1:(4+2*(j:Int)).toNat=4+2*j:=ab;have i2:(4+2*(j:Int)+1).toNat=4+2*j+1:=ab;have c3:l.am.take (j+1)=l.am.take j++[((dy l)[(4+2*(j:Int)).toNat]!,(dy l)[(4+2*(j:Int)+1).toNat]!)]:=by rw[i1,i2,q1,q2,az a7,getElem!_of a7]
 refine KK ?_;intros;refine GPW.ef (Ef.a8 (enc:=cy) (e:=((dy l)[(4+2*(j:Int)).toNat]!,(dy l)[(4+2*(j:Int)+1).toNat]!)) rfl rfl rfl rfl rfl aQ (kI _) ab ab) ae ?_;rintro _ _⟨a4,a1,rfl,rfl⟩;rw[←c3];refine KK ?_;intros;refine⟨(j+1,a4,a1),by dsimp only;omega,by dsimp only;omega,?_,by exact ah⟩;dsimp only;rw[show(4+2*((j+1:Nat):Int))=4+2*(j:Int)+2 by omega];exact aC
end
section
open Go.V
attribute [local irreducible] G GO GP GPW GPK Ev Ef EfR Ent CB GB Enters
structure FlM where
 id:Int
 step:Int
 kind:Int
 tick:Int
 actor:Int
 frm:Int
 to:Int
 item:Int
 n:Int
 parts:LL
 made:List Int
 deriving Inhabited,DecidableEq
structure FlV where
 m:FlM
 pad:OA
 pcap:Nat
 mad:OA
 mcap:Nat
 deriving Inhabited
def dT(f:FlV):LV:=[ac f.m.id,ac f.m.step,ac f.m.kind,ac f.m.tick,ac f.m.actor,ac f.m.frm,ac f.m.to,ac f.m.item,ac f.m.n,ag f.pad f.m.parts.length f.pcap,ag f.mad f.m.made.length f.mcap]
def lW(t:FlV):∀u∈dT t,u.oneCell' = true:=by simp[dT,Value.oneCell']
instance:EncC dT:=⟨lW⟩
def flP(f:FlV):HP:=andP (isl aG 3 f.pad f.m.parts) (isl (encZ .i64) 1 f.mad f.m.made)
def tP(f:FlV):PersM (flP f):=(bO _ _ _ _).and (bO _ _ _ _)
def iO(s:StV):HP:=andP (stM s) (stP s)
def qQ(s:StV):PersM (iO s):=(Cp s).and (cH kl)
structure LedM where
 shard:Int
 cat:CatM
 stk:Int→Int→LL
 tot:Int→Int
 steps:List StM
 flows:List FlM
 imp:Int→LL
 ret:Int→LL
structure LedX where
 cat:CatV
 ms:Nat
 mt:Nat
 mi:Nat
 mr:Nat
 stk:List ((Int×Int)×Stk)
 tot:List (Int×Int)
 imp:List (Int×Stk)
 ret:List (Int×Stk)
 steps:List StV
 sad:OA
 scap:Nat
 flows:List FlV
 fad:OA
 fcap:Nat
abbrev tLed:Nat:=130
abbrev ik:Nat:=87
abbrev fQ:Nat:=45
def gI{κ:Type}[DecidableEq κ](m:List (κ×Stk))(k:κ):Stk:=(glk m k).getD ⟨none,0,[]⟩
structure LedF (S:LedM) (x:LedX):Prop where
 cat:x.cat.m=S.cat
 catB:x.cat.B
 stk:∀a i,(gI x.stk (a,i)).lots=S.stk a i
 full:∀p∈x.stk,p.2.lots≠[]
 tot:∀i,(glk x.tot i).getD 0=S.tot i
 steps:x.steps.map StV.m=S.steps
 flows:x.flows.map (·.m)=S.flows
 imp:∀i,(gI x.imp i).lots=S.imp i
 ret:∀i,(gI x.ret i).lots=S.ret i
structure LedM.Ok (S:LedM):Prop where
 shard:0≤S.shard∧S.shard<12
 steps:S.steps.length≤65536
 flows:S.flows.length≤64*S.steps.length
 stk:∀a i,(S.stk a i).length≤4096∧∀l∈S.stk a i,LotOk l
 tot:∀i,-((S.flows.length:Int)*1099511627776)≤S.tot i∧S.tot i≤1099511627776
abbrev bW(sh:Int)(x:LedX):LV:=[ac sh,ag x.cat.iad x.cat.items.length x.cat.icap,ag x.cat.rad x.cat.rules.length x.cat.rcap,ag x.cat.tad x.cat.tables.length x.cat.tcap,ag x.cat.xad x.cat.taxes.length x.cat.xcap,.map (some x.ms),.map (some x.mt),ag x.sad x.steps.length x.scap,ag x.fad x.flows.length x.fcap,.map (some x.mi),.map (some x.mr)]
abbrev ledL(b:Nat)(sh:Int)(x:LedX)(L:LH):LH :=
 obj b tLed (bW sh x)::gmap kvP Stk.v x.ms x.stk::gmap kvI encN x.mt x.tot::asl dQ 7 ik x.sad x.scap x.steps::asl dT 11 fQ x.fad x.fcap x.flows::gmap kvI Stk.v x.mi x.imp::gmap kvI Stk.v x.mr x.ret::catP x.cat::allP (fun p:(Int×Int)×Stk=>stkP p.2) x.stk::allP iO x.steps::allP flP x.flows::allP (fun p:Int×Stk=>stkP p.2) x.imp::allP (fun p:Int×Stk=>stkP p.2) x.ret::L
def led0(sh:Int)(c:CatM):LedM:=⟨sh,c,fun _ _=>[],fun _=>0,[],[],fun _=>[],fun _=>[]⟩
def LedM.now(S:LedM):Int:=(S.steps.getLast?.map (·.tick)).getD 0
abbrev CC:=XE [.ev 13]
def Lb{φ ψ:Prop}(k:ψ)(h:Hid ψ→φ:=by intro k;(repeat (first|refine aa ?_|intro zzz|refine G.dr 22 3 CC ?_));(repeat revert zzz);exact Hid.out k):φ:=h ⟨k⟩
def Fh{L R:LH}{b:Nat}{sh:Int}{x:LedX}[hp:PickObj L b tLed (bW sh x) R][hr:Rds L x.sad StV dQ 7 x.steps](hl:x.steps.length≤100000) :
  Tri Tryz.prog 189 #[ax b] L (rtQ (ac ((x.steps.getLast?.map (·.tick)).getD 0)) L):=by
 refine Tri.bd ?_;by_cases h0:x.steps.length=0
 ·refine Lb ?_;intros;exact KX.a8 aA (Ent.refl _) ⟨by rw[aZ h0];rfl,rfl⟩
 ·refine Lb ?_;intros;refine KX.a8 aA (Ent.refl _) ⟨?_,rfl⟩
  have e:x.steps.getLast? = some x.steps[((x.steps.length:Int) - 1).toNat]!:=by
   rw[show((x.steps.length:Int) - 1).toNat=x.steps.length - 1 by omega,List.getLast?_eq_getElem?,getElem!_of ab,List.getElem?_eq_getElem]
  rw[e];rfl
def accP(n:Int):Prop:=0≤n∧n≤1073741824
instance:DecidablePred accP:=fun n=>by unfold accP;infer_instance
def oY{L:LH}(n:Int):Tri Tryz.prog 188 #[ac n] L (rtQ (.bool (dB (accP n))) L):=by
 refine Tri.bd ?_;by_cases h1:0≤n
 ·by_cases h2:n≤1073741824
  ·refine Ks ?_;intros;exact KX.a8 aA (Ent.refl _) ⟨by rw[bE h2,bE (show accP n from⟨h1,h2⟩)];rfl,rfl⟩
  ·refine Ks ?_;intros;exact KX.a8 aA (Ent.refl _) ⟨by rw[aW h2,aW (fun h:accP n=>h2 h.2)];rfl,rfl⟩
 ·refine Ks ?_;intros;exact KX.a8 aA (Ent.refl _) ⟨by rw[aW (fun h:accP n=>h1 h.1)];rfl,rfl⟩
def Asks(f:FuncId)(p:Int→Bool):Prop:=∀(n:Int) (L:LH),Tri Tryz.prog f #[ac n] L (rtQ (.bool (p n)) L)
def nP:Asks 269 (fun n=>dB (n=0)):=by
 intro n L;refine Tri.bd (args:=[ac n]) ?_;refine Ks ?_;intros;exact KX.en ⟨rfl,rfl⟩
def gW:Asks 270 (fun n=>dB (¬n=0)):=by
 intro n L;refine Tri.bd (args:=[ac n]) ?_;refine Ks ?_;intros;exact KX.en ⟨rfl,rfl⟩
def mM:Asks 272 (fun _=>true):=by
 intro n L;refine Tri.bd (args:=[ac n]) ?_;refine Ks ?_;intros;exact KX.en ⟨rfl,rfl⟩
