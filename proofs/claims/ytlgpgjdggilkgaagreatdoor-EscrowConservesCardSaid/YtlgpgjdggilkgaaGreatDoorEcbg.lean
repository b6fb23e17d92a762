/- Exchanges: all legs of a part worked off; the handler of decisions. -/
import Derived.Test.YtlgpgjdggilkgaaGreatDoorEcbf
set_option linter.all false
set_option maxHeartbeats 8000000
namespace Go.Proofs.YtlgpgjdggilkgaaGreatDoor
open Go.V
noncomputable def cN(sh id pst hold tick:Int):List OwM→LedM→List MsM×List OwM×LedM
 | [],S=>([],[],S)
 | o::os,S=>((ee sh id pst hold tick o S).1++(cN sh id pst hold tick os (ee sh id pst hold tick o S).2.2).1,(ee sh id pst hold tick o S).2.1::(cN sh id pst hold tick os (ee sh id pst hold tick o S).2.2).2.1,(cN sh id pst hold tick os (ee sh id pst hold tick o S).2.2).2.2)
def sJ(sh id pst hold tick:Int)(o:OwM):∀(os:List OwM) (S:LedM),cN sh id pst hold tick (os++[o]) S=((cN sh id pst hold tick os S).1++(ee sh id pst hold tick o (cN sh id pst hold tick os S).2.2).1,(cN sh id pst hold tick os S).2.1++[(ee sh id pst hold tick o (cN sh id pst hold tick os S).2.2).2.1],(ee sh id pst hold tick o (cN sh id pst hold tick os S).2.2).2.2)
 | [],S=>by simp only[ak,cN,aH]
 | p::os,S=>by
  rw[al];simp only[cN];rw[sJ sh id pst hold tick o os];simp only[aB,al]
def mg(sh id pst hold tick:Int)(os:List OwM)(S:LedM){i:Nat}(h:i<os.length):cN sh id pst hold tick (os.take (i+1)) S=((cN sh id pst hold tick (os.take i) S).1++(ee sh id pst hold tick os[i]! (cN sh id pst hold tick (os.take i) S).2.2).1,(cN sh id pst hold tick (os.take i) S).2.1++[(ee sh id pst hold tick os[i]! (cN sh id pst hold tick (os.take i) S).2.2).2.1],(ee sh id pst hold tick os[i]! (cN sh id pst hold tick (os.take i) S).2.2).2.2):=by
 rw[az h,sJ,getElem!_of h]
def ni(sh id pst hold tick:Int):∀(os:List OwM) (S:LedM),(cN sh id pst hold tick os S).2.1.length=os.length
 | [],S=>rfl
 | o::os,S=>by simp only[cN,aM,ni sh id pst hold tick os]
def fL(o:OwM):Nat:=if o.state=0 then o.leg.am.length else 0
def de(os:List OwM):Nat:=(os.map fL).sum
def jV(os:List OwM):∀i,de (os.take i)≤de os:=fun i=>by
 have h:=congrArg (fun l:List OwM=>(l.map fL).sum) (cK i os);simp only[aJ,ec] at h;unfold de;omega
def kz(S:LedM)(s:StM):kOf (ce S s)=if(gTry S s).1=0 then kOf S+mvK s.moves else kOf S:=by
 unfold ce;split
 ·unfold kOf;show((S.steps++[s.at (cV S)]).map fun s=>mvK s.moves).sum=_;rw[aJ,ec];simp only[aF,bG,cq,List.sum_nil];rfl
 ·rfl
def LdJ.post{sh:Int}{c:CatM}{S:LedM}(h:LdI sh c (kOf S) S)(s:StM)(hk:kOf S+mvK s.moves≤2000):LdI sh c (kOf (ce S s)) (ce S s):=by
 rw[kz];split
 ·exact h.post s hk
 ·rename_i q;rw[show ce S s=S from if_neg q];exact h
def ue{sh id pst hold tick:Int}{o:OwM}{S:LedM}{c:CatM}(hS:LdI sh c (kOf S) S)(hk:kOf S+fL o≤2000):LdI sh c (kOf (ee sh id pst hold tick o S).2.2) (ee sh id pst hold tick o S).2.2∧kOf (ee sh id pst hold tick o S).2.2+fL (ee sh id pst hold tick o S).2.1≤kOf S+fL o:=by
 by_cases h0:o.state=0
 ·have hh:fL o=o.leg.am.length:=if_pos h0
  have key:∀(kind to:Int) (o' : OwM),o'.state≠0→gOk S kind tick (mvsN hold to o.leg.am)=true→LdI sh c (kOf (gAft S kind tick (mvsN hold to o.leg.am))) (gAft S kind tick (mvsN hold to o.leg.am))∧kOf (gAft S kind tick (mvsN hold to o.leg.am))+fL o'≤kOf S+fL o:=fun kind to o' ho hg=>by
   have hm:mvK (esM kind tick (mvsN hold to o.leg.am)).moves=o.leg.am.length:=iY hold to o.leg.am;refine⟨LdJ.post hS _ (by rw[hm];omega),?_⟩;rw[kz,hm,show fL o' = 0 from if_neg ho];split<;>omega
  by_cases hB:pst=1∧o.leg.ts≠sh
  ·rw[kB h0 hB];split
   ·rename_i hg;exact key 6 0 _ (show(1:Int)≠0 by decide) hg
   ·exact⟨hS,aq _⟩
  ·obtain⟨to,ht⟩:∃to,to=if pst=2 then o.leg.fr else o.leg.to:=⟨_,rfl⟩;rw[jc h0 hB ht];split
   ·rename_i hg;exact key 2 to _ (show(2:Int)≠0 by decide) hg
   ·exact⟨hS,aq _⟩
 ·rw[jP h0];exact⟨hS,aq _⟩
def qM{sh id pst hold tick:Int}{c:CatM}:∀{os:List OwM} {S:LedM},LdI sh c (kOf S) S→kOf S+de os≤2000→LdI sh c (kOf (cN sh id pst hold tick os S).2.2) (cN sh id pst hold tick os S).2.2∧kOf (cN sh id pst hold tick os S).2.2+de (cN sh id pst hold tick os S).2.1≤kOf S+de os
 | [],S,h,hk=>⟨h,aq _⟩
 | o::os,S,h,hk=>by
  have e:de (o::os)=fL o+de os:=by unfold de;rw[aF,cq]
  have h1:=ue (id:=id) (pst:=pst) (hold:=hold) (tick:=tick) (o:=o) h ab;have h2:=qM (id:=id) (pst:=pst) (hold:=hold) (tick:=tick) (os:=os) h1.1 ab;simp only[cN];have e2:∀(a:OwM) (l:List OwM),de (a::l)=fL a+de l:=fun a l=>by unfold de;rw[aF,cq]
  refine⟨h2.1,?_⟩;rw[e2,e];omega
def ey(id:Int):Int:=id / 4294967296
noncomputable def fF(sh:Int)(m:CtM)(tick:Int)(N:NdM)(S:LedM):HRes :=
 match glk N.parts m.id with
 | none=>([⟨sh,ey m.id,ct0 4 m.id 0 false⟩],{ N with parts:=gins N.parts m.id ⟨3,0,[]⟩ },S)
 | some p =>
  if p.state=0 then((cN sh m.id (if m.yes=true then 1 else 2) p.hold tick p.legs S).1++[⟨sh,ey m.id,ct0 4 m.id 0 false⟩],{ N with parts:=gins N.parts m.id ⟨if m.yes=true then 1 else 2,p.hold,(cN sh m.id (if m.yes=true then 1 else 2) p.hold tick p.legs S).2.1⟩ },(cN sh m.id (if m.yes=true then 1 else 2) p.hold tick p.legs S).2.2)
  else([⟨sh,ey m.id,ct0 4 m.id 0 false⟩],N,S)
def gw{α β:Type}[Inhabited α][Inhabited β]{f:α→β}{l:List α}{i:Nat}(h:i<l.length):(l.map f)[i]! = f l[i]!:=by
 rw[getElem!_of (by rw[an];exact h),getElem!_of h,eC]
def lO{sh id pst hold tick:Int}{o:OwM}{S:LedM}:(ee sh id pst hold tick o S).1.length≤1:=by
 by_cases h0:o.state=0
 ·by_cases hB:pst=1∧o.leg.ts≠sh
  ·rw[kB h0 hB];split
   ·exact aq _
   ·exact aw _
  ·obtain⟨to,ht⟩:∃to,to=if pst=2 then o.leg.fr else o.leg.to:=⟨_,rfl⟩;rw[jc h0 hB ht];split<;>exact aw _
 ·rw[jP h0];exact aw _
def ox(sh id pst hold tick:Int):∀(os:List OwM) (S:LedM),(cN sh id pst hold tick os S).1.length≤os.length
 | [],_=>aq _
 | o::os,S=>by
  have h1:=ox sh id pst hold tick os (ee sh id pst hold tick o S).2.2;have h2:=lO (sh:=sh) (id:=id) (pst:=pst) (hold:=hold) (tick:=tick) (o:=o) (S:=S);simp only[cN,aj,aM];omega
structure WkIn (sh id pst hold tick:Int) (os:List OwM) (S:LedM) (i:Nat) (ys:List OwV) (ms:List MsV):Prop where
 le:i≤os.length
 len:ys.length=os.length
 ow:ys.map OwV.m=(cN sh id pst hold tick (os.take i) S).2.1++os.drop i
 ms:ms.map (·.m)=(cN sh id pst hold tick (os.take i) S).1
def WkIn.at{sh id pst hold tick:Int}{os:List OwM}{S:LedM}{i:Nat}{ys:List OwV}{ms:List MsV}(h:WkIn sh id pst hold tick os S i ys ms)(hi:i<os.length):ys[i]!.m=os[i]!:=by
 have hl:=ni sh id pst hold tick (os.take i) S;rw[aK,dp h.le] at hl;have e:=gw (f:=OwV.m) (l:=ys) (i:=i) (by rw[h.len];exact hi);rw[←e,h.ow,getElem!_of (by rw[aj,bY];omega),cM ab,fu,getElem!_of hi];congr 1;omega
def WkIn.mlen{sh id pst hold tick:Int}{os:List OwM}{S:LedM}{i:Nat}{ys:List OwV}{ms:List MsV}(h:WkIn sh id pst hold tick os S i ys ms):ms.length≤os.length:=by
 have h1:=congrArg List.length h.ms;rw[an] at h1;have h2:=ox sh id pst hold tick (os.take i) S;rw[aK] at h2;omega
def WkIn.next{sh id pst hold tick:Int}{os:List OwM}{S:LedM}{i:Nat}{ys:List OwV}{ms:List MsV}(h:WkIn sh id pst hold tick os S i ys ms)(hi:i<os.length){o' : OwV}{a0:List MsV}
  (hw:(a0.map (·.m),o'.m,(ee sh id pst hold tick ys[i]!.m (cN sh id pst hold tick (os.take i) S).2.2).2.2)=ee sh id pst hold tick ys[i]!.m (cN sh id pst hold tick (os.take i) S).2.2):WkIn sh id pst hold tick os S (i+1) (ys.set i o') (ms++a0):=by
 have hl:=ni sh id pst hold tick (os.take i) S;rw[aK,dp h.le] at hl;rw[h.at hi] at hw;have a1:a0.map (·.m)=_:=congrArg (·.1) hw;have a2:o'.m=_:=congrArg (·.2.1) hw;refine⟨hi,by rw[bH];exact h.len,?_,?_⟩
 ·rw[mg sh id pst hold tick os S hi,List.map_set,h.ow,eN _ _ ab,a2,hl,Nat.sub_self,bV hi,fX,aB];rfl
 ·rw[mg sh id pst hold tick os S hi,aJ,h.ms,a1]
def WkIn.zero{sh id pst hold tick:Int}{ys:List OwV}{S:LedM}:WkIn sh id pst hold tick (ys.map OwV.m) S 0 ys [] :=
 ⟨aw _,by rw[an],rfl,rfl⟩
def xO{nb lb:Nat}{sh shs:Int}{n:NdV}{id:Int}(hn:(n.parts.map (·.1)).Nodup)(h:List.lookup id n.parts=none)(y:PtV){L:LH}:Ent (gmap kvI cL n.mp (gins n.parts id y)::ptL y (bigO ptF n.parts::obj nb tNd (ndC lb sh shs n.cnt n.hl n.mb n.mp n.mr)::gmap kvI cJ n.mb n.begun::bigO exF n.begun::gmap kvP bT n.mr (tfK n.recv)::L)) (ndL nb lb sh shs { n with parts:=gins n.parts id y } L):=by
 refine(Ent.a8 (Kd hn h y)).trans ?_;simp only[ndL];exact ah
attribute [local irreducible] G GO GP GPW GPK GF GE Ev Ef EfR Ent CB GB V.Enters
def gB{L:LH}(id:Int):Tri Tryz.prog 196 #[ac id] L (rtQ (ac (ey id)) L):=by
 refine Tri.bd ?_;refine Ks ?_;intros;refine GO.ev (Ev.z7 rfl rfl) ae ?_;refine Ks ?_;intros;exact KX.en ⟨rfl,rfl⟩
abbrev Ah:=XD [.ev 10,.ev 11]
abbrev Ag:=XB [.ev 6,.ef 7]
abbrev xC:=XD [.ev 10,.ev 11,.ef 12,.ef 13,.ev 14]
abbrev xB:=XA [.ev 5,.ev 6,.ev 7,.ef 4,.ef 8,.ef 9,.ef 10,.ev 11]
def Tz{φ ψ:Prop}(k:ψ)(h:Hid ψ→φ:=by intro k;(repeat (first|refine aa ?_|intro zzz|refine G.dr 81 1 Ah ?_|refine G.dr 81 4 Ag ?_|refine G.dr 81 13 xC ?_|refine G.dr 81 15 xB ?_));(repeat revert zzz);exact Hid.out k):φ:=h ⟨k⟩
def vR{L:LH}(nb lb:Nat)(sh shs:Int)(n:NdV)(S:LedM)(cat:CatM)(hS:LdI sh cat (kOf S) S)(from_ tick:Int)(c:CtV)(b4:I64 c.id)(c4:∀p∈n.m.parts,PtOk p.2)(hk:∀p∈n.m.parts,kOf S+de p.2.legs≤2000) :
  Tri Tryz.prog 139 #[ax nb,ac from_,aU (eW c),ac tick] (ndL nb lb sh shs n (aS lb S::L)) (lN nb lb sh shs (fF sh c.m tick n.m S) L):=by
 have b0:CtOk (ct0V 4 c.id 0 false).m:=ju (kind:=4) (index:=0) (by unfold I64;omega) b4 (by unfold I64;omega);refine Tri.bd ?_;simp only[ndL,ndC];refine G.c9 (fi (b:=n.mp)) fun hn=>?_;have b1:c.m.id=c.id:=rfl;cases hg:List.lookup c.id n.parts with
 | none =>
  have hr:fF sh c.m tick n.m S=([⟨sh,ey c.id,ct0 4 c.id 0 false⟩],{ n.m with parts:=gins n.m.parts c.id ⟨3,0,[]⟩ },S):=by
   unfold fF;rw[b1,show glk n.m.parts c.id=none by rw[fK,hg];rfl]
  refine Tz ?_;intros;refine GPW.evL (Ev.a8 rfl rfl) ae ?_;rw[hg];dsimp only[Option.map,Option.getD,Option.isSome];refine Tz ?_;intros;rename_i b6 bp;refine GPW.efu (Ef.c9 (enc:=cL) (⟨bp,3,0,[],none,0⟩:PtV) rfl rfl rfl rfl) ?_;rintro _ _ rfl;refine Tz ?_;intros;refine GPW.cr (gB c.id) ?_;refine Tz ?_;intros;refine GPW.ent ((Ent.c8 bC 3 tMs).trans (Ent.c7 msP)) ?_;refine GPW.ent (L':=obj nb tNd [ax lb,ac sh,ac shs,ac n.cnt,ac n.hl,.map (some n.mb),.map (some n.mp),.map (some n.mr)]::ctP (ct0V 4 c.id 0 false)::(osl bC 3 tMs none 0 []::allP msP []::gmap kvI cL n.mp (gins n.parts c.id (⟨bp,3,0,[],none,0⟩:PtV))::obj bp tPt [ac 3,ac 0,ag none 0 0]::gmap kvI cJ n.mb n.begun::bigO exF n.begun::bigO ptF n.parts::gmap kvP bT n.mr (tfK n.recv)::aS lb S::L)) ((ct0_P (kind:=4) (id:=c.id) (index:=0) (yes:=false)).trans ah) ?_;refine GPW.ca (fB nb lb sh shs n.cnt n.hl n.mb n.mp n.mr (ey c.id) (ct0V 4 c.id 0 false) b0) ?_;rintro _ _⟨y,rfl,hy,rfl⟩;simp only[ndC];refine Tz ?_;intros;(first|refine GPW.ef (Ef.a8 (enc:=bC) (e:=y) rfl rfl rfl rfl rfl aQ (eJ _) (by first|omega|(simp only[bz];omega)) (by first|omega|(simp only[bz];omega))) ae ?_);rintro _ _⟨a2,a1,rfl,rfl⟩;refine Tz ?_;intros;rw[hr];refine KX.a8 aA ?_ ⟨a2,a1,[]++[y],({ n with parts:=gins n.parts c.id ⟨bp,3,0,[],none,0⟩ }:NdV),rfl,by rw[ak,aF,bG,hy];rfl,nx n c.id ⟨bp,3,0,[],none,0⟩,rfl⟩;refine(Ent.at (A:=msP y) (Ent.d8 (f:=msP) fq)).trans ?_;refine(Ent.at (A:=allP msP [y]) (Ent.refl _)).trans ?_;refine(Ent.at (A:=allP msP []) (Ent.refl _)).trans ?_;refine(Ent.d7 (f:=msP) fq).trans ?_;refine(Ent.c8 dH 8 tOw).trans ((Ent.c7 owP).trans ?_);refine Ent.trans ?_ (Ent.a8 (Ent.a8 (xO hn hg ⟨bp,3,0,[],none,0⟩)));simp only[ptL,ptC,ndC];exact ah
 | some x =>
  have hl:glk n.m.parts c.id=some x.m:=by rw[fK,hg];rfl
  have b2:PtOk x.m:=c4 _ (cu hl);have d0:kOf S+de x.m.legs≤2000:=hk _ (cu hl);refine G.ent (Ent.at (A:=bigO ptF n.parts) (mU hn hg)) ?_;simp only[ptL,ptC];refine Tz ?_;intros;refine GPW.evL (Ev.a8 rfl rfl) ae ?_;rw[hg];dsimp only[Option.map,Option.getD,Option.isSome,cL];by_cases h0:x.state=0
  ·cases hyv:c.yes with
   | true =>
    have hr:fF sh c.m tick n.m S=((cN sh c.id 1 x.hold tick x.m.legs S).1++[⟨sh,ey c.id,ct0 4 c.id 0 false⟩],{ n.m with parts:=gins n.m.parts c.id ⟨1,x.hold,(cN sh c.id 1 x.hold tick x.m.legs S).2.1⟩ },(cN sh c.id 1 x.hold tick x.m.legs S).2.2):=by
     unfold fF;rw[b1,hl];dsimp only;rw[if_pos (show x.m.state=0 from h0),show c.m.yes=true from hyv];rfl
    refine Tz ?_;intros;rw[hyv];refine Tz ?_;intros;rename_i b6;refine G.loop (α:=Nat×List OwV×OA×Nat×List MsV) (fun g=>WkIn sh c.id 1 x.hold tick x.m.legs S g.1 g.2.1 g.2.2.2.2) (fun g=>[(0,ax nb),(3,ac tick),(6,ax b6),(9,.pointer (some ⟨x.b,0,none⟩)),(11,ag g.2.2.1 g.2.2.2.2.length g.2.2.2.1),(51,ac (x.legs.length:Int)),(52,ac (g.1:Int))]) (fun g=>obj x.b tPt [ac 1,ac x.hold,ag x.lad g.2.1.length x.lcap]::osl dH 8 tOw x.lad x.lcap g.2.1::allP owP g.2.1::osl bC 3 tMs g.2.2.1 g.2.2.2.1 g.2.2.2.2::allP msP g.2.2.2.2::aS lb (cN sh c.id 1 x.hold tick (x.m.legs.take g.1) S).2.2::obj nb tNd [ax lb,ac sh,ac shs,ac n.cnt,ac n.hl,.map (some n.mb),.map (some n.mp),.map (some n.mr)]::obj b6 tCt (eW c)::bigO ptF (gera n.parts c.id)::gmap kvI cJ n.mb n.begun::bigO exF n.begun::gmap kvI cL n.mp n.parts::gmap kvP bT n.mr (tfK n.recv)::L) (fun g=>x.legs.length - g.1) (0,x.legs,none,0,[]) WkIn.zero aC ?_ ?_
    ·dsimp only;rw[aR];refine(Ent.c8 bC 3 tMs).trans ((Ent.c7 msP).trans ?_);simp only[cN];exact ah
    rintro⟨i,ys,rad,rcap,ms⟩ hI;dsimp only at hI ⊢;have c5:x.m.legs.length=x.legs.length:=an _;have c0:=hI.le;have c6:=hI.len;have c3:=hI.mlen;have b9:=b2.legs;by_cases c1:i<x.legs.length
    case neg =>
     have a9:x.m.legs.take i=x.m.legs:=aD ab;have a6:=hI.ow;have a7:=hI.ms;rw[a9] at a6 a7;rw[a9];rw[bQ ab,aH] at a6;refine Tz ?_;intros;refine GPW.cr (gB c.id) ?_;refine Tz ?_;intros;refine GPW.ent (L':=obj nb tNd [ax lb,ac sh,ac shs,ac n.cnt,ac n.hl,.map (some n.mb),.map (some n.mp),.map (some n.mr)]::ctP (ct0V 4 c.id 0 false)::(osl bC 3 tMs rad rcap ms::allP msP ms::obj x.b tPt [ac 1,ac x.hold,ag x.lad ys.length x.lcap]::osl dH 8 tOw x.lad x.lcap ys::allP owP ys::bigO ptF (gera n.parts c.id)::gmap kvI cJ n.mb n.begun::bigO exF n.begun::gmap kvI cL n.mp n.parts::gmap kvP bT n.mr (tfK n.recv)::aS lb (cN sh c.id 1 x.hold tick x.m.legs S).2.2::L)) ((ct0_P (kind:=4) (id:=c.id) (index:=0) (yes:=false)).trans ah) ?_;refine GPW.ca (fB nb lb sh shs n.cnt n.hl n.mb n.mp n.mr (ey c.id) (ct0V 4 c.id 0 false) b0) ?_;rintro _ _⟨y,rfl,hy,rfl⟩;simp only[ndC];refine Tz ?_;intros;(first|refine GPW.ef (Ef.a8 (enc:=bC) (e:=y) rfl rfl rfl rfl rfl aQ (eJ _) (by first|omega|(simp only[bz];omega)) (by first|omega|(simp only[bz];omega))) ae ?_);rintro _ _⟨a2,a1,rfl,rfl⟩;refine Tz ?_;intros;rw[hr];refine KX.a8 aA ?_ ⟨a2,a1,ms++[y],({ n with parts:=gins n.parts c.id (⟨x.b,1,x.hold,ys,x.lad,x.lcap⟩:PtV) }:NdV),rfl,by rw[aJ,a7,aF,bG,hy];rfl,(nx n c.id (⟨x.b,1,x.hold,ys,x.lad,x.lcap⟩:PtV)).trans (by rw[←a6];rfl),rfl⟩;refine(Ent.at (A:=msP y) (Ent.d8 (f:=msP) fq)).trans ?_;refine(Ent.at (A:=allP msP [y]) (Ent.refl _)).trans ?_;refine(Ent.at (A:=allP msP ms) (Ent.refl _)).trans ?_;refine(Ent.d7 (f:=msP) fq).trans ?_;refine Ent.trans ?_ (Ent.a8 (Ent.a8 (jj hn hg (⟨x.b,1,x.hold,ys,x.lad,x.lcap⟩:PtV) rfl)));simp only[ptL,ptC,ndC];exact ah
    have a0:i<x.m.legs.length:=ab;have b5:(i:Int).toNat=i:=ab;have a5:=hI.at a0;have b8:OwOk ys[i]!.m:=by rw[a5,getElem!_of a0];exact b2.ow _ (bR a0)
    have hJ:=qM (sh:=sh) (id:=c.id) (pst:=1) (hold:=x.hold) (tick:=tick) (os:=x.m.legs.take i) hS (by have:=jV x.m.legs i;omega)
    have b7:ys[i]!.state=0→kOf (cN sh c.id 1 x.hold tick (x.m.legs.take i) S).2.2+ys[i]!.leg.m.am.length≤2000:=fun q=>by
     have e1:de (x.m.legs.take (i+1))=de (x.m.legs.take i)+fL x.m.legs[i]!:=by
      unfold de;rw[az a0,aJ,ec,getElem!_of a0];simp only[aF,bG,cq,List.sum_nil,eA]
     have e2:=jV x.m.legs (i+1);have e3:fL x.m.legs[i]! = ys[i]!.leg.m.am.length:=by rw[←a5];exact if_pos q
     have:=hJ.2
     omega
    refine G.c9 (oU (ad:=x.lad) (xs:=ys) ab) fun hA=>?_;refine Tz ?_;intros;rw[b5];refine GPW.ent (L':=obj nb tNd [ax lb,ac sh,ac shs,ac n.cnt,ac n.hl,.map (some n.mb),.map (some n.mp),.map (some n.mr)]::obj x.b tPt [ac 1,ac x.hold,ag x.lad ys.length x.lcap]::osl dH 8 tOw x.lad x.lcap ys::allP owP ys::aS lb (cN sh c.id 1 x.hold tick (x.m.legs.take i) S).2.2::(osl bC 3 tMs rad rcap ms::allP msP ms::obj b6 tCt (eW c)::bigO ptF (gera n.parts c.id)::gmap kvI cJ n.mb n.begun::bigO exF n.begun::gmap kvI cL n.mp n.parts::gmap kvP bT n.mr (tfK n.recv)::L)) ah ?_;refine GPW.ca (mN nb lb sh shs n.cnt n.hl n.mb n.mp n.mr cat _ (cN sh c.id 1 x.hold tick (x.m.legs.take i) S).2.2 hJ.1 c.id b4 x.b 1 x.hold x.lad x.lcap hA ys i ab b8 tick b7) ?_;rintro _ _⟨a2,a1,a3,o2,rfl,hw,rfl⟩;simp only[ndC,ptC];refine Tz ?_;intros
    have c2:a3.length≤1:=by
     have h1:=congrArg (fun z=>z.1.length) hw;simp only[an] at h1;rw[h1];exact lO
    refine GPW.ef (Ef.d7 (enc:=bC) (ys:=a3) rfl rfl rfl rfl rfl (fun e _=>eJ e) ab ab) ae ?_;rintro _ _⟨b3,a4,rfl,rfl⟩;refine Tz ?_;intros;refine⟨(i+1,ys.set i o2,b3,a4,ms++a3),hI.next a0 hw,by dsimp only;omega,?_,?_⟩
    ·dsimp only;rw[bh i];exact aC
    ·dsimp only;rw[mg sh c.id 1 x.hold tick x.m.legs S a0,←a5,bH];dsimp only;refine(Ent.at (A:=allP msP a3) (Ent.refl _)).trans ?_;refine(Ent.at (A:=allP msP ms) (Ent.refl _)).trans ?_;refine(Ent.d7 (f:=msP) fq).trans ?_;exact ah
   | false =>
    have hr:fF sh c.m tick n.m S=((cN sh c.id 2 x.hold tick x.m.legs S).1++[⟨sh,ey c.id,ct0 4 c.id 0 false⟩],{ n.m with parts:=gins n.m.parts c.id ⟨2,x.hold,(cN sh c.id 2 x.hold tick x.m.legs S).2.1⟩ },(cN sh c.id 2 x.hold tick x.m.legs S).2.2):=by
     unfold fF;rw[b1,hl];dsimp only;rw[if_pos (show x.m.state=0 from h0),show c.m.yes=false from hyv];rfl
    refine Tz ?_;intros;rw[hyv];refine Tz ?_;intros;rename_i b6;refine G.loop (α:=Nat×List OwV×OA×Nat×List MsV) (fun g=>WkIn sh c.id 2 x.hold tick x.m.legs S g.1 g.2.1 g.2.2.2.2) (fun g=>[(0,ax nb),(3,ac tick),(6,ax b6),(9,.pointer (some ⟨x.b,0,none⟩)),(11,ag g.2.2.1 g.2.2.2.2.length g.2.2.2.1),(51,ac (x.legs.length:Int)),(52,ac (g.1:Int))]) (fun g=>obj x.b tPt [ac 2,ac x.hold,ag x.lad g.2.1.length x.lcap]::osl dH 8 tOw x.lad x.lcap g.2.1::allP owP g.2.1::osl bC 3 tMs g.2.2.1 g.2.2.2.1 g.2.2.2.2::allP msP g.2.2.2.2::aS lb (cN sh c.id 2 x.hold tick (x.m.legs.take g.1) S).2.2::obj nb tNd [ax lb,ac sh,ac shs,ac n.cnt,ac n.hl,.map (some n.mb),.map (some n.mp),.map (some n.mr)]::obj b6 tCt (eW c)::bigO ptF (gera n.parts c.id)::gmap kvI cJ n.mb n.begun::bigO exF n.begun::gmap kvI cL n.mp n.parts::gmap kvP bT n.mr (tfK n.recv)::L) (fun g=>x.legs.length - g.1) (0,x.legs,none,0,[]) WkIn.zero aC ?_ ?_
    ·dsimp only;rw[aR];refine(Ent.c8 bC 3 tMs).trans ((Ent.c7 msP).trans ?_);simp only[cN];exact ah
    rintro⟨i,ys,rad,rcap,ms⟩ hI;dsimp only at hI ⊢;have c5:x.m.legs.length=x.legs.length:=an _;have c0:=hI.le;have c6:=hI.len;have c3:=hI.mlen;have b9:=b2.legs;by_cases c1:i<x.legs.length
    case neg =>
     have a9:x.m.legs.take i=x.m.legs:=aD ab;have a6:=hI.ow;have a7:=hI.ms;rw[a9] at a6 a7;rw[a9];rw[bQ ab,aH] at a6;refine Tz ?_;intros;refine GPW.cr (gB c.id) ?_;refine Tz ?_;intros;refine GPW.ent (L':=obj nb tNd [ax lb,ac sh,ac shs,ac n.cnt,ac n.hl,.map (some n.mb),.map (some n.mp),.map (some n.mr)]::ctP (ct0V 4 c.id 0 false)::(osl bC 3 tMs rad rcap ms::allP msP ms::obj x.b tPt [ac 2,ac x.hold,ag x.lad ys.length x.lcap]::osl dH 8 tOw x.lad x.lcap ys::allP owP ys::bigO ptF (gera n.parts c.id)::gmap kvI cJ n.mb n.begun::bigO exF n.begun::gmap kvI cL n.mp n.parts::gmap kvP bT n.mr (tfK n.recv)::aS lb (cN sh c.id 2 x.hold tick x.m.legs S).2.2::L)) ((ct0_P (kind:=4) (id:=c.id) (index:=0) (yes:=false)).trans ah) ?_;refine GPW.ca (fB nb lb sh shs n.cnt n.hl n.mb n.mp n.mr (ey c.id) (ct0V 4 c.id 0 false) b0) ?_;rintro _ _⟨y,rfl,hy,rfl⟩;simp only[ndC];refine Tz ?_;intros;(first|refine GPW.ef (Ef.a8 (enc:=bC) (e:=y) rfl rfl rfl rfl rfl aQ (eJ _) (by first|omega|(simp only[bz];omega)) (by first|omega|(simp only[bz];omega))) ae ?_);rintro _ _⟨a2,a1,rfl,rfl⟩;refine Tz ?_;intros;rw[hr];refine KX.a8 aA ?_ ⟨a2,a1,ms++[y],({ n with parts:=gins n.parts c.id (⟨x.b,2,x.hold,ys,x.lad,x.lcap⟩:PtV) }:NdV),rfl,by rw[aJ,a7,aF,bG,hy];rfl,(nx n c.id (⟨x.b,2,x.hold,ys,x.lad,x.lcap⟩:PtV)).trans (by rw[←a6];rfl),rfl⟩;refine(Ent.at (A:=msP y) (Ent.d8 (f:=msP) fq)).trans ?_;refine(Ent.at (A:=allP msP [y]) (Ent.refl _)).trans ?_;refine(Ent.at (A:=allP msP ms) (Ent.refl _)).trans ?_;refine(Ent.d7 (f:=msP) fq).trans ?_;refine Ent.trans ?_ (Ent.a8 (Ent.a8 (jj hn hg (⟨x.b,2,x.hold,ys,x.lad,x.lcap⟩:PtV) rfl)));simp only[ptL,ptC,ndC];exact ah
    have a0:i<x.m.legs.length:=ab;have b5:(i:Int).toNat=i:=ab;have a5:=hI.at a0;have b8:OwOk ys[i]!.m:=by rw[a5,getElem!_of a0];exact b2.ow _ (bR a0)
    have hJ:=qM (sh:=sh) (id:=c.id) (pst:=2) (hold:=x.hold) (tick:=tick) (os:=x.m.legs.take i) hS (by have:=jV x.m.legs i;omega)
    have b7:ys[i]!.state=0→kOf (cN sh c.id 2 x.hold tick (x.m.legs.take i) S).2.2+ys[i]!.leg.m.am.length≤2000:=fun q=>by
     have e1:de (x.m.legs.take (i+1))=de (x.m.legs.take i)+fL x.m.legs[i]!:=by
      unfold de;rw[az a0,aJ,ec,getElem!_of a0];simp only[aF,bG,cq,List.sum_nil,eA]
     have e2:=jV x.m.legs (i+1);have e3:fL x.m.legs[i]! = ys[i]!.leg.m.am.length:=by rw[←a5];exact if_pos q
     have:=hJ.2
     omega
    refine G.c9 (oU (ad:=x.lad) (xs:=ys) ab) fun hA=>?_;refine Tz ?_;intros;rw[b5];refine GPW.ent (L':=obj nb tNd [ax lb,ac sh,ac shs,ac n.cnt,ac n.hl,.map (some n.mb),.map (some n.mp),.map (some n.mr)]::obj x.b tPt [ac 2,ac x.hold,ag x.lad ys.length x.lcap]::osl dH 8 tOw x.lad x.lcap ys::allP owP ys::aS lb (cN sh c.id 2 x.hold tick (x.m.legs.take i) S).2.2::(osl bC 3 tMs rad rcap ms::allP msP ms::obj b6 tCt (eW c)::bigO ptF (gera n.parts c.id)::gmap kvI cJ n.mb n.begun::bigO exF n.begun::gmap kvI cL n.mp n.parts::gmap kvP bT n.mr (tfK n.recv)::L)) ah ?_;refine GPW.ca (mN nb lb sh shs n.cnt n.hl n.mb n.mp n.mr cat _ (cN sh c.id 2 x.hold tick (x.m.legs.take i) S).2.2 hJ.1 c.id b4 x.b 2 x.hold x.lad x.lcap hA ys i ab b8 tick b7) ?_;rintro _ _⟨a2,a1,a3,o2,rfl,hw,rfl⟩;simp only[ndC,ptC];refine Tz ?_;intros
    have c2:a3.length≤1:=by
     have h1:=congrArg (fun z=>z.1.length) hw;simp only[an] at h1;rw[h1];exact lO
    refine GPW.ef (Ef.d7 (enc:=bC) (ys:=a3) rfl rfl rfl rfl rfl (fun e _=>eJ e) ab ab) ae ?_;rintro _ _⟨b3,a4,rfl,rfl⟩;refine Tz ?_;intros;refine⟨(i+1,ys.set i o2,b3,a4,ms++a3),hI.next a0 hw,by dsimp only;omega,?_,?_⟩
    ·dsimp only;rw[bh i];exact aC
    ·dsimp only;rw[mg sh c.id 2 x.hold tick x.m.legs S a0,←a5,bH];dsimp only;refine(Ent.at (A:=allP msP a3) (Ent.refl _)).trans ?_;refine(Ent.at (A:=allP msP ms) (Ent.refl _)).trans ?_;refine(Ent.d7 (f:=msP) fq).trans ?_;exact ah
  ·have hr:fF sh c.m tick n.m S=([⟨sh,ey c.id,ct0 4 c.id 0 false⟩],n.m,S):=by
    unfold fF;rw[b1,hl];dsimp only;rw[if_neg (show ¬x.m.state=0 from h0)]
   refine Tz ?_;intros;refine GPW.cr (gB c.id) ?_;refine Tz ?_;intros;refine GPW.ent ((Ent.c8 bC 3 tMs).trans (Ent.c7 msP)) ?_;refine GPW.ent (L':=obj nb tNd [ax lb,ac sh,ac shs,ac n.cnt,ac n.hl,.map (some n.mb),.map (some n.mp),.map (some n.mr)]::ctP (ct0V 4 c.id 0 false)::(osl bC 3 tMs none 0 []::allP msP []::obj x.b tPt [ac x.state,ac x.hold,ag x.lad x.legs.length x.lcap]::osl dH 8 tOw x.lad x.lcap x.legs::allP owP x.legs::bigO ptF (gera n.parts c.id)::gmap kvI cJ n.mb n.begun::bigO exF n.begun::gmap kvI cL n.mp n.parts::gmap kvP bT n.mr (tfK n.recv)::aS lb S::L)) ((ct0_P (kind:=4) (id:=c.id) (index:=0) (yes:=false)).trans ah) ?_;refine GPW.ca (fB nb lb sh shs n.cnt n.hl n.mb n.mp n.mr (ey c.id) (ct0V 4 c.id 0 false) b0) ?_;rintro _ _⟨y,rfl,hy,rfl⟩;simp only[ndC];refine Tz ?_;intros;(first|refine GPW.ef (Ef.a8 (enc:=bC) (e:=y) rfl rfl rfl rfl rfl aQ (eJ _) (by first|omega|(simp only[bz];omega)) (by first|omega|(simp only[bz];omega))) ae ?_);rintro _ _⟨a2,a1,rfl,rfl⟩;refine Tz ?_;intros;rw[hr];refine KX.a8 aA ?_ ⟨a2,a1,[]++[y],({ n with parts:=gins n.parts c.id x }:NdV),rfl,by rw[ak,aF,bG,hy];rfl,(nx n c.id x).trans (by rw[jz hl (by show((mapV PtV.m n.parts).map (·.1)).Nodup;rw[jK];exact hn)]),rfl⟩;refine(Ent.at (A:=msP y) (Ent.d8 (f:=msP) fq)).trans ?_;refine(Ent.at (A:=allP msP [y]) (Ent.refl _)).trans ?_;refine(Ent.at (A:=allP msP []) (Ent.refl _)).trans ?_;refine(Ent.d7 (f:=msP) fq).trans ?_;refine Ent.trans ?_ (Ent.a8 (Ent.a8 (jj hn hg x rfl)));simp only[ptL,ptC,ndC];exact ah
