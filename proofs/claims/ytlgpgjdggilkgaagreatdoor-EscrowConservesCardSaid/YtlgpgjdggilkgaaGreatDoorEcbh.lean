/- Exchanges: the handler of prepare. -/
import Derived.Test.YtlgpgjdggilkgaaGreatDoorEcbg
set_option linter.all false
set_option maxHeartbeats 8000000
namespace Go.Proofs.YtlgpgjdggilkgaaGreatDoor
open Go.V
def ownM(sh:Int):Int→List LegM→List OwM
 | _,[]=>[]
 | k,l::ls=>if l.sh=sh then⟨l,k,0,[]⟩::ownM sh (k+1) ls else ownM sh (k+1) ls
def ownV(sh:Int):Int→List LegV→List OwV
 | _,[]=>[]
 | k,l::ls=>if l.m.sh=sh then⟨l,k,0,[],none,0⟩::ownV sh (k+1) ls else ownV sh (k+1) ls
def pZ(sh:Int):∀(k:Int) (ls:List LegV),(ownV sh k ls).map OwV.m=ownM sh k (ls.map (·.m))
 | _,[]=>rfl
 | k,l::ls=>by
  rw[aF];unfold ownV ownM;by_cases h:l.m.sh=sh
  ·rw[if_pos h,if_pos h,aF,pZ sh (k+1) ls];rfl
  ·rw[if_neg h,if_neg h,pZ sh (k+1) ls]
def vh(sh:Int)(l:LegV):∀(k:Int) (ls:List LegV),ownV sh k (ls++[l])=ownV sh k ls++(if l.m.sh=sh then[⟨l,k+ls.length,0,[],none,0⟩] else[])
 | k,[]=>by
  rw[ak,show k+(([]:List LegV).length:Int)=k by simp];unfold ownV;split<;>rfl
 | k,p::ls=>by
  rw[al,show k+((p::ls).length:Int)=(k+1)+(ls.length:Int) by rw[aM];omega];have ih:=vh sh l (k+1) ls;have e1:∀z:List LegV,ownV sh k (p::z)=if p.m.sh=sh then⟨p,k,0,[],none,0⟩::ownV sh (k+1) z else ownV sh (k+1) z:=fun _=>rfl;rw[e1,e1,ih];by_cases h:p.m.sh=sh
  ·rw[if_pos h,if_pos h];rfl
  ·rw[if_neg h,if_neg h]
def EW(sh:Int)(ls:List LegV){i:Nat}(h:i<ls.length):ownV sh 0 (ls.take (i+1))=ownV sh 0 (ls.take i)++(if ls[i]!.m.sh=sh then[⟨ls[i]!,(i:Int),0,[],none,0⟩] else[]):=by
 rw[az h,vh,getElem!_of h,show(0:Int)+((ls.take i).length:Int)=(i:Int) by rw[aK];omega]
def xI(sh:Int):∀(k:Int) (ls:List LegV),(ownV sh k ls).length≤ls.length
 | _,[]=>aq _
 | k,l::ls=>by
  have:=xI sh (k+1) ls
  unfold ownV;split
  ·rw[aM,aM];omega
  ·rw[aM];omega
def rS(sh:Int):∀(k:Int) (ls:List LegV),∀o∈ownV sh k ls,o.leg∈ls∧o.flows=[]∧o.fad=none∧o.state=0∧k≤o.index∧o.index<k+ls.length
 | _,[],o,h=>by cases h
 | k,l::ls,o,h=>by
  have ih:=rS sh (k+1) ls o;have e1:ownV sh k (l::ls)=if l.m.sh=sh then⟨l,k,0,[],none,0⟩::ownV sh (k+1) ls else ownV sh (k+1) ls:=rfl;rw[aM]
  have hb:o∈ownV sh (k+1) ls→o.leg∈l::ls∧o.flows=[]∧o.fad=none∧o.state=0∧k≤o.index∧o.index<k+((ls.length+1:Nat):Int):=fun q=>by
   obtain⟨h1,h2,h3,h4,h5,h6⟩:=ih q;exact⟨au _ h1,h2,h3,h4,ab,ab⟩
  rw[e1] at h;split at h
  ·rcases List.mem_cons.1 h with rfl|h
   ·exact⟨av,rfl,rfl,rfl,bq _,by dsimp only;omega⟩
   ·exact hb h
  ·exact hb h
def iQ(hold:Int)(os:List OwV):List MvV:=os.flatMap fun o=>mvsA o.leg.m.fr hold o.leg.m.am
def gL(hold:Int)(os:List OwM):List MvM:=os.flatMap fun o=>mvsN o.leg.fr hold o.leg.am
def BF(hold:Int):∀os:List OwV,(iQ hold os).map MvV.m=gL hold (os.map OwV.m)
 | []=>rfl
 | o::os=>by
  have ih:=BF hold os;unfold iQ gL at ih ⊢;rw[aO,aJ,ih,aF,aO,kf];rfl
def IH(a b:List MvM):mvK (a++b)=mvK a+mvK b:=mu a b
def qd(hold:Int):∀os:List OwM,(∀o∈os,o.state=0)→mvK (gL hold os)=de os
 | [],_=>rfl
 | o::os,h=>by
  have ih:=qd hold os fun x hx=>h x (au _ hx);unfold gL at ih ⊢;rw[aO,IH,ih,iY];unfold de;rw[aF,cq,show fL o=o.leg.am.length from if_pos (h o av)]
def vq(hold:Int):∀os:List OwV,(∀o∈os,o.leg.m.am.length≤100)→(iQ hold os).length≤100*os.length
 | [],_=>aq _
 | o::os,h=>by
  have ih:=vq hold os fun x hx=>h x (au _ hx);have h1:=h o av;unfold iQ at ih ⊢;rw[aO,aj,aM];unfold mvsA at ih ⊢;rw[an];omega
def vp(hold:Int)(os:List OwV):∀m∈iQ hold os,m.m.parts=[]∧m.pad=none∧m.pcap=0:=fun m hm=>by
 unfold iQ at hm;obtain⟨o,_,h2⟩:=List.mem_flatMap.1 hm;obtain⟨a,_,rfl⟩:=List.mem_map.1 h2;exact⟨rfl,rfl,rfl⟩
def Ent.m6{L:LH}:∀ms:List MvV,(∀m∈ms,m.m.parts=[]∧m.pad=none∧m.pcap=0)→Ent L (allP mvP ms::L)
 | [],_=>Ent.c7 mvP
 | m::ms,h=>by
  refine(Ent.m6 ms fun x hx=>h x (au _ hx)).trans ?_;obtain⟨h1,h2,_⟩:=h m av;refine(Ent.d9 aG 3 none).trans ?_;refine Ent.trans ?_ (Ent.j5 (f:=mvP) (x:=m) kl);unfold mvP;rw[h1,h2];exact Ent.refl _
def Cq(kind tick hold:Int)(os:List OwV)(h:(iQ hold os).length≤1000000)(mad:OA)(mcap:Nat):StInG (estp kind tick (iQ hold os) mad mcap):=by
 have hm:=vp hold os;refine⟨h,by show I64 (-1);unfold I64;omega,fun m h1=>?_,fun m h1=>?_,fun m h1 p hp=>?_⟩
 ·rw[(hm m h1).1];exact aw _
 ·rw[(hm m h1).1];exact aw _
 ·rw[(hm m h1).1] at hp;cases hp
def HQ(sh:Int):∀(k:Int) (ls:List LegV) (L:LH),Ent (allP legP ls::L) (allP owP (ownV sh k ls)::L)
 | _,[],L=>Ent.drop.trans (Ent.c7 owP)
 | k,l::ls,L=>by
  have e1:ownV sh k (l::ls)=if l.m.sh=sh then⟨l,k,0,[],none,0⟩::ownV sh (k+1) ls else ownV sh (k+1) ls:=rfl
  have h1:Ent (allP legP (l::ls)::L) (allP legP (l::ls)::allP owP (ownV sh (k+1) ls)::L):=by
   refine(Ent.dup (cH fC).pers).trans ?_;refine Ent.a8 ?_;exact(Ent.g9 fun x hx=>au _ hx).trans (HQ sh (k+1) ls L)
  rw[e1];split
  ·refine h1.trans ?_;refine(Ent.c9 (f:=legP) (x:=l) av).trans ?_;refine(Ent.a8 Ent.drop).trans ?_;refine(Ent.d9 (encZ .i64) 1 none).trans (Ent.swap.trans ?_);refine(Ent.f8 (fC l) (bO _ _ _ _)).trans ?_;exact Ent.j5 (f:=owP) (x:=⟨l,k,0,[],none,0⟩) oT
  ·exact h1.trans Ent.drop
noncomputable def iq(sh:Int)(m:CtM)(tick:Int)(N:NdM)(S:LedM):HRes :=
 match glk N.parts m.id with
 | some p=>([⟨sh,ey m.id,ct0 2 m.id 0 (dB (¬p.state=3))⟩],N,S)
 | none =>
  if gOk S 2 tick (gL (268435456+N.hl) (ownM sh 0 m.legs))=true then([⟨sh,ey m.id,ct0 2 m.id 0 true⟩],{ N with hl:=N.hl+1,parts:=gins N.parts m.id ⟨0,268435456+N.hl,ownM sh 0 m.legs⟩ },gAft S 2 tick (gL (268435456+N.hl) (ownM sh 0 m.legs)))
  else([⟨sh,ey m.id,ct0 2 m.id 0 false⟩],{ N with parts:=gins N.parts m.id ⟨3,268435456+N.hl,[]⟩ },S)
def Ent.l8{κ α:Type}{kv:κ→Value}{enc:α→Value}{b:Nat}{l l' : List (κ×α)}(h:mapV enc l=mapV enc l'){L:LH}:Ent (gmap kv enc b l::L) (gmap kv enc b l'::L):=fun θ R w s=>by
 obtain⟨es,a0,h1,h2,h3,h4,h5,s2⟩:=Sat.gmap_parts (L:=L++R) s;refine Sat.c8 s2 ?_ ?_ h3 h4 h5
 ·rw[h1];have e:=congrArg (List.map fun p:κ×Value=>(kv p.1,p.2)) h;unfold mapV at e;rw[cX,cX] at e;exact e
 ·rw[←jK enc l',←h,jK];exact h2
def BM{l:List (Int×PtV)}{k:Int}{a b:PtV}(h:a.b=b.b):mapV cL (gins l k a)=mapV cL (gins l k b):=by
 rw[kG,kG];unfold cL;rw[h]
def IA(sh:Int)(ls:List LegV):∀o∈(ownV sh 0 ls).map OwV.m,o.state=0:=fun o ho=>by
 obtain⟨v,h1,rfl⟩:=List.mem_map.1 ho;exact(rS sh 0 ls v h1).2.2.2.1
def DM(hold:Int)(os:List OwV)(o:OwV):iQ hold (os++[o])=iQ hold os++mvsA o.leg.m.fr hold o.leg.m.am:=by
 unfold iQ;rw[cl,aO,cW,aH]
attribute [local irreducible] G GO GP GPW GPK GF GE Ev Ef EfR Ent CB GB V.Enters
abbrev Af:=XD [.ev 10,.ev 11]
abbrev Ae:=XB [.ev 6,.ef 7]
abbrev xA:=XB [.ev 6]
abbrev xz:=XC [.ev 8,.ef 9,.ef 10,.ev 11]
abbrev xy:=XC [.ef 8,.ef 9]
abbrev xx:List Stp:=[.ev 0,.ev 1,.ev 2,.ev 4,.ef 3,.ef 5,.ef 6,.ev 7]
def Uc{φ ψ:Prop}(k:ψ)(h:Hid ψ→φ:=by intro k;(repeat (first|refine aa ?_|intro zzz|refine G.dr 114 1 Af ?_|refine G.dr 114 4 Ae ?_|refine G.dr 114 10 xA ?_|refine G.dr 114 12 xz ?_|refine G.dr 114 19 xy ?_|refine G.dr 114 20 xx ?_));(repeat revert zzz);exact Hid.out k):φ:=h ⟨k⟩
def uu{L:LH}(nb lb:Nat)(sh shs:Int)(n:NdV)(S:LedM)(cat:CatM)(hS:LdI sh cat (kOf S) S)(d2:0≤n.hl∧n.hl≤1000000)(from_ tick:Int)(c:CtV)(hc:CtOk c.m)(hk:kOf S+de (ownM sh 0 c.m.legs)≤2000) :
  Tri Tryz.prog 137 #[ax nb,ac from_,aU (eW c),ac tick] (ctP c::ndL nb lb sh shs n (aS lb S::L)) (lN nb lb sh shs (iq sh c.m tick n.m S) L):=by
 have a7:I64 c.id:=hc.num.2.1;refine Tri.bd ?_;simp only[ndL,ndC];refine G.c9 (fi (b:=n.mp)) fun hn=>?_;have a6:c.m.id=c.id:=rfl;cases hg:List.lookup c.id n.parts with
 | some x =>
  have hl:glk n.m.parts c.id=some x.m:=by rw[fK,hg];rfl
  have hr:iq sh c.m tick n.m S=([⟨sh,ey c.id,ct0 2 c.id 0 (dB (¬x.state=3))⟩],n.m,S):=by
   unfold iq;rw[a6,hl];rfl
  refine G.ent (Ent.at (A:=bigO ptF n.parts) (mU hn hg)) ?_;simp only[ptL,ptC];refine Uc ?_;intros;refine GPW.evL (Ev.a8 rfl rfl) ae ?_;rw[hg];dsimp only[Option.map,Option.getD,Option.isSome,cL];refine Uc ?_;intros;refine GPW.cr (gB c.id) ?_;refine Uc ?_;intros;refine GPW.ent (L':=obj nb tNd [ax lb,ac sh,ac shs,ac n.cnt,ac n.hl,.map (some n.mb),.map (some n.mp),.map (some n.mr)]::ctP (ct0V 2 c.id 0 (dB (¬x.state=3)))::(obj x.b tPt [ac x.state,ac x.hold,ag x.lad x.legs.length x.lcap]::osl dH 8 tOw x.lad x.lcap x.legs::allP owP x.legs::bigO ptF (gera n.parts c.id) ::gmap kvI cJ n.mb n.begun::bigO exF n.begun::gmap kvI cL n.mp n.parts::gmap kvP bT n.mr (tfK n.recv)::aS lb S::L)) ((ct0_P (kind:=2) (id:=c.id) (index:=0) (yes:=(dB (¬x.state=3)))).trans ah) ?_;refine GPW.ca (fB nb lb sh shs n.cnt n.hl n.mb n.mp n.mr (ey c.id) (ct0V 2 c.id 0 (dB (¬x.state=3))) (ju (kind:=2) (index:=0) (by unfold I64;omega) a7 (by unfold I64;omega))) ?_;rintro _ _⟨y,rfl,hy,rfl⟩;simp only[ndC];refine Uc ?_;intros;rename_i a0;rw[hr];refine KX.a8 aA ?_ ⟨some ⟨a0,0,none⟩,1,[y],({ n with parts:=gins n.parts c.id x }:NdV),rfl,by rw[aF,bG,hy];rfl,(nx n c.id x).trans (by rw[jz hl (by show((mapV PtV.m n.parts).map (·.1)).Nodup;rw[jK];exact hn)]),rfl⟩;refine(Ent.at (A:=msP y) (Ent.d8 (f:=msP) fq)).trans ?_;refine(Ent.at (A:=obj a0 tMs [ac y.m.frm,ac y.m.to,ag y.ad (ctB y.m.ct).length y.cap]) (Ent.f7 (enc:=bC) (sz:=3) (xs:=[y]) (n:=1) (by simp only[aO,cW,aH];rfl) rfl (by intro x hx;rfl) ae)).trans ?_;refine Ent.trans ?_ (Ent.a8 (Ent.a8 (jj hn hg x rfl)));simp only[ptL,ptC,ndC];exact ah
 | none =>
  have b5:glk n.m.parts c.id=none:=by rw[fK,hg];rfl
  refine G.ent yP ?_;refine Uc ?_;intros;refine GPW.evL (Ev.a8 rfl rfl) ae ?_;rw[hg];dsimp only[Option.map,Option.getD,Option.isSome];refine Uc ?_;intros;rename_i b6 bp;refine GPW.efu (Ef.c9 (enc:=cL) (⟨bp,0,(268435456+n.hl),[],none,0⟩:PtV) rfl rfl rfl rfl) ?_;rintro _ _ rfl;refine Uc ?_;intros;have d1:c.m.legs.length=c.legs.length:=an _;have d0:=hc.legs;have b7:∀l∈c.legs,lM l.m:=fun l hl=>hc.lg _ (alStd0List_mem_map_of_mem hl);refine G.loop (α:=Nat×OA×Nat×OA×Nat) (fun g=>g.1≤c.legs.length) (fun g=>[(0,ax nb),(3,ac tick),(6,ax b6),(9,ax bp),(11,ag g.2.2.2.1 (iQ (268435456+n.hl) (ownV sh 0 (c.legs.take g.1))).length g.2.2.2.2),(12,ag g.2.1 (ownV sh 0 (c.legs.take g.1)).length g.2.2.1),(45,ag c.lad c.legs.length c.lcap),(46,ac (c.legs.length:Int)),(47,ac (g.1:Int))]) (fun g=>osl dH 8 tOw g.2.1 g.2.2.1 (ownV sh 0 (c.legs.take g.1))::osl cj 5 tMv g.2.2.2.1 g.2.2.2.2 (iQ (268435456+n.hl) (ownV sh 0 (c.legs.take g.1)))::isl bA 5 c.lad c.legs::allP legP c.legs::obj b6 tCt (eW c)::obj bp tPt [ac 0,ac (268435456+n.hl),ag none 0 0]::obj nb tNd [ax lb,ac sh,ac shs,ac n.cnt,ac n.hl,.map (some n.mb),.map (some n.mp),.map (some n.mr)]::gmap kvI cJ n.mb n.begun::bigO exF n.begun::gmap kvI cL n.mp (gins n.parts c.id (⟨bp,0,(268435456+n.hl),[],none,0⟩:PtV))::bigO ptF n.parts::gmap kvP bT n.mr (tfK n.recv)::aS lb S::L) (fun g=>c.legs.length - g.1) (0,none,0,none,0) (aw _) aC ?_ ?_
  ·dsimp only;rw[aR];refine(Ent.c8 cj 5 tMv).trans ((Ent.c8 dH 8 tOw).trans ?_);simp only[ownV,iQ,cW];exact ah
  rintro⟨i,lad,lcap,mad,mcap⟩ hi;dsimp only at hi ⊢;have b9:=xI sh 0 (c.legs.take i);rw[aK] at b9;have b1:∀o∈(ownV sh 0 (c.legs.take i)),o.leg.m.am.length≤100:=fun o ho=>(b7 _ (bF (rS sh 0 _ o ho).1)).2.1;have c2:=vq (268435456+n.hl) (ownV sh 0 (c.legs.take i)) b1;by_cases b0:i<c.legs.length
  case neg =>
   have c5:c.legs.take i=c.legs:=aD ab;rw[c5] at b9 c2 ⊢;have b8:(iQ (268435456+n.hl) (ownV sh 0 c.legs)).map MvV.m=gL (268435456+n.hl) (ownM sh 0 c.m.legs):=by rw[BF,pZ];rfl
   have c3:mvK (gL (268435456+n.hl) (ownM sh 0 c.m.legs))=de (ownM sh 0 c.m.legs):=qd _ _ (by rw[show ownM sh 0 c.m.legs=(ownV sh 0 c.legs).map OwV.m from(pZ sh 0 c.legs).symm];exact IA sh c.legs);refine Uc ?_;intros;refine GO.ent (L':=osl cj 5 tMv mad mcap (iQ (268435456+n.hl) (ownV sh 0 c.legs))::allP mvP (iQ (268435456+n.hl) (ownV sh 0 c.legs))::obj nb tNd [ax lb,ac sh,ac shs,ac n.cnt,ac n.hl,.map (some n.mb),.map (some n.mp),.map (some n.mr)]::aS lb S::(osl dH 8 tOw lad lcap (ownV sh 0 c.legs)::allP legP c.legs::obj b6 tCt (eW c)::obj bp tPt [ac 0,ac (268435456+n.hl),ag none 0 0]::gmap kvI cJ n.mb n.begun::bigO exF n.begun::gmap kvI cL n.mp (gins n.parts c.id (⟨bp,0,(268435456+n.hl),[],none,0⟩:PtV))::bigO ptF n.parts::gmap kvP bT n.mr (tfK n.recv)::L)) ((Ent.m6 _ (vp (268435456+n.hl) (ownV sh 0 c.legs))).trans ah) ?_;refine GO.ca (jx nb lb sh shs n.cnt n.hl n.mb n.mp n.mr cat (kOf S) S hS 2 tick (iQ (268435456+n.hl) (ownV sh 0 c.legs)) mad mcap (Cq _ _ _ _ ab _ _) (by rw[b8,c3];exact hk)) ?_;rw[b8];rintro _ _⟨fad,fcap,rfl,rfl⟩;simp only[ndC];cases hgo:gOk S 2 tick (gL (268435456+n.hl) (ownM sh 0 c.m.legs)) with
   | true =>
    have hr:iq sh c.m tick n.m S=([⟨sh,ey c.id,ct0 2 c.id 0 (dB (¬(0:Int)=3))⟩],{ n.m with hl:=n.m.hl+1,parts:=gins n.m.parts c.id ⟨0,(268435456+n.hl),ownM sh 0 c.m.legs⟩ },gAft S 2 tick (gL (268435456+n.hl) (ownM sh 0 c.m.legs))):=by
     unfold iq;rw[a6,b5];dsimp only;rw[if_pos (show gOk S 2 tick (gL (268435456+n.m.hl) (ownM sh 0 c.m.legs))=true from hgo),bE (show ¬(0:Int)=3 by decide)];rfl
    refine Uc ?_;intros;refine GPW.cr (gB c.id) ?_;refine Uc ?_;intros;refine GPW.ent (L':=obj nb tNd [ax lb,ac sh,ac shs,ac n.cnt,ac (n.hl+1),.map (some n.mb),.map (some n.mp),.map (some n.mr)]::ctP (ct0V 2 c.id 0 (dB (¬(0:Int)=3)))::(osl dH 8 tOw lad lcap (ownV sh 0 c.legs)::allP legP c.legs::obj bp tPt [ac 0,ac (268435456+n.hl),ag lad (ownV sh 0 c.legs).length lcap]::gmap kvI cJ n.mb n.begun::bigO exF n.begun::gmap kvI cL n.mp (gins n.parts c.id (⟨bp,0,(268435456+n.hl),[],none,0⟩:PtV))::bigO ptF n.parts::gmap kvP bT n.mr (tfK n.recv)::aS lb (gAft S 2 tick (gL (268435456+n.hl) (ownM sh 0 c.m.legs)))::L)) ((ct0_P (kind:=2) (id:=c.id) (index:=0) (yes:=(dB (¬(0:Int)=3)))).trans ah) ?_;refine GPW.ca (fB nb lb sh shs n.cnt (n.hl+1) n.mb n.mp n.mr (ey c.id) (ct0V 2 c.id 0 (dB (¬(0:Int)=3))) (ju (kind:=2) (index:=0) (by unfold I64;omega) a7 (by unfold I64;omega))) ?_;rintro _ _⟨y,rfl,hy,rfl⟩;simp only[ndC];refine Uc ?_;intros;rename_i a0;rw[hr];refine KX.a8 aA ?_ ⟨some ⟨a0,0,none⟩,1,[y],({ n with hl:=n.hl+1,parts:=gins n.parts c.id (⟨bp,0,(268435456+n.hl),ownV sh 0 c.legs,lad,lcap⟩:PtV) }:NdV),rfl,by rw[aF,bG,hy];rfl,(nx { n with hl:=n.hl+1 } c.id (⟨bp,0,(268435456+n.hl),ownV sh 0 c.legs,lad,lcap⟩:PtV)).trans (by rw[show PtV.m (⟨bp,0,(268435456+n.hl),ownV sh 0 c.legs,lad,lcap⟩:PtV)=⟨0,(268435456+n.hl),ownM sh 0 c.m.legs⟩ by unfold PtV.m;rw[pZ];rfl];rfl),rfl⟩;refine(Ent.at (A:=msP y) (Ent.d8 (f:=msP) fq)).trans ?_;refine(Ent.at (A:=obj a0 tMs [ac y.m.frm,ac y.m.to,ag y.ad (ctB y.m.ct).length y.cap]) (Ent.f7 (enc:=bC) (sz:=3) (xs:=[y]) (n:=1) (by simp only[aO,cW,aH];rfl) rfl (by intro x hx;rfl) ae)).trans ?_;refine(Ent.at (A:=allP legP c.legs) (HQ sh 0 c.legs _)).trans ?_;refine(Ent.at (A:=gmap kvI cL n.mp (gins n.parts c.id (⟨bp,0,(268435456+n.hl),[],none,0⟩:PtV))) (Ent.l8 (BM (a:=(⟨bp,0,(268435456+n.hl),[],none,0⟩:PtV)) (b:=(⟨bp,0,(268435456+n.hl),ownV sh 0 c.legs,lad,lcap⟩:PtV)) rfl))).trans ?_;refine Ent.trans ?_ (Ent.a8 (Ent.a8 (xO (n:={ n with hl:=n.hl+1 }) hn hg (⟨bp,0,(268435456+n.hl),ownV sh 0 c.legs,lad,lcap⟩:PtV))));simp only[ptL,ptC,ndC];exact ah
   | false =>
    have hr:iq sh c.m tick n.m S=([⟨sh,ey c.id,ct0 2 c.id 0 (dB (¬(3:Int)=3))⟩],{ n.m with parts:=gins n.m.parts c.id ⟨3,(268435456+n.hl),[]⟩ },S):=by
     unfold iq;rw[a6,b5];dsimp only;rw[if_neg (show ¬gOk S 2 tick (gL (268435456+n.m.hl) (ownM sh 0 c.m.legs))=true by rw[show gOk S 2 tick (gL (268435456+n.m.hl) (ownM sh 0 c.m.legs))=false from hgo];exact cS),aW (show ¬ ¬(3:Int)=3 by decide)];rfl
    have c4:=mL hgo;rw[c4];refine Uc ?_;intros;refine GPW.cr (gB c.id) ?_;refine Uc ?_;intros;refine GPW.ent (L':=obj nb tNd [ax lb,ac sh,ac shs,ac n.cnt,ac n.hl,.map (some n.mb),.map (some n.mp),.map (some n.mr)]::ctP (ct0V 2 c.id 0 (dB (¬(3:Int)=3)))::(obj bp tPt [ac 3,ac (268435456+n.hl),ag none 0 0]::gmap kvI cJ n.mb n.begun::bigO exF n.begun::gmap kvI cL n.mp (gins n.parts c.id (⟨bp,0,(268435456+n.hl),[],none,0⟩:PtV))::bigO ptF n.parts::gmap kvP bT n.mr (tfK n.recv)::aS lb S::L)) ((ct0_P (kind:=2) (id:=c.id) (index:=0) (yes:=(dB (¬(3:Int)=3)))).trans ah) ?_;refine GPW.ca (fB nb lb sh shs n.cnt n.hl n.mb n.mp n.mr (ey c.id) (ct0V 2 c.id 0 (dB (¬(3:Int)=3))) (ju (kind:=2) (index:=0) (by unfold I64;omega) a7 (by unfold I64;omega))) ?_;rintro _ _⟨y,rfl,hy,rfl⟩;simp only[ndC];refine Uc ?_;intros;rename_i a0;rw[hr];refine KX.a8 aA ?_ ⟨some ⟨a0,0,none⟩,1,[y],({ n with parts:=gins n.parts c.id (⟨bp,3,(268435456+n.hl),[],none,0⟩:PtV) }:NdV),rfl,by rw[aF,bG,hy];rfl,nx n c.id (⟨bp,3,(268435456+n.hl),[],none,0⟩:PtV),rfl⟩;refine(Ent.at (A:=msP y) (Ent.d8 (f:=msP) fq)).trans ?_;refine(Ent.at (A:=obj a0 tMs [ac y.m.frm,ac y.m.to,ag y.ad (ctB y.m.ct).length y.cap]) (Ent.f7 (enc:=bC) (sz:=3) (xs:=[y]) (n:=1) (by simp only[aO,cW,aH];rfl) rfl (by intro x hx;rfl) ae)).trans ?_;refine(Ent.c8 dH 8 tOw).trans ((Ent.c7 owP).trans ?_);refine(Ent.at (A:=gmap kvI cL n.mp (gins n.parts c.id (⟨bp,0,(268435456+n.hl),[],none,0⟩:PtV))) (Ent.l8 (BM (a:=(⟨bp,0,(268435456+n.hl),[],none,0⟩:PtV)) (b:=(⟨bp,3,(268435456+n.hl),[],none,0⟩:PtV)) rfl))).trans ?_;refine Ent.trans ?_ (Ent.a8 (Ent.a8 (xO hn hg (⟨bp,3,(268435456+n.hl),[],none,0⟩:PtV))));simp only[ptL,ptC,ndC];exact ah
  have a9:(i:Int).toNat=i:=ab;have a3:c.legs[i]!∈c.legs:=by rw[getElem!_of b0];exact bR b0
  have c1:c.legs[i]!.m.am.length≤100:=(b7 _ a3).2.1;have a1:=EW sh c.legs b0;refine G.ent (Ent.at (A:=allP legP c.legs) (Ent.c9 (f:=legP) a3)) ?_;by_cases h1:c.legs[(i:Int).toNat]!.m.sh=sh
  ·have a2:=h1;rw[a9] at a2;rw[if_pos a2] at a1;refine Uc ?_;intros;rw[a9];refine GO.ef (Ef.a8 (enc:=dH) (e:=(⟨c.legs[i]!,(i:Int),0,[],none,0⟩:OwV)) rfl rfl rfl rfl rfl aQ (FK _) ab ab) ae ?_;rintro _ _⟨b3,a4,rfl,rfl⟩;refine Uc ?_;intros;refine GPW.ca (jB c.legs[i]!.ad _ _ c.legs[i]!.m.am rfl ab c.legs[i]!.m.fr (268435456+n.hl)) ?_;rintro _ _⟨c6,c0,rfl,rfl⟩;refine Uc ?_;intros;have d3:(mvsA c.legs[i]!.m.fr (268435456+n.hl) c.legs[i]!.m.am).length≤100:=by unfold mvsA;rw[an];exact c1
   refine GPW.ef (Ef.d7 (enc:=cj) (ys:=mvsA c.legs[i]!.m.fr (268435456+n.hl) c.legs[i]!.m.am) rfl rfl rfl rfl rfl (fun e _=>mA e) ab ab) ae ?_;rintro _ _⟨b4,a5,rfl,rfl⟩;refine Uc ?_;intros;have b2:=DM (268435456+n.hl) (ownV sh 0 (c.legs.take i)) (⟨c.legs[i]!,(i:Int),0,[],none,0⟩:OwV);dsimp only at b2;refine⟨(i+1,b3,a4,b4,a5),by dsimp only;omega,by dsimp only;omega,?_,?_⟩
   ·dsimp only;rw[a1,b2,bh i];exact aC
   ·dsimp only;rw[a1,b2];exact ah
  ·have a2:=h1;rw[a9] at a2;rw[if_neg a2,aH] at a1;refine Uc ?_;intros;refine⟨(i+1,lad,lcap,mad,mcap),by dsimp only;omega,by dsimp only;omega,?_,?_⟩
   ·dsimp only;rw[a1,bh i];exact aC
   ·dsimp only;rw[a1];exact ah
