/- Lemmas. -/
import Derived.Test.YtlgpgjdggilkgaaGreatDoorEcbe
set_option linter.all false
set_option maxHeartbeats 4000000
namespace Go.Proofs.YtlgpgjdggilkgaaGreatDoor
section
open Go.V
def kOf(S:LedM):Nat:=(S.steps.map fun s=>mvK s.moves).sum
structure ExOk (x:ExM):Prop where
 legs:x.legs.length≤32
 lg:∀l∈x.legs,lM l
 gl:x.givers.length≤100
 gv:∀g∈x.givers,I64 g
 un:I64 x.until_
structure PtOk (p:PtM):Prop where
 legs:p.legs.length≤32
 ow:∀o∈p.legs,OwOk o
structure NdOk (sh shs:Int) (c:CatM) (N:NdM) (S:LedM):Prop where
 led:LdI sh c (kOf S) S
 hl:0≤N.hl∧N.hl≤kOf S
 cnt:0≤N.cnt∧N.cnt≤1000000
 sh:0≤sh∧sh<shs∧shs≤12
 begun:∀p∈N.begun,I64 p.1∧ExOk p.2
 parts:∀p∈N.parts,I64 p.1∧PtOk p.2
def NdM.setB(N:NdM)(id:Int)(f:ExM→ExM):NdM:=match glk N.begun id with
 | some x=>{ N with begun:=gins N.begun id (f x) }
 | none=>N
def NdM.setP(N:NdM)(id:Int)(f:PtM→PtM):NdM:=match glk N.parts id with
 | some p=>{ N with parts:=gins N.parts id (f p) }
 | none=>N
abbrev HRes:=List MsM×NdM×LedM
def lN(nb lb:Nat)(sh shs:Int)(r:HRes)(L:LH)(v:Value)(L' : LH):Prop :=
 ∃ad cap ms n',v=ag ad ms.length cap∧ms.map (·.m)=r.1∧n'.m=r.2.1∧L' = osl bC 3 tMs ad cap ms::allP msP ms::ndL nb lb sh shs n' (aS lb r.2.2::L)
def jD(from_:Int)(m:CtM)(N:NdM)(S:LedM):HRes:=([],N.setB m.id (fun x=>{ x with told:=addS x.told from_ }),S)
def jF(index:Int)(o:OwM):OwM:=if o.index=index∧o.state=1 then { o with state:=2 } else o
def gotM(m:CtM)(N:NdM)(S:LedM):HRes:=([],N.setP m.id (fun p=>{ p with legs:=p.legs.map (jF m.index) }),S)
def gotV(index:Int)(o:OwV):OwV:=if o.index=index∧o.state=1 then⟨o.leg,o.index,2,o.flows,o.fad,o.fcap⟩ else o
def JN(index:Int)(o:OwV):(gotV index o).m=jF index o.m:=by
 unfold gotV jF;by_cases h:o.index=index∧o.state=1
 ·rw[if_pos h,if_pos (show o.m.index=index∧o.m.state=1 from h)];rfl
 ·rw[if_neg h,if_neg (show ¬(o.m.index=index∧o.m.state=1) from h)]
def preL{α:Type}(f:α→α)(i:Nat)(l:List α):List α:=(l.take i).map f++l.drop i
section
variable {α:Type}[Inhabited α]{f:α→α}{i:Nat}{l:List α}
omit [Inhabited α] in
def rQ:(preL f i l).length=l.length:=by unfold preL;rw[aj,an,aK,bY];omega
omit [Inhabited α] in
def EO:preL f 0 l=l:=by unfold preL;rw[aR];rfl
omit [Inhabited α] in
def GL(h:l.length≤i):preL f i l=l.map f:=by unfold preL;rw[aD h,bQ h,aH]
def Bp(h:i<l.length):(preL f i l)[i]! = l[i]!:=by
 rw[getElem!_of (by rw[rQ];exact h),getElem!_of h];unfold preL;rw[cM (by rw[an,aK];omega),fu];congr 1;rw[an,aK];omega
def xi(h:i<l.length):(preL f i l).set i (f l[i]!)=preL f (i+1) l:=by
 unfold preL;rw[eN _ _ (by rw[an,aK];omega),az h,aJ,aB,getElem!_of h];congr 1;rw[show i - ((l.take i).map f).length=0 by rw[an,aK];omega,bV h];rfl
def vf(h:i<l.length)(e:f l[i]! = l[i]!):preL f (i+1) l=preL f i l:=by
 have h1:=xi (f:=f) h;rw[e,←Bp (f:=f) h,mF (by rw[rQ];exact h)] at h1;exact h1.symm
end
def IB{index:Int}{os:List OwV}{L:LH}:Ent (allP owP os::L) (allP owP (os.map (gotV index))::L) :=
 Ent.l6 fun y hy=>by
  obtain⟨x,hx,rfl⟩:=List.mem_map.1 hy;refine⟨x,hx,?_⟩;unfold gotV;split<;>rfl
attribute [local irreducible] G GO GP GPW GPK GF GE Ev Ef EfR Ent CB GB V.Enters
abbrev An:=XD [.ev 10,.ev 11]
def SX{φ ψ:Prop}(k:ψ)(h:Hid ψ→φ:=by intro k;(repeat (first|refine aa ?_|intro zzz|refine G.dr 27 1 An ?_));(repeat revert zzz);exact Hid.out k):φ:=h ⟨k⟩
def AD{L:LH}(nb lb:Nat)(sh shs:Int)(n:NdV)(S:LedM)(from_ tick:Int)(c:CtV) :
  Tri Tryz.prog 140 #[ax nb,ac from_,aU (eW c),ac tick] (ndL nb lb sh shs n (aS lb S::L)) (lN nb lb sh shs (jD from_ c.m n.m S) L):=by
 refine Tri.bd ?_;simp only[ndL,ndC];refine G.c9 (fi (b:=n.mb)) fun hn=>?_;cases hg:List.lookup c.id n.begun with
 | none =>
  have hr:jD from_ c.m n.m S=([],n.m,S):=by
   unfold jD NdM.setB;rw[show glk n.m.begun c.m.id=none by rw[gc,show c.m.id=c.id from rfl,hg];rfl]
  refine SX ?_;intros;refine GPW.evL (Ev.a8 rfl rfl) ae ?_;rw[hg];dsimp only[Option.map,Option.getD,Option.isSome];refine SX ?_;intros;rw[hr];refine KX.a8 aA ?_ ⟨none,0,[],n,rfl,rfl,rfl,rfl⟩;refine(Ent.c8 bC 3 tMs).trans ((Ent.c7 msP).trans ?_);simp only[ndL,ndC];exact ah
 | some x =>
  have hr:jD from_ c.m n.m S=([],({ n with begun:=gins n.begun c.id { x with told:=addS x.told from_ } }:NdV).m,S):=by
   unfold jD NdM.setB;rw[show glk n.m.begun c.m.id=some x.m by rw[gc,show c.m.id=c.id from rfl,hg];rfl];simp only[NdV.m,kG];rfl
  refine G.ent (Ent.at (A:=bigO exF n.begun) (qz hn hg)) ?_;simp only[exL,exC];refine SX ?_;intros;refine GPW.evL (Ev.a8 rfl rfl) ae ?_;rw[hg];dsimp only[Option.map,Option.getD,Option.isSome,cJ];refine SX ?_;intros;refine GO.efu (Ef.c9 (enc:=bT) true rfl rfl rfl rfl) ?_;rintro _ _ rfl;rw[Bg];refine SX ?_;intros;rw[hr];refine KX.a8 aA ?_ ⟨none,0,[],({ n with begun:=gins n.begun c.id { x with told:=addS x.told from_ } }:NdV),rfl,rfl,rfl,rfl⟩;refine(Ent.c8 bC 3 tMs).trans ((Ent.c7 msP).trans ?_);simp only[ndL,ndC];refine Ent.trans (B:=gmap kvI cJ n.mb n.begun::exL { x with told:=addS x.told from_ } (bigO exF (gera n.begun c.id)::osl bC 3 tMs none 0 []::allP msP []::obj nb tNd [ax lb,ac sh,ac shs,ac n.cnt,ac n.hl,.map (some n.mb),.map (some n.mp),.map (some n.mr)]::gmap kvI cL n.mp n.parts::bigO ptF n.parts::gmap kvP bT n.mr (tfK n.recv)::aS lb S::L)) ?_ ?_
  ·simp only[exL,exC];exact ah
  ·refine(uI hn hg { x with told:=addS x.told from_ } rfl).trans ?_;exact ah
abbrev Am:=XD [.ev 10,.ev 11]
abbrev Al:=XF [.ev 17,.ev 18,.ev 19,.ev 20,.ev 21]
def Tc{φ ψ:Prop}(k:ψ)(h:Hid ψ→φ:=by intro k;(repeat (first|refine aa ?_|intro zzz|refine G.dr 61 1 Am ?_|refine G.dr 61 6 Al ?_));(repeat revert zzz);exact Hid.out k):φ:=h ⟨k⟩
def Du{L:LH}(nb lb:Nat)(sh shs:Int)(n:NdV)(S:LedM)(from_ tick:Int)(c:CtV)(hl:∀p∈n.parts,p.2.legs.length≤1000) :
  Tri Tryz.prog 142 #[ax nb,ac from_,aU (eW c),ac tick] (ndL nb lb sh shs n (aS lb S::L)) (lN nb lb sh shs (gotM c.m n.m S) L):=by
 refine Tri.bd ?_;simp only[ndL,ndC];refine G.c9 (fi (b:=n.mp)) fun hn=>?_;cases hg:List.lookup c.id n.parts with
 | none =>
  have hr:gotM c.m n.m S=([],n.m,S):=by
   unfold gotM NdM.setP;rw[show glk n.m.parts c.m.id=none by rw[fK,show c.m.id=c.id from rfl,hg];rfl]
  refine Tc ?_;intros;refine GPW.evL (Ev.a8 rfl rfl) ae ?_;rw[hg];dsimp only[Option.map,Option.getD,Option.isSome];refine Tc ?_;intros;rw[hr];refine KX.a8 aA ?_ ⟨none,0,[],n,rfl,rfl,rfl,rfl⟩;refine(Ent.c8 bC 3 tMs).trans ((Ent.c7 msP).trans ?_);simp only[ndL,ndC];exact ah
 | some x =>
  have a7:x.legs.length≤1000:=hl _ (cu hg)
  have hr:gotM c.m n.m S=([],({ n with parts:=gins n.parts c.id { x with legs:=x.legs.map (gotV c.index) } }:NdV).m,S):=by
   unfold gotM NdM.setP;rw[show glk n.m.parts c.m.id=some x.m by rw[fK,show c.m.id=c.id from rfl,hg];rfl];simp only[NdV.m,kG,PtV.m,cX];rw[show(jF c.m.index ∘ OwV.m)=(OwV.m ∘ gotV c.index) from funext fun o=>(JN c.index o).symm];rfl
  refine G.ent (Ent.at (A:=bigO ptF n.parts) (mU hn hg)) ?_;simp only[ptL,ptC];refine Tc ?_;intros;refine GPW.evL (Ev.a8 rfl rfl) ae ?_;rw[hg];dsimp only[Option.map,Option.getD,Option.isSome,cL];refine Tc ?_;intros;rename_i b6;refine G.loop (α:=Nat) (fun i=>i≤x.legs.length) (fun i=>[(6,ax b6),(9,.pointer (some ⟨x.b,0,none⟩)),(27,ac (x.legs.length:Int)),(28,ac (i:Int))]) (fun i=>osl dH 8 tOw x.lad x.lcap (preL (gotV c.index) i x.legs)::obj b6 tCt (eW c)::obj x.b tPt [ac x.state,ac x.hold,ag x.lad x.legs.length x.lcap]::allP owP x.legs::bigO ptF (gera n.parts c.id)::obj nb tNd [ax lb,ac sh,ac shs,ac n.cnt,ac n.hl,.map (some n.mb),.map (some n.mp),.map (some n.mr)]::gmap kvI cJ n.mb n.begun::bigO exF n.begun::gmap kvI cL n.mp n.parts::gmap kvP bT n.mr (tfK n.recv)::aS lb S::L) (fun i=>x.legs.length - i) 0 (aw _) aC (by rw[EO];exact ah) ?_;intro i hi;by_cases a2:i<x.legs.length
  case neg =>
   rw[GL ab];refine Tc ?_;intros;rw[hr];refine KX.a8 aA ?_ ⟨none,0,[],({ n with parts:=gins n.parts c.id { x with legs:=x.legs.map (gotV c.index) } }:NdV),rfl,rfl,rfl,rfl⟩;refine(Ent.c8 bC 3 tMs).trans ((Ent.c7 msP).trans ?_);simp only[ndL,ndC];refine(Ent.at (A:=allP owP x.legs) (IB (index:=c.index))).trans ?_;refine Ent.trans (B:=gmap kvI cL n.mp n.parts::ptL { x with legs:=x.legs.map (gotV c.index) } (bigO ptF (gera n.parts c.id)::osl bC 3 tMs none 0 []::allP msP []::obj nb tNd [ax lb,ac sh,ac shs,ac n.cnt,ac n.hl,.map (some n.mb),.map (some n.mp),.map (some n.mr)]::gmap kvI cJ n.mb n.begun::bigO exF n.begun::gmap kvP bT n.mr (tfK n.recv)::aS lb S::L)) ?_ ?_
   ·simp only[ptL,ptC,an];exact ah
   ·refine(Bn hn hg { x with legs:=x.legs.map (gotV c.index) } rfl).trans ?_;exact ah
  have a0:(i:Int).toNat=i:=ab;have a6:(preL (gotV c.index) i x.legs).length=x.legs.length:=rQ;have a1:=Bp (f:=gotV c.index) a2;by_cases h1:(preL (gotV c.index) i x.legs)[(i:Int).toNat]!.index=c.index
  ·have a4:=h1;rw[a0,a1] at a4;by_cases h2:(preL (gotV c.index) i x.legs)[(i:Int).toNat]!.state=1
   ·have a5:=h2;rw[a0,a1] at a5;refine Tc ?_;intros;refine GO.efu (Ef.f7 (enc:=dH) (e:=gotV c.index x.legs[i]!) rfl rfl (by rw[a0,a1];unfold gotV;rw[if_pos ⟨a4,a5⟩];rfl) rfl ab ae) ?_;rintro _ _ rfl;rw[a0,xi a2];refine Tc ?_;intros;refine⟨i+1,ab,ab,?_,by exact ah⟩;rw[bh i];exact aC
   ·have a3:preL (gotV c.index) (i+1) x.legs=preL (gotV c.index) i x.legs:=vf a2 (if_neg fun q=>h2 (by rw[a0,a1];exact q.2));refine Tc ?_;intros;refine⟨i+1,ab,ab,?_,by rw[a3];exact ah⟩;rw[bh i];exact aC
  ·have a3:preL (gotV c.index) (i+1) x.legs=preL (gotV c.index) i x.legs:=vf a2 (if_neg fun q=>h1 (by rw[a0,a1];exact q.1));refine Tc ?_;intros;refine⟨i+1,ab,ab,?_,by rw[a3];exact ah⟩;rw[bh i];exact aC
end
section
open Go.V
def ct0(kind id index:Int)(yes:Bool):CtM:=⟨kind,id,index,yes,[],[]⟩
def ct0V(kind id index:Int)(yes:Bool):CtV:=⟨kind,id,index,yes,[],none,0,[],none,0⟩
def ju{kind id index:Int}{yes:Bool}(h1:I64 kind)(h2:I64 id)(h3:I64 index):CtOk (ct0 kind id index yes) :=
 ⟨⟨h1,h2,h3⟩,aw _,fun _ h=>absurd h ay,aw _,fun _ h=>absurd h ay⟩
def ct0_P{kind id index:Int}{yes:Bool}{L:LH}:Ent L (ctP (ct0V kind id index yes)::L):=by
 refine(Ent.d9 (encZ .i64) 1 none).trans ?_;refine(Ent.c7 legP).trans ?_;refine(Ent.f8 (cH fC) (bO _ _ _ _)).trans ?_;refine(Ent.d9 bA 5 none).trans ?_;exact Ent.f8 (bO _ _ _ _) (PersM.and (cH fC) (bO _ _ _ _))
def ExM.decided(x:ExM)(takes:Bool):ExM:={ x with dec:=true,takes:=takes }
def gy(sh from_:Int)(m:CtM)(tick:Int)(N:NdM)(S:LedM):HRes:=match glk N.begun m.id with
 | none=>([],N,S)
 | some x =>
  if x.dec=true then([],N,S)
  else if m.yes=false then(dl sh x.givers [] (ct0 3 m.id 0 false),{ N with begun:=gins N.begun m.id (x.decided false) },S)
  else if(addS x.voted from_).length<x.givers.length then([],{ N with begun:=gins N.begun m.id { x with voted:=addS x.voted from_ } },S)
  else(dl sh x.givers [] (ct0 3 m.id 0 (dB (tick≤x.until_))),{ N with begun:=gins N.begun m.id (({ x with voted:=addS x.voted from_ }:ExM).decided (dB (tick≤x.until_))) },S)
def ob(l:List Int):(tfL l).length=l.length:=by unfold tfL;rw[an]
def jz{κ α:Type}[DecidableEq κ]{l:List (κ×α)}{k:κ}{x:α}(h:glk l k=some x)(hn:(l.map (·.1)).Nodup):gins l k x=l:=by
 rw[su h];refine(dI fun p hp=>?_).trans (List.map_id _);by_cases q:p.1=k
 ·rw[if_pos q];have h2:List.lookup p.1 l=some p.2:=jW hn hp;rw[q] at h2;have h3:some x=some p.2:=h.symm.trans h2;obtain rfl:x=p.2:=by simpa using h3
  rw[←q];rfl
 ·rw[if_neg q];rfl
attribute [local irreducible] G GO GP GPW GPK GF GE Ev Ef EfR Ent CB GB V.Enters
def rJ{L:LH}(nb lb:Nat)(sh shs cnt hl:Int)(mb mp mr:Nat)(id:Int)(a0:I64 id)(x:ExV)(hg:x.givers.length≤100)(takes:Bool) :
  Tri Tryz.prog 145 #[ax nb,ac id,.pointer (some ⟨x.b,0,none⟩),.bool takes] (obj nb tNd (ndC lb sh shs cnt hl mb mp mr)::obj x.b tEx (exC x)::isl (encZ .i64) 1 x.gad x.givers::L) (fun v L'=>∃ad cap ms,v=ag ad ms.length cap∧ms.map (·.m)=dl sh x.givers [] (ct0 3 id 0 takes)∧L' = osl bC 3 tMs ad cap ms::allP msP ms::obj nb tNd (ndC lb sh shs cnt hl mb mp mr)::obj x.b tEx (exC { x with dec:=true,takes:=takes })::isl (encZ .i64) 1 x.gad x.givers::L):=by
 have hc:CtOk (ct0V 3 id 0 takes).m:=ju (kind:=3) (index:=0) (by unfold I64;omega) a0 (by unfold I64;omega);refine Tri.bd ?_;simp only[ndC,exC];refine Ks ?_;intros;refine GO.ent (L':=obj nb tNd [ax lb,ac sh,ac shs,ac cnt,ac hl,.map (some mb),.map (some mp),.map (some mr)]::ctP (ct0V 3 id 0 takes)::obj x.b tEx [ag x.lad x.legs.length x.lcap,ag x.gad x.givers.length x.gcap,ac x.until_,.map (some x.mv),.map (some x.mt),.bool true,.bool takes]::isl (encZ .i64) 1 x.gad x.givers::L) (ct0_P.trans ah) ?_;refine GO.ca (mh nb lb sh shs cnt hl mb mp mr { x with dec:=true,takes:=takes } hg (ct0V 3 id 0 takes) hc none [] (.inl ⟨rfl,rfl⟩)) ?_;rintro _ _⟨ad,cap,ms,rfl,a1,rfl⟩;simp only[ndC,exC];refine Ks ?_;intros;refine KX.a8 aA ah ⟨ad,cap,ms,rfl,a1,rfl⟩
abbrev Ak:=XD [.ev 10,.ev 11]
abbrev Aj:=XD [.ev 10]
abbrev Ai:=XD [.ef 10,.ev 11]
def Tm{φ ψ:Prop}(k:ψ)(h:Hid ψ→φ:=by intro k;(repeat (first|refine aa ?_|intro zzz|refine G.dr 64 1 Ak ?_|refine G.dr 64 7 Aj ?_|refine G.dr 64 9 Ai ?_));(repeat revert zzz);exact Hid.out k):φ:=h ⟨k⟩
def AC{L:LH}(nb lb:Nat)(sh shs:Int)(n:NdV)(S:LedM)(from_ tick:Int)(c:CtV)(a7:I64 c.id)(a5:∀p∈n.begun,p.2.givers.length≤100) :
  Tri Tryz.prog 138 #[ax nb,ac from_,aU (eW c),ac tick] (ndL nb lb sh shs n (aS lb S::L)) (lN nb lb sh shs (gy sh from_ c.m tick n.m S) L):=by
 refine Tri.bd ?_;simp only[ndL,ndC];refine G.c9 (fi (b:=n.mb)) fun hn=>?_;cases hg:List.lookup c.id n.begun with
 | none =>
  have hr:gy sh from_ c.m tick n.m S=([],n.m,S):=by
   unfold gy;rw[show glk n.m.begun c.m.id=none by rw[gc,show c.m.id=c.id from rfl,hg];rfl]
  refine Tm ?_;intros;refine GPW.evL (Ev.a8 rfl rfl) ae ?_;rw[hg];dsimp only[Option.map,Option.getD,Option.isSome];refine Tm ?_;intros;rw[hr];refine KX.a8 aA ?_ ⟨none,0,[],n,rfl,rfl,rfl,rfl⟩;refine(Ent.c8 bC 3 tMs).trans ((Ent.c7 msP).trans ?_);simp only[ndL,ndC];exact ah
 | some x =>
  have hl:glk n.m.begun c.id=some x.m:=by rw[gc,hg];rfl
  have a1:c.m.id=c.id:=rfl;have a6:x.givers.length≤100:=a5 _ (cu hg);refine G.ent (Ent.at (A:=bigO exF n.begun) (qz hn hg)) ?_;simp only[exL,exC];refine Tm ?_;intros;refine GPW.evL (Ev.a8 rfl rfl) ae ?_;rw[hg];dsimp only[Option.map,Option.getD,Option.isSome,cJ];have a0:=fun (M:LH) (t:Bool)=>rJ (L:=M) nb lb sh shs n.cnt n.hl n.mb n.mp n.mr c.id a7 x a6 t;simp only[exC] at a0;cases hd:x.dec with
  | true =>
   have hr:gy sh from_ c.m tick n.m S=([],{ n.m with begun:=gins n.m.begun c.id x.m },S):=by
    unfold gy;rw[a1,hl];dsimp only;rw[if_pos (show x.m.dec=true from hd),jz hl (by show((mapV ExV.m n.begun).map (·.1)).Nodup;rw[jK];exact hn)]
   refine Tm ?_;intros;rw[hr];refine KX.a8 aA ?_ ⟨none,0,[],({ n with begun:=gins n.begun c.id x }:NdV),rfl,rfl,qY n c.id x,rfl⟩;refine(Ent.c8 bC 3 tMs).trans ((Ent.c7 msP).trans ?_);refine Ent.trans ?_ (Ent.a8 (Ent.a8 (kw hn hg x rfl)));simp only[exL,exC,ndC,hd];exact ah
  | false =>
   rw[hd] at a0;cases hy:c.yes with
   | false =>
    have hr:gy sh from_ c.m tick n.m S=(dl sh x.givers [] (ct0 3 c.id 0 false),{ n.m with begun:=gins n.m.begun c.id (x.m.decided false) },S):=by
     unfold gy;rw[a1,hl];dsimp only;rw[if_neg (by rw[show x.m.dec=false from hd];exact cS),if_pos (show c.m.yes=false from hy)];rfl
    refine Tm ?_;intros;rw[hy,show(!false)=true from rfl];refine Tm ?_;intros;refine GO.ent (L':=obj nb tNd [ax lb,ac sh,ac shs,ac n.cnt,ac n.hl,.map (some n.mb),.map (some n.mp),.map (some n.mr)]::obj x.b tEx [ag x.lad x.legs.length x.lcap,ag x.gad x.givers.length x.gcap,ac x.until_,.map (some x.mv),.map (some x.mt),.bool false,.bool x.takes]::isl (encZ .i64) 1 x.gad x.givers::(gmap kvI bT x.mv (tfL x.voted)::gmap kvI bT x.mt (tfL x.told)::isl bA 5 x.lad x.legs::allP legP x.legs::bigO exF (gera n.begun c.id)::gmap kvI cJ n.mb n.begun::gmap kvI cL n.mp n.parts::bigO ptF n.parts::gmap kvP bT n.mr (tfK n.recv)::aS lb S::L)) ah ?_;refine GO.ca (a0 _ false) ?_;rintro _ _⟨ad,cap,ms,rfl,a3,rfl⟩;simp only[ndC];refine Tm ?_;intros;rw[hr];refine KX.a8 aA ?_ ⟨ad,cap,ms,({ n with begun:=gins n.begun c.id { x with dec:=true,takes:=false } }:NdV),rfl,a3,qY n c.id { x with dec:=true,takes:=false },rfl⟩;refine Ent.trans ?_ (Ent.a8 (Ent.a8 (kw hn hg { x with dec:=true,takes:=false } rfl)));simp only[exL,exC,ndC];exact ah
   | true =>
    refine Tm ?_;intros;rw[hy,show(!true)=false from rfl];refine Tm ?_;intros;refine GO.efu (Ef.c9 (enc:=bT) true rfl rfl rfl rfl) ?_;rintro _ _ rfl;rw[Bg];refine Tm ?_;intros;refine GPW.evL (Ev.lenG rfl) ae ?_;rw[ob];by_cases a4:(addS x.voted from_).length<x.givers.length
    ·have a2 : ((addS x.voted from_).length:Int)<(x.givers.length:Int):=ab
     have hr:gy sh from_ c.m tick n.m S=([],{ n.m with begun:=gins n.m.begun c.id { x.m with voted:=addS x.voted from_ } },S):=by
      unfold gy;rw[a1,hl];dsimp only;rw[if_neg (by rw[show x.m.dec=false from hd];exact cS),if_neg (by rw[show c.m.yes=true from hy];exact fun q=>cS q.symm),if_pos (show(addS x.m.voted from_).length<x.m.givers.length from a4)];rfl
     refine Tm ?_;intros;rw[hr];refine KX.a8 aA ?_ ⟨none,0,[],({ n with begun:=gins n.begun c.id { x with voted:=addS x.voted from_ } }:NdV),rfl,rfl,qY n c.id { x with voted:=addS x.voted from_ },rfl⟩;refine(Ent.c8 bC 3 tMs).trans ((Ent.c7 msP).trans ?_);refine Ent.trans ?_ (Ent.a8 (Ent.a8 (kw hn hg { x with voted:=addS x.voted from_ } rfl)));simp only[exL,exC,ndC,hd];exact ah
    ·have a2 : ¬((addS x.voted from_).length:Int)<(x.givers.length:Int):=ab
     have hr:gy sh from_ c.m tick n.m S=(dl sh x.givers [] (ct0 3 c.id 0 (dB (tick≤x.until_))),{ n.m with begun:=gins n.m.begun c.id (({ x.m with voted:=addS x.voted from_ }:ExM).decided (dB (tick≤x.until_))) },S):=by
      unfold gy;rw[a1,hl];dsimp only;rw[if_neg (by rw[show x.m.dec=false from hd];exact cS),if_neg (by rw[show c.m.yes=true from hy];exact fun q=>cS q.symm),if_neg (show ¬(addS x.m.voted from_).length<x.m.givers.length from a4)];rfl
     refine Tm ?_;intros;refine GPW.ent (L':=obj nb tNd [ax lb,ac sh,ac shs,ac n.cnt,ac n.hl,.map (some n.mb),.map (some n.mp),.map (some n.mr)]::obj x.b tEx [ag x.lad x.legs.length x.lcap,ag x.gad x.givers.length x.gcap,ac x.until_,.map (some x.mv),.map (some x.mt),.bool false,.bool x.takes]::isl (encZ .i64) 1 x.gad x.givers::(gmap kvI bT x.mv (tfL (addS x.voted from_))::gmap kvI bT x.mt (tfL x.told)::isl bA 5 x.lad x.legs::allP legP x.legs::bigO exF (gera n.begun c.id)::gmap kvI cJ n.mb n.begun::gmap kvI cL n.mp n.parts::bigO ptF n.parts::gmap kvP bT n.mr (tfK n.recv)::aS lb S::L)) ah ?_;refine GPW.ca (a0 _ (dB (tick≤x.until_))) ?_;rintro _ _⟨ad,cap,ms,rfl,a3,rfl⟩;simp only[ndC];refine Tm ?_;intros;rw[hr];refine KX.a8 aA ?_ ⟨ad,cap,ms,({ n with begun:=gins n.begun c.id { x with voted:=addS x.voted from_,dec:=true,takes:=dB (tick≤x.until_) } }:NdV),rfl,a3,qY n c.id { x with voted:=addS x.voted from_,dec:=true,takes:=dB (tick≤x.until_) },rfl⟩;refine Ent.trans ?_ (Ent.a8 (Ent.a8 (kw hn hg { x with voted:=addS x.voted from_,dec:=true,takes:=dB (tick≤x.until_) } rfl)));simp only[exL,exC,ndC,hd];exact ah
