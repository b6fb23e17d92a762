/- Lemmas. -/
import Derived.Test.YtlgpgjdggilkgaaGreatDoorEcau
set_option linter.all false
set_option maxHeartbeats 1000000
namespace Go.Proofs.YtlgpgjdggilkgaaGreatDoor
open Go.V
attribute [local irreducible] G GO GP GPW GPK Ev Ef EfR Ent CB GB V.Enters
def iaOf(s:StM)(m:MvM):LL:=if s.kind=5 then m.parts else[]
def raOf(s:StM)(m:MvM):LL:=if s.kind=9∧m.frm=0 then m.parts else[]
end Go.Proofs.YtlgpgjdggilkgaaGreatDoor
namespace Go.V
section
variable {P:Program}{L:LH}{env:Env}{ty:TypeId}
def Ev.v6{t:TypeId}{x hi mx:Operand}{ad:OA}{n c E sz bb:Nat}{z:LV}{k k' : IntKind}{j:Int}[ht:TySl P t E sz bb z](hx:evE env x=some (.slice ad n c))(hh:evE env hi=some (.int k j))(hm:evE env mx=some (.int k' j))(h0:0≤j)(h1:j≤c):Ev P L env (.slice t x none (some hi) (some mx)) ty (.slice ad j.toNat j.toNat) :=
 Ev.mk (fun _ _ _ w ea _ _ _ _ _=>by
  obtain⟨ii,z0,i1,i2,i3,i4,i5⟩:=ht.parts;have h2:j≤(j.toNat:Int):=ab;simp[execOp,aL ea hx,aL ea hh,aL ea hm,Instr.sliceAt,Instr.slice,run_underlying ht.under,Instr.sliceBounds,Instr.sliceBound,asIntOf,h0,h1,h2,sizeOf,typeInfo,i1];rw[if_pos ab];cases ad<;>simp[Addr.add])
end
end Go.V
namespace Go.Proofs.YtlgpgjdggilkgaaGreatDoor
section
open Go.V
attribute [local irreducible] G GO GP GPW GPK Ev Ef EfR Ent CB GB V.Enters
def lj{L:LH}(ad:OA)(n c:Nat)(h:n≤c):Tri Tryz.prog 304 #[ag ad n c] L (rtQ (ag ad n n) L):=by
 refine Tri.bd ?_;refine Ks ?_;intros;refine GO.ev (Ev.v6 rfl rfl rfl ab ab) ae ?_;rw[aY];refine Ks ?_;intros;exact KX.en ⟨rfl,rfl⟩
def Fv{sh:Int}{nf:Nat}{mix:Int→Bool}{s:StM}{W:Wk}{m:MvM}(hm:MvA s.kind m)(fl:List FlM):cz (fl++[fE sh nf mix s W m])=cz fl++iaOf s m∧fT (fl++[fE sh nf mix s W m])=fT fl++raOf s m:=by
 rw[rA,rr];unfold iaOf raOf;constructor
 ·congr 1;by_cases h:s.kind=5
  ·rw[if_pos h,if_pos (show(fE sh nf mix s W m).kind=5 from h)];exact qu hm (.inl h)
  ·rw[if_neg h,if_neg (show ¬(fE sh nf mix s W m).kind=5 from h)]
 ·congr 1;by_cases h:s.kind=9∧m.frm=0
  ·rw[if_pos h,if_pos (show(fE sh nf mix s W m).kind=9∧(fE sh nf mix s W m).frm=0 from h)];exact qu hm (.inr h)
  ·rw[if_neg h,if_neg (show ¬((fE sh nf mix s W m).kind=9∧(fE sh nf mix s W m).frm=0) from h)]
end
end Go.Proofs.YtlgpgjdggilkgaaGreatDoor
namespace Go.V
class TyIB (P:Program) (T:Nat) (ks:outParam (List Bool)):Prop where
 under:P.underlying T=some (.struct (P.fieldsOf T))
 free:P.stoodInHeld T=false
 guard:P.eqGuardType P.depth T=false
 flds : (P.fieldsOf T).toList.map (fun f => (f.name == "_", f.offset, P.underlying f.type)) = (List.range ks.length).map fun i => (false, i, some (if ks[i]! then TypeDesc.bool else .int .i64))
end Go.V
namespace Go.Proofs.YtlgpgjdggilkgaaGreatDoor
open Go.V
def stK:List StM→Nat
 | []=>0
 | s::ss=>mvK s.moves+stK ss
def stL(a i:Int):List StM→Nat
 | []=>0
 | s::ss=>fU a i s.moves+stL a i ss
def tg:∀x y:List StM,stK (x++y)=stK x+stK y
 | [],y=>by show stK y=0+stK y;omega
 | s::x,y=>by
  have:=tg x y
  show mvK s.moves+stK (x++y)=mvK s.moves+stK x+stK y;omega
def vx(S:LedM)(s:StM):(ce S s).cat=S.cat:=by unfold ce;split<;>rfl
def rE(S:LedM)(s:StM):∃z,(ce S s).flows=S.flows++z:=by
 unfold ce;split
 ·exact⟨_,rfl⟩
 ·exact⟨[],(aH _).symm⟩
def Fl{sh:Int}(h:0≤sh∧sh<12)(c:CatM):LedA 0 (led0 sh c) where
 g:={
  shard:=h
  steps:=aw _
  flows:=aq _
  stk:=fun _ _=>⟨aq _,(fun _ q=>absurd q ay),List.Pairwise.nil⟩
  tot:=fun _=>⟨by show -(((0:Nat):Int)*1099511627776)≤0;omega,by show(0:Int)≤1099511627776;omega⟩
  fl:=fun _ q=>absurd q ay }
 fa:=fun _ q=>absurd q ay
 fn:=fun _ q=>absurd q (fN _)
 il:=aq _
 rl:=aq _
end Go.Proofs.YtlgpgjdggilkgaaGreatDoor
namespace Go.V
section tri
variable {P:Program}{f:FuncId}{args:Array Value}{L:LH}{post post' : Value→LH→Prop}
def Tri.f7{α:Type}{g:α→LH}(he:Enters P f)(h:∀x,Tri P f args (g x++L) post):Tri P f args (hex (fun x=>cm (g x))::L) post :=
 ⟨he,fun θ R w s=>by
  obtain⟨x,s1⟩:=Sat.ofHex (show Sat θ (hex (fun x=>cm (g x))::(L++R)) w from s);exact(h x).calls θ R w (by rw[aB];exact s1.ofStars)⟩
def Tri.d9{φ:Prop}(he:Enters P f)(h:φ→Tri P f args L post):Tri P f args (cY φ::L) post :=
 ⟨he,fun θ R w s=>(h (Sat.ofPure (show Sat θ (cY φ::(L++R)) w from s))).calls θ R w s.tail⟩
def Tri.conseq(h:Tri P f args L post)(hp:∀v L',post v L'→∃L'',post' v L''∧Ent L' L''):Tri P f args L post' :=
 ⟨h.enters,fun θ R w s=>(h.calls θ R w s).mono fun _ _ ⟨v,L',a,b,c⟩=>by
  obtain⟨L'',h1,h2⟩:=hp _ _ b;exact⟨v,L'',a,h1,h2 θ R _ c⟩⟩
def Tri.d8{φ:Prop}(he:Enters P f)(hφ:∀θ R w,Sat θ (L++R) w→φ)(h:φ→Tri P f args L post):Tri P f args L post :=
 ⟨he,fun θ R w s=>(h (hφ θ R w s)).calls θ R w s⟩
end tri
end Go.V
namespace Go.Proofs.YtlgpgjdggilkgaaGreatDoor
section
open Go.V
inductive LRep (sh:Int) (c:CatM):LedM→Prop
 | zero:LRep sh c (led0 sh c)
 | post {S:LedM} {s:StM}:LRep sh c S→(gTry S s).1=0→LRep sh c (ce S s)
def jg{S:LedM}{s:StM}(h:(gTry S s).1=0):gY S.cat S.now s:=by
 unfold gTry at h;by_cases h1:65536≤S.steps.length
 ·rw[if_pos h1] at h;exact absurd (show(4:Int)=0 from h) ae
 ·rw[if_neg h1] at h;by_cases h2:gY S.cat S.now s
  ·exact h2
  ·rw[if_pos h2] at h;exact absurd (show(1:Int)=0 from h) ae
def StG0.at{s:StV}(h:StG0 s)(id:Int):StG0 (s.at id):=⟨⟨h.inp.len,h.inp.rule,h.inp.parts,h.inp.cap,h.inp.bd⟩,h.cap,h.form,h.lots⟩
def zb{α:Type}(f:α→HP)(l:List α):allP f l=allP (fun x:HP=>x) (l.map f):=by
 unfold allP;funext i w;refine propext ⟨fun h x hx=>?_,fun h x hx=>h _ (alStd0List_mem_map_of_mem hx)⟩;obtain⟨y,hy,rfl⟩:=List.mem_map.1 hx;exact h y hy
def Ent.l6{α:Type}{f:α→HP}{l l' : List α}(h:∀y∈l',∃x∈l,f y=f x){L:LH}:Ent (allP f l::L) (allP f l'::L):=by
 rw[zb f l,zb f l'];refine Ent.g9 (f:=fun x:HP=>x) fun x hx=>?_;obtain⟨y,hy,rfl⟩:=List.mem_map.1 hx;obtain⟨z,hz,e⟩:=h y hy;rw[e];exact alStd0List_mem_map_of_mem hz
structure StSp (s:StV):Prop where
 inp:StInG s
 cap:s.moves.length≤s.mcap
 k:mvK s.m.moves≤4
def Bx:∀ms:List MvM,ms.length≤mvK ms
 | []=>aq _
 | m::ms=>by
  have:=Bx ms
  show ms.length+1≤(m.parts.length+1)+mvK ms;omega
def StSp.len{s:StV}(h:StSp s):s.moves.length≤4:=by
 have h1:=Bx s.m.moves;have h2:=h.k;have h3:s.m.moves.length=s.moves.length:=an _;omega
def StG0.sp{s:StV}(h:StG0 s):StSp s:=⟨h.inp,h.cap,by have:=h.k;omega⟩
structure MvSp (ms ms' : List MvV):Prop where
 img:∀y∈ms',∃x∈ms,y.pad=x.pad∧y.m.parts=x.m.parts∧y.pcap=x.pcap
def MvSp.ent{ms a0 : List MvV}(h:MvSp ms a0){L:LH}:Ent (allP mvP ms::L) (allP mvP a0::L) :=
 Ent.l6 fun y hy=>by
  obtain⟨x,hx,e1,e2,_⟩:=h.img y hy;exact⟨x,hx,by show isl aG 3 y.pad y.m.parts=isl aG 3 x.pad x.m.parts;rw[e1,e2]⟩
def MvSp.inp{s s' : StV}(h:MvSp s.moves s'.moves)(hs:StInG s)(hl:s'.moves.length≤4)(hr:I64 s'.rule):StInG s':=by
 refine⟨ab,hr,fun m hm=>?_,fun m hm=>?_,fun m hm=>?_⟩
 ·obtain⟨x,hx,e1,e2,e3⟩:=h.img m hm;rw[e2];exact hs.parts x hx
 ·obtain⟨x,hx,e1,e2,e3⟩:=h.img m hm;rw[e2,e3];exact hs.cap x hx
 ·obtain⟨x,hx,e1,e2,e3⟩:=h.img m hm;rw[e2];exact hs.bd x hx
def SpL(ss a0 : List StV):Prop:=a0 = ss∨∃k s',k<ss.length∧StSp s'∧a0 = ss.set k s'
def SpL.len{ss a0 : List StV}(h:SpL ss a0):a0.length=ss.length:=by
 rcases h with rfl|⟨k,s',_,_,rfl⟩
 ·rfl
 ·exact bH
def StSp.at{s:StV}(h:StSp s)(id:Int):StSp { s with id:=id }:=⟨⟨h.inp.len,h.inp.rule,h.inp.parts,h.inp.cap,h.inp.bd⟩,h.cap,h.k⟩
attribute [local irreducible] G GO GP GPW GPK GF GE Ev Ef EfR Ent CB GB V.Enters
end
section
open Go.V
def Ent.n5{A B:HP}{L:LH}:Ent (A::B::L) (cm [A,B]::L):=fun θ R w s=>Sat.a8 (A:=[A,B]) s
def Ent.unstars2{A B:HP}{L:LH}:Ent (cm [A,B]::L) (A::B::L):=fun θ R w s=>Sat.ofStars (A:=[A,B]) s
def flO(f:FlV):HP:=cm [osl aG 3 tLot f.pad f.pcap f.m.parts,osl (encZ .i64) 1 tInt f.mad f.mcap f.m.made]
def fl0:FlV:=⟨⟨0,0,0,0,0,0,0,0,0,[],[]⟩,none,0,none,0⟩
def yz{f:FlV}{L:LH}:Ent (flP f::L) (isl aG 3 f.pad f.m.parts::isl (encZ .i64) 1 f.mad f.m.made::flP f::L):=(Ent.dup (tP f).pers).trans Ent.andE
attribute [local irreducible] G GO GP GPW GPK Ev Ef EfR Ent CB GB V.Enters
abbrev CY:List Stp:=[.ev 0,.ev 1,.ev 3,.ev 4,.ef 2,.ev 6,.ef 5,.ef 7,.ev 8,.ef 9]
def Ns{φ ψ:Prop}(k:ψ)(h:Hid ψ→φ:=by intro k;(repeat (first|refine aa ?_|intro zzz|refine G.dr 12 1 CY ?_));(repeat revert zzz);exact Hid.out k):φ:=h ⟨k⟩
def qF{L:LH}(f:FlV)(h1:f.m.parts.length≤1000000)(h2:f.m.made.length≤1000000) :
  Tri Tryz.prog 53 #[aU (dT f)] (flP f::L) (fun v L'=>∃f',v=aU (dT f')∧f'.m=f.m∧L' = flO f'::flP f::L):=by
 obtain⟨⟨i1,i2,i3,i4,i5,i6,i7,i8,i9,parts,made⟩,pad,pcap,mad,mcap⟩:=f;dsimp only at h1 h2;refine Tri.bd (args:=[aU (dT ⟨⟨i1,i2,i3,i4,i5,i6,i7,i8,i9,parts,made⟩,pad,pcap,mad,mcap⟩)]) ?_;refine G.ent yz ?_;dsimp only;refine Ns ?_;intros;refine GPW.ca (iv pad parts.length pcap parts rfl h1) ?_;rintro _ _⟨a2,a0,rfl,rfl⟩;refine Ns ?_;intros;refine GPW.ca (mc mad made.length mcap made rfl h2) ?_;rintro _ _⟨a3,a1,rfl,rfl⟩;refine Ns ?_;intros;refine KX.a8 (by exact ResOk.cell rfl aQ (ResOk.nil)) ?_ ⟨⟨⟨i1,i2,i3,i4,i5,i6,i7,i8,i9,parts,made⟩,a2,a0,a3,a1⟩,rfl,rfl,rfl⟩;refine Ent.trans (B:=osl aG 3 tLot a2 a0 parts::osl (encZ .i64) 1 tInt a3 a1 made::flP ⟨⟨i1,i2,i3,i4,i5,i6,i7,i8,i9,parts,made⟩,pad,pcap,mad,mcap⟩::L) ah ?_;exact Ent.n5
def yK{L:LH}(ad:OA)(c:Nat)(ms:List FlV)(hl:ms.length≤100000)(hp:∀m∈ms,m.m.parts.length≤1000000∧m.m.made.length≤1000000) :
  Tri Tryz.prog 52 #[ag ad ms.length c,.func (.func 53) #[] #[]] (asl dT 11 fQ ad c ms::allP flP ms::L) (fun v L'=>∃a3 c' a1,v=ag a3 a1.length c'∧a1.map (·.m)=ms.map (·.m)∧L' = osl dT 11 fQ a3 c' a1::bigO flO a1::asl dT 11 fQ ad c ms::allP flP ms::L):=by
 refine Tri.bd ?_;by_cases h0:ms.length=0
 ·have e:ms=[]:=aZ h0;subst e;refine Ks ?_;intros;exact KX.a8 aA ((Ent.j0 flO).trans (Ent.c8 dT 11 fQ)) ⟨none,0,[],rfl,rfl,rfl⟩
 refine Ks ?_;intros;refine GO.ef (Ef.f9 dT fl0 rfl rfl rfl ab ab ab ab) ae ?_;rintro _ _⟨bs,rfl,rfl⟩;rw[show(ms.length:Int).toNat=ms.length by omega];refine Ks ?_;intros
 refine G.loop (α:=Nat×List FlV) (fun z=>z.1≤ms.length∧z.2.length=ms.length∧(z.2.take z.1).map (·.m)=(ms.take z.1).map (·.m)) (fun z=>[(1,.func (.func 53) #[] #[]),(5,ag (some ⟨bs,0,none⟩) ms.length ms.length),(14,ag ad ms.length c),(15,ac (ms.length:Int)),(16,ac (z.1:Int))])
  (fun z=>osl dT 11 fQ (some ⟨bs,0,none⟩) ms.length z.2::bigO flO (z.2.take z.1)::asl dT 11 fQ ad c ms::allP flP ms::L) (fun z=>ms.length - z.1) (0,List.replicate ms.length fl0) ⟨aw _,by simp,by simp⟩ aC ?_ ?_
 ·dsimp only;rw[aR];refine(Ent.j0 flO).trans ?_;exact ah
 rintro⟨i,zs⟩ ⟨hi,a7,a0⟩;dsimp only at hi a7 a0 ⊢;by_cases a2:i<ms.length
 case neg =>
  have a9:i=ms.length:=ab;subst a9;rw[aD ab,aD ab] at a0;rw[aD (ab:zs.length≤ms.length)];refine Ks ?_;intros;refine KX.a8 aA (Ent.refl _) ⟨some ⟨bs,0,none⟩,ms.length,zs,by rw[a7];rfl,a0,rfl⟩
 have a4:(i:Int).toNat=i:=ab;have a5:ms[i]!∈ms:=aV a2;have a6:=hp _ a5;refine Ks ?_;intros;rw[a4];refine GO.ent (Ent.at (A:=allP flP ms) (Ent.c9 (x:=ms[i]!) a5)) ?_;refine GO.ef (Ef.c7 rfl rfl (qF ms[i]! a6.1 a6.2)) ae ?_;rintro _ _⟨m',rfl,b0,rfl⟩;refine Ks ?_;intros;refine GO.efu (Ef.f8 (e:=m') rfl rfl aQ aQ (lW _) ab) ?_;rintro _ _ rfl;rw[a4];refine Ks ?_;intros;refine⟨(i+1,zs.set i m'),⟨by dsimp only;omega,by dsimp only;simp;omega,?_⟩,by dsimp only;omega,?_,?_⟩
 ·dsimp only;rw[dV ab,az a2,aJ,aJ,a0,←getElem!_of a2];simp[b0]
 ·dsimp only;rw[bh i];exact aC
 ·dsimp only;rw[dV ab];refine Ent.a8 ?_;refine Ent.trans (B:=flO m'::bigO flO (zs.take i)::asl dT 11 fQ ad c ms::allP flP ms::L) ah ?_;exact Ent.k8
end
section
open Go.V
def hasU(l:LL)(f a:Int):Prop:=∃y∈l,y.1=f∧y.2.1≤a∧a<y.2.1+y.2.2
def kA{f a:Int}:¬hasU [] f a:=fun⟨_,h,_⟩=>by cases h
def hasU_cons{x:Lot}{l:LL}{f a:Int}:hasU (x::l) f a↔(x.1=f∧x.2.1≤a∧a<x.2.1+x.2.2)∨hasU l f a:=by
 constructor
 ·rintro⟨y,hy,h⟩;rcases List.mem_cons.1 hy with rfl|hy
  ·exact .inl h
  ·exact .inr ⟨y,hy,h⟩
 ·rintro (h|⟨y,hy,h⟩)
  ·exact⟨x,av,h⟩
  ·exact⟨y,au _ hy,h⟩
def mW{x:Lot}{f a:Int}:hasU [x] f a↔x.1=f∧x.2.1≤a∧a<x.2.1+x.2.2:=by
 rw[hasU_cons];exact⟨fun h=>h.resolve_right kA,.inl⟩
def yi{l m:LL}{f a:Int}:hasU (l++m) f a↔hasU l f a∨hasU m f a:=by
 constructor
 ·rintro⟨y,hy,h⟩;rcases List.mem_append.1 hy with hy|hy
  ·exact .inl ⟨y,hy,h⟩
  ·exact .inr ⟨y,hy,h⟩
 ·rintro (⟨y,hy,h⟩|⟨y,hy,h⟩)
  ·exact⟨y,bM _ hy,h⟩
  ·exact⟨y,bK _ hy,h⟩
def Ez{x y:Lot}(hx:LotOk x){f a:Int}:hasU (subS x y) f a↔(y.1=f∧y.2.1≤a∧a<y.2.1+y.2.2)∧¬(x.1=f∧x.2.1≤a∧a<x.2.1+x.2.2):=by
 unfold LotOk at hx;by_cases h:y.1≠x.1∨x.2.1+x.2.2≤y.2.1∨y.2.1+y.2.2≤x.2.1
 ·rw[Bh h,mW];omega
 ·rw[rN h];by_cases c1:y.2.1<x.2.1<;>by_cases c2:x.2.1+x.2.2<y.2.1+y.2.2
  ·rw[if_pos c1,if_pos c2,yi,mW,mW];dsimp only;omega
  ·rw[if_pos c1,if_neg c2,aH,mW];dsimp only;omega
  ·rw[if_neg c1,if_pos c2,ak,mW];dsimp only;omega
  ·rw[if_neg c1,if_neg c2,aH];exact⟨fun h=>absurd h kA,fun q=>absurd q ab⟩
def uY{x:Lot}(hx:LotOk x){f a:Int}:∀l:LL,hasU (subL l x) f a↔hasU l f a∧¬(x.1=f∧x.2.1≤a∧a<x.2.1+x.2.2)
 | []=>⟨fun h=>absurd h kA,fun h=>absurd h.1 kA⟩
 | y::l=>by
  have e:subL (y::l) x=subS x y++subL l x:=aO;rw[e,yi,Ez hx,uY hx l,hasU_cons];exact or_and_right.symm
def sD{f a:Int}:∀{ps l:LL},(∀x∈ps,LotOk x)→(hasU (ps.foldl subL l) f a↔hasU l f a∧¬hasU ps f a)
 | [],l,_=>⟨fun h=>⟨h,kA⟩,fun h=>h.1⟩
 | p::ps,l,h=>by
  have ih:=sD (f:=f) (a:=a) (ps:=ps) (l:=subL l p) (fun x hx=>h x (au _ hx));show hasU (ps.foldl subL (subL l p)) f a↔_;rw[ih,uY (h p av),hasU_cons,and_assoc,not_or]
def Ij{x y:Lot}(hx:LotOk x):(subS x y).Pairwise sl:=by
 unfold LotOk at hx;by_cases h:y.1≠x.1∨x.2.1+x.2.2≤y.2.1∨y.2.1+y.2.2≤x.2.1
 ·rw[Bh h];exact bB _ _
 ·rw[rN h];refine List.pairwise_append.2 ⟨?_,?_,?_⟩
  ·split
   ·exact bB _ _
   ·exact .nil
  ·split
   ·exact bB _ _
   ·exact .nil
  ·intro p hp q hq;split at hp
   ·split at hq
    ·rw[List.mem_singleton.1 hp,List.mem_singleton.1 hq];unfold sl;dsimp only;omega
    ·cases hq
   ·cases hp
def Bi{x:Lot}(hx:LotOk x):∀{l:LL},(∀y∈l,LotOk y)→l.Pairwise sl→(subL l x).Pairwise sl
 | [],_,_=>.nil
 | y::l,hl,h=>by
  have e:subL (y::l) x=subS x y++subL l x:=aO;rw[eG] at h;rw[e];refine List.pairwise_append.2 ⟨Ij hx,Bi hx (fun z hz=>hl z (au _ hz)) h.2,fun p hp q hq=>?_⟩;obtain⟨p1,p2,p3,p4⟩:=uh hx (hl y av) hp;obtain⟨w,hw,q1,q2,q3,q4⟩:=oc hx (fun z hz=>hl z (au _ hz)) hq;have:=h.1 w hw
  unfold sl at this ⊢;omega
def yO:∀{ps l:LL},(∀x∈ps,LotOk x)→(∀y∈l,LotOk y)→l.Pairwise sl→(ps.foldl subL l).Pairwise sl
 | [],_,_,_,h=>h
 | p::ps,l,hp,hl,h=>by
  have h1:=hp p av;exact yO (ps:=ps) (l:=subL l p) (fun x hx=>hp x (au _ hx)) (qO h1 hl) (Bi h1 hl h)
def Bk:∀{a b:LL},(∀x∈a,LotOk x)→(∀x∈b,LotOk x)→a.Pairwise sl→b.Pairwise sl→(∀f u,hasU a f u↔hasU b f u)→a=b
 | [],[],_,_,_,_,_=>rfl
 | [],y::b,_,hb,_,_,h=>by
  have h1:=hb y av;unfold LotOk at h1;exact absurd ((h y.1 y.2.1).2 (hasU_cons.2 (.inl ⟨rfl,ab,ab⟩))) kA
 | x::a,[],ha,_,_,_,h=>by
  have h1:=ha x av;unfold LotOk at h1;exact absurd ((h x.1 x.2.1).1 (hasU_cons.2 (.inl ⟨rfl,ab,ab⟩))) kA
 | x::a,y::b,ha,hb,sa,sb,h=>by
  have hx:=ha x av;have hy:=hb y av;unfold LotOk at hx hy;rw[eG] at sa sb
  have fa:∀f u,hasU (x::a) f u→x.1<f∨(x.1=f∧x.2.1≤u∧(u<x.2.1+x.2.2∨x.2.1+x.2.2<u)):=by
   rintro f u ⟨w,hw,h1,h2,h3⟩;rcases List.mem_cons.1 hw with rfl|hw
   ·omega
   ·have:=sa.1 w hw
    unfold sl at this;omega
  have fb:∀f u,hasU (y::b) f u→y.1<f∨(y.1=f∧y.2.1≤u∧(u<y.2.1+y.2.2∨y.2.1+y.2.2<u)):=by
   rintro f u ⟨w,hw,h1,h2,h3⟩;rcases List.mem_cons.1 hw with rfl|hw
   ·omega
   ·have:=sb.1 w hw
    unfold sl at this;omega
  have g1:=fb x.1 x.2.1 ((h _ _).1 (hasU_cons.2 (.inl ⟨rfl,ab,ab⟩)));have g2:=fa y.1 y.2.1 ((h _ _).2 (hasU_cons.2 (.inl ⟨rfl,ab,ab⟩)));have e1:x.1=y.1:=ab;have e2:x.2.1=y.2.1:=ab
  have e3:x.2.2=y.2.2:=by
   rcases Int.lt_trichotomy x.2.2 y.2.2 with q|q|q
   ·have:=fa y.1 (x.2.1+x.2.2) ((h _ _).2 (hasU_cons.2 (.inl ⟨rfl,ab,ab⟩)))
    omega
   ·exact q
   ·have:=fb x.1 (y.2.1+y.2.2) ((h _ _).1 (hasU_cons.2 (.inl ⟨rfl,ab,ab⟩)))
    omega
  have e:x=y:=Prod.ext e1 (Prod.ext e2 e3);subst e;rw[Bk (a:=a) (b:=b) (fun z hz=>ha z (au _ hz)) (fun z hz=>hb z (au _ hz)) sa.2 sb.2 fun f u=>?_];have h0:=h f u;rw[hasU_cons,hasU_cons] at h0
  have n1:hasU a f u→¬(x.1=f∧x.2.1≤u∧u<x.2.1+x.2.2):=by
   rintro⟨w,hw,h1,h2,h3⟩;have:=sa.1 w hw
   unfold sl at this;omega
  have n2:hasU b f u→¬(x.1=f∧x.2.1≤u∧u<x.2.1+x.2.2):=by
   rintro⟨w,hw,h1,h2,h3⟩;have:=sb.1 w hw
   unfold sl at this;omega
  constructor
  ·intro q;exact(h0.1 (.inr q)).resolve_left (n1 q)
  ·intro q;exact(h0.2 (.inr q)).resolve_left (n2 q)
def BW{l:LL}(hl:∀y∈l,LotOk y){f a:Int}(hf:0≤f)(ha:0≤a)(hb:a<1099511627776):hasU l f a↔OV l (f,a,1)≠0:=by
 rw[ub hl (show LotOk (f,a,1) by unfold LotOk;dsimp only;omega)];constructor
 ·rintro⟨y,hy,h⟩;refine⟨y,hy,?_⟩;unfold apart;dsimp only;omega
 ·rintro⟨y,hy,h⟩;refine⟨y,hy,?_⟩;unfold apart at h;dsimp only at h;omega
def BG{l:LL}(hl:∀y∈l,LotOk y){f a:Int}(h:hasU l f a):0≤f∧0≤a∧a<1099511627776:=by
 obtain⟨y,hy,h1,h2,h3⟩:=h;have:=hl y hy
 unfold LotOk at this;omega
def BX{l m:LL}(hl:∀y∈l,LotOk y)(hm:∀y∈m,LotOk y)(h:∀t,LotOk t→OV l t=OV m t)(f a:Int):hasU l f a↔hasU m f a:=by
 have key:0≤f→0≤a→a<1099511627776→(hasU l f a↔hasU m f a):=fun h1 h2 h3=>by
  rw[BW hl h1 h2 h3,BW hm h1 h2 h3,h _ (show LotOk (f,a,1) by unfold LotOk;dsimp only;omega)]
 constructor
 ·intro q;obtain⟨h1,h2,h3⟩:=BG hl q;exact(key h1 h2 h3).1 q
 ·intro q;obtain⟨h1,h2,h3⟩:=BG hm q;exact(key h1 h2 h3).2 q
def EI{ps zs:LL}(hp:∀y∈ps,LotOk y)(hz:∀y∈zs,LotOk y)(h:∀f a,hasU ps f a↔hasU zs f a){x:Lot}(hx:LotOk x):gm ps x=gm zs x:=by
 have h1:∀y∈[x],LotOk y:=fun y hy=>by rw[List.mem_singleton.1 hy];exact hx
 refine Bk (oI hp hx).1 (oI hz hx).1 (yO hp h1 (bB _ _)) (yO hz h1 (bB _ _)) fun f u=>?_;show hasU (ps.foldl subL [x]) f u↔hasU (zs.foldl subL [x]) f u;rw[sD hp,sD hz,h f u]
def pzo(x y:Lot):Int:=max 0 (y.2.1 - x.2.1)
def pzi(x y:Lot):Int:=min (x.2.2 - pzo x y) (y.2.1+y.2.2 - (x.2.1+pzo x y))
def pz2(x y:Lot):Lot:=(x.1,x.2.1+pzo x y+pzi x y,x.2.2 - pzo x y - pzi x y)
def pcz:LL→Lot→List (Lot×Bool)
 | [],x=>if 0<x.2.2 then[(x,false)] else[]
 | y::ys,x =>
  if 0<x.2.2∧y.1=x.1∧y.2.1<x.2.1+x.2.2 then
   (if 0<pzo x y then[((x.1,x.2.1,pzo x y),false)] else[])++(((x.1,x.2.1+pzo x y,pzi x y),true)::pcz ys (pz2 x y))
  else if 0<x.2.2 then[(x,false)] else[]
def pzP(x y:Lot):Prop:=x.1<y.1∨(y.1=x.1∧x.2.1<y.2.1+y.2.2)
instance (x y:Lot):Decidable (pzP x y):=by unfold pzP;infer_instance
def skp(x:Lot):LL→LL
 | []=>[]
 | y::ys=>if pzP x y then y::ys else skp x ys
def pcs(set:LL)(x:Lot):List (Lot×Bool):=pcz (skp x set) x
def wJ(x:Lot):∀{set:LL} {i:Nat},i≤set.length→(∀p,p<i→¬pzP x set[p]!)→(i<set.length→pzP x set[i]!)→set.drop i=skp x set
 | [],i,_,_,_=>by rw[List.drop_nil];rfl
 | y::ys,0,_,_,h=>by
  have:=h (Nat.succ_pos _)
  show y::ys=if pzP x y then y::ys else skp x ys;rw[if_pos (show pzP x y from this)]
 | y::ys,i+1,hi,h1,h2=>by
  have h0:¬pzP x y:=h1 0 (Nat.succ_pos _);show ys.drop i=if pzP x y then y::ys else skp x ys;rw[if_neg h0];refine wJ x (by simpa using hi) (fun p hp=>h1 (p+1) ab) (fun q=>h2 (by simpa using q))
def qR(x:Lot):∀set:LL,∃l,set=l++skp x set∧∀y∈l,¬pzP x y
 | []=>⟨[],rfl,fun _ h=>by cases h⟩
 | y::ys=>by
  by_cases h:pzP x y
  ·exact⟨[],by show y::ys=if pzP x y then y::ys else skp x ys;rw[if_pos h],fun _ h=>by cases h⟩
  ·obtain⟨l,h1,h2⟩:=qR x ys;refine⟨y::l,?_,fun z hz=>?_⟩
   ·show y::ys=y::l++(if pzP x y then y::ys else skp x ys);rw[if_neg h];exact congrArg (y::·) h1
   ·rcases List.mem_cons.1 hz with rfl|hz
    ·exact h
    ·exact h2 z hz
def mQ(x:Lot):∀{set:LL},set.Pairwise sl→(∀y∈set,LotOk y)→∀y∈skp x set,pzP x y
 | [],_,_,_,h=>by cases h
 | y::ys,hs,ho,z,hz=>by
  rw[eG] at hs;change z∈(if pzP x y then y::ys else skp x ys) at hz;by_cases h:pzP x y
  ·rw[if_pos h] at hz;rcases List.mem_cons.1 hz with rfl|hz
   ·exact h
   ·have h1:=hs.1 z hz;have h2:=ho z (au _ hz);unfold pzP at h ⊢;unfold sl at h1;unfold LotOk at h2;omega
  ·rw[if_neg h] at hz;exact mQ x hs.2 (fun w hw=>ho w (au _ hw)) z hz
def oM{ys:LL}{x:Lot}(h:¬0<x.2.2):pcz ys x=[]:=by
 cases ys with
 | nil=>exact if_neg h
 | cons y ys=>exact(if_neg (fun q=>h q.1)).trans (if_neg h)
def gn(l:List (Lot×Bool)):LL:=(l.filter (fun q=>!q.2)).map Prod.fst
def pcIn(l:List (Lot×Bool)):LL:=(l.filter (fun q=>q.2)).map Prod.fst
def nv(a b:List (Lot×Bool)):gn (a++b)=gn a++gn b:=by unfold gn;rw[cI,aJ]
def xH(a b:List (Lot×Bool)):pcIn (a++b)=pcIn a++pcIn b:=by unfold pcIn;rw[cI,aJ]
def qV{x y:Lot}{ys:LL}(h:0<x.2.2∧y.1=x.1∧y.2.1<x.2.1+x.2.2):pcz (y::ys) x=(if 0<pzo x y then[((x.1,x.2.1,pzo x y),false)] else[])++(((x.1,x.2.1+pzo x y,pzi x y),true)::pcz ys (pz2 x y)):=if_pos h
def oN{x y:Lot}{ys:LL}(h0:0<x.2.2)(h:¬(y.1=x.1∧y.2.1<x.2.1+x.2.2)):pcz (y::ys) x=[(x,false)]:=(if_neg (fun q=>h q.2)).trans (if_pos h0)
def Bq:∀{ys:LL} {x:Lot},LotOk x→(∀y∈ys,LotOk y)→ys.Pairwise sl→(∀y∈ys,pzP x y)→gn (pcz ys x)=ys.foldl subL [x]
 | [],x,hx,_,_,_=>by
  unfold LotOk at hx;rw[show pcz [] x=[(x,false)] from if_pos ab];rfl
 | y::ys,x,hx,ho,hs,hp=>by
  have a2:=hx;unfold LotOk at a2;rw[eG] at hs;have hy:=ho y av;unfold LotOk at hy;have a1:=hp y av;unfold pzP at a1;have a0:∀w∈ys,LotOk w:=fun w hw=>ho w (au _ hw);by_cases c:y.1=x.1∧y.2.1<x.2.1+x.2.2
  ·rw[qV ⟨ab,c⟩,nv];show _++gn (pcz ys (pz2 x y))=ys.foldl subL (subL [x] y);have e1:subL [x] y=subS y x:=yV _ _;rw[e1,rN ab,Ja]
   have e2:ys.foldl subL (if x.2.1<y.2.1 then[(y.1,x.2.1,y.2.1 - x.2.1)] else[])=if x.2.1<y.2.1 then[(y.1,x.2.1,y.2.1 - x.2.1)] else[]:=by
    refine qD fun p hp z hz=>?_;split at hz
    ·rw[List.mem_singleton.1 hz];have:=hs.1 p hp
     unfold sl at this;unfold apart;dsimp only;omega
    ·cases hz
   rw[e2]
   have e3:gn (if 0<pzo x y then[((x.1,x.2.1,pzo x y),false)] else[])=if x.2.1<y.2.1 then[(y.1,x.2.1,y.2.1 - x.2.1)] else[]:=by
    by_cases q:x.2.1<y.2.1
    ·rw[if_pos q,if_pos (show 0<pzo x y by unfold pzo;omega),c.1,show pzo x y=y.2.1 - x.2.1 by unfold pzo;omega];rfl
    ·rw[if_neg q,if_neg (show ¬0<pzo x y by unfold pzo;omega)];rfl
   rw[e3];congr 1;by_cases q:y.2.1+y.2.2<x.2.1+x.2.2
   ·have e4:pz2 x y=(y.1,y.2.1+y.2.2,x.2.1+x.2.2 - y.2.1 - y.2.2):=by
     unfold pz2 pzi pzo;refine Prod.ext c.1.symm (Prod.ext ?_ ?_)<;>dsimp only<;>omega
    rw[if_pos q,e4];refine Bq (by unfold LotOk;dsimp only;omega) a0 hs.2 fun w hw=>?_;have h1:=hs.1 w hw;have h2:=a0 w hw;unfold sl at h1;unfold LotOk at h2;unfold pzP;dsimp only;omega
   ·rw[if_neg q,oM (show ¬0<(pz2 x y).2.2 by unfold pz2 pzi pzo;dsimp only;omega)];exact(qD (l:=[]) (fun _ _ z hz=>by cases hz)).symm
  ·rw[oN ab c];refine(qD (l:=[x]) fun p hp z hz=>?_).symm;rw[List.mem_singleton.1 hz];unfold apart;rcases List.mem_cons.1 hp with rfl|hp
   ·omega
   ·have:=hs.1 p hp
    unfold sl at this;omega
def Jv:∀{ys:LL} {x:Lot},LotOk x→(∀y∈ys,LotOk y)→ys.Pairwise sl→(∀y∈ys,pzP x y)→(pcIn (pcz ys x)≠[]↔∃y∈ys,¬apart y x)
 | [],x,hx,_,_,_=>by
  unfold LotOk at hx;rw[show pcz [] x=[(x,false)] from if_pos ab];exact⟨fun h=>absurd rfl h,fun⟨_,h,_⟩=>by cases h⟩
 | y::ys,x,hx,ho,hs,hp=>by
  unfold LotOk at hx;rw[eG] at hs;have hy:=ho y av;unfold LotOk at hy;have a0:=hp y av;unfold pzP at a0;by_cases c:y.1=x.1∧y.2.1<x.2.1+x.2.2
  ·rw[qV ⟨ab,c⟩,xH];refine⟨fun _=>⟨y,av,by unfold apart;omega⟩,fun _ h=>?_⟩;have h2:((x.1,x.2.1+pzo x y,pzi x y):Lot)::pcIn (pcz ys (pz2 x y))=[]:=(List.append_eq_nil_iff.1 h).2;cases h2
  ·rw[oN ab c];refine⟨fun h=>absurd rfl h,fun⟨w,hw,hn⟩=>absurd ?_ hn⟩;unfold apart;rcases List.mem_cons.1 hw with rfl|hw
   ·omega
   ·have:=hs.1 w hw
    unfold sl at this;omega
structure SetOk (z:LL):Prop where
 ok:∀y∈z,LotOk y
 sl:z.Pairwise sl
def Ix{set:LL}(h:SetOk set){x:Lot}(hx:LotOk x):gn (pcs set x)=gm set x:=by
 obtain⟨l,h1,h2⟩:=qR x set;have hk:=mQ x h.sl h.ok;have a1:∀y∈skp x set,LotOk y:=fun y hy=>h.ok y (by rw[h1];exact bK _ hy)
 have a0:(skp x set).Pairwise sl:=by
  have:=h.sl
  rw[h1] at this;exact(List.pairwise_append.1 this).2.1
 unfold pcs;rw[Bq hx a1 a0 hk];have e:gm set x=(l++skp x set).foldl subL [x]:=by unfold gm;rw[←h1]
 have e2:l.foldl subL [x]=[x]:=qD fun p hp z hz=>by
  rw[List.mem_singleton.1 hz];have h3:=h2 p hp;unfold pzP at h3;unfold apart;omega
 rw[e,cF,e2]
def Jw{set:LL}(h:SetOk set){x:Lot}(hx:LotOk x):pcIn (pcs set x)≠[]↔∃y∈set,¬apart y x:=by
 obtain⟨l,h1,h2⟩:=qR x set;have hk:=mQ x h.sl h.ok;have a1:∀y∈skp x set,LotOk y:=fun y hy=>h.ok y (by rw[h1];exact bK _ hy)
 have a0:(skp x set).Pairwise sl:=by
  have:=h.sl
  rw[h1] at this;exact(List.pairwise_append.1 this).2.1
 unfold pcs;rw[Jv hx a1 a0 hk];constructor
 ·rintro⟨y,hy,hn⟩;exact⟨y,by rw[h1];exact bK _ hy,hn⟩
 ·rintro⟨y,hy,hn⟩;rw[h1] at hy;rcases List.mem_append.1 hy with hy|hy
  ·have h3:=h2 y hy;refine absurd ?_ hn;unfold pzP at h3;unfold apart;omega
  ·exact⟨y,hy,hn⟩
def ER:∀{ys:LL} {x:Lot},LotW x→(∀y∈ys,LotOk y)→(∀y∈ys,pzP x y)→ys.Pairwise sl→(∀q∈pcz ys x,LotOk q.1)∧(pcz ys x).length≤2*ys.length+1
 | [],x,hx,_,_,_=>by
  unfold LotW at hx;by_cases h:0<x.2.2
  ·rw[show pcz [] x=[(x,false)] from if_pos h];refine⟨fun q hq=>?_,aq _⟩;rw[List.mem_singleton.1 hq];unfold LotOk;dsimp only;omega
  ·rw[oM h];exact⟨(fun _ h=>by cases h),aw _⟩
 | y::ys,x,hx,ho,hp,hs=>by
  rw[eG] at hs;have hy:=ho y av;unfold LotOk at hy;have a1:=hp y av;unfold pzP at a1;have a0:∀w∈ys,LotOk w:=fun w hw=>ho w (au _ hw);have a2:=hx;unfold LotW at a2;by_cases h:0<x.2.2
  ·by_cases c:y.1=x.1∧y.2.1<x.2.1+x.2.2
   ·rw[qV ⟨h,c⟩];have hw:LotW (pz2 x y):=by unfold LotW pz2 pzi pzo;dsimp only;omega
    obtain⟨i1,i2⟩:=ER (ys:=ys) hw a0 (fun w hw=>by
     have h1:=hs.1 w hw;have h2:=a0 w hw;unfold sl at h1;unfold LotOk at h2;unfold pzP pz2 pzi pzo;dsimp only;omega) hs.2
    refine⟨fun q hq=>?_,?_⟩
    ·rcases List.mem_append.1 hq with hq|hq
     ·split at hq
      ·rw[List.mem_singleton.1 hq];unfold LotOk;dsimp only;unfold pzo at *;omega
      ·cases hq
     ·rcases List.mem_cons.1 hq with rfl|hq
      ·unfold LotOk;dsimp only;unfold pzi pzo;omega
      ·exact i1 q hq
    ·rw[aj,aM,aM];have:(if 0<pzo x y then[(((x.1,x.2.1,pzo x y):Lot),false)] else[]).length≤1:=by split<;>simp
     omega
   ·rw[oN h c];refine⟨fun q hq=>?_,by simp⟩;rw[List.mem_singleton.1 hq];unfold LotOk;dsimp only;omega
  ·rw[oM h];exact⟨(fun _ h=>by cases h),aw _⟩
def ES{set:LL}(h:SetOk set){x:Lot}(hx:LotOk x):(∀q∈pcs set x,LotOk q.1)∧(pcs set x).length≤2*set.length+1:=by
 obtain⟨l,h1,h2⟩:=qR x set;have hk:=mQ x h.sl h.ok;have a1:∀y∈skp x set,LotOk y:=fun y hy=>h.ok y (by rw[h1];exact bK _ hy)
 have a0:(skp x set).Pairwise sl:=by
  have:=h.sl
  rw[h1] at this;exact(List.pairwise_append.1 this).2.1
 obtain⟨i1,i2⟩:=ER hx.w a1 hk a0
 have hl:(skp x set).length≤set.length:=by
  have:=congrArg List.length h1
  rw[aj] at this;omega
 exact⟨i1,by unfold pcs;omega⟩
def zst(s:LL)(x:Lot):LL :=
 if s.length≠0∧s[s.length - 1]!.1=x.1∧x.2.1≤s[s.length - 1]!.2.1+s[s.length - 1]!.2.2 then
  s.set (s.length - 1) (s[s.length - 1]!.1,s[s.length - 1]!.2.1,max s[s.length - 1]!.2.2 (x.2.1+x.2.2 - s[s.length - 1]!.2.1))
 else s++[x]
def zset(ys:LL):LL:=ys.foldl zst []
def vl(r:LL)(l:Lot):(r++[l])[(r++[l]).length - 1]! = l:=by
 have h:(r++[l]).length - 1<(r++[l]).length:=by rw[aj,aI];omega
 rw[getElem!_of h,cM (by rw[aj,aI];omega)];simp
def Gq{r:LL}{l x:Lot}(h:l.1=x.1∧x.2.1≤l.2.1+l.2.2):zst (r++[l]) x=r++[(l.1,l.2.1,max l.2.2 (x.2.1+x.2.2 - l.2.1))]:=by
 unfold zst;rw[vl,if_pos ⟨by rw[aj,aI];omega,h⟩,aj,aI,Nat.add_sub_cancel,eN _ _ (aq _),Nat.sub_self];rfl
def HY{r:LL}{l x:Lot}(h:¬(l.1=x.1∧x.2.1≤l.2.1+l.2.2)):zst (r++[l]) x=r++[l]++[x]:=by
 unfold zst;rw[vl,if_neg (fun q=>h q.2)]
def lu(a b:LL):lsum (a++b)=lsum a+lsum b:=by
 induction a with
 | nil=>rw[ak,iM];omega
 | cons x a ih=>rw[al,gr,gr,ih];omega
structure ZI (s P:LL):Prop where
 ok:∀y∈s,LotOk y
 sl:s.Pairwise sl
 len:s.length≤P.length
 nil:s=[]→P=[]
 top:∀r l,s=r++[l]→(∀y∈P,y.1<l.1∨(y.1=l.1∧y.2.1+y.2.2≤l.2.1+l.2.2))∧(∃y∈P,y.1=l.1∧y.2.1=l.2.1)∧∃y∈P,y.1=l.1∧y.2.1+y.2.2=l.2.1+l.2.2
 le:lsum s≤lsum P
 eq:lsum s=lsum P→Apart P∧∀t,LotOk t→OV s t=OV P t
 ap:Apart P→lsum s=lsum P
def rP{r r' : LL}{l l' : Lot}(h:r++[l]=r'++[l']):r=r'∧l=l':=by
 obtain⟨h1,h2⟩:=List.append_inj' h rfl;exact⟨h1,by simpa using h2⟩
def apart_snoc_iff{P:LL}{x:Lot}:Apart (P++[x])↔Apart P∧∀y∈P,apart y x:=by
 constructor
 ·intro h;obtain⟨h1,_,h3⟩:=List.pairwise_append.1 h;exact⟨h1,fun y hy=>h3 y hy x (cT _)⟩
 ·rintro⟨h1,h2⟩;exact List.pairwise_append.2 ⟨h1,bB _ _,fun y hy w hw=>by rw[List.mem_singleton.1 hw];exact h2 y hy⟩
def ZI.step{s P:LL}(h:ZI s P)(hP:∀y∈P,LotOk y){x:Lot}(hx:LotOk x)(ho:∀y∈P,y.1<x.1∨(y.1=x.1∧y.2.1≤x.2.1)):ZI (zst s x) (P++[x]):=by
 have b4:=hx;unfold LotOk at b4;rcases List.eq_nil_or_concat s with rfl|⟨r,l,rfl⟩
 ·have hp:=h.nil rfl;subst hp;have e:zst [] x=[x]:=by unfold zst;rw[if_neg (fun q=>q.1 rfl)];rfl
  rw[e,ak];refine⟨fun y hy=>by rw[List.mem_singleton.1 hy];exact hx,bB _ _,aq _,(fun q=>by cases q),fun r l q=>?_,bq _,fun _=>⟨bB _ _,fun _ _=>rfl⟩,fun _=>rfl⟩;obtain⟨_,rfl⟩:=rP (r:=[]) (l:=x) q;refine⟨fun y hy=>?_,⟨x,cT _,rfl,rfl⟩,⟨x,cT _,rfl,rfl⟩⟩;rw[List.mem_singleton.1 hy];exact .inr ⟨rfl,bq _⟩
 rw[List.concat_eq_append] at h ⊢;obtain⟨t1,⟨a,ha,a7,a9⟩,⟨b,hb,b1,b5⟩⟩:=h.top r l rfl;have b6:=ho a ha;have hl:=h.ok l (bK _ (cT _));unfold LotOk at hl;have a5:=List.pairwise_append.1 h.sl;have a4:∀y∈r,Go.Proofs.YtlgpgjdggilkgaaGreatDoor.sl y l:=fun y hy=>a5.2.2 y hy l (cT _);have a1:=h.len;have b3:=h.le;rw[aj,aI] at a1;rw[lu,fI] at b3;have a0:lsum (P++[x])=lsum P+x.2.2:=by rw[lu,fI]
 have a2:∀t,OV (P++[x]) t=OV P t+ov x t:=fun t=>by rw[gt,iN]
 by_cases c:l.1=x.1∧x.2.1≤l.2.1+l.2.2
 ·rw[Gq c];obtain⟨N,hN⟩:∃N,N=max l.2.2 (x.2.1+x.2.2 - l.2.1):=⟨_,rfl⟩;rw[←hN];have hs:lsum (r++[((l.1,l.2.1,N):Lot)])=lsum r+N:=by rw[lu,fI]
  have he:=h.eq;have a3:=h.ap;rw[lu,fI] at he a3;refine⟨fun y hy=>?_,?_,by rw[aj,aj,aI,aI];omega,(fun q=>by simp at q),fun r2 l2 q=>?_,by rw[hs,a0];omega,fun q=>?_,fun q=>?_⟩
  ·rcases List.mem_append.1 hy with hy|hy
   ·exact h.ok y (bM _ hy)
   ·rw[List.mem_singleton.1 hy];unfold LotOk;dsimp only;omega
  ·refine List.pairwise_append.2 ⟨a5.1,bB _ _,fun y hy w hw=>?_⟩;rw[List.mem_singleton.1 hw];have:=a4 y hy
   unfold Go.Proofs.YtlgpgjdggilkgaaGreatDoor.sl at this ⊢;exact this
  ·obtain⟨_,rfl⟩:=rP q;dsimp only;refine⟨fun y hy=>?_,⟨a,bM _ ha,a7,a9⟩,?_⟩
   ·rcases List.mem_append.1 hy with hy|hy
    ·have:=t1 y hy
     omega
    ·rw[List.mem_singleton.1 hy];omega
   ·by_cases g:x.2.1+x.2.2≤l.2.1+l.2.2
    ·exact⟨b,bM _ hb,b1,ab⟩
    ·exact⟨x,bK _ (cT _),c.1.symm,ab⟩
  ·rw[hs,a0] at q;obtain⟨e1,e2⟩:=he ab;have b0:x.2.1=l.2.1+l.2.2:=ab;have a6:N=l.2.2+x.2.2:=ab;refine⟨apart_snoc_iff.2 ⟨e1,fun y hy=>?_⟩,fun t ht=>?_⟩
   ·have:=t1 y hy
    unfold apart;omega
   ·have e3:=e2 t ht;rw[gt,iN] at e3;unfold LotOk at ht
    have e4:ov (l.1,l.2.1,N) t=ov l t+ov x t:=by
     rw[a6,qX,xK t l.1 l.2.1 l.2.2 x.2.2 ab ab ab,qX l t,qX x t,←b0,c.1];have k1:((x.1,l.2.1,l.2.2):Lot)=l:=Prod.ext c.1.symm rfl;rw[k1]
    rw[gt,iN,a2,e4];omega
  ·obtain⟨q1,q2⟩:=apart_snoc_iff.1 q;have e1:=a3 q1;have e2:=q2 b hb;have e3:=ho b hb;have b2:=hP b hb;unfold LotOk at b2;unfold apart at e2;rw[hs,a0];omega
 ·rw[HY c];have hs:lsum (r++[l]++[x])=lsum (r++[l])+x.2.2:=by rw[lu,fI]
  refine⟨fun y hy=>?_,?_,by rw[aj,aj,aj,aI,aI];omega,(fun q=>by simp at q),fun r2 l2 q=>?_,by rw[hs,a0,lu,fI];omega,fun q=>?_,fun q=>?_⟩
  ·rcases List.mem_append.1 hy with hy|hy
   ·exact h.ok y hy
   ·rw[List.mem_singleton.1 hy];exact hx
  ·refine List.pairwise_append.2 ⟨h.sl,bB _ _,fun y hy w hw=>?_⟩;rw[List.mem_singleton.1 hw];rcases List.mem_append.1 hy with hy|hy
   ·have:=a4 y hy
    unfold Go.Proofs.YtlgpgjdggilkgaaGreatDoor.sl at this ⊢;omega
   ·rw[List.mem_singleton.1 hy];unfold Go.Proofs.YtlgpgjdggilkgaaGreatDoor.sl;omega
  ·obtain⟨_,rfl⟩:=rP q;refine⟨fun y hy=>?_,⟨x,bK _ (cT _),rfl,rfl⟩,⟨x,bK _ (cT _),rfl,rfl⟩⟩;rcases List.mem_append.1 hy with hy|hy
   ·have:=t1 y hy
    have:=ho y hy
    omega
   ·rw[List.mem_singleton.1 hy];exact .inr ⟨rfl,bq _⟩
  ·rw[hs,a0] at q;obtain⟨e1,e2⟩:=h.eq ab;refine⟨apart_snoc_iff.2 ⟨e1,fun y hy=>?_⟩,fun t ht=>?_⟩
   ·have:=t1 y hy
    unfold apart;omega
   ·rw[gt,iN,a2,e2 t ht]
  ·rw[hs,a0,h.ap (apart_snoc_iff.1 q).1]
def wm:∀(Q:LL) {s P:LL},ZI s P→(∀y∈P++Q,LotOk y)→(P++Q).Pairwise (fun a b=>¬hdC b a<0)→ZI (Q.foldl zst s) (P++Q)
 | [],s,P,h,_,_=>by rw[aH];exact h
 | x::Q,s,P,h,hl,hs=>by
  have e:P++x::Q=(P++[x])++Q:=by simp
  have hP:∀y∈P,LotOk y:=fun y hy=>hl y (bM _ hy);have hx:=hl x (bK _ av)
  have h1:ZI (zst s x) (P++[x]):=h.step hP hx fun y hy=>by
   have:=(List.pairwise_append.1 hs).2.2 y hy x av
   rw[tL] at this;unfold klt at this;omega
  rw[e] at hl hs ⊢;exact wm Q h1 hl hs
def kr{ps ys:LL}(h:gV hdC ps ys)(hl:∀x∈ps,LotOk x):SetOk (zset ys)∧(zset ys).length≤ps.length∧(lsum (zset ys)=lsum ps↔Apart ps)∧(Apart ps→∀t,LotOk t→OV (zset ys) t=OV ps t):=by
 have hy:∀x∈ys,LotOk x:=fun x hx=>hl x (h.1.mem_iff.1 hx);have h0:ZI [] []:=⟨(fun _ q=>by cases q),.nil,aq _,(fun _=>rfl),(fun r l q=>by simp at q),bq _,fun _=>⟨.nil,fun _ _=>rfl⟩,fun _=>rfl⟩;have z:ZI (zset ys) ys:=wm ys h0 hy h.2;have pa:Apart ps↔Apart ys:=(h.1.pairwise_iff (fun {a b} q=>by unfold apart at *;omega)).symm;have a0:lsum ys=lsum ps:=Fg h.1;refine⟨⟨z.ok,z.sl⟩,by rw[←h.1.length_eq];exact z.len,?_,fun q t ht=>?_⟩
 ·rw[←a0,pa];exact⟨fun q=>(z.eq q).1,z.ap⟩
 ·rw[(z.eq (z.ap (pa.1 q))).2 t ht];exact Jh h.1 t
