/- Lemmas. -/
import Derived.Test.YtommnllbflbdmaaGreatDoorIbw
import Derived.Test.YtommnllbflbdmaaGreatDoorRows
import Derived.LaidMore
import Derived.Stop.Joined
set_option linter.all false
namespace Go.Proofs.YtommnllbflbdmaaGreatDoor
section
open Go.V
def gk(v:Value):LV:=[v]
def BZ{sh:Int}{fl:List FlM}{mix:Int→Bool}{s:StM}{N:Nat}{W:Wk}{m:MvM}(h1:W.sunk.length≤W.flows.length)(h2:W.flows.length≤N)(h3:∀f∈W.flows,f.made.length≤N):(cT sh fl mix s W m).2.sunk.length≤(cT sh fl mix s W m).2.flows.length∧(cT sh fl mix s W m).2.flows.length≤W.flows.length+1∧∀f∈(cT sh fl mix s W m).2.flows,f.made.length≤N:=by
 have hn:∀f∈W.flows++[eZ sh fl.length mix s W m],f.made.length≤N:=fun f hf=>by
  rcases List.mem_append.1 hf with h|h
  ·exact h3 f h
  ·rw[List.mem_singleton.1 h];show(dq s W m).length≤N;unfold dq;split
   ·omega
   ·exact aj _
 have hl:(W.flows++[eZ sh fl.length mix s W m]).length=W.flows.length+1:=by rw[aD,be]
 unfold cT;split
 ·exact⟨h1,ga _,h3⟩
 ·split
  ·exact⟨h1,ga _,h3⟩
  ·split
   ·refine⟨?_,Nat.le_of_eq hl,hn⟩;show(W.sunk++[cO sh fl.length W]).length≤(W.flows++[eZ sh fl.length mix s W m]).length;rw[hl,aD,be];omega
   ·split
    ·exact⟨h1,ga _,h3⟩
    ·refine⟨?_,Nat.le_of_eq hl,hn⟩;show W.sunk.length≤(W.flows++[eZ sh fl.length mix s W m]).length;rw[hl];omega
def qJ{sh:Int}{fl:List FlM}{mix:Int→Bool}{s:StM}{N:Nat}:∀(ms:List MvM) (W:Wk),W.sunk.length≤W.flows.length→W.flows.length+ms.length≤N→(∀f∈W.flows,f.made.length≤N)→∀f∈(dH sh fl mix s W ms).2.flows,f.made.length≤N
 | [],_,_,_,h=>h
 | m::ms,W,h1,h2,h3=>by
  have e:dH sh fl mix s W (m::ms)=if(cT sh fl mix s W m).1=0 then dH sh fl mix s (cT sh fl mix s W m).2 ms else((cT sh fl mix s W m).1,W):=rfl;rw[bu] at h2;obtain⟨g1,g2,g3⟩:=BZ (sh:=sh) (fl:=fl) (mix:=mix) (s:=s) (N:=N) (m:=m) h1 ab h3;rw[e];split
  ·exact qJ ms _ g1 ab g3
  ·exact h3
def Ah{S:LedM}{s:StM}(h:(gTry S s).1=0):gTry S s=dH S.shard S.flows (bL S.cat) (s.at (aR S)) (wk0 S) s.moves:=by
 by_cases h1:65536≤S.steps.length
 ·have e:gTry S s=(4,wk0 S):=by unfold gTry;rw[if_pos h1]
  rw[e] at h;exact absurd (show(4:Int)=0 from h) ah
 have h2:=mV h;unfold gTry;rw[if_neg h1,if_neg (fun q=>q h2)]
def LRep.made{sh:Int}{c:CatM}{S:LedM}(h:LRep sh c S):∀f∈S.flows,f.made.length≤64:=by
 induction h with
 | zero=>intro f hf;cases hf
 | @post S s _ h0 ih =>
  have e1:cR S s=gC S s:=if_pos h0;have hp:=mV h0;have hl:=hp.2.2.2.1.2;rw[e1];intro f hf;rcases List.mem_append.1 (show f∈S.flows++(gTry S s).2.flows from hf) with q|q
  ·exact ih f q
  ·rw[Ah h0] at q;exact qJ (N:=64) s.moves (wk0 S) (aB _) (by show 0+_≤64;omega) (fun f hf=>by cases hf) f q
def ob{a i:Int}:∀{l:List StV},(∀s∈l,lotsIn a i s.m.moves≤1)→stL a i (l.map StV.m)≤l.length
 | [],_=>aB _
 | s::l,h=>by
  have h1:=ob (l:=l) (fun u hu=>h u (aq _ hu));have h2:=h s au;show lotsIn a i s.m.moves+stL a i (l.map StV.m)≤l.length+1;omega
def zW{a i:Int}{s' : StV}(hs:lotsIn a i s'.m.moves≤4):∀(l:List StV) (k:Nat),(∀s∈l,lotsIn a i s.m.moves≤1)→stL a i ((l.set k s').map StV.m)≤l.length+3
 | [],_,_=>aj _
 | s::l,0,h=>by
  have h1:=ob (l:=l) (fun u hu=>h u (aq _ hu));show lotsIn a i s'.m.moves+stL a i (l.map StV.m)≤l.length+1+3;omega
 | s::l,k+1,h=>by
  have h1:=zW hs l k (fun u hu=>h u (aq _ hu));have h2:=h s au;show lotsIn a i s.m.moves+stL a i ((l.set k s').map StV.m)≤l.length+1+3;omega
def zX{s' : StV}(hs:mvK s'.m.moves≤4):∀(l:List StV) (k:Nat),(∀s∈l,StG0 s)→stK ((l.set k s').map StV.m)≤3*l.length+1
 | [],_,_=>aj _
 | s::l,0,h=>by
  have h1:=nY (l:=l) (fun u hu=>h u (aq _ hu));show mvK s'.m.moves+stK (l.map StV.m)≤3*(l.length+1)+1;omega
 | s::l,k+1,h=>by
  have h1:=zX hs l k (fun u hu=>h u (aq _ hu));have h2:=(h s au).k;show mvK s.m.moves+stK ((l.set k s').map StV.m)≤3*(l.length+1)+1;omega
def GenR.lotsIn{sh:Int}{i:Nat}{S:LedM}{x:RLX}(h:GenR sh i S x)(a j:Int):∀s∈x.steps,lotsIn a j s.m.moves≤1:=fun s hs=>(h.st s hs).lots (h.ne s hs) a j
def GenR.stepsLen{sh:Int}{i:Nat}{S:LedM}{x:RLX}(h:GenR sh i S x):x.steps.length≤i:=by
 rw[h.lens.1];exact h.steps
def GenR.audS{sh:Int}{i:Nat}{S:LedM}{x:RLX}(h:GenR sh i S x)(hi:i≤19):AudS x.steps:=by
 have h1:=h.stepsLen;have h2:=nY h.st;exact⟨ab,fun s hs=>⟨(h.st s hs).inp,(h.st s hs).cap⟩,ab,fun a j=>cg (ob (h.lotsIn a j)) ab⟩
def GenR.audSp{sh:Int}{i:Nat}{S:LedM}{x:RLX}(h:GenR sh i S x)(hi:i≤16){ss:List StV}(hp:SpL x.steps ss):AudS ss:=by
 rcases hp with rfl|⟨k,s',hk,hs,rfl⟩
 ·exact h.audS ab
 have h1:=h.stepsLen;have h2:=zX hs.k x.steps k h.st;refine⟨by rw[bE];omega,fun s hm=>?_,ab,fun a j=>cg (zW (cg (pA a j _) hs.k) x.steps k (h.lotsIn a j)) ab⟩;rcases co hm with g|rfl
 ·exact⟨(h.st s g).inp,(h.st s g).cap⟩
 ·exact⟨hs.inp,hs.cap⟩
def GenR.flB{sh:Int}{i:Nat}{S:LedM}{x:RLX}(h:GenR sh i S x)(hi:i≤100):x.flows.length≤6400∧∀f∈x.flows,f.m.parts.length≤2047∧f.m.made.length≤64:=by
 obtain⟨k,hk,hl⟩:=h.led;obtain⟨e1,e2,e3,e4⟩:=h.lens;have e5:=h.steps;refine⟨ab,fun f hf=>?_⟩;have hm:f.m∈S.flows:=by rw[←h.rf.flows];exact alStd0List_mem_map_of_mem hf
 exact⟨(hl.g.fl f.m hm).2,h.rep.made f.m hm⟩
def ni(sh:Int)(fl:List FlM):Prop:=∀f∈fl,f.kind=5→f.frm=0∧∀p∈f.parts,p.1 / 4294967296≠sh∧p.1 / 4294967296≤11
def As{sh:Int}{fl:List FlM}:∀{ps:LL},arrG sh fl ps=0→∀p∈ps,p.1 / 4294967296≠sh∧p.1 / 4294967296≤11
 | [],_,_,hp=>by cases hp
 | q::ps,h,p,hp=>by
  have e:arrG sh fl (q::ps)=if arr1 sh fl q=0 then arrG sh fl ps else arr1 sh fl q:=rfl;rw[e] at h;by_cases h1:arr1 sh fl q=0
  ·rw[if_pos h1] at h;rcases List.mem_cons.1 hp with rfl|hp
   ·unfold arr1 at h1;by_cases q2:p.1 / 4294967296=sh∨11<p.1 / 4294967296
    ·rw[if_pos q2] at h1;exact absurd h1 ah
    ·omega
   ·exact As h p hp
  ·rw[if_neg h1] at h;exact absurd h h1
def DR{sh:Int}{fl:List FlM}{mix:Int→Bool}{s:StM}{W:Wk}{m:MvM}(hm:MvA s.kind m)(h:ni sh W.flows):ni sh (cT sh fl mix s W m).2.flows:=by
 by_cases h1:gErr sh (fl++W.flows) s W m=0
 case neg =>
  have e:cT sh fl mix s W m=(gErr sh (fl++W.flows) s W m,W):=by unfold cT;rw[if_pos h1]
  rw[e];exact h
 have hn:ni sh (W.flows++[eZ sh fl.length mix s W m]):=fun f hf hk=>by
  rcases List.mem_append.1 hf with hf|hf
  ·exact h f hf hk
  ·rw[List.mem_singleton.1 hf] at hk ⊢;have a0:s.kind=5:=hk;have h0:=hm.imp a0;have e:(eZ sh fl.length mix s W m).parts=m.parts:=nO hm (.inl a0);unfold gErr at h1;rw[if_pos h0,if_pos a0] at h1;rw[e];exact⟨h0,As h1⟩
 unfold cT;rw[if_neg (fun q=>q h1)];split
 ·exact h
 ·split
  ·exact hn
  ·split
   ·exact h
   ·exact hn
def sI{sh:Int}{fl:List FlM}{mix:Int→Bool}{s:StM}:∀(ms:List MvM) (W:Wk),(∀m∈ms,MvA s.kind m)→ni sh W.flows→ni sh (dH sh fl mix s W ms).2.flows
 | [],_,_,h=>h
 | m::ms,W,hm,h=>by
  have e:dH sh fl mix s W (m::ms)=if(cT sh fl mix s W m).1=0 then dH sh fl mix s (cT sh fl mix s W m).2 ms else((cT sh fl mix s W m).1,W):=rfl;rw[e];split
  ·exact sI ms _ (fun u hu=>hm u (aq _ hu)) (DR (hm m au) h)
  ·exact h
def LRep.imp{sh:Int}{c:CatM}{S:LedM}(h:LRep sh c S):ni S.shard S.flows:=by
 induction h with
 | zero=>intro f hf;cases hf
 | @post S s _ h0 ih =>
  have e1:cR S s=gC S s:=if_pos h0;have hp:=mV h0;rw[e1];intro f hf;rcases List.mem_append.1 (show f∈S.flows++(gTry S s).2.flows from hf) with q|q
  ·exact ih f q
  ·rw[Ah h0] at q;exact sI (s:=s.at (aR S)) s.moves (wk0 S) (sx hp) (fun f hf=>by cases hf) f q
def expP(fls:List (List FlM))(item:Int)(p:Lot):Prop:=∃fl∈fls,∃f∈fl,f.id=p.1∧f.kind=6∧f.item=item∧p.2.1+p.2.2≤f.n
noncomputable instance (a b c):Decidable (expP a b c):=Classical.propDecidable _
noncomputable def wOne(fls:List (List FlM))(item:Int)(p:Lot)(arr:LL):Int:=if ¬expP fls item p then 7 else if ∃y∈ofF arr p.1,ovP p y then 8 else 0
structure FlsW (fls:List (List FlM)):Prop where
 len:fls.length≤12
 num:∀i,i<fls.length→FlN (i:Int) fls[i]!
 imp:∀i,i<fls.length→ni (i:Int) fls[i]!
 ok:∀i,i<fls.length→∀f∈fls[i]!,∀x∈f.parts,LotOk x
 fl:∀i,i<fls.length→fls[i]!.length≤1000000
def Fj{fls:List (List FlM)}{item:Int}{p:Lot}(h:FlsW fls)(hp:0≤p.1):expP fls item p↔∃i k:Nat,(i:Int)=p.1 / 4294967296∧(k:Int)=p.1 % 4294967296∧i<fls.length∧k<fls[i]!.length∧fls[i]![k]!.kind=6∧fls[i]![k]!.item=item∧p.2.1+p.2.2≤fls[i]![k]!.n:=by
 constructor
 ·rintro⟨fl,a1,f,hf,h1,h2,h3,h4⟩;obtain⟨i,hi,rfl⟩:=List.mem_iff_getElem.1 a1;obtain⟨k,hk,rfl⟩:=List.mem_iff_getElem.1 hf;have ei:fls[i]! = fls[i]:=getElem!_of hi;have a0 : k<fls[i]!.length:=by rw[ei];exact hk
  have ek:fls[i]![k]! = fls[i][k]:=by rw[getElem!_of a0];simp only[ei]
  have hn:=(h.num i hi k a0).1;have hl:=h.fl i hi;rw[ek,h1] at hn;refine⟨i,k,ab,ab,hi,a0,?_⟩;rw[ek];exact⟨h2,h3,h4⟩
 ·rintro⟨i,k,h1,h2,hi,hk,h3,h4,h5⟩;have hn:=(h.num i hi k hk).1;exact⟨fls[i]!,aG hi,fls[i]![k]!,aG hk,ab,h3,h4,h5⟩
abbrev WEnt:Type:=Int×Int×Int×Lot
def entF(sh:Int)(f:FlM)(ps:LL):List WEnt:=if f.kind=5 then ps.map (fun p=>(sh,f.step,f.item,p)) else[]
def entL(sh:Int)(fl:List FlM):List WEnt:=fl.flatMap (fun f=>entF sh f f.parts)
def entA:Nat→List (List FlM)→List WEnt
 | _,[]=>[]
 | i,fl::r=>entL i fl++entA (i+1) r
def uz{sh:Int}{f:FlM}{p:Lot}{ps:LL}(h:f.kind=5):entF sh f (p::ps)=(sh,f.step,f.item,p)::entF sh f ps:=by
 unfold entF;rw[if_pos h,if_pos h];rfl
def xi{sh:Int}{f:FlM}:entF sh f []=[]:=by
 unfold entF;split<;>rfl
def tL{sh:Int}{f:FlM}{ps:LL}(h:f.kind≠5):entF sh f ps=[]:=if_neg h
def pJ{sh:Int}{f:FlM}{fl:List FlM}:entL sh (f::fl)=entF sh f f.parts++entL sh fl:=bP
def uA{i:Nat}{fl:List FlM}{r:List (List FlM)}:entA i (fl::r)=entL i fl++entA (i+1) r:=rfl
noncomputable def iG(fls:List (List FlM)):List WEnt→LL→Fd
 | [],_=>(0,0,0)
 | e::es,arr=>if wOne fls e.2.2.1 e.2.2.2 arr≠0 then(wOne fls e.2.2.1 e.2.2.2 arr,e.1,e.2.1) else iG fls es (arr++[e.2.2.2])
def rK{fls:List (List FlM)}{e:WEnt}{es:List WEnt}{a0:LL}:iG fls (e::es) a0=if wOne fls e.2.2.1 e.2.2.2 a0≠0 then(wOne fls e.2.2.1 e.2.2.2 a0,e.1,e.2.1) else iG fls es (a0++[e.2.2.2]):=rfl
noncomputable def wLed(c:CatM):Nat→List (List StM)→List (List FlM)→Fd
 | i,s::ss,f::fs=>if(audF i c s f).1≠0 then audF i c s f else wLed c (i+1) ss fs
 | _,_,_=>(0,0,0)
def tT{c:CatM}{i:Nat}{s:List StM}{ss:List (List StM)}{f:List FlM}{fs:List (List FlM)}:wLed c i (s::ss) (f::fs)=if(audF i c s f).1≠0 then audF i c s f else wLed c (i+1) ss fs:=rfl
def vC{c:CatM}{i:Nat}{fs:List (List FlM)}:wLed c i [] fs=(0,0,0):=by
 unfold wLed;rfl
noncomputable def audW(c:CatM)(sts:List (List StM))(fls:List (List FlM)):Fd :=
 if sts.length≠fls.length∨sts.length<1∨12<sts.length then(1,0,0)
 else if(wLed c 0 sts fls).1≠0 then wLed c 0 sts fls else iG fls (entA 0 fls) []
end
end Go.Proofs.YtommnllbflbdmaaGreatDoor
namespace Go.V
def Cu(n:Int):Go.bits .and .i64 n 4294967295=n % 4294967296:=by
 have h1:(BitVec.ofInt 64 4294967295).toNat=2 ^ 32 - 1:=by decide
 have key:(BitVec.ofInt 64 n &&& BitVec.ofInt 64 4294967295).toNat=(n % ((2 ^ 64:Nat):Int)).toNat % 2 ^ 32:=by
  rw[BitVec.toNat_and,BitVec.toNat_ofInt,h1,Nat.and_two_pow_sub_one_eq_mod]
 show IntKind.i64.wrap ((BitVec.ofInt 64 n &&& BitVec.ofInt 64 4294967295).toNat:Nat)=n % 4294967296;rw[key,IntKind.wrap_i64];omega
def Ev.C8{P:Program}{L:LH}{env:Env}{ty:TypeId}{t yt:TypeId}{x y:Operand}{a:Int}(hx:evE env x=some (ac a))(hy:evE env y=some (ac 4294967295)):Ev P L env (.binOp .and t x y yt) ty (ac (a % 4294967296)):=by
 have:=Ev.bits (P:=P) (L:=L) (ty:=ty) (t:=t) (yt:=yt) (op:=.and) (by simp) hx hy
 rwa [Cu a] at this
end Go.V
namespace Go.Proofs.YtommnllbflbdmaaGreatDoor
section
open Go.V
def xh(sh:Int):∀fl:List FlM,(entL sh fl).length=(eG fl).length
 | []=>rfl
 | f::fl=>by
  have h:=xh sh fl;rw[pJ,aD,h];by_cases e:f.kind=5
  ·have e1:eG (f::fl)=f.parts++eG fl:=by
    unfold eG;rw[cj (by simpa using e),bP]
   rw[e1,aD];unfold entF;rw[if_pos e,aA]
  ·have e1:eG (f::fl)=eG fl:=by
    unfold eG;rw[cn (by simpa using e)]
   rw[e1,tL e,cx];omega
def GenR.mono{sh:Int}{i j:Nat}{S:LedM}{x:RLX}(h:GenR sh i S x)(a0:i≤j):GenR sh j S x:=by
 obtain⟨k,hk,hl⟩:=h.led;exact⟨h.rf,⟨k,ab,hl⟩,h.cat,h.shard,by have:=h.steps;omega,h.st,h.ne,h.rep,h.cap⟩
def GenR.fls{sh:Int}{i:Nat}{S:LedM}{x:RLX}(h:GenR sh i S x)(hi:i≤100):FlN sh S.flows∧ni sh S.flows∧(∀f∈S.flows,∀p∈f.parts,LotOk p)∧S.flows.length≤1000000∧(entL sh S.flows).length≤3*i:=by
 obtain⟨k,hk,hl⟩:=h.led;have hd:=h.shard;have h1:=hl.fn;have h2:=h.rep.imp;have h3:=hl.g.flows;have h4:=h.steps;have h5:=hl.il;rw[hd] at h1 h2;refine⟨h1,h2,fun f hf=>(hl.fa f hf).1,ab,by rw[xh];omega⟩
def fls3{S0 S1 S2:LedM}{x0 x1 x2:RLX}(h0:GenR 0 8 S0 x0)(h1:GenR 1 5 S1 x1)(h2:GenR 2 5 S2 x2):FlsW [S0.flows,S1.flows,S2.flows]∧(entA 0 [S0.flows,S1.flows,S2.flows]).length≤2000:=by
 obtain⟨a1,a2,a3,a4,a5⟩:=h0.fls ah;obtain⟨b1,b2,b3,b4,b5⟩:=h1.fls ah;obtain⟨c1,c2,c3,c4,c5⟩:=h2.fls ah
 have hc:∀i:Nat,i<[S0.flows,S1.flows,S2.flows].length→i=0∨i=1∨i=2:=fun i hi=>by
  have:i<3:=hi;omega
 refine⟨⟨by show 3≤12;decide,fun i hi=>?_,fun i hi=>?_,fun i hi=>?_,fun i hi=>?_⟩,?_⟩
 ·rcases hc i hi with rfl|rfl|rfl
  ·exact a1
  ·exact b1
  ·exact c1
 ·rcases hc i hi with rfl|rfl|rfl
  ·exact a2
  ·exact b2
  ·exact c2
 ·rcases hc i hi with rfl|rfl|rfl
  ·exact a3
  ·exact b3
  ·exact c3
 ·rcases hc i hi with rfl|rfl|rfl
  ·exact a4
  ·exact b4
  ·exact c4
 ·show(entL 0 S0.flows++(entL 1 S1.flows++(entL 2 S2.flows++[]))).length≤2000;rw[aD,aD,aY];omega
end
section
open Go.V Go.ChangeShapes Go.WideShapes Go.ChangeAt Go.RowKit
abbrev laidK : List (String × DataW Unit) := [("worldmint/lexer.kinds", Rows.laid_worldmint_lexer_kinds)]
def gK : Tryz.prog.globalNamed "worldmint/lexer.kinds" = some 2 := by kernel_rfl
def tK:(Tryz.prog.globals[2]?).map (·.type)=some 359:=by kernel_rfl
def uK:Tryz.prog.underlying 359=some (.array 128 5):=by kernel_rfl
def uE:Tryz.prog.underlying 5=some (.int .u8):=by kernel_rfl
def cE:Tryz.prog.cellsOf 5=1:=by kernel_rfl
def GV:(Rows.laid_worldmint_lexer_kinds:DataW Unit)=.agg (kindsL.map fun x=>.lit (.int .u8 x)):=by rfl
set_option maxRecDepth 100000 in
def Fl(os:Os)(args:Array Value):laidMetH ag laidK ((World.doorLaid ag 400 os).forCall (fun _ _=>0) ⟨#[],args,[]⟩).memory :=
 laidMetH_of_parts3 (fuel:=8) (laidMet_of_run' 8 aw aw) aw aw
def BU{W:World}(h:laidMetH ag laidK W):bX (gX W) Hp.emp:=by
 rw[MakeChecks.laidMetH_plain _ _ _ aw] at h;obtain⟨ps,⟨g0,t0,a2,f0,p0,q0,b2,b1,a8,a7,_,_⟩,_,_⟩:=h;obtain rfl:=Option.some.inj (gK.symm.trans b2);obtain rfl:=Option.some.inj (tK.symm.trans b1);obtain⟨xs,m1,rfl,a3,a6,hn,a9⟩:=DataW.trod_array uK a7;simp only[Prod.mk.injEq] at a3;have hx:=a3.1;rw[GV,DataW.agg.injEq] at hx;have b3:=sE
 have cell:∀i,i<128→a2[i]? = some (.int .u8 kindsL[i]!):=by
  intro i hi;have h0:=a9 i hi;obtain⟨x,a1⟩:∃x,xs[i]? = some x:=⟨xs[i]'(by omega),List.getElem?_eq_getElem ab⟩;rw[a1] at h0;obtain⟨k,e1,e2,_⟩:=DataW.trod_int uE h0;have hm:(xs.map (·.1))[i]? = some x.1:=by rw[List.getElem?_map,a1];rfl
  rw[←hx,List.getElem?_map,List.getElem?_eq_getElem ab] at hm;rw[e2] at hm;simp only[gu,Option.some.injEq,DataW.lit.injEq,Lit.int.injEq,true_and] at hm;rw[cE,Nat.mul_one] at e1
  have h1:(a2.toList.drop i)[0]? = some (.int .u8 k):=by
   have:=congrArg (fun l=>l[0]?) e1
   simpa [List.getElem?_take] using this
  rw[List.getElem?_drop,Nat.add_zero,Array.getElem?_toList] at h1;rw[h1,←hm,getElem!_of ab]
 refine⟨fun _ _=>rfl,.inr ?_⟩;have a0:=a8;simp only[World.var?,gK,Option.bind_some] at a0;split at a0
 case h_1 cur E fz hb =>
  obtain rfl:=Option.some.inj a0;refine⟨2,0,cur,E,fz,rfl,hb,?_⟩;intro i v hi;rw[dg]
  have a4:kindsL.flatMap (encZ .u8)=kindsL.map fun x=>.int .u8 x:=by
   have:∀l:List Int,l.flatMap (encZ .u8)=l.map fun x=>.int .u8 x:=by
    intro l;induction l with
    | nil=>rfl
    | cons a t ih=>rw[bP,ih];rfl
   exact this _
  rw[a4,List.getElem?_map] at hi;obtain⟨x,a5,rfl⟩:=Option.map_eq_some_iff.1 hi;obtain⟨b0,rfl⟩:=List.getElem?_eq_some_iff.1 a5;rw[cell i ab,getElem!_of b0]
 all_goals simp at a0
