/- Lemmas. -/
import Derived.Test.YtommnllbflbdmaaGreatDoorCatbt
import Derived.Test.YtommnllbflbdmaaGreatDoorRows
import Derived.LaidMore
import Derived.Stop.Joined
set_option linter.all false
set_option maxHeartbeats 16000000
namespace Go.Proofs.YtommnllbflbdmaaGreatDoor
section
open Go.V
def CT{sh:Int}{fl:List FlM}{mix:Int→Bool}{s:StM}{N:Nat}{W:Wk}{m:MvM}(h1:W.sunk.length≤W.flows.length)(h2:W.flows.length≤N)(h3:∀f∈W.flows,f.made.length≤N):(dA sh fl mix s W m).2.sunk.length≤(dA sh fl mix s W m).2.flows.length∧(dA sh fl mix s W m).2.flows.length≤W.flows.length+1∧∀f∈(dA sh fl mix s W m).2.flows,f.made.length≤N:=by
 have hn:∀f∈W.flows++[fW sh fl.length mix s W m],f.made.length≤N:=fun f hf=>by
  rcases List.mem_append.1 hf with h|h
  ·exact h3 f h
  ·rw[List.mem_singleton.1 h];show(eW s W m).length≤N;unfold eW;split
   ·omega
   ·exact az _
 have hl:(W.flows++[fW sh fl.length mix s W m]).length=W.flows.length+1:=by rw[ax,aG]
 unfold dA;split
 ·exact⟨h1,Nat.le_succ _,h3⟩
 ·split
  ·exact⟨h1,Nat.le_succ _,h3⟩
  ·split
   ·refine⟨?_,Nat.le_of_eq hl,hn⟩;show(W.sunk++[db sh fl.length W]).length≤(W.flows++[fW sh fl.length mix s W m]).length;rw[hl,ax,aG];omega
   ·split
    ·exact⟨h1,Nat.le_succ _,h3⟩
    ·refine⟨?_,Nat.le_of_eq hl,hn⟩;show W.sunk.length≤(W.flows++[fW sh fl.length mix s W m]).length;rw[hl];omega
def qW{sh:Int}{fl:List FlM}{mix:Int→Bool}{s:StM}{N:Nat}:∀(ms:List MvM) (W:Wk),W.sunk.length≤W.flows.length→W.flows.length+ms.length≤N→(∀f∈W.flows,f.made.length≤N)→∀f∈(ew sh fl mix s W ms).2.flows,f.made.length≤N
 | [],_,_,_,h=>h
 | m::ms,W,h1,h2,h3=>by
  have e:ew sh fl mix s W (m::ms)=if(dA sh fl mix s W m).1=0 then ew sh fl mix s (dA sh fl mix s W m).2 ms else((dA sh fl mix s W m).1,W):=rfl;rw[bE] at h2;obtain⟨g1,g2,g3⟩:=CT (sh:=sh) (fl:=fl) (mix:=mix) (s:=s) (N:=N) (m:=m) h1 ab h3;rw[e];split
  ·exact qW ms _ g1 ab g3
  ·exact h3
def AV{S:LedM}{s:StM}(h:(gTry S s).1=0):gTry S s=ew S.shard S.flows (cu S.cat) (s.at (bu S)) (wk0 S) s.moves:=by
 by_cases h1:65536≤S.steps.length
 ·have e:gTry S s=(4,wk0 S):=by unfold gTry;rw[if_pos h1]
  rw[e] at h;exact absurd (show(4:Int)=0 from h) ag
 have h2:=kR h;unfold gTry;rw[if_neg h1,if_neg (fun q=>q h2)]
def LRep.made{sh:Int}{c:CatM}{S:LedM}(h:LRep sh c S):∀f∈S.flows,f.made.length≤64:=by
 induction h with
 | zero=>intro f hf;cases hf
 | @post S s _ h0 ih =>
  have e1:cS S s=gZ S s:=if_pos h0;have hp:=kR h0;have hl:=hp.2.2.2.1.2;rw[e1];intro f hf;rcases List.mem_append.1 (show f∈S.flows++(gTry S s).2.flows from hf) with q|q
  ·exact ih f q
  ·rw[AV h0] at q;exact qW (N:=64) s.moves (wk0 S) (aI _) (by show 0+_≤64;omega) (fun f hf=>by cases hf) f q
def so{a i:Int}:∀{l:List StV},(∀s∈l,lotsIn a i s.m.moves≤1)→stL a i (l.map StV.m)≤l.length
 | [],_=>aI _
 | s::l,h=>by
  have h1:=so (l:=l) (fun u hu=>h u (aw _ hu));have h2:=h s au;show lotsIn a i s.m.moves+stL a i (l.map StV.m)≤l.length+1;omega
def GenR.lotsIn{sh:Int}{i:Nat}{S:LedM}{x:RLX}(h:GenR sh i S x)(a j:Int):∀s∈x.steps,lotsIn a j s.m.moves≤1:=fun s hs=>(h.st s hs).lots (h.ne s hs) a j
def GenR.stepsLen{sh:Int}{i:Nat}{S:LedM}{x:RLX}(h:GenR sh i S x):x.steps.length≤i:=by
 rw[h.lens.1];exact h.steps
def GenR.audS{sh:Int}{i:Nat}{S:LedM}{x:RLX}(h:GenR sh i S x)(hi:i≤19):AudS x.steps:=by
 have h1:=h.stepsLen;have h2:=sg h.st;exact⟨ab,fun s hs=>⟨(h.st s hs).inp,(h.st s hs).cap⟩,ab,fun a j=>cN (so (h.lotsIn a j)) ab⟩
end
section
open Go.V
attribute [local irreducible] G GO GP GPW GPK Ev Ef EfR Ent CB GB V.Enters
abbrev zl:=ar5 [.ev 8]
def Xn{φ ψ:Prop}(k:ψ)(h:Hid ψ→φ:=by intro k;(repeat (first|refine aa ?_|intro zzz|refine G.dr 26 6 zl ?_));(repeat revert zzz);exact Hid.out k):φ:=h ⟨k⟩
def vf{L:LH}(a0 a4:OA)(n1 n2 c1 c2:Nat)(xs ys:LL1)[Rds L a0 Lot ay 3 xs][Rds L a4 Lot ay 3 ys](h1:n1=xs.length)(h2:n2=ys.length)(hl:ys.length≤1000000000) :
  Tri ai 107 #[ae a0 n1 c1,ae a4 n2 c2] L (rtQ (.bool (dB (xs=ys))) L):=by
 subst h1 h2;refine Tri.bd ?_;by_cases he:xs.length=ys.length
 case neg =>
  rw[aM (fun h:xs=ys=>he (by rw[h]))];refine Xn ?_;intros;exact KX.en ⟨rfl,rfl⟩
 have a9:xs.length≤1000000000:=ab;refine Xn ?_;intros;refine G.loop (α:=Nat) (fun i=>i≤xs.length∧xs.take i=ys.take i) (fun i=>[(0,ae a0 xs.length c1),(1,ae a4 ys.length c2),(5,ac (i:Int))]) (fun _=>L) (fun i=>xs.length - i) 0 ⟨az _,by simp⟩ an (Ent.refl _) ?_;rintro i ⟨hi,ht⟩;by_cases a6:i<xs.length
 case neg =>
  have e:xs=ys:=by
   rw[aB ab,aB ab] at ht;exact ht
  rw[aZ e];refine Xn ?_;intros;exact KX.en ⟨rfl,rfl⟩
 have a5:(i:Int).toNat=i:=ab;obtain⟨x,hx⟩:∃x,xs[i]! = x:=⟨_,rfl⟩;obtain⟨y,hy⟩:∃y,ys[i]! = y:=⟨_,rfl⟩;have a7:xs[(i:Int).toNat]! = x:=by rw[a5];exact hx
 have a8:ys[(i:Int).toNat]! = y:=by rw[a5];exact hy
 refine Xn ?_;intros;rw[a7,a8];refine GPW.evP (Ev.p9 (xs:=[x.1,x.2.1,x.2.2]) (ys:=[y.1,y.2.1,y.2.2]) (cs:=ay x) (ds:=ay y) (hc:=⟨rfl⟩) (hd:=⟨rfl⟩) rfl rfl rfl rfl) ag ?_;by_cases e:x=y
 ·rw[aM (fun h:¬ [x.1,x.2.1,x.2.2]=[y.1,y.2.1,y.2.2]=>h (by rw[e]))];refine Xn ?_;intros;refine⟨i+1,⟨ab,?_⟩,ab,?_,Ent.refl _⟩
  ·rw[aC a6,aC ab,ht];rw[getElem!_of a6] at hx;rw[getElem!_of ab] at hy;rw[hx,hy,e]
  ·rw[aU i];exact an
 ·have e2:¬ [x.1,x.2.1,x.2.2]=[y.1,y.2.1,y.2.2]:=fun h=>e (by
   obtain⟨a1,a2,a3⟩:=x;obtain⟨b1,b2,b3⟩:=y;simpa using h)
  rw[aZ e2,aM (fun h:xs=ys=>e (by rw[←hx,←hy,h]))];refine Xn ?_;intros;exact KX.en ⟨rfl,rfl⟩
abbrev Cs:=ar6 [.ev 10]
def Xt{φ ψ:Prop}(k:ψ)(h:Hid ψ→φ:=by intro k;(repeat (first|refine aa ?_|intro zzz|refine G.dr 102 7 Cs ?_));(repeat revert zzz);exact Hid.out k):φ:=h ⟨k⟩
def xC{L:LH}(f g:FlV)[Rds L f.pad Lot ay 3 f.m.parts][Rds L g.pad Lot ay 3 g.m.parts][Rds L f.mad Int (encZ .i64) 1 f.m.made][Rds L g.mad Int (encZ .i64) 1 g.m.made](h1:g.m.parts.length≤1000000000)(h2:g.m.made.length≤1000000000) :
  Tri ai 50 #[aN (bT f),aN (bT g)] L (rtQ (.bool (dB (f.m=g.m))) L):=by
 refine Tri.bd ?_;have a0:∀{p:Prop},¬p→(f.m=g.m→p)→dB (f.m=g.m)=false:=fun h q=>aM (fun r=>h (q r));simp only[bT];refine Xt ?_;intros;rename_i b2 b3;refine GO.cr (vf f.pad g.pad f.m.parts.length g.m.parts.length f.pcap g.pcap f.m.parts g.m.parts rfl rfl h1) ?_;by_cases cp:f.m.parts=g.m.parts
 case neg =>
  rw[aM cp];refine Xt ?_;intros;exact KX.d7 av ah ⟨by rw[a0 cp (fun q=>by rw[q])];rfl,rfl⟩
 rw[aZ cp];by_cases cl:f.m.made.length=g.m.made.length
 case neg =>
  refine Xt ?_;intros;exact KX.d7 av ah ⟨by rw[a0 cl (fun q=>by rw[q])];rfl,rfl⟩
 refine Xt ?_;intros;refine G.loop (α:=Nat) (fun i=>i≤f.m.made.length∧f.m.made.take i=g.m.made.take i) (fun i=>[(2,aq b2),(3,aq b3),(6,ac (i:Int))]) (fun _=>obj b2 dz (bT f)::obj b3 dz (bT g)::L) (fun i=>f.m.made.length - i) 0 ⟨az _,by simp⟩ an (by simp only[bT];exact ah) ?_;rintro i ⟨hi,ht⟩;simp only[bT];by_cases a1:i<f.m.made.length
 case pos =>
  have a2:(i:Int).toNat=i:=ab;by_cases e:f.m.made[(i:Int).toNat]! = g.m.made[(i:Int).toNat]!
  ·refine Xt ?_;intros;refine⟨i+1,⟨ab,?_⟩,ab,?_,by exact ah⟩
   ·rw[a2] at e;rw[aC a1,aC ab,ht];rw[getElem!_of a1,getElem!_of (ab:i<g.m.made.length)] at e;rw[e]
   ·rw[aU i];exact an
  ·refine Xt ?_;intros;exact KX.d7 av ah ⟨by rw[a0 e (fun q=>by rw[q])];rfl,rfl⟩
 have cm:f.m.made=g.m.made:=by
  rw[aB ab,aB ab] at ht;exact ht
 by_cases c0:f.m.id=g.m.id
 case neg =>
  refine Xt ?_;intros;exact KX.d7 av ah ⟨by rw[a0 c0 (fun q=>by rw[q])];first|rfl|(rw[aM c0];rfl),rfl⟩
 by_cases c1:f.m.step=g.m.step
 case neg =>
  refine Xt ?_;intros;exact KX.d7 av ah ⟨by rw[a0 c1 (fun q=>by rw[q])];first|rfl|(rw[aM c1];rfl),rfl⟩
 by_cases c2:f.m.kind=g.m.kind
 case neg =>
  refine Xt ?_;intros;exact KX.d7 av ah ⟨by rw[a0 c2 (fun q=>by rw[q])];first|rfl|(rw[aM c2];rfl),rfl⟩
 by_cases c3:f.m.tick=g.m.tick
 case neg =>
  refine Xt ?_;intros;exact KX.d7 av ah ⟨by rw[a0 c3 (fun q=>by rw[q])];first|rfl|(rw[aM c3];rfl),rfl⟩
 by_cases c4:f.m.actor=g.m.actor
 case neg =>
  refine Xt ?_;intros;exact KX.d7 av ah ⟨by rw[a0 c4 (fun q=>by rw[q])];first|rfl|(rw[aM c4];rfl),rfl⟩
 by_cases c5:f.m.frm=g.m.frm
 case neg =>
  refine Xt ?_;intros;exact KX.d7 av ah ⟨by rw[a0 c5 (fun q=>by rw[q])];first|rfl|(rw[aM c5];rfl),rfl⟩
 by_cases c6:f.m.to=g.m.to
 case neg =>
  refine Xt ?_;intros;exact KX.d7 av ah ⟨by rw[a0 c6 (fun q=>by rw[q])];first|rfl|(rw[aM c6];rfl),rfl⟩
 by_cases c7:f.m.item=g.m.item
 case neg =>
  refine Xt ?_;intros;exact KX.d7 av ah ⟨by rw[a0 c7 (fun q=>by rw[q])];first|rfl|(rw[aM c7];rfl),rfl⟩
 by_cases c8:f.m.n=g.m.n
 case neg =>
  refine Xt ?_;intros;exact KX.d7 av ah ⟨by rw[a0 c8 (fun q=>by rw[q])];first|rfl|(rw[aM c8];rfl),rfl⟩
 have e:f.m=g.m:=by
  obtain⟨m,_,_,_,_⟩:=f;obtain⟨m',_,_,_,_⟩:=g;cases m;cases m';simp only at c0 c1 c2 c3 c4 c5 c6 c7 c8 cp cm ⊢;subst c0 c1 c2 c3 c4 c5 c6 c7 c8 cp cm;rfl
 refine Xt ?_;intros;exact KX.d7 av ah ⟨by rw[aZ e,aZ c8];rfl,rfl⟩
end
section
open Go.V
def xh{sh:Int}{c:CatM}(h:0≤sh∧sh<12):(led0 sh c).Ok:=⟨h,az _,az _,fun _ _=>⟨az _,(fun _ hx=>by cases hx)⟩,fun _=>by show -(((0:Nat):Int)*1099511627776)≤(0:Int)∧(0:Int)≤1099511627776;omega⟩
def AX{s:StV}(hk:s.kind=0∨s.kind=2)(hm:∃u,u.m.parts=[]∧s.moves=[u])(hc:1≤s.mcap)(hr:s.rule = -1):StIn s:=by
 obtain⟨u,hu,hm⟩:=hm;refine⟨?_,by rw[hm];show 1≤1000000;decide,by rw[hm];exact hc,by rw[hr];unfold I64;decide,fun m h=>?_⟩
 ·rcases hk with h|h
  ·exact .inl h
  ·exact .inr (.inr (.inr (.inl h)))
 ·rw[hm] at h;rw[List.mem_singleton.1 h,hu];decide
def exMv_ent{b:Nat}{f t n:Int}{L:LH}:Ent (obj b tMv [ac f,ac t,ac 0,ac n,ae none 0 0]::L) (isl aT 5 (some ⟨b,0,none⟩) [(⟨⟨f,t,0,n,[]⟩,none,0⟩:MvV)]::allP mvP [(⟨⟨f,t,0,n,[]⟩,none,0⟩:MvV)]::L) :=
 (Ent.e9 (enc:=aT) (sz:=5) (xs:=[(⟨⟨f,t,0,n,[]⟩,none,0⟩:MvV)]) (n:=1) rfl rfl (fun _ _=>rfl) ag).trans (Ent.freezeSl.trans (Ent.d7 ((Ent.f8 ay 3 none).trans (Ent.l0 (f:=mvP) (x:=(⟨⟨f,t,0,n,[]⟩,none,0⟩:MvV)) iQ))))
attribute [local irreducible] G GO GP GPW GPK GF GE Ev Ef EfR Ent CB GB V.Enters
def mQ{L:LH}:Tri ai 16 #[] (cn::L) (rtQ (.bool true) (cn::L)):=by
 refine Tri.bd ?_;refine IF ?_;intros;refine GO.ca (tU) ?_;rintro _ _⟨c,rfl,⟨hc,hB⟩,rfl⟩;have c7:CatGood c.m:=hc▸Ds;simp only[CatV.cells];refine IF ?_;intros;rename_i b1;refine GO.ent (L':=catP c::cn::obj b1 tCat c.cells::L) (by simp only[CatV.cells];exact ah) ?_;refine GO.ca (CO 0 c ag hB c7) ?_;rintro _ _⟨lb,rfl,rfl⟩;rw[hc];refine IF ?_;intros;rename_i a6;refine GO.ent (L':=LedR lb (led0 0 cat22)::stM (exVS none 0 (some ⟨a6,0,none⟩) 1)::stP (exVS none 0 (some ⟨a6,0,none⟩) 1)::catP c::cn::obj b1 tCat c.cells::L) (exMv_ent.trans ah) ?_;refine GO.cr (uj lb (led0 0 cat22) (xh ag) rM (exVS none 0 (some ⟨a6,0,none⟩) 1) (AX (.inl rfl) ⟨_,rfl,rfl⟩ (aI _) rfl) qo) ?_;rw[show ll (led0 0 cat22) (exVS none 0 (some ⟨a6,0,none⟩) 1).m=exL1 from AY];refine GO.ent (L':=LedR lb exL1::catP c::cn::obj b1 tCat c.cells::L) ah ?_;refine IF ?_;intros;rename_i a7;refine GO.ent (L':=LedR lb exL1::stM (exVT 3 none 0 (some ⟨a7,0,none⟩) 1)::stP (exVT 3 none 0 (some ⟨a7,0,none⟩) 1)::catP c::cn::obj b1 tCat c.cells::L) (exMv_ent.trans ah) ?_;have b4:exL1.Ok:=by rw[←AY];exact FO (xh ag) qo
 refine GO.cr (uj lb exL1 b4 rM ({ exVT 3 none 0 (some ⟨a7,0,none⟩) 1 with id:=0 }:StV) (AX (.inr rfl) ⟨_,rfl,rfl⟩ (aI _) rfl) qo) ?_;rw[show ll exL1 ({ exVT 3 none 0 (some ⟨a7,0,none⟩) 1 with id:=0 }:StV).m=exL2 from HF];refine GO.ent (L':=LedR lb exL2::catP c::cn::obj b1 tCat c.cells::L) ah ?_;refine IF ?_;intros
 have b5:∀s∈exL2.steps,s.moves.length≤64∧∀u∈s.moves,u.parts.length≤1000000:=by
  intro s hs;rcases List.mem_cons.1 hs with rfl|hs
  ·exact⟨by show 1≤64;decide,fun u hu=>by rw[List.mem_singleton.1 hu];show 0≤1000000;decide⟩
  ·rw[List.mem_singleton.1 hs];exact⟨by show 1≤64;decide,fun u hu=>by rw[List.mem_singleton.1 hu];show 0≤1000000;decide⟩
 have b3:∀f∈exL2.flows,f.parts.length≤1000000∧f.made.length≤1000000:=by
  intro f hf;rcases List.mem_cons.1 hf with rfl|hf
  ·exact⟨by show 0≤1000000;decide,by show 0≤1000000;decide⟩
  ·rw[List.mem_singleton.1 hf];exact⟨by show 1≤1000000;decide,by show 0≤1000000;decide⟩
 refine GO.ca (yr lb exL2 b5 (by show 2≤100000;decide)) ?_;rintro _ _⟨sad,scap,ss,rfl,c3,rfl⟩;have d4:ss.length=2:=by rw[←aA (f:=StV.m),c3];rfl
 rw[d4];refine IF ?_;intros;refine GO.ent (L':=LedR lb exL2::osl aX 7 cQ sad scap ss::bigO stO ss::catP c::cn::obj b1 tCat c.cells::L) ah ?_;refine GO.ca (nE lb exL2 b3 (by show 2≤100000;decide)) ?_;rintro _ _⟨fad,fcap,fs,rfl,b8,rfl⟩;have b7:fs.length=2:=by rw[←aA (f:=FlV.m),b8];rfl
 rw[b7];refine GO.d8 (gg (ad:=fad) (cap:=fcap) (xs:=fs) (enc:=bT) (sz:=11) (E:=dz)) ?_;rintro⟨a8,_⟩;rw[b7] at a8;obtain⟨p0,c0,a0,k0,p1,c1,a1,k1,rfl⟩:=Hi c3;obtain⟨q0,d0,m0,e0,q1,d1,m1,e1,rfl⟩:=HB b8;generalize hs0:exVS p0 c0 a0 k0=s0 at *;generalize hs1:exVT 3 p1 c1 a1 k1=s1 at *;generalize hf0:(⟨exF0,q0,d0,m0,e0⟩:FlV)=f0 at *;generalize hf1:(⟨exF1 0,q1,d1,m1,e1⟩:FlV)=f1 at *;refine GO.ent (L':=osl aT 5 tMv s0.mad s0.mcap s0.moves::stP s0::osl aT 5 tMv s1.mad s1.mcap s1.moves::stP s1::osl ay 3 tLot f0.pad f0.pcap f0.m.parts::osl (encZ .i64) 1 tInt f0.mad f0.mcap f0.m.made::osl ay 3 tLot f1.pad f1.pcap f1.m.parts::osl (encZ .i64) 1 tInt f1.mad f1.mcap f1.m.made::osl aX 7 cQ sad scap [s0,s1]::osl bT 11 dz fad fcap [f0,f1]::catP c::(cn::obj b1 tCat c.cells::L)) ?_ ?_
 ·refine(Ent.at (A:=bigO stO [s0,s1]) Da).trans ?_;refine(Ent.at (A:=bigO flO [f0,f1]) Db).trans ?_;exact ah
 refine GO.d8 (gg (ad:=s0.mad) (cap:=s0.mcap) (xs:=s0.moves) (enc:=aT) (sz:=5) (E:=tMv)) ?_;rintro⟨b9,_⟩;refine GO.d8 (gg (ad:=s1.mad) (cap:=s1.mcap) (xs:=s1.moves) (enc:=aT) (sz:=5) (E:=tMv)) ?_;rintro⟨c2,_⟩;refine GO.ent EW ?_;have a9:AudS [s0,s1]:=by subst hs0 hs1;exact EZ b9 c2
 have c5:AudFl [f0,f1]:=by subst hf0 hf1;exact AZ
 have d3:f1.m.parts.length=1:=by subst hf1;rfl
 have c9:s1.moves.length=1:=by subst hs1;rfl
 refine IF ?_;intros;have b2:c.m.Ok:=hc▸rM;have c6:∀s∈[s0,s1],s.moves.length≤1000000:=fun s hs=>(a9.inp s hs).1.len;refine GO.cr (ql c hB b2 sad fad scap fcap s0 s1 f0 f1 a9 c5 a8) ?_;rw[show audF 0 c.m [s0.m,s1.m] [f0.m,f1.m]=(0,0,0) by subst hs0 hs1 hf0 hf1;rw[hc];exact Ii];simp only[gk];refine GO.e8 rfl rfl ?_;refine GO.ev (Ev.r7 (off:=0) (fs:=Tryz.prog.fieldsOf tFnd) (fd:=(Tryz.prog.fieldsOf tFnd)[0]!) krStd0 krStd0 krStd0 (fun _=>krStd0) rfl rfl) ag ?_;refine IF ?_;intros;refine GO.ca (Br 4 c sad fad scap s0 s1 f0 f1 c6) ?_;rintro _ _⟨⟨tad,tcap⟩,rfl,rfl⟩;rw[show resT 4 [s0,s1]=(0,[5,0,0,0]) by subst hs0 hs1;exact Iu];dsimp only;refine IF ?_;intros;refine GO.ent (L':=iS c sad fad s0 s1 f0 f1 (osl (encZ .i64) 1 tInt tad tcap [5,0,0,0]::cn::obj b1 tCat c.cells::L)) (by simp only[iS];exact ah) ?_;refine GO.ca (xo 4 c sad fad scap s0 s1 f0 f1 (by subst hs0 hs1;show 2≤100000;decide)) ?_;rintro _ _⟨⟨b6,a5,hs⟩,⟨rfl,_,hh⟩,rfl⟩;have hH:=@Iw p0 c0 a0 k0 p1 c1 a1 k1;rw[hs0,hs1] at hH;rw[if_pos hH.1] at hh;obtain rfl:hs=[(1,0,2),(2,0,3)]:=hh.unique hH.2 (fun _ _=>rfl);dsimp only;rw[hH.1];refine IF ?_;intros;have eF:([f0,f1]:List FlV)[Int.toNat 1]! = f1:=rfl;have eT:([5,0,0,0]:List Int).length=4:=rfl;have eH:([(1,0,2),(2,0,3)]:List Hd).length=2:=rfl;rw[eF];simp only[eT,eH];refine IF ?_;intros;have d2:(Int.toNat 0)<f1.m.parts.length:=by rw[d3];decide
 refine GO.efu (Ef.l7 (e:=((f1.m.parts[Int.toNat 0]!.1,1,f1.m.parts[Int.toNat 0]!.2.2):Lot)) rfl rfl aJ rfl d2 ag) ?_;rintro _ _ rfl;obtain⟨f2,a2⟩:∃f,(⟨exF1 1,q1,d1,m1,e1⟩:FlV)=f:=⟨_,rfl⟩;have g1:f2.pad=f1.pad:=by subst hf1 a2;rfl
 have g2:f2.pcap=f1.pcap:=by subst hf1 a2;rfl
 have g3:f2.m.parts=f1.m.parts.set (Int.toNat 0) (f1.m.parts[Int.toNat 0]!.1,1,f1.m.parts[Int.toNat 0]!.2.2):=by subst hf1 a2;rfl
 have g4:f2.mad=f1.mad:=by subst hf1 a2;rfl
 have g5:f2.m.made=f1.m.made:=by subst hf1 a2;rfl
 have g6:[f0,f1].map bT=[f0,f2].map bT:=by subst hf1 a2;rfl
 have a4:AudFl [f0,f2]:=by subst hf0 a2;exact AZ
 refine GO.ent (L':=iS c sad fad s0 s1 f0 f2 (osl (encZ .i64) 1 tInt tad tcap [5,0,0,0]::osl hU 3 tHd b6 a5 [(1,0,2),(2,0,3)]::cn::obj b1 tCat c.cells::L)) ?_ ?_
 ·simp only[iS];rw[g1,g2,g3,g4,g5];refine(Ent.at (A:=isl bT 11 fad [f0,f1]) (Ent.o0 g6)).trans ?_;exact ah
 refine IF ?_;intros;refine GO.cr (ql c hB b2 sad fad scap fcap s0 s1 f0 f2 a9 a4 a8) ?_;rw[show audF 0 c.m [s0.m,s1.m] [f0.m,f2.m]=(20,0,1) by subst hs0 hs1 hf0 a2;rw[hc];exact Ih];simp only[gk];refine IF ?_;intros;rename_i c4;have eS:([s0,s1]:List StV)[Int.toNat 1]! = s1:=rfl;rw[eS];have c8:(Int.toNat 0)<s1.moves.length:=by rw[c9];decide
 refine IF ?_;intros;refine GO.efu (Ef.l7 (e:=(⟨⟨s1.moves[Int.toNat 0]!.m.frm,s1.moves[Int.toNat 0]!.m.to,s1.moves[Int.toNat 0]!.m.item,6,s1.moves[Int.toNat 0]!.m.parts⟩,s1.moves[Int.toNat 0]!.pad,s1.moves[Int.toNat 0]!.pcap⟩:MvV)) rfl rfl aJ rfl c8 ag) ?_;rintro _ _ rfl;obtain⟨s2,a3⟩:∃s,exVT 6 p1 c1 a1 k1=s:=⟨_,rfl⟩;have d5:s2.mad=s1.mad:=by subst hs1 a3;rfl
 have d6:s2.mcap=s1.mcap:=by subst hs1 a3;rfl
 have e2:s2.moves=s1.moves.set (Int.toNat 0) ⟨⟨s1.moves[Int.toNat 0]!.m.frm,s1.moves[Int.toNat 0]!.m.to,s1.moves[Int.toNat 0]!.m.item,6,s1.moves[Int.toNat 0]!.m.parts⟩,s1.moves[Int.toNat 0]!.pad,s1.moves[Int.toNat 0]!.pcap⟩:=by subst hs1 a3;rfl
 have e3:[s0,s1].map aX=[s0,s2].map aX:=by subst hs1 a3;rfl
 have e4:∀y∈s2.moves,∃x∈s1.moves,mvP y=mvP x:=by
  subst hs1 a3;intro y hy;rw[List.mem_singleton.1 hy];exact⟨_,au,rfl⟩
 have b0:AudS [s0,s2]:=by subst hs0 hs1 a3;exact EZ b9 c2
 refine GO.ent (L':=iS c sad fad s0 s2 f0 f2 (osl (encZ .i64) 1 tInt tad tcap [5,0,0,0]::osl hU 3 tHd b6 a5 [(1,0,2),(2,0,3)]::cn::obj c4 tFnd [ac 20,ac 0,ac 1]::obj b1 tCat c.cells::L)) ?_ ?_
 ·simp only[iS];refine(Ent.at (A:=isl aX 7 sad [s0,s1]) (Ent.o0 e3)).trans ?_;refine(Ent.at (A:=allP mvP s1.moves) (Ent.n7 e4)).trans ?_;rw[←e2,d5,d6];exact ah
 refine IF ?_;intros;refine GO.cr (ql c hB b2 sad fad scap fcap s0 s2 f0 f2 b0 a4 a8) ?_;rw[show audF 0 c.m [s0.m,s2.m] [f0.m,f2.m]=(10,0,1) by subst hs0 a3 hf0 a2;rw[hc];exact Ig];simp only[gk];refine IF ?_;intros;rename_i e5;exact KX.d7 av (by simp only[iS];exact ah) ⟨by rw[aZ (show([(1,0,2),(2,0,3)]:List Hd)[Int.toNat 1]!.2.2=3 from rfl)];rfl,rfl⟩
end
section
open Go.V Go.ChangeShapes Go.WideShapes Go.ChangeAt Go.RowKit
abbrev laidK : List (String × DataW Unit) := [("worldmint/lexer.kinds", Rows.laid_worldmint_lexer_kinds)]
def gK : Tryz.prog.globalNamed "worldmint/lexer.kinds" = some 2 := krStd0
def tK:(Tryz.prog.globals[2]?).map (·.type)=some 359:=krStd0
def uK:Tryz.prog.underlying 359=some (.array 128 5):=krStd0
def uE:Tryz.prog.underlying 5=some (.int .u8):=krStd0
def cE:Tryz.prog.cellsOf 5=1:=krStd0
def Ib:(Rows.laid_worldmint_lexer_kinds:DataW Unit)=.agg (kindsL.map fun x=>.lit (.int .u8 x)):=by rfl
set_option maxRecDepth 100000 in
def Gt(os:Os)(args:Array Value):laidMetH ai laidK ((World.doorLaid ai 400 os).forCall (fun _ _=>0) ⟨#[],args,[]⟩).memory :=
 laidMetH_of_parts3 (fuel:=8) (laidMet_of_run' 8 krStd0 krStd0) krStd0 krStd0
def CQ{W:World}(h:laidMetH ai laidK W):cn (ij W) Hp.emp:=by
 rw[MakeChecks.laidMetH_plain _ _ _ krStd0] at h;obtain⟨ps,⟨g0,t0,a1,f0,p0,q0,a7,b0,b1,a4,_,_⟩,_,_⟩:=h;obtain rfl:=Option.some.inj (gK.symm.trans a7);obtain rfl:=Option.some.inj (tK.symm.trans b0);obtain⟨xs,m1,rfl,a2,a9,hn,a5⟩:=DataW.trod_array uK a4;simp only[Prod.mk.injEq] at a2;have hx:=a2.1;rw[Ib,DataW.agg.injEq] at hx;have b3:=sI
 have cell:∀i,i<128→a1[i]? = some (.int .u8 kindsL[i]!):=by
  intro i hi;have h0:=a5 i hi;obtain⟨x,a3⟩:∃x,xs[i]? = some x:=⟨xs[i]'(by omega),List.getElem?_eq_getElem ab⟩;rw[a3] at h0;obtain⟨k,e1,e2,_⟩:=DataW.trod_int uE h0;have hm:(xs.map (·.1))[i]? = some x.1:=by rw[List.getElem?_map,a3];rfl
  rw[←hx,List.getElem?_map,List.getElem?_eq_getElem ab] at hm;rw[e2] at hm;simp only[eZ,Option.some.injEq,DataW.lit.injEq,Lit.int.injEq,true_and] at hm;rw[cE,Nat.mul_one] at e1
  have h1:(a1.toList.drop i)[0]? = some (.int .u8 k):=by
   have:=congrArg (fun l=>l[0]?) e1
   simpa [List.getElem?_take] using this
  rw[List.getElem?_drop,Nat.add_zero,Array.getElem?_toList] at h1;rw[h1,←hm,getElem!_of ab]
 refine⟨fun _ _=>rfl,.inr ?_⟩;have a0:=b1;simp only[World.var?,gK,Option.bind_some] at a0;split at a0
 case h_1 cur E fz hb =>
  obtain rfl:=Option.some.inj a0;refine⟨2,0,cur,E,fz,rfl,hb,?_⟩;intro i v hi;rw[dj]
  have a6:kindsL.flatMap (encZ .u8)=kindsL.map fun x=>.int .u8 x:=by
   have:∀l:List Int,l.flatMap (encZ .u8)=l.map fun x=>.int .u8 x:=by
    intro l;induction l with
    | nil=>rfl
    | cons a t ih=>rw[bB,ih];rfl
   exact this _
  rw[a6,List.getElem?_map] at hi;obtain⟨x,b2,rfl⟩:=Option.map_eq_some_iff.1 hi;obtain⟨a8,rfl⟩:=List.getElem?_eq_some_iff.1 b2;rw[cell i ab,getElem!_of a8]
 all_goals simp at a0
