/- Lemmas. -/
import Derived.Test.YtommnllbflbdmaaGreatDoorFal
set_option linter.all false
set_option maxHeartbeats 2000000
namespace Go.Proofs.YtommnllbflbdmaaGreatDoor
section
open Go.V
attribute [local irreducible] G GO GP GPW GPK Ev Ef EfR Ent CB GB Enters
def lm(k:Int):Prop:=k=0∨k=1∨k=6∨k=2∨k=3∨k=8∨k=4
def nt(k:Int):Int→Bool:=if k=0 then(fun n=>dB (n=0)) else if k=4 then(fun _=>true) else(fun n=>dB (¬n=0))
def kTo(k:Int):Int→Bool:=if k=1∨k=6 then(fun n=>dB (n=0)) else if k=4 then(fun _=>true) else(fun n=>dB (¬n=0))
def na(k:Int):FuncId:=if k=4 then 259 else 257
abbrev Jz(ff tf wf:FuncId):Value:=.agg #[.func (.func ff) #[] #[],.func (.func tf) #[] #[],.bool false,.func (.func wf) #[] #[]]
def Bs{L:LH}(k:Int)(hk:lm k):Tri ai 211 #[ac k] L (fun v L'=>∃ff tf,v=.tuple #[Jz ff tf (na k),.bool true]∧(Asks ff (nt k)∧Asks tf (kTo k))∧L' = L):=by
 rcases hk with rfl|rfl|rfl|rfl|rfl|rfl|rfl
 ·refine Tri.bd (args:=[ac 0]) ?_;refine JM ?_;intros;exact KX.d7 (by exact ResOk.cell rfl aK (ResOk.tmp rfl (ResOk.nil))) ag ⟨_,_,rfl,⟨ke,eW⟩,rfl⟩
 ·refine Tri.bd (args:=[ac 1]) ?_;refine JM ?_;intros;exact KX.d7 (by exact ResOk.cell rfl aK (ResOk.tmp rfl (ResOk.nil))) ag ⟨_,_,rfl,⟨eW,ke⟩,rfl⟩
 ·refine Tri.bd (args:=[ac 6]) ?_;refine JM ?_;intros;exact KX.d7 (by exact ResOk.cell rfl aK (ResOk.tmp rfl (ResOk.nil))) ag ⟨_,_,rfl,⟨eW,ke⟩,rfl⟩
 ·refine Tri.bd (args:=[ac 2]) ?_;refine JM ?_;intros;exact KX.d7 (by exact ResOk.cell rfl aK (ResOk.tmp rfl (ResOk.nil))) ag ⟨_,_,rfl,⟨eW,eW⟩,rfl⟩
 ·refine Tri.bd (args:=[ac 3]) ?_;refine JM ?_;intros;exact KX.d7 (by exact ResOk.cell rfl aK (ResOk.tmp rfl (ResOk.nil))) ag ⟨_,_,rfl,⟨eW,eW⟩,rfl⟩
 ·refine Tri.bd (args:=[ac 8]) ?_;refine JM ?_;intros;exact KX.d7 (by exact ResOk.cell rfl aK (ResOk.tmp rfl (ResOk.nil))) ag ⟨_,_,rfl,⟨eW,eW⟩,rfl⟩
 ·refine Tri.bd (args:=[ac 4]) ?_;refine JM ?_;intros;exact KX.d7 (by exact ResOk.cell rfl aK (ResOk.tmp rfl (ResOk.nil))) ag ⟨_,_,rfl,⟨lg,lg⟩,rfl⟩
def jB(rules:List RuM)(s:StM):Prop:=if s.kind=4 then fN rules s.rule s.times s.moves else jo s.rule s.times
noncomputable instance (a b):Decidable (jB a b):=Classical.propDecidable _
def mH(c:CatM)(now:Int)(s:StM):Prop :=
 accP s.actor∧(0≤s.tick∧s.tick≤1099511627776∧now≤s.tick)∧(1≤s.moves.length∧s.moves.length≤64) ∧
 (∀m∈s.moves,iN c.items.length (nt s.kind) (kTo s.kind) m=true)∧jB c.rules s
noncomputable instance (a b c):Decidable (mH a b c):=Classical.propDecidable _
def xnow(x:LedX):Int:=(x.steps.getLast?.map (·.tick)).getD 0
abbrev CG:Nat:=267
abbrev Dc:=aG9 [.ev 4,.ef 5,.ev 6,.ev 7,.ev 8,.ev 9,.ev 10,.ev 11,.ev 12,.ev 13,.ev 14,.ev 15,.ev 16,.ev 17,.ev 18,.ev 19,.ev 20,.ev 21,.ef 22,.ev 23,.ev 24,.ev 25,.ev 26,.ev 27,.ev 28,.ev 29,.ev 30,.ev 31,.ev 32,.ev 33,.ev 34,.ev 35,.ev 36]
def Ld{φ ψ:Prop}(k:ψ)(h:Hid ψ→φ:=by intro k;(repeat (first|refine aa ?_|intro zzz|refine G.dr 70 2 Dc ?_));(repeat revert zzz);exact Hid.out k):φ:=h ⟨k⟩
def Ft{L R:LH}{b:Nat}{sh:Int}{x:LedX}[hp:PickObj L b tLed (bR sh x) R][hr:Rds L x.sad StV aN 7 x.steps](s:StV)[b4:Rds L s.mad MvV aL 5 s.moves](hk:lm s.kind)(hc:x.cat.m.Ok)(hB:x.cat.B)(b6:x.steps.length≤65536)(b1:s.moves.length≤1000000)(a2:s.moves.length≤s.mcap)(hI:I64 s.rule) :
  Tri ai 123 #[ay b,aO (aN s)] (catP x.cat::L) (rtQ (.bool (dB (mH x.cat.m (xnow x) s.m))) (catP x.cat::L)):=by
 have a8:=hB.items;have b2:s.m.moves.length=s.moves.length:=by simp[StV.m]
 refine Tri.bd ?_;refine Ld ?_;intros;rename_i b3;refine GO.ca (Bs s.kind hk) ?_;rintro _ _⟨ff,tf,rfl,⟨a5,b0⟩,rfl⟩;refine Ld ?_;intros;rename_i b5;refine GPW.cr (kj s.actor) ?_;by_cases h1:accP s.actor
 case neg =>
  rw[aH h1];refine Ld ?_;intros;exact KX.d7 an ag ⟨by rw[aH (fun h=>h1 h.1)];rfl,rfl⟩
 rw[aU h1];by_cases h2:0≤s.tick
 case neg =>
  refine Ld ?_;intros;exact KX.d7 an ag ⟨by rw[aH (fun h=>h2 h.2.1.1)];rfl,rfl⟩
 by_cases h3:s.tick≤1099511627776
 case neg =>
  refine Ld ?_;intros;exact KX.d7 an ag ⟨by rw[aH (fun h=>h3 h.2.1.2.1)];rfl,rfl⟩
 refine Ld ?_;intros;refine GPW.cr (vu (b:=b) (sh:=sh) (x:=x) ab) ?_;rw[show(x.steps.getLast?.map (·.tick)).getD 0=xnow x from rfl];by_cases h4:xnow x≤s.tick
 case neg =>
  refine Ld ?_;intros;exact KX.d7 an ag ⟨by rw[aH (fun h=>h4 h.2.1.2.2)];rfl,rfl⟩
 by_cases h5:1≤s.moves.length
 case neg =>
  refine Ld ?_;intros;exact KX.d7 an ag ⟨by rw[aH (fun h=>h5 (by have:=h.2.2.1.1;omega))];rfl,rfl⟩
 by_cases h6:s.moves.length≤64
 case neg =>
  refine Ld ?_;intros;exact KX.d7 an ag ⟨by rw[aH (fun h=>h6 (by have:=h.2.2.1.2;omega))];rfl,rfl⟩
 refine Ld ?_;intros;refine G.loop (α:=Nat) (fun i=>i≤s.moves.length∧∀j:Nat,j<i→iN x.cat.items.length (nt s.kind) (kTo s.kind) s.moves[j]!.m=true) (fun i=>[(0,ay b),(3,ay b3),(4,.bool false),(5,ay b5),(53,ah s.mad s.moves.length s.mcap),(54,ac (s.moves.length:Int)),(55,ac (i:Int))]) (fun _=>obj b5 CG [.func (.func ff) #[] #[],.func (.func tf) #[] #[],.bool false,.func (.func (na s.kind)) #[] #[]]::obj b3 ba (aN s)::catP x.cat::L) (fun i=>s.moves.length - i) 0 ⟨ax _,fun j h=>absurd h ab⟩ av (Ent.refl _) ?_;rintro i ⟨hi,a4⟩;by_cases a9:i<s.moves.length
 case neg =>
  have a6:i=s.moves.length:=ab;subst a6
  have a1:∀m∈s.m.moves,iN x.cat.m.items.length (nt s.m.kind) (kTo s.m.kind) m=true:=by
   intro m hm;obtain⟨v,hv,rfl⟩:=List.mem_map.1 (show m∈s.moves.map MvV.m from hm);obtain⟨j,hj,rfl⟩:=List.mem_iff_getElem.1 hv;have:=a4 j hj
   rw[getElem!_of hj] at this;exact this
  have a3:dB (mH x.cat.m (xnow x) s.m)=dB (jB x.cat.m.rules s.m):=by
   by_cases hw:jB x.cat.m.rules s.m
   ·rw[aU hw,aU ⟨h1,⟨h2,h3,h4⟩,⟨ab,ab⟩,a1,hw⟩]
   ·rw[aH hw,aH (fun h=>hw h.2.2.2.2)]
  rw[a3];refine Ld ?_;intros;by_cases a0:s.kind=4
  ·have e1:na s.kind=259:=by unfold na;rw[if_pos a0]
   have e2:dB (jB x.cat.m.rules s.m)=dB (fN x.cat.m.rules s.rule s.times (s.moves.map MvV.m)):=by
    have e:jB x.cat.m.rules s.m=fN x.cat.m.rules s.rule s.times (s.moves.map MvV.m):=by unfold jB;exact if_pos a0
    by_cases hw:fN x.cat.m.rules s.rule s.times (s.moves.map MvV.m)
    ·rw[aU hw,aU (e▸hw)]
    ·rw[aH hw,aH (e▸hw)]
   rw[e1,e2];refine GO.ent (Ent.at (A:=catP x.cat) (Ent.refl _)) ?_;refine GO.ef (Ef.d8 rfl rfl (qt (b:=b) (sh:=sh) (x:=x) s hc hB h6 a2 hI)) ae ?_;rintro _ _⟨rfl,rfl⟩;refine Ld ?_;intros;exact KX.en ⟨rfl,rfl⟩
  ·have e1:na s.kind=257:=by unfold na;rw[if_neg a0]
   have e2:dB (jB x.cat.m.rules s.m)=dB (jo s.rule s.times):=by
    have e:jB x.cat.m.rules s.m=jo s.rule s.times:=by unfold jB;exact if_neg a0
    by_cases hw:jo s.rule s.times
    ·rw[aU hw,aU (e▸hw)]
    ·rw[aH hw,aH (e▸hw)]
   rw[e1,e2];refine GO.ef (Ef.d8 rfl rfl (qq b s)) ae ?_;rintro _ _⟨rfl,rfl⟩;refine Ld ?_;intros;exact KX.en ⟨rfl,rfl⟩
 have a7:(i:Int).toNat=i:=ab;refine Ld ?_;intros;rw[a7];refine GO.cr (Gk (b:=b) (sh:=sh) (x:=x) ff tf (na s.kind) (nt s.kind) (kTo s.kind) a5 b0 s.moves[i]! a8) ?_;cases h7:iN x.cat.items.length (nt s.kind) (kTo s.kind) s.moves[i]!.m with
 | false =>
  refine Ld ?_;intros;refine KX.d7 an ag ⟨?_,rfl⟩;rw[aH]
  ·rfl
  intro h;have h8:=h.2.2.2.1 s.moves[i]!.m (alStd0List_mem_map_of_mem (aJ a9));rw[show iN x.cat.m.items.length (nt s.m.kind) (kTo s.m.kind) s.moves[i]!.m=false from h7] at h8;cases h8
 | true =>
  refine Ld ?_;intros;refine⟨i+1,⟨ab,?_⟩,ab,?_,by exact ag⟩
  ·intro j hj;rcases cm j i with h|h
   ·exact a4 j h
   ·obtain rfl:j=i:=ab;exact h7
  ·rw[aY i];exact av
def oX{l:LL}{x:Lot}(h:∀y∈l,LotOk y)(hx:LotW x):∀y∈aZ l x,LotOk y:=by
 intro y hy;unfold aZ at hy;unfold LotW at hx;split at hy
 ·exact h y hy
 rename_i h0;split at hy
 ·rename_i h1;obtain⟨h1,h2⟩:=h1;rcases dz hy with hy|rfl
  ·exact h y hy
  ·have h3:=lcont_iff.1 h2;have h4:=h _ (aJ (ab:l.length - 1<l.length));unfold LotOk at h4 ⊢;dsimp only;omega
 ·rcases List.mem_append.1 hy with hy|hy
  ·exact h y hy
  ·simp at hy;subst hy;unfold LotOk;omega
def lK{xs:LL}:∀{l:LL},(∀y∈l,LotOk y)→(∀y∈xs,LotW y)→∀y∈xs.foldl aZ l,LotOk y:=by
 induction xs with
 | nil=>intro l h _;exact h
 | cons x xs ih=>intro l h hx;exact ih (oX h (hx x (au ..))) (fun y hy=>hx y (aw _ hy))
def ub{l:LL}{cs:Nat→Int}(hw:∀x∈l,LotOk x)(hc:∀k,k<l.length→0≤cs k∧cs k≤l[k]!.2.2):(∀x∈divF l cs l.length,LotOk x)∧∀x∈divR l cs l.length,LotOk x:=by
 refine⟨lK ce ?_,lK ce ?_⟩
 all_goals
  intro y hy
  obtain⟨k,hk,rfl⟩:=List.mem_map.1 hy
  have hk:=List.mem_range.1 hk
 ·exact(pc_w hk (fun x h=>(hw x h).w) (hc k hk)).1
 ·exact(pc_w hk (fun x h=>(hw x h).w) (hc k hk)).2
abbrev CZ:List Stp:=[.ev 0,.ev 2,.ef 1,.ef 3,.ev 4]
def iY{φ ψ:Prop}(k:ψ)(h:Hid ψ→φ:=by intro k;first|refine GO.ci (f:=267) (Hid.out k)|refine GPW.ci (f:=267) (Hid.out k)|refine GO.cf (f:=267) rfl (Hid.out k)|refine GPW.cf (f:=267) rfl (Hid.out k)|refine KX.inA (Hid.out k)):φ:=h ⟨k⟩
def iX{φ ψ:Prop}(k:ψ)(h:Hid ψ→φ:=by intro k;(with_reducible apply G.d7);first|refine G.dr 17 3 CZ (Hid.out k)):φ:=h ⟨k⟩
def aG4{φ ψ:Prop}(k:ψ)(h:Hid ψ→φ:=by intro k;(repeat (first|refine aa ?_|intro zzz|refine iX ?_|refine iY ?_));(repeat revert zzz);exact Hid.out k):φ:=h ⟨k⟩
def vw{L:LH}(ad:OA)(cap:Nat)(xs:LL)(x:Lot)(hl:xs.length≤4096)(a4:∀l∈xs,LotOk l)(hx:LotOk x) :
  Tri ai 217 #[ah ad xs.length cap,aO (aj x)] (isl aj 3 ad xs::L) (fun v L'=>∃a3 a0,v=ah a3 (aZ xs x).length a0∧L' = osl aj 3 tLot a3 a0 (aZ xs x)::isl aj 3 ad xs::L):=by
 have a6:=hx;obtain⟨o1,o2,o3,o4,o5⟩:=a6;refine Tri.bd ?_;refine aG4 ?_;intros;refine GO.cr (io ad xs.length cap xs rfl hl a4) ?_;refine aG4 ?_;intros;rw[aU o5];refine aG4 ?_;intros;refine GPW.ca (hM ad xs.length cap xs rfl ab) ?_;rintro _ _⟨a5,a1,rfl,rfl⟩;refine aG4 ?_;intros;refine GPW.ca (qv a5 a1 xs x ab (fun y h=>(a4 y h).w) hx.w) ?_;rintro _ _⟨ad2,a2,rfl,rfl⟩;refine aG4 ?_;intros;exact KX.en ⟨ad2,a2,rfl,rfl⟩
def shQ(l:LL)(n:Int)(k:Nat):Int:=n*l[k]!.2.2 / lsum l
def shR(l:LL)(n:Int)(k:Nat):Int:=n*l[k]!.2.2 % lsum l
def HT(l:LL)(n:Int)(k:Nat):Nat:=((List.range l.length).filter (fun j=>decide (shR l n k<shR l n j∨(shR l n j=shR l n k∧j<k)))).length
def gg(l:LL)(n:Int):Int:=n - (List.range l.length).foldl (fun s k=>s+shQ l n k) 0
def shC(l:LL)(n:Int)(k:Nat):Int:=shQ l n k+(if(HT l n k:Int)<gg l n then 1 else 0)
def tkC(mixed:Bool)(l:LL)(n:Int):Nat→Int:=if mixed=true∧0<n then shC l n else fuC l n
def gW(mixed:Bool)(l:LL)(n:Int):LL:=divF l (tkC mixed l n) l.length
def eU(mixed:Bool)(l:LL)(n:Int):LL:=divR l (tkC mixed l n) l.length
structure TakeC (mixed:Bool):Prop where
 bd:∀(l:LL) (n:Int),(∀x∈l,LotOk x)→0≤n→n≤lsum l→∀k,k<l.length→0≤tkC mixed l n k∧tkC mixed l n k≤l[k]!.2.2
 tri:∀(L:LH) (ad:OA) (c:Nat) (xs:LL) (n:Int),xs.length≤4096→(∀l∈xs,LotOk l)→0≤n→n≤1099511627776 →
  Tri ai 284 #[ah ad xs.length c,ac n,.bool mixed] (isl aj 3 ad xs::L) (fun v L' =>
   (lsum xs<n∧v=.tuple #[ah none 0 0,ah none 0 0,ac 10]∧L' = isl aj 3 ad xs::L) ∨
   (n≤lsum xs∧∃ad1 c1 ad2 c2,v=.tuple #[ah ad1 (gW mixed xs n).length c1,ah ad2 (eU mixed xs n).length c2,ac 0]∧L' = osl aj 3 tLot ad1 c1 (gW mixed xs n)::osl aj 3 tLot ad2 c2 (eU mixed xs n)::isl aj 3 ad xs::L))
def zl:TakeC false where
 bd:=fun l n hl h0 _ k hk=>ow h0 (fun x h=>(hl x h).w) k hk
 tri:=fun _ ad c xs n h1 h2 h3 h4=>CE ad c xs n false rfl h1 h2 h3 h4
structure ChX where
 cs:Nat
 ct:Nat
 ci:Nat
 cr:Nat
 stk:List ((Int×Int)×Stk)
 tot:List (Int×Int)
 flows:List FlV
 fad:OA
 fcap:Nat
 sunk:List Int
 kad:OA
 kcap:Nat
abbrev tCh:Nat:=131
abbrev gm(b:Nat)(s:StV)(z:ChX):LV:=[ay b,ac s.id,ac s.kind,ac s.actor,ac s.tick,ac s.rule,ac s.times,ah s.mad s.moves.length s.mcap,.map (some z.cs),.map (some z.ct),.map (some z.ci),.map (some z.cr),ah z.fad z.flows.length z.fcap,ah z.kad z.sunk.length z.kcap]
abbrev chL(b bc:Nat)(s:StV)(z:ChX)(L:LH):LH :=
 obj bc tCh (gm b s z)::gmap kvP Stk.v z.cs z.stk::gmap kvI encN z.ct z.tot::gmap kvI Stk.v z.ci []::gmap kvI Stk.v z.cr []::osl aQ 11 bE z.fad z.fcap z.flows::osl (encZ .i64) 1 tInt z.kad z.kcap z.sunk::allP (fun p:(Int×Int)×Stk=>stkP p.2) z.stk::allP flP z.flows::L
def curS(x:LedX)(z:ChX)(k:Int×Int):Stk:=(glk z.stk k).getD (eY x.stk k)
def ob{κ:Type}[DecidableEq κ](m:List (κ×Stk))(k:κ):((@List.lookup _ _ instBEqOfDecidableEq k m).map Stk.v).getD (ah none 0 0)=(eY m k).v:=by
 unfold eY glk;cases @List.lookup _ _ instBEqOfDecidableEq k m<;>rfl
def nm{κ:Type}[DecidableEq κ]{m:List (κ×Stk)}(k:κ){L:LH}:Ent (allP (fun p:κ×Stk=>stkP p.2) m::L) (stkP (eY m k)::allP (fun p:κ×Stk=>stkP p.2) m::L):=by
 unfold eY;cases h:glk m k with
 | none=>exact Ent.e8 aj 3 none
 | some s=>exact Ent.e7 (f:=fun p:κ×Stk=>stkP p.2) (x:=(k,s)) (ji h)
abbrev Db:=aH2 [.ev 10]
abbrev Da:=aH2 []
def Lv{φ ψ:Prop}(k:ψ)(h:Hid ψ→φ:=by intro k;(repeat (first|refine aa ?_|intro zzz|refine G.dr 33 2 Db ?_|refine G.dr 33 5 Da ?_));(repeat revert zzz);exact Hid.out k):φ:=h ⟨k⟩
def qM{L R1 R2 R3 R4:LH}{b bc:Nat}{sh:Int}{x:LedX}{s:StV}{z:ChX}[a0:PickObj L b tLed (bR sh x) R1][a1:PickObj L bc tCh (gm b s z) R2][a2:PickG L z.cs (Int×Int) Stk kvP Stk.v z.stk R3][a3:PickG L x.ms (Int×Int) Stk kvP Stk.v x.stk R4](a i:Int) :
  Tri ai 216 #[ay bc,ac a,ac i] L (rtQ ((curS x z (a,i)).v) L):=by
 refine Tri.bd ?_;refine Lv ?_;intros;refine GPW.evL (Ev.l9 rfl rfl) ae ?_;cases h:@List.lookup _ _ instBEqOfDecidableEq (a,i) z.stk with
 | some k =>
  simp only[fm,gn,Option.isSome_some];refine Lv ?_;intros;refine KX.d7 an ag ⟨?_,rfl⟩;unfold curS glk;rw[h];rfl
 | none =>
  simp only[eO,el,Option.isSome_none];refine Lv ?_;intros;refine GPW.evL (Ev.e8 rfl rfl) ae ?_;rw[ob];refine Lv ?_;intros;refine KX.d7 an ag ⟨?_,rfl⟩;unfold curS glk;rw[h];rfl
def yS{x:LedX}{z:ChX}(k:Int×Int){L:LH}:Ent (allP (fun p:(Int×Int)×Stk=>stkP p.2) z.stk::allP (fun p:(Int×Int)×Stk=>stkP p.2) x.stk::L) (stkP (curS x z k)::allP (fun p:(Int×Int)×Stk=>stkP p.2) z.stk::allP (fun p:(Int×Int)×Stk=>stkP p.2) x.stk::L):=by
 unfold curS;cases h:glk z.stk k with
 | none=>exact(Ent.d7 (nm k)).trans Ent.swap
 | some s=>exact Ent.e7 (f:=fun p:(Int×Int)×Stk=>stkP p.2) (x:=(k,s)) (ji h)
def jg{m:List ((Int×Int)×Stk)}{k:Int×Int}{s:Stk}{L:LH}:Ent (stkP s::allP (fun p:(Int×Int)×Stk=>stkP p.2) m::L) (allP (fun p:(Int×Int)×Stk=>stkP p.2) (gins m k s)::L) :=
 (Ent.g8 (f:=fun p:(Int×Int)×Stk=>stkP p.2) (fun p=>mQ p.2) (x:=(k,s)) (l:=m)).trans (Ent.j0 (l':=gins m k s) pf)
def yR{x:LedX}{z:ChX}{k q:Int×Int}{s:Stk}:curS x { z with stk:=gins z.stk k s } q=if q=k then s else curS x z q:=by
 unfold curS glk;dsimp only;have h:=ip (m:=z.stk) (k:=k) (q:=q) (a:=s);by_cases hq:q=k
 ·rw[if_pos hq] at h ⊢;exact(congrArg (fun o:Option Stk=>o.getD (eY x.stk q)) h)
 ·rw[if_neg hq] at h ⊢;exact(congrArg (fun o:Option Stk=>o.getD (eY x.stk q)) h)
structure WdOk (x:LedX) (z:ChX) (m:MvM):Prop where
 item:0≤m.item∧m.item<x.cat.items.length
 n:0≤m.n∧m.n≤1099511627776
 parts:m.parts.length=0
 len:(curS x z (m.frm,m.item)).lots.length≤4096
 lots:∀l∈(curS x z (m.frm,m.item)).lots,LotOk l
def bN(x:LedX)(i:Int):Bool:=x.cat.items[i.toNat]!.mixed
abbrev CY:=aH3 [.ev 13,.ev 14,.ev 15,.ef 16,.ev 17,.ev 18,.ev 19,.ev 20,.ev 21,.ev 22,.ev 23]
abbrev CX:=aH0 [.ef 6]
abbrev zM:=aH1 [.ef 8,.ef 9]
def LA{φ ψ:Prop}(k:ψ)(h:Hid ψ→φ:=by intro k;(repeat (first|refine aa ?_|intro zzz|refine G.dr 73 4 CY ?_|refine G.dr 73 7 CX ?_|refine G.dr 73 11 zM ?_));(repeat revert zzz);exact Hid.out k):φ:=h ⟨k⟩
def vW{L:LH}(b bc:Nat)(sh:Int)(x:LedX)(s:StV)(z:ChX)(m:MvV)(h:WdOk x z m.m)(hT:TakeC (bN x m.m.item))(a6:x.cat.items.length≤64) :
  Tri ai 264 #[ay bc,aO (aL m)] (chL b bc s z (ledL b sh x L)) (fun v L' =>
   (lsum (curS x z (m.m.frm,m.m.item)).lots<m.m.n∧v=.tuple #[ah none 0 0,ac 10]∧L' = chL b bc s z (ledL b sh x L)) ∨
   (m.m.n≤lsum (curS x z (m.m.frm,m.m.item)).lots∧∃pad pcap sk,v=.tuple #[ah pad (gW (bN x m.m.item) (curS x z (m.m.frm,m.m.item)).lots m.m.n).length pcap,ac 0]∧sk.lots=eU (bN x m.m.item) (curS x z (m.m.frm,m.m.item)).lots m.m.n ∧
    L' = isl aj 3 pad (gW (bN x m.m.item) (curS x z (m.m.frm,m.m.item)).lots m.m.n)::chL b bc s { z with stk:=gins z.stk (m.m.frm,m.m.item) sk } (ledL b sh x L))):=by
 obtain⟨⟨a4,a5⟩,⟨a1,a2⟩,hp,hl,a3⟩:=h;refine Tri.bd ?_;refine G.ent (L':=stkP (curS x z (m.m.frm,m.m.item))::isl dD 7 x.cat.iad x.cat.items::chL b bc s z (ledL b sh x L)) ?_ ?_
 ·simp only[chL,ledL];refine(Ent.at (A:=catP x.cat) pu).trans ?_;refine(Ent.at (A:=allP (fun p:(Int×Int)×Stk=>stkP p.2) z.stk) (Ent.refl _)).trans ?_;refine(Ent.d7 (Ent.at (A:=allP (fun p:(Int×Int)×Stk=>stkP p.2) x.stk) (Ent.refl _))).trans ?_;refine(yS (m.m.frm,m.m.item)).trans ?_;exact ag
 simp only[chL,ledL];refine LA ?_;intros;refine GO.cr (qM (b:=b) (sh:=sh) (x:=x) (s:=s) (z:=z) m.m.frm m.m.item) ?_;generalize hsk:curS x z (m.m.frm,m.m.item)=sk at *;simp only[Stk.v];refine LA ?_;intros;refine GPW.ent (Ent.at (A:=stkP sk) (Ent.refl _)) ?_;refine GPW.ca (hT.tri _ sk.ad sk.cap sk.lots m.m.n hl a3 a1 a2) ?_;rintro _ _ (⟨h1,rfl,rfl⟩|⟨h1,a0,c1,ad2,c2,rfl,rfl⟩)
 ·refine LA ?_;intros;exact KX.en (.inl ⟨h1,rfl,rfl⟩)
 ·refine LA ?_;intros;refine GPW.efu (Ef.e8 (enc:=Stk.v) (e:=(⟨ad2,c2,eU (bN x m.m.item) sk.lots m.m.n⟩:Stk)) rfl rfl rfl rfl) ?_;rintro _ _ rfl;refine LA ?_;intros;refine KX.d7 an ?_ (.inr ⟨h1,a0,c1,⟨ad2,c2,eU (bN x m.m.item) sk.lots m.m.n⟩,rfl,rfl,rfl⟩);refine(Ent.frz a0).trans ((Ent.frz ad2).trans ?_);refine(Ent.at (A:=allP (fun p:(Int×Int)×Stk=>stkP p.2) z.stk) (Ent.refl _)).trans ?_;refine(Ent.at (A:=stkP ⟨ad2,c2,eU (bN x m.m.item) sk.lots m.m.n⟩) (jg (k:=(m.m.frm,m.m.item)))).trans ?_;exact ag
structure Wk where
 stk:Int→Int→LL
 tot:Int→Int
 flows:List FlM
 sunk:List Int
def upd2{α:Type}(f:Int→Int→α)(a i:Int)(v:α):Int→Int→α:=fun a' i'=>if a' = a∧i' = i then v else f a' i'
def gM(mix:Int→Bool)(W:Wk)(m:MvM):Int→Int→LL:=if m.frm=0 then W.stk else upd2 W.stk m.frm m.item (eU (mix m.item) (W.stk m.frm m.item) m.n)
def jn(mix:Int→Bool)(W:Wk)(m:MvM):LL:=if m.frm=0 then[] else gW (mix m.item) (W.stk m.frm m.item) m.n
def cw(W:Wk)(m:MvM):Int:=W.tot m.item+(if m.frm=0 then m.n else 0) - (if m.to=0 then m.n else 0)
def cL(sh:Int)(nf:Nat)(W:Wk):Int:=sh*4294967296+nf+W.flows.length
def cW(s:StM)(W:Wk)(m:MvM):List Int:=if m.frm=0∧(s.kind=4∨s.kind=10) then W.sunk else[]
def kQ(sh:Int)(nf:Nat)(mix:Int→Bool)(s:StM)(W:Wk)(m:MvM):FlM:=⟨cL sh nf W,s.id,s.kind,s.tick,s.actor,m.frm,m.to,m.item,m.n,jn mix W m,cW s W m⟩
def hU(sh:Int)(nf:Nat)(mix:Int→Bool)(s:StM)(W:Wk)(m:MvM):Int×Wk :=
 if m.frm≠0∧lsum (W.stk m.frm m.item)<m.n then(10,W)
 else if cw W m>1099511627776 then(4,W)
 else if m.to=0 then(0,⟨gM mix W m,upd W.tot m.item (cw W m),W.flows++[kQ sh nf mix s W m],W.sunk++[cL sh nf W]⟩)
 else if 4096≤(gM mix W m m.to m.item).length then(4,W)
 else(0,⟨upd2 (gM mix W m) m.to m.item (aZ (gM mix W m m.to m.item) (cL sh nf W,0,m.n)),upd W.tot m.item (cw W m),W.flows++[kQ sh nf mix s W m],W.sunk⟩)
structure WkF (x:LedX) (z:ChX) (W:Wk):Prop where
 stk:∀a i,(curS x z (a,i)).lots=W.stk a i
 tot:∀i,(glk z.tot i).getD ((glk x.tot i).getD 0)=W.tot i
 flows:z.flows.map FlV.m=W.flows
 sunk:z.sunk=W.sunk
structure Wk.Ok (nf:Nat) (W:Wk):Prop where
 stk:∀a i,(W.stk a i).length≤4096∧∀l∈W.stk a i,LotOk l
 tot:∀i,-(((nf:Int)+W.flows.length)*1099511627776)≤W.tot i∧W.tot i≤1099511627776
 sunk:W.sunk.length≤W.flows.length
def iO{L:LH}(ad:OA)(n c:Nat)(xs:List Int)[Rds L ad Int (encZ .i64) 1 xs](hn:n=xs.length)(hb:n≤1000000) :
  Tri ai 103 #[ah ad n c] L (fun v L'=>∃a1 a0,v=ah a1 xs.length a0∧L' = osl (encZ .i64) 1 tInt a1 a0 xs::L):=by
 refine Tri.bd ?_;repeat' first|refine aa ?_|intro _|with_reducible refine CB.dec (fun _=>?_) (fun _=>?_)|with_reducible refine GB.dec (fun _=>?_) (fun _=>?_)|with_reducible refine CB.bool (fun _=>?_) (fun _=>?_)|with_reducible refine GB.bool (fun _=>?_) (fun _=>?_)
 ·have h:ad=none:=by assumption
  subst h;refine KX.f7 (.inl rfl) (ol (L:=L) (xs:=xs)) ?_;intro hx;subst hx;refine KX.d7 an (Ent.d8 (encZ .i64) 1 tInt) ⟨_,_,rfl,rfl⟩
 ·refine GO.ent (Ent.f7 (enc:=encZ .i64) (sz:=1) (xs:=[]) rfl rfl ce ce) ?_;refine GO.ef (Ef.d9 rfl rfl rfl rfl hn (fun e _=>by simp[encZ,Value.oneCell']) eh eh) ae ?_;rintro _ _⟨a1,a0,rfl,rfl⟩;refine JM ?_;intros;refine KX.d7 an (Ent.refl _) ⟨a1,a0,rfl,rfl⟩
structure MvFit (x:LedX) (m:MvM):Prop where
 item:0≤m.item∧m.item<x.cat.items.length
 n:1≤m.n∧m.n≤1099511627776
 frm:accP m.frm
 to:accP m.to
 ne:m.frm≠m.to
 parts:m.parts.length=0
abbrev zZ:List Stp:=[.ev 0,.ev 1,.ev 3,.ev 4,.ef 2,.ef 5,.ev 6,.ev 7]
abbrev zY:List Stp:=[.ev 0,.ev 1,.ev 3,.ev 4,.ef 2,.ef 5,.ev 6,.ev 7]
def LF{φ ψ:Prop}(k:ψ)(h:Hid ψ→φ:=by intro k;(repeat (first|refine aa ?_|intro zzz|refine G.dr 35 5 zZ ?_|refine G.dr 35 7 zY ?_));(repeat revert zzz);exact Hid.out k):φ:=h ⟨k⟩
def BF{L:LH}(b bc:Nat)(sh:Int)(x:LedX)(s:StV)(z:ChX)(m:MvV)(W:Wk)(hW:WkF x z W)(hO:W.Ok x.flows.length)(h:MvFit x m.m)(hk:lm s.kind)(hT:∀mx,TakeC mx)(a2:x.cat.items.length≤64) :
  Tri ai 215 #[ay bc,aO (aL m)] (chL b bc s z (ledL b sh x L)) (fun v L' =>
   ((m.m.frm≠0∧lsum (W.stk m.m.frm m.m.item)<m.m.n)∧v=.tuple #[ah none 0 0,ac 10]∧L' = chL b bc s z (ledL b sh x L)) ∨
   (¬(m.m.frm≠0∧lsum (W.stk m.m.frm m.m.item)<m.m.n)∧∃pad pcap a1,v=.tuple #[ah pad (jn (bN x) W m.m).length pcap,ac 0]∧(∀a i,(curS x { z with stk:=a1 } (a,i)).lots=gM (bN x) W m.m a i) ∧
    L' = isl aj 3 pad (jn (bN x) W m.m)::chL b bc s { z with stk:=a1 } (ledL b sh x L))):=by
 have a4:s.kind≠5:=by unfold lm at hk;omega
 have a5:s.kind≠9:=by unfold lm at hk;omega
 have a0:=hW.stk m.m.frm m.m.item;refine Tri.bd ?_;by_cases h0:m.m.frm=0
 ·simp only[chL,ledL];refine LF ?_;intros;refine KX.d7 an ?_ (.inr ⟨fun h=>h.1 h0,none,0,z.stk,?_,?_,rfl⟩)
  ·rw[show jn (bN x) W m.m=[] by unfold jn;rw[if_pos h0]];refine Ent.trans ?_ (Ent.e8 aj 3 none);exact ag
  ·rw[show jn (bN x) W m.m=[] by unfold jn;rw[if_pos h0]];rfl
  ·intro a i;unfold gM;rw[if_pos h0];exact hW.stk a i
 ·refine LF ?_;intros;refine GO.ent Ent.drop ?_;refine GO.ca (vW b bc sh x s z m ⟨h.item,⟨by have:=h.n;omega,h.n.2⟩,h.parts,by rw[a0];exact(hO.stk _ _).1,by rw[a0];exact(hO.stk _ _).2⟩ (hT _) a2) ?_;rw[a0];rintro _ _ (⟨h1,rfl,rfl⟩|⟨h1,pad,pcap,sk,rfl,a3,rfl⟩)
  ·refine LF ?_;intros;exact KX.d7 an (Ent.refl _) (.inl ⟨⟨h0,h1⟩,rfl,rfl⟩)
  ·have e:jn (bN x) W m.m=gW (bN x m.m.item) (W.stk m.m.frm m.m.item) m.m.n:=by unfold jn;rw[if_neg h0]
   rw[e];refine LF ?_;intros;refine KX.d7 an (Ent.refl _) (.inr ⟨fun h=>by omega,pad,pcap,gins z.stk (m.m.frm,m.m.item) sk,rfl,?_,rfl⟩);intro a i;rw[yR];unfold gM upd2;rw[if_neg h0];by_cases hq:a=m.m.frm∧i=m.m.item
   ·obtain⟨rfl,rfl⟩:=hq;rw[if_pos rfl,if_pos ⟨rfl,rfl⟩,a3]
   ·rw[if_neg (fun h=>hq (by simpa using h)),if_neg hq];exact hW.stk a i
end
section
open Go.V
attribute [local irreducible] G GO GP GPW GPK Ev Ef EfR Ent CB GB V.Enters
def kindsL:List Int:=[0,0,0,0,0,0,0,0,0,1,1,0,0,0,0,0,0,0,0,0,0,0,0,0,0,0,0,0,0,0,0,0,1,0,0,2,0,0,0,0,7,7,0,7,7,6,7,0,4,4,4,4,4,4,4,4,4,4,7,7,7,7,7,0,0,0,0,0,0,0,0,0,0,0,0,0,0,0,0,0,0,0,0,0,0,0,0,0,0,0,0,0,0,0,0,5,0,3,3,3,3,3,3,3,3,3,3,3,3,3,3,3,3,3,3,3,3,3,3,3,3,3,3,7,0,7,0,0]
abbrev bZ:HP:=isl (encZ .u8) 1 (some ⟨2,0,none⟩) kindsL
def tS:kindsL.length=128:=krStd0
def ic(s:ByteArray)(i:Int):Int:=if i<s.size∧(gN s)[i.toNat]! < 128 then kindsL[((gN s)[i.toNat]!).toNat]! else 0
def lT{L:LH}(s:ByteArray)(i:Int)(h0:0≤i)(hs:s.size≤1000000)[Rds L (some ⟨2,0,none⟩) Int (encZ .u8) 1 kindsL] :
  Tri ai 310 #[.string s,ac i] L (rtQ (.int .u8 (ic s i)) L):=by
 have a1:=tS;refine Tri.bd ?_;by_cases h1:i<s.size
 case neg =>
  have e:ic s i=0:=if_neg fun h=>h1 h.1;rw[e];repeat first|refine run ?_|intro
  exact KX.en ⟨rfl,rfl⟩
 have hb:=FI s _ (aJ (show i.toNat<(gN s).length by rw[tJ];omega));by_cases h2:(gN s)[i.toNat]! < 128
 case neg =>
  have e:ic s i=0:=if_neg fun h=>h2 h.2;rw[e];repeat first|refine run ?_|intro
  exact KX.en ⟨rfl,rfl⟩
 have e:ic s i=kindsL[((gN s)[i.toNat]!).toNat]!:=if_pos ⟨h1,h2⟩;rw[e];obtain⟨c,hc⟩:∃c,(gN s)[i.toNat]! = c:=⟨_,rfl⟩;rw[hc] at hb h2 ⊢;have hm:((gN s)[i.toNat]!).toNat*1=c.toNat*1+0:=by rw[hc];omega
 have a0:0+((gN s)[i.toNat]!).toNat*1=c.toNat*1+0:=by rw[hc];omega
 repeat first|refine run ?_|intro
 refine GO.ev (Ev.r7 (j:=c.toNat) (o:=0) rfl a0 ab ae rfl) ae ?_;repeat first|refine run ?_|intro
 exact KX.en ⟨rfl,rfl⟩
structure IsWord (s:ByteArray):Prop where
 size:1≤s.size∧s.size≤16
 first:ic s 0=3
 rest:∀i:Nat,i<s.size→ic s i=3∨ic s i=4∨ic s i=5
def FS(s:ByteArray):ic s s.size=0:=if_neg fun h=>absurd h.1 ab
def vf{L:LH}(s:ByteArray)(i:Int)(h0:0≤i)(hs:s.size≤1000000)(hk:i<s.size→ic s i≠1∧ic s i≠2)[Rds L (some ⟨2,0,none⟩) Int (encZ .u8) 1 kindsL] :
  Tri ai 296 #[.string s,ac i] L (rtQ (ac i) L):=by
 refine Tri.bd ?_;repeat first|refine run ?_|intro
 refine G.e8 1 (GR.step ?_);by_cases h1:i<s.size
 case neg =>
  repeat first|refine run ?_|intro
  exact KX.en ⟨rfl,rfl⟩
 obtain⟨a0,a1⟩:=hk h1;repeat first|refine run ?_|intro
 refine GO.cr (lT s i h0 hs) ?_;repeat first|refine run ?_|intro
 exact KX.en ⟨rfl,rfl⟩
structure Tok where
 kind:Int
 text:ByteArray
 n:Int
 pos:Int
 deriving Inhabited
def encT(t:Tok):LV:=[ac t.kind,.string t.text,ac t.n,ac t.pos]
def yI(t:Tok):∀u∈encT t,u.oneCell' = true:=by simp[encT,Value.oneCell']
instance:EncC encT:=⟨yI⟩
def jJ(s:ByteArray):Tok:=⟨0,s,0,0⟩
abbrev tTok:Nat:=303
abbrev Aa:=aH2 [.ef 10]
def iC{φ ψ:Prop}(k:ψ)(h:Hid ψ→φ:=by intro k;(with_reducible apply G.d7);first|refine G.dr 99 20 Aa (Hid.out k)):φ:=h ⟨k⟩
def FJ{L:LH}(s:ByteArray)(hw:IsWord s)[Rds L (some ⟨2,0,none⟩) Int (encZ .u8) 1 kindsL] :
  Tri ai 297 #[.string s,ac 0] L (rtQ (.tuple #[aO (encT (jJ s)),ac 0]) L):=by
 have a5:=hw.size;refine Tri.bd ?_;repeat first|refine run ?_|intro _|refine iC ?_
 rename_i b4 b6;refine GO.cr (lT s 0 ae ab) ?_;rw[hw.first];repeat first|refine run ?_|intro _|refine iC ?_
 refine GO.cr (lT s (0+1) ae ab) ?_;repeat first|refine run ?_|intro _|refine iC ?_
 refine G.loop (α:=Nat) (fun e=>1≤e∧e≤s.size) (fun e=>[(0,.string s),(1,ac 0),(4,ay b4),(6,ay b6),(7,ac (e:Int)),(8,.int .u8 (ic s (e:Int)))])
  (fun _=>obj b6 tTok [ac 0,.string ⟨#[]⟩,ac 0,ac 0]::obj b4 tTok [ac 0,.string ⟨#[]⟩,ac 0,ac 0]::L) (fun e=>s.size - e) 1 ⟨ab,ab⟩ av (Ent.refl _) ?_
 rintro e ⟨a3,a4⟩;by_cases a2:e<s.size
 case neg =>
  have a0:e=s.size:=ab;subst a0;rw[FS];repeat first|refine run ?_|intro _|refine iC ?_
  rw[Int.toNat_zero,aC,Bu];exact KX.d7 (by exact ResOk.cell rfl aK (ResOk.tmp rfl (ResOk.nil))) (Ent.trans Ent.drop Ent.drop) ⟨rfl,rfl⟩
 have hr:=hw.rest e a2
 have a1:∀{q:Prop},(ic s (e:Int)=3→q)→(ic s (e:Int)≠3→ic s (e:Int)=4→q)→(ic s (e:Int)≠3→ic s (e:Int)≠4→ic s (e:Int)=5→q)→q:=by
  intro q a b c;rcases hr with h|h|h
  ·exact a h
  ·exact b ab h
  ·exact c ab ab h
 refine a1 ?_ ?_ ?_<;>intros
 all_goals
  repeat first|refine run ?_|intro _|refine iC ?_
  refine GO.cr (lT s ((e:Int)+1) ab ab) ?_
  repeat first|refine run ?_|intro _|refine iC ?_
  refine⟨e+1,⟨ab,ab⟩,ab,?_,Ent.refl _⟩
  rw[aY e]
  exact av
def HQ{L0:LH}(bx:Nat)(s:ByteArray)(hw:IsWord s)[a2:Rds L0 (some ⟨2,0,none⟩) Int (encZ .u8) 1 kindsL] :
  Iter ai 295 [ay bx] [[aO (encT (jJ s)),ac 0]] (obj bx 9 [.string s]::L0):=by
 have a3:=hw.size;have a1:=hw.first;have a4:(jJ s).text.size=s.size:=rfl;intro l J Jx hy;have a0:=hy 0 ce;simp only[List.getElem_cons_zero] at a0;show Tri _ _ _ _ (fun _ L'=>L' = J 1::_∨_);refine Tri.bd (args:=[.func (.yield l) #[] #[],ay bx]) ?_;repeat first|refine run ?_|intro
 refine GO.cr (vf s 0 ae ab (fun _=>by rw[a1];decide)) ?_;repeat first|refine run ?_|intro
 refine G.e8 2 (GR.step ?_);repeat first|refine run ?_|intro
 refine GO.cr (FJ s hw) ?_;repeat first|refine run ?_|intro _
 ((with_reducible apply GO.d7);refine GO.efR (EfR.yield (a0) rfl rfl cN) ae ?_);rintro _ _⟨_,(⟨rfl,rfl⟩|⟨rfl,rfl⟩),hL⟩
 ·simp only[ao,al] at hL;subst hL;repeat first|refine run ?_|intro
  refine GO.cr (vf s (0+((jJ s).text.size:Int)) ab ab (fun h=>absurd h ab)) ?_;repeat first|refine run ?_|intro
  refine GR.step ?_;repeat first|refine run ?_|intro
  exact KX.e7 an (Ent.d7 Ent.drop) (.inl rfl)
 ·simp only[ao,al] at hL;subst hL;repeat first|refine run ?_|intro
  exact KX.d7 an (Ent.d7 Ent.drop) (.inr ⟨0,rfl⟩)
abbrev Dp:List Stp:=[.ev 0,.ev 1,.ev 2,.ef 3,.ef 4,.ef 5]
def iV{φ ψ:Prop}(k:ψ)(h:Hid ψ→φ:=by intro k;first|refine GO.ci (f:=280) (Hid.out k)|refine GPW.ci (f:=280) (Hid.out k)|refine GO.cf (f:=280) rfl (Hid.out k)|refine GPW.cf (f:=280) rfl (Hid.out k)|refine KX.inA (Hid.out k)):φ:=h ⟨k⟩
def iU{φ ψ:Prop}(k:ψ)(h:Hid ψ→φ:=by intro k;(with_reducible apply G.d7);first|refine G.dr 25 8 Dp (Hid.out k)):φ:=h ⟨k⟩
def zj{L:LH}(s:ByteArray)(hw:IsWord s)[Rds L (some ⟨2,0,none⟩) Int (encZ .u8) 1 kindsL] :
  Tri ai 251 #[.string s] L (fun v L'=>∃ad cap,v=.tuple #[ah ad 1 cap,ac 0,ac 0]∧L' = osl encT 4 tTok ad cap [jJ s]::L):=by
 have a2:=hw.size;refine Tri.bd ?_;repeat first|refine run ?_|intro _|refine iU ?_|refine iV ?_
 rename_i b2 b3 b4 b5 bx;refine G.rangeFunc (HQ (L0:=L) bx s hw) rfl en295.1 ae ce (fun k=>if k=0 then[obj b5 300 [ah none 0 0],obj b2 300 [ah none 0 0],obj b3 3 [ac 0],obj b4 42 [ac 0]] else[hex fun x:OA×Nat=>cS [obj b5 300 [ah x.1 1 x.2],osl encT 4 tTok x.1 x.2 [jJ s]],obj b2 300 [ah none 0 0],obj b3 3 [ac 0],obj b4 42 [ac 0]]) ?_ ?_ ?_
 ·simp only[if_true,ao,al];exact ag
 ·intro k hk;have a1:k=0:=by simpa using hk
  subst a1;simp only[if_true,List.getElem_cons_zero,dl,Nat.one_ne_zero,if_false];show G _ _ _ ((14,ac 0)::(13,aO (encT (jJ s)))::_) _ _;repeat first|refine run ?_|intro _|refine iU ?_|refine iV ?_
  refine GO.ent (Ent.d8 encT 4 tTok) ?_;refine GO.ef (Ef.d7 (enc:=encT) (e:=jJ s) rfl rfl rfl rfl rfl aK (yI _) ce ce) ae ?_;rintro _ _⟨ad2,a0,rfl,rfl⟩;repeat first|refine run ?_|intro _|refine iU ?_|refine iV ?_
  refine KX.round ?_;refine Ent.trans ?_ (Ent.l0 (ad2,a0) (Ent.refl _));simp only[ao,al];exact ag
 simp only[bD,cB,dl,Nat.one_ne_zero,if_false,ao,al];refine KX.d8 ?_;repeat first|refine run ?_|intro _|refine iU ?_|refine iV ?_
 refine GO.g9 (f:=fun x:OA×Nat=>[obj b5 300 [ah x.1 1 x.2],osl encT 4 tTok x.1 x.2 [jJ s]]) ?_;rintro⟨ad2,a0⟩;simp only[ao,al];repeat first|refine run ?_|intro _|refine iU ?_|refine iV ?_
 refine KX.d7 (by exact ResOk.d7 rfl (ResOk.d7 rfl (ResOk.d7 rfl (ResOk.nil)))) ?_ ⟨ad2,a0,rfl,rfl⟩;exact ag
def mJ{L:LH}(s:ByteArray)(hw:IsWord s)[Rds L (some ⟨2,0,none⟩) Int (encZ .u8) 1 kindsL] :
  Tri ai 176 #[.string s] L (rtQ (.bool true) L):=by
 have a2:([jJ s]).length=1:=rfl;refine Tri.bd ?_;repeat first|refine run ?_|intro
 refine GO.ca (zj s hw) ?_;rintro _ _⟨ad,cap,rfl,rfl⟩;have a0:([jJ s]:List Tok)[(0:Int).toNat]! = jJ s:=rfl;have a1:(jJ s).kind=0:=rfl;repeat first|refine run ?_|intro
 rw[a0];repeat first|refine run ?_|intro
 refine KX.d7 an Ent.drop ⟨?_,rfl⟩;rw[aU (show(jJ s).text=s from rfl)];rfl
end
section
open Go.V
def noP{α:Type}(_:α):HP:=dA True
def oq{α:Type}(l:List α){L:LH}:Ent L (allP noP l::L):=fun θ R w s=>by
 obtain⟨ok,ι,h,a,b1,c,d⟩:=s;exact⟨ok,ι,h,a,b1,c,Hp.emp,Hp.emp,h,Hp.d7 _,Hp.d8 _,Hp.d7 _,Hp.sub.refl _,fun _ _=>trivial,d⟩
attribute [local irreducible] G GO GP GPW GPK Ev Ef EfR Ent CB GB V.Enters
def fS{α:Type}(f:FuncId)(cap:LV)(enc:α→LV)(p:α→HP)(C:HP)(x:α):Prop:=∀L:LH,Tri ai f (([]++[Value.agg (enc x).toArray]++cap:LV)).toArray (C::p x::L) (rtQ (.bool true) (C::p x::L))
def qE{L:LH}(f:FuncId)(cap:LV)(C:HP)(ad:OA)(c:Nat)(xs:List ItG)(hl:xs.length≤64)(hf:∀x∈xs,fS f cap dD noP C x) :
  Tri ai 174 #[ah ad xs.length c,.func (.func f) #[] cap.toArray] (C::allP noP xs::isl dD 7 ad xs::L) (rtQ (.bool true) (C::allP noP xs::isl dD 7 ad xs::L)):=by
 refine Tri.bd ?_;refine JM ?_;intros;refine G.loop (α:=Nat) (fun i=>i≤xs.length) (fun i=>[(0,ah ad xs.length c),(1,.func (.func f) #[] cap.toArray),(7,ah ad xs.length c),(8,ac xs.length),(9,ac (i:Int))]) (fun _=>C::allP noP xs::isl dD 7 ad xs::L) (fun i=>xs.length - i) 0 (ax _) av (Ent.refl _) ?_;intro i hi;by_cases a2:i<xs.length
 case neg =>
  refine JM ?_;intros;exact KX.en ⟨rfl,rfl⟩
 have a1:(i:Int).toNat=i:=ab;have a0:=aJ a2;refine JM ?_;intros;rw[a1];refine GO.ent (Ent.drop.trans ((Ent.d7 (Ent.e7 (f:=noP) a0)).trans (Ent.refl _))) ?_;refine GO.ef (Ef.d8 rfl rfl (hf _ a0 _)) ae ?_;rintro _ _⟨rfl,rfl⟩;refine JM ?_;intros;refine⟨i+1,ab,ab,?_,by exact ag⟩;rw[aY i];exact av
def nz{L:LH}(f:FuncId)(cap:LV)(C:HP)(ad:OA)(c:Nat)(xs:List RuV)(hl:xs.length≤64)(hf:∀x∈xs,fS f cap cX ruP C x) :
  Tri ai 168 #[ah ad xs.length c,.func (.func f) #[] cap.toArray] (C::allP ruP xs::isl cX 9 ad xs::L) (rtQ (.bool true) (C::allP ruP xs::isl cX 9 ad xs::L)):=by
 refine Tri.bd ?_;refine JM ?_;intros;refine G.loop (α:=Nat) (fun i=>i≤xs.length) (fun i=>[(0,ah ad xs.length c),(1,.func (.func f) #[] cap.toArray),(7,ah ad xs.length c),(8,ac xs.length),(9,ac (i:Int))]) (fun _=>C::allP ruP xs::isl cX 9 ad xs::L) (fun i=>xs.length - i) 0 (ax _) av (Ent.refl _) ?_;intro i hi;by_cases a2:i<xs.length
 case neg =>
  refine JM ?_;intros;exact KX.en ⟨rfl,rfl⟩
 have a1:(i:Int).toNat=i:=ab;have a0:=aJ a2;refine JM ?_;intros;rw[a1];refine GO.ent (Ent.drop.trans ((Ent.d7 (Ent.e7 (f:=ruP) a0)).trans (Ent.refl _))) ?_;refine GO.ef (Ef.d8 rfl rfl (hf _ a0 _)) ae ?_;rintro _ _⟨rfl,rfl⟩;refine JM ?_;intros;refine⟨i+1,ab,ab,?_,by exact ag⟩;rw[aY i];exact av
def ny{L:LH}(f:FuncId)(cap:LV)(C:HP)(ad:OA)(c:Nat)(xs:List TbV)(hl:xs.length≤64)(hf:∀x∈xs,fS f cap eG tbP C x) :
  Tri ai 170 #[ah ad xs.length c,.func (.func f) #[] cap.toArray] (C::allP tbP xs::isl eG 2 ad xs::L) (rtQ (.bool true) (C::allP tbP xs::isl eG 2 ad xs::L)):=by
 refine Tri.bd ?_;refine JM ?_;intros;refine G.loop (α:=Nat) (fun i=>i≤xs.length) (fun i=>[(0,ah ad xs.length c),(1,.func (.func f) #[] cap.toArray),(7,ah ad xs.length c),(8,ac xs.length),(9,ac (i:Int))]) (fun _=>C::allP tbP xs::isl eG 2 ad xs::L) (fun i=>xs.length - i) 0 (ax _) av (Ent.refl _) ?_;intro i hi;by_cases a2:i<xs.length
 case neg =>
  refine JM ?_;intros;exact KX.en ⟨rfl,rfl⟩
 have a1:(i:Int).toNat=i:=ab;have a0:=aJ a2;refine JM ?_;intros;rw[a1];refine GO.ent (Ent.drop.trans ((Ent.d7 (Ent.e7 (f:=tbP) a0)).trans (Ent.refl _))) ?_;refine GO.ef (Ef.d8 rfl rfl (hf _ a0 _)) ae ?_;rintro _ _⟨rfl,rfl⟩;refine JM ?_;intros;refine⟨i+1,ab,ab,?_,by exact ag⟩;rw[aY i];exact av
def nx{L:LH}(f:FuncId)(cap:LV)(C:HP)(ad:OA)(c:Nat)(xs:List TxV)(hl:xs.length≤64)(hf:∀x∈xs,fS f cap eD txP C x) :
  Tri ai 172 #[ah ad xs.length c,.func (.func f) #[] cap.toArray] (C::allP txP xs::isl eD 2 ad xs::L) (rtQ (.bool true) (C::allP txP xs::isl eD 2 ad xs::L)):=by
 refine Tri.bd ?_;refine JM ?_;intros;refine G.loop (α:=Nat) (fun i=>i≤xs.length) (fun i=>[(0,ah ad xs.length c),(1,.func (.func f) #[] cap.toArray),(7,ah ad xs.length c),(8,ac xs.length),(9,ac (i:Int))]) (fun _=>C::allP txP xs::isl eD 2 ad xs::L) (fun i=>xs.length - i) 0 (ax _) av (Ent.refl _) ?_;intro i hi;by_cases a2:i<xs.length
 case neg =>
  refine JM ?_;intros;exact KX.en ⟨rfl,rfl⟩
 have a1:(i:Int).toNat=i:=ab;have a0:=aJ a2;refine JM ?_;intros;rw[a1];refine GO.ent (Ent.drop.trans ((Ent.d7 (Ent.e7 (f:=txP) a0)).trans (Ent.refl _))) ?_;refine GO.ef (Ef.d8 rfl rfl (hf _ a0 _)) ae ?_;rintro _ _⟨rfl,rfl⟩;refine JM ?_;intros;refine⟨i+1,ab,ab,?_,by exact ag⟩;rw[aY i];exact av
def qD{L:LH}(f:FuncId)(cap:LV)(C:HP)(ad:OA)(c:Nat)(xs:List RwV)(hl:xs.length≤64)(hf:∀x∈xs,fS f cap gj rwP C x) :
  Tri ai 194 #[ah ad xs.length c,.func (.func f) #[] cap.toArray] (C::allP rwP xs::isl gj 2 ad xs::L) (rtQ (.bool true) (C::allP rwP xs::isl gj 2 ad xs::L)):=by
 refine Tri.bd ?_;refine JM ?_;intros;refine G.loop (α:=Nat) (fun i=>i≤xs.length) (fun i=>[(0,ah ad xs.length c),(1,.func (.func f) #[] cap.toArray),(7,ah ad xs.length c),(8,ac xs.length),(9,ac (i:Int))]) (fun _=>C::allP rwP xs::isl gj 2 ad xs::L) (fun i=>xs.length - i) 0 (ax _) av (Ent.refl _) ?_;intro i hi;by_cases a2:i<xs.length
 case neg =>
  refine JM ?_;intros;exact KX.en ⟨rfl,rfl⟩
 have a1:(i:Int).toNat=i:=ab;have a0:=aJ a2;refine JM ?_;intros;rw[a1];refine GO.ent (Ent.drop.trans ((Ent.d7 (Ent.e7 (f:=rwP) a0)).trans (Ent.refl _))) ?_;refine GO.ef (Ef.d8 rfl rfl (hf _ a0 _)) ae ?_;rintro _ _⟨rfl,rfl⟩;refine JM ?_;intros;refine⟨i+1,ab,ab,?_,by exact ag⟩;rw[aY i];exact av
def Gu{L:LH}(f:FuncId)(cap:LV)(C:HP)(ad:OA)(c:Nat)(xs:List (Int×Int))(hl:xs.length≤64)(hf:∀x∈xs,fS f cap cA noP C x) :
  Tri ai 198 #[ah ad xs.length c,.func (.func f) #[] cap.toArray] (C::allP noP xs::isl cA 2 ad xs::L) (rtQ (.bool true) (C::allP noP xs::isl cA 2 ad xs::L)):=by
 refine Tri.bd ?_;refine JM ?_;intros;refine G.loop (α:=Nat) (fun i=>i≤xs.length) (fun i=>[(0,ah ad xs.length c),(1,.func (.func f) #[] cap.toArray),(7,ah ad xs.length c),(8,ac xs.length),(9,ac (i:Int))]) (fun _=>C::allP noP xs::isl cA 2 ad xs::L) (fun i=>xs.length - i) 0 (ax _) av (Ent.refl _) ?_;intro i hi;by_cases a2:i<xs.length
 case neg =>
  refine JM ?_;intros;exact KX.en ⟨rfl,rfl⟩
 have a1:(i:Int).toNat=i:=ab;have a0:=aJ a2;refine JM ?_;intros;rw[a1];refine GO.ent (Ent.drop.trans ((Ent.d7 (Ent.e7 (f:=noP) a0)).trans (Ent.refl _))) ?_;refine GO.ef (Ef.d8 rfl rfl (hf _ a0 _)) ae ?_;rintro _ _⟨rfl,rfl⟩;refine JM ?_;intros;refine⟨i+1,ab,ab,?_,by exact ag⟩;rw[aY i];exact av
def Gt{L:LH}(f:FuncId)(cap:LV)(C:HP)(ad:OA)(c:Nat)(xs:List (Int×Int))(hl:xs.length≤64)(hf:∀x∈xs,fS f cap cA noP C x) :
  Tri ai 253 #[ah ad xs.length c,.func (.func f) #[] cap.toArray] (C::allP noP xs::isl cA 2 ad xs::L) (rtQ (.bool true) (C::allP noP xs::isl cA 2 ad xs::L)):=by
 refine Tri.bd ?_;refine JM ?_;intros;refine G.loop (α:=Nat) (fun i=>i≤xs.length) (fun i=>[(0,ah ad xs.length c),(1,.func (.func f) #[] cap.toArray),(7,ah ad xs.length c),(8,ac xs.length),(9,ac (i:Int))]) (fun _=>C::allP noP xs::isl cA 2 ad xs::L) (fun i=>xs.length - i) 0 (ax _) av (Ent.refl _) ?_;intro i hi;by_cases a2:i<xs.length
 case neg =>
  refine JM ?_;intros;exact KX.en ⟨rfl,rfl⟩
 have a1:(i:Int).toNat=i:=ab;have a0:=aJ a2;refine JM ?_;intros;rw[a1];refine GO.ent (Ent.drop.trans ((Ent.d7 (Ent.e7 (f:=noP) a0)).trans (Ent.refl _))) ?_;refine GO.ef (Ef.d8 rfl rfl (hf _ a0 _)) ae ?_;rintro _ _⟨rfl,rfl⟩;refine JM ?_;intros;refine⟨i+1,ab,ab,?_,by exact ag⟩;rw[aY i];exact av
def encB(b:Bool):Value:=.bool b
def rE{L:LH}(x:ItG):Tri ai 181 #[aO (dD x)] L (fun u L'=>u=.string x.name∧L' = L):=by
 refine Tri.bd ?_;refine JM ?_;intros;exact KX.d7 an Ent.drop ⟨rfl,rfl⟩
def EB{L:LH}(ad:OA)(c:Nat)(xs:List ItG)(hl:xs.length≤64)(hd:(xs.map (·.name)).Nodup) :
  Tri ai 180 #[ah ad xs.length c,.func (.func 181) #[] #[]] (isl dD 7 ad xs::L) (rtQ (.bool true) (isl dD 7 ad xs::L)):=by
 refine Tri.bd ?_;refine JM ?_;intros;refine GO.ef (Ef.e7 kvS encB (.inr ⟨_,_,_,rfl,rfl,ab⟩)) ae ?_;rintro _ _⟨bm,rfl,rfl⟩;refine JM ?_;intros;refine G.loop (α:=Nat×List (ByteArray×Bool)) (fun x=>x.1≤xs.length∧∀j,x.1≤j→j<xs.length→@List.lookup ByteArray Bool instBEqOfDecidableEq xs[j]!.name x.2=none) (fun x=>[(0,ah ad xs.length c),(1,.func (.func 181) #[] #[]),(5,.map (some bm)),(11,ah ad xs.length c),(12,ac xs.length),(13,ac (x.1:Int))]) (fun x=>gmap kvS encB bm x.2::isl dD 7 ad xs::L) (fun x=>xs.length - x.1) (0,[]) ⟨ax _,fun _ _ _=>rfl⟩ av (Ent.refl _) ?_;rintro⟨i,m⟩ ⟨hi,hm⟩;dsimp only at hi hm ⊢;by_cases a2:i<xs.length
 case neg =>
  refine JM ?_;intros;exact KX.d7 an Ent.drop ⟨rfl,rfl⟩
 have a1:(i:Int).toNat=i:=ab;refine JM ?_;intros;rw[a1];refine GO.ef (Ef.g9 (first:=[]) (cap:=[]) (vs:=[aO (dD xs[i]!)]) (rE xs[i]!) rfl rfl) ae ?_;rintro _ _⟨rfl,rfl⟩;refine GO.ev (Ev.e8 (k:=xs[i]!.name) rfl rfl) ae ?_;rw[hm i (aB _) a2];simp only[eO,el];refine JM ?_;intros;refine GO.ef (Ef.g9 (first:=[]) (cap:=[]) (vs:=[aO (dD xs[i]!)]) (rE xs[i]!) rfl rfl) ae ?_;rintro _ _⟨rfl,rfl⟩;refine GO.efu (Ef.e8 (k:=xs[i]!.name) (e:=true) rfl rfl rfl rfl) ?_;rintro _ _ rfl;refine JM ?_;intros;refine⟨(i+1,gins m xs[i]!.name true),⟨by dsimp only;omega,?_⟩,by dsimp only;omega,?_,Ent.d7 Ent.drop⟩
 ·intro j hj a0;dsimp only at hj ⊢;rw[ip,if_neg,hm j ab a0];intro e
  have h1:(xs.map (·.name))[j]'(by simpa using a0)=(xs.map (·.name))[i]'(by simp;omega):=by
   rw[getElem!_of a0,getElem!_of ab] at e;simpa using e
  have:=(fI hd).1 h1
  omega
 ·dsimp only;rw[aY i];exact av
def ry{L:LH}(x:RuV):Tri ai 183 #[aO (cX x)] L (fun u L'=>u=.string x.name∧L' = L):=by
 refine Tri.bd ?_;refine JM ?_;intros;exact KX.d7 an Ent.drop ⟨rfl,rfl⟩
def EA{L:LH}(ad:OA)(c:Nat)(xs:List RuV)(hl:xs.length≤64)(hd:(xs.map (·.name)).Nodup) :
  Tri ai 182 #[ah ad xs.length c,.func (.func 183) #[] #[]] (isl cX 9 ad xs::L) (rtQ (.bool true) (isl cX 9 ad xs::L)):=by
 refine Tri.bd ?_;refine JM ?_;intros;refine GO.ef (Ef.e7 kvS encB (.inr ⟨_,_,_,rfl,rfl,ab⟩)) ae ?_;rintro _ _⟨bm,rfl,rfl⟩;refine JM ?_;intros;refine G.loop (α:=Nat×List (ByteArray×Bool)) (fun x=>x.1≤xs.length∧∀j,x.1≤j→j<xs.length→@List.lookup ByteArray Bool instBEqOfDecidableEq xs[j]!.name x.2=none) (fun x=>[(0,ah ad xs.length c),(1,.func (.func 183) #[] #[]),(5,.map (some bm)),(11,ah ad xs.length c),(12,ac xs.length),(13,ac (x.1:Int))]) (fun x=>gmap kvS encB bm x.2::isl cX 9 ad xs::L) (fun x=>xs.length - x.1) (0,[]) ⟨ax _,fun _ _ _=>rfl⟩ av (Ent.refl _) ?_;rintro⟨i,m⟩ ⟨hi,hm⟩;dsimp only at hi hm ⊢;by_cases a2:i<xs.length
 case neg =>
  refine JM ?_;intros;exact KX.d7 an Ent.drop ⟨rfl,rfl⟩
 have a1:(i:Int).toNat=i:=ab;refine JM ?_;intros;rw[a1];refine GO.ef (Ef.g9 (first:=[]) (cap:=[]) (vs:=[aO (cX xs[i]!)]) (ry xs[i]!) rfl rfl) ae ?_;rintro _ _⟨rfl,rfl⟩;refine GO.ev (Ev.e8 (k:=xs[i]!.name) rfl rfl) ae ?_;rw[hm i (aB _) a2];simp only[eO,el];refine JM ?_;intros;refine GO.ef (Ef.g9 (first:=[]) (cap:=[]) (vs:=[aO (cX xs[i]!)]) (ry xs[i]!) rfl rfl) ae ?_;rintro _ _⟨rfl,rfl⟩;refine GO.efu (Ef.e8 (k:=xs[i]!.name) (e:=true) rfl rfl rfl rfl) ?_;rintro _ _ rfl;refine JM ?_;intros;refine⟨(i+1,gins m xs[i]!.name true),⟨by dsimp only;omega,?_⟩,by dsimp only;omega,?_,Ent.d7 Ent.drop⟩
 ·intro j hj a0;dsimp only at hj ⊢;rw[ip,if_neg,hm j ab a0];intro e
  have h1:(xs.map (·.name))[j]'(by simpa using a0)=(xs.map (·.name))[i]'(by simp;omega):=by
   rw[getElem!_of a0,getElem!_of ab] at e;simpa using e
  have:=(fI hd).1 h1
  omega
 ·dsimp only;rw[aY i];exact av
def pS{L:LH}(x:TbV):Tri ai 185 #[aO (eG x)] L (fun u L'=>u=.string x.name∧L' = L):=by
 refine Tri.bd ?_;refine JM ?_;intros;exact KX.d7 an Ent.drop ⟨rfl,rfl⟩
def Ez{L:LH}(ad:OA)(c:Nat)(xs:List TbV)(hl:xs.length≤64)(hd:(xs.map (·.name)).Nodup) :
  Tri ai 184 #[ah ad xs.length c,.func (.func 185) #[] #[]] (isl eG 2 ad xs::L) (rtQ (.bool true) (isl eG 2 ad xs::L)):=by
 refine Tri.bd ?_;refine JM ?_;intros;refine GO.ef (Ef.e7 kvS encB (.inr ⟨_,_,_,rfl,rfl,ab⟩)) ae ?_;rintro _ _⟨bm,rfl,rfl⟩;refine JM ?_;intros;refine G.loop (α:=Nat×List (ByteArray×Bool)) (fun x=>x.1≤xs.length∧∀j,x.1≤j→j<xs.length→@List.lookup ByteArray Bool instBEqOfDecidableEq xs[j]!.name x.2=none) (fun x=>[(0,ah ad xs.length c),(1,.func (.func 185) #[] #[]),(5,.map (some bm)),(11,ah ad xs.length c),(12,ac xs.length),(13,ac (x.1:Int))]) (fun x=>gmap kvS encB bm x.2::isl eG 2 ad xs::L) (fun x=>xs.length - x.1) (0,[]) ⟨ax _,fun _ _ _=>rfl⟩ av (Ent.refl _) ?_;rintro⟨i,m⟩ ⟨hi,hm⟩;dsimp only at hi hm ⊢;by_cases a2:i<xs.length
 case neg =>
  refine JM ?_;intros;exact KX.d7 an Ent.drop ⟨rfl,rfl⟩
 have a1:(i:Int).toNat=i:=ab;refine JM ?_;intros;rw[a1];refine GO.ef (Ef.g9 (first:=[]) (cap:=[]) (vs:=[aO (eG xs[i]!)]) (pS xs[i]!) rfl rfl) ae ?_;rintro _ _⟨rfl,rfl⟩;refine GO.ev (Ev.e8 (k:=xs[i]!.name) rfl rfl) ae ?_;rw[hm i (aB _) a2];simp only[eO,el];refine JM ?_;intros;refine GO.ef (Ef.g9 (first:=[]) (cap:=[]) (vs:=[aO (eG xs[i]!)]) (pS xs[i]!) rfl rfl) ae ?_;rintro _ _⟨rfl,rfl⟩;refine GO.efu (Ef.e8 (k:=xs[i]!.name) (e:=true) rfl rfl rfl rfl) ?_;rintro _ _ rfl;refine JM ?_;intros;refine⟨(i+1,gins m xs[i]!.name true),⟨by dsimp only;omega,?_⟩,by dsimp only;omega,?_,Ent.d7 Ent.drop⟩
 ·intro j hj a0;dsimp only at hj ⊢;rw[ip,if_neg,hm j ab a0];intro e
  have h1:(xs.map (·.name))[j]'(by simpa using a0)=(xs.map (·.name))[i]'(by simp;omega):=by
   rw[getElem!_of a0,getElem!_of ab] at e;simpa using e
  have:=(fI hd).1 h1
  omega
 ·dsimp only;rw[aY i];exact av
def ta{L:LH}(x:TxV):Tri ai 187 #[aO (eD x)] L (fun u L'=>u=.string x.name∧L' = L):=by
 refine Tri.bd ?_;refine JM ?_;intros;exact KX.d7 an Ent.drop ⟨rfl,rfl⟩
def Ey{L:LH}(ad:OA)(c:Nat)(xs:List TxV)(hl:xs.length≤64)(hd:(xs.map (·.name)).Nodup) :
  Tri ai 186 #[ah ad xs.length c,.func (.func 187) #[] #[]] (isl eD 2 ad xs::L) (rtQ (.bool true) (isl eD 2 ad xs::L)):=by
 refine Tri.bd ?_;refine JM ?_;intros;refine GO.ef (Ef.e7 kvS encB (.inr ⟨_,_,_,rfl,rfl,ab⟩)) ae ?_;rintro _ _⟨bm,rfl,rfl⟩;refine JM ?_;intros;refine G.loop (α:=Nat×List (ByteArray×Bool)) (fun x=>x.1≤xs.length∧∀j,x.1≤j→j<xs.length→@List.lookup ByteArray Bool instBEqOfDecidableEq xs[j]!.name x.2=none) (fun x=>[(0,ah ad xs.length c),(1,.func (.func 187) #[] #[]),(5,.map (some bm)),(11,ah ad xs.length c),(12,ac xs.length),(13,ac (x.1:Int))]) (fun x=>gmap kvS encB bm x.2::isl eD 2 ad xs::L) (fun x=>xs.length - x.1) (0,[]) ⟨ax _,fun _ _ _=>rfl⟩ av (Ent.refl _) ?_;rintro⟨i,m⟩ ⟨hi,hm⟩;dsimp only at hi hm ⊢;by_cases a2:i<xs.length
 case neg =>
  refine JM ?_;intros;exact KX.d7 an Ent.drop ⟨rfl,rfl⟩
 have a1:(i:Int).toNat=i:=ab;refine JM ?_;intros;rw[a1];refine GO.ef (Ef.g9 (first:=[]) (cap:=[]) (vs:=[aO (eD xs[i]!)]) (ta xs[i]!) rfl rfl) ae ?_;rintro _ _⟨rfl,rfl⟩;refine GO.ev (Ev.e8 (k:=xs[i]!.name) rfl rfl) ae ?_;rw[hm i (aB _) a2];simp only[eO,el];refine JM ?_;intros;refine GO.ef (Ef.g9 (first:=[]) (cap:=[]) (vs:=[aO (eD xs[i]!)]) (ta xs[i]!) rfl rfl) ae ?_;rintro _ _⟨rfl,rfl⟩;refine GO.efu (Ef.e8 (k:=xs[i]!.name) (e:=true) rfl rfl rfl rfl) ?_;rintro _ _ rfl;refine JM ?_;intros;refine⟨(i+1,gins m xs[i]!.name true),⟨by dsimp only;omega,?_⟩,by dsimp only;omega,?_,Ent.d7 Ent.drop⟩
 ·intro j hj a0;dsimp only at hj ⊢;rw[ip,if_neg,hm j ab a0];intro e
  have h1:(xs.map (·.name))[j]'(by simpa using a0)=(xs.map (·.name))[i]'(by simp;omega):=by
   rw[getElem!_of a0,getElem!_of ab] at e;simpa using e
  have:=(fI hd).1 h1
  omega
 ·dsimp only;rw[aY i];exact av
