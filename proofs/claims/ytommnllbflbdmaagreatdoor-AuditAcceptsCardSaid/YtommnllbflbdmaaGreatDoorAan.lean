/- Lemmas. -/
import Derived.Test.YtommnllbflbdmaaGreatDoorAam
set_option linter.all false
set_option maxHeartbeats 2000000
namespace Go.Proofs.YtommnllbflbdmaaGreatDoor
section
open Go.V
attribute [local irreducible] G GO GP GPW GPK Ev Ef EfR Ent CB GB Enters
def lr(k:Int):Prop:=k=0∨k=1∨k=6∨k=2∨k=3∨k=8∨k=4
def ns(k:Int):Int→Bool:=if k=0 then(fun n=>dB (n=0)) else if k=4 then(fun _=>true) else(fun n=>dB (¬n=0))
def kTo(k:Int):Int→Bool:=if k=1∨k=6 then(fun n=>dB (n=0)) else if k=4 then(fun _=>true) else(fun n=>dB (¬n=0))
def na(k:Int):FuncId:=if k=4 then 259 else 257
abbrev Jf(ff tf wf:FuncId):Value:=.agg #[.func (.func ff) #[] #[],.func (.func tf) #[] #[],.bool false,.func (.func wf) #[] #[]]
def Bb{L:LH}(k:Int)(hk:lr k):Tri ai 211 #[ac k] L (fun v L'=>∃ff tf,v=.tuple #[Jf ff tf (na k),.bool true]∧(Asks ff (ns k)∧Asks tf (kTo k))∧L' = L):=by
 rcases hk with rfl|rfl|rfl|rfl|rfl|rfl|rfl
 ·refine Tri.bd (args:=[ac 0]) ?_;refine Jq ?_;intros;exact KX.d7 (by exact ResOk.cell rfl aK (ResOk.tmp rfl (ResOk.nil))) ae ⟨_,_,rfl,⟨kg,fg⟩,rfl⟩
 ·refine Tri.bd (args:=[ac 1]) ?_;refine Jq ?_;intros;exact KX.d7 (by exact ResOk.cell rfl aK (ResOk.tmp rfl (ResOk.nil))) ae ⟨_,_,rfl,⟨fg,kg⟩,rfl⟩
 ·refine Tri.bd (args:=[ac 6]) ?_;refine Jq ?_;intros;exact KX.d7 (by exact ResOk.cell rfl aK (ResOk.tmp rfl (ResOk.nil))) ae ⟨_,_,rfl,⟨fg,kg⟩,rfl⟩
 ·refine Tri.bd (args:=[ac 2]) ?_;refine Jq ?_;intros;exact KX.d7 (by exact ResOk.cell rfl aK (ResOk.tmp rfl (ResOk.nil))) ae ⟨_,_,rfl,⟨fg,fg⟩,rfl⟩
 ·refine Tri.bd (args:=[ac 3]) ?_;refine Jq ?_;intros;exact KX.d7 (by exact ResOk.cell rfl aK (ResOk.tmp rfl (ResOk.nil))) ae ⟨_,_,rfl,⟨fg,fg⟩,rfl⟩
 ·refine Tri.bd (args:=[ac 8]) ?_;refine Jq ?_;intros;exact KX.d7 (by exact ResOk.cell rfl aK (ResOk.tmp rfl (ResOk.nil))) ae ⟨_,_,rfl,⟨fg,fg⟩,rfl⟩
 ·refine Tri.bd (args:=[ac 4]) ?_;refine Jq ?_;intros;exact KX.d7 (by exact ResOk.cell rfl aK (ResOk.tmp rfl (ResOk.nil))) ae ⟨_,_,rfl,⟨li,li⟩,rfl⟩
def jO(rules:List RuM)(s:StM):Prop:=if s.kind=4 then fP rules s.rule s.times s.moves else jD s.rule s.times
noncomputable instance (a b):Decidable (jO a b):=Classical.propDecidable _
def mI(c:CatM)(now:Int)(s:StM):Prop :=
 accP s.actor∧(0≤s.tick∧s.tick≤1099511627776∧now≤s.tick)∧(1≤s.moves.length∧s.moves.length≤64) ∧
 (∀m∈s.moves,iY c.items.length (ns s.kind) (kTo s.kind) m=true)∧jO c.rules s
noncomputable instance (a b c):Decidable (mI a b c):=Classical.propDecidable _
def xnow(x:LedX):Int:=(x.steps.getLast?.map (·.tick)).getD 0
abbrev Cp:Nat:=267
abbrev CM:=ay3 [.ev 4,.ef 5,.ev 6,.ev 7,.ev 8,.ev 9,.ev 10,.ev 11,.ev 12,.ev 13,.ev 14,.ev 15,.ev 16,.ev 17,.ev 18,.ev 19,.ev 20,.ev 21,.ef 22,.ev 23,.ev 24,.ev 25,.ev 26,.ev 27,.ev 28,.ev 29,.ev 30,.ev 31,.ev 32,.ev 33,.ev 34,.ev 35,.ev 36]
def KG{φ ψ:Prop}(k:ψ)(h:Hid ψ→φ:=by intro k;(repeat (first|refine aa ?_|intro zzz|refine G.dr 70 2 CM ?_));(repeat revert zzz);exact Hid.out k):φ:=h ⟨k⟩
def Ff{L R:LH}{b:Nat}{sh:Int}{x:LedX}[hp:PickObj L b tLed (bJ sh x) R][hr:Rds L x.sad StV aT 7 x.steps](s:StV)[b6:Rds L s.mad MvV aM 5 s.moves](hk:lr s.kind)(hc:x.cat.m.Ok)(hB:x.cat.B)(b2:x.steps.length≤65536)(b1:s.moves.length≤1000000)(a2:s.moves.length≤s.mcap)(hI:I64 s.rule) :
  Tri ai 123 #[ax b,aN (aT s)] (catP x.cat::L) (fun v L'=>v=.bool (dB (mI x.cat.m (xnow x) s.m))∧L' = catP x.cat::L):=by
 have a7:=hB.items;have b4:s.m.moves.length=s.moves.length:=by simp[StV.m]
 refine Tri.bd ?_;refine KG ?_;intros;rename_i b3;refine GO.ca (Bb s.kind hk) ?_;rintro _ _⟨ff,tf,rfl,⟨a9,a6⟩,rfl⟩;refine KG ?_;intros;rename_i b5;refine GPW.cr (kl s.actor) ?_;by_cases h1:accP s.actor
 case neg =>
  rw[aG h1];refine KG ?_;intros;exact KX.d7 al ae ⟨by rw[aG (fun h=>h1 h.1)];rfl,rfl⟩
 rw[aS h1];by_cases h2:0≤s.tick
 case neg =>
  refine KG ?_;intros;exact KX.d7 al ae ⟨by rw[aG (fun h=>h2 h.2.1.1)];rfl,rfl⟩
 by_cases h3:s.tick≤1099511627776
 case neg =>
  refine KG ?_;intros;exact KX.d7 al ae ⟨by rw[aG (fun h=>h3 h.2.1.2.1)];rfl,rfl⟩
 refine KG ?_;intros;refine GPW.cr (vj (b:=b) (sh:=sh) (x:=x) ab) ?_;rw[show(x.steps.getLast?.map (·.tick)).getD 0=xnow x from rfl];by_cases h4:xnow x≤s.tick
 case neg =>
  refine KG ?_;intros;exact KX.d7 al ae ⟨by rw[aG (fun h=>h4 h.2.1.2.2)];rfl,rfl⟩
 by_cases h5:1≤s.moves.length
 case neg =>
  refine KG ?_;intros;exact KX.d7 al ae ⟨by rw[aG (fun h=>h5 (by have:=h.2.2.1.1;omega))];rfl,rfl⟩
 by_cases h6:s.moves.length≤64
 case neg =>
  refine KG ?_;intros;exact KX.d7 al ae ⟨by rw[aG (fun h=>h6 (by have:=h.2.2.1.2;omega))];rfl,rfl⟩
 refine KG ?_;intros;refine G.loop (α:=Nat) (fun i=>i≤s.moves.length∧∀j:Nat,j<i→iY x.cat.items.length (ns s.kind) (kTo s.kind) s.moves[j]!.m=true) (fun i=>[(0,ax b),(3,ax b3),(4,.bool false),(5,ax b5),(53,ah s.mad s.moves.length s.mcap),(54,ac (s.moves.length:Int)),(55,ac (i:Int))]) (fun _=>obj b5 Cp [.func (.func ff) #[] #[],.func (.func tf) #[] #[],.bool false,.func (.func (na s.kind)) #[] #[]]::obj b3 be (aT s)::catP x.cat::L) (fun i=>s.moves.length - i) 0 ⟨aw _,fun j h=>absurd h ab⟩ av (Ent.refl _) ?_;rintro i ⟨hi,a4⟩;by_cases a5:i<s.moves.length
 case neg =>
  have a8:i=s.moves.length:=ab;subst a8
  have a1:∀m∈s.m.moves,iY x.cat.m.items.length (ns s.m.kind) (kTo s.m.kind) m=true:=by
   intro m hm;obtain⟨v,hv,rfl⟩:=List.mem_map.1 (show m∈s.moves.map MvV.m from hm);obtain⟨j,hj,rfl⟩:=List.mem_iff_getElem.1 hv;have:=a4 j hj
   rw[getElem!_of hj] at this;exact this
  have a3:dB (mI x.cat.m (xnow x) s.m)=dB (jO x.cat.m.rules s.m):=by
   by_cases hw:jO x.cat.m.rules s.m
   ·rw[aS hw,aS ⟨h1,⟨h2,h3,h4⟩,⟨ab,ab⟩,a1,hw⟩]
   ·rw[aG hw,aG (fun h=>hw h.2.2.2.2)]
  rw[a3];refine KG ?_;intros;by_cases a0:s.kind=4
  ·have e1:na s.kind=259:=by unfold na;rw[if_pos a0]
   have e2:dB (jO x.cat.m.rules s.m)=dB (fP x.cat.m.rules s.rule s.times (s.moves.map MvV.m)):=by
    have e:jO x.cat.m.rules s.m=fP x.cat.m.rules s.rule s.times (s.moves.map MvV.m):=by unfold jO;exact if_pos a0
    by_cases hw:fP x.cat.m.rules s.rule s.times (s.moves.map MvV.m)
    ·rw[aS hw,aS (e▸hw)]
    ·rw[aG hw,aG (e▸hw)]
   rw[e1,e2];refine GO.ent (Ent.at (A:=catP x.cat) (Ent.refl _)) ?_;refine GO.ef (Ef.d8 rfl rfl (qp (b:=b) (sh:=sh) (x:=x) s hc hB h6 a2 hI)) ag ?_;rintro _ _⟨rfl,rfl⟩;refine KG ?_;intros;exact KX.en ⟨rfl,rfl⟩
  ·have e1:na s.kind=257:=by unfold na;rw[if_neg a0]
   have e2:dB (jO x.cat.m.rules s.m)=dB (jD s.rule s.times):=by
    have e:jO x.cat.m.rules s.m=jD s.rule s.times:=by unfold jO;exact if_neg a0
    by_cases hw:jD s.rule s.times
    ·rw[aS hw,aS (e▸hw)]
    ·rw[aG hw,aG (e▸hw)]
   rw[e1,e2];refine GO.ef (Ef.d8 rfl rfl (qn b s)) ag ?_;rintro _ _⟨rfl,rfl⟩;refine KG ?_;intros;exact KX.en ⟨rfl,rfl⟩
 have b0:(i:Int).toNat=i:=ab;refine KG ?_;intros;rw[b0];refine GO.cr (FT (b:=b) (sh:=sh) (x:=x) ff tf (na s.kind) (ns s.kind) (kTo s.kind) a9 a6 s.moves[i]! a7) ?_;cases h7:iY x.cat.items.length (ns s.kind) (kTo s.kind) s.moves[i]!.m with
 | false =>
  refine KG ?_;intros;refine KX.d7 al ae ⟨?_,rfl⟩;rw[aG]
  ·rfl
  intro h;have h8:=h.2.2.2.1 s.moves[i]!.m (alStd0List_mem_map_of_mem (aI a5));rw[show iY x.cat.m.items.length (ns s.m.kind) (kTo s.m.kind) s.moves[i]!.m=false from h7] at h8;cases h8
 | true =>
  refine KG ?_;intros;refine⟨i+1,⟨ab,?_⟩,ab,?_,by exact ae⟩
  ·intro j hj;rcases cc j i with h|h
   ·exact a4 j h
   ·obtain rfl:j=i:=ab;exact h7
  ·rw[aV i];exact av
def oW{l:LL}{x:Lot}(h:∀y∈l,LotOk y)(hx:LotW x):∀y∈aY l x,LotOk y:=by
 intro y hy;unfold aY at hy;unfold LotW at hx;split at hy
 ·exact h y hy
 rename_i h0;split at hy
 ·rename_i h1;obtain⟨h1,h2⟩:=h1;rcases ee hy with hy|rfl
  ·exact h y hy
  ·have h3:=lcont_iff.1 h2;have h4:=h _ (aI (ab:l.length - 1<l.length));unfold LotOk at h4 ⊢;dsimp only;omega
 ·rcases List.mem_append.1 hy with hy|hy
  ·exact h y hy
  ·simp at hy;subst hy;unfold LotOk;omega
def lJ{xs:LL}:∀{l:LL},(∀y∈l,LotOk y)→(∀y∈xs,LotW y)→∀y∈xs.foldl aY l,LotOk y:=by
 induction xs with
 | nil=>intro l h _;exact h
 | cons x xs ih=>intro l h hx;exact ih (oW h (hx x (aq ..))) (fun y hy=>hx y (au _ hy))
def tU{l:LL}{cs:Nat→Int}(hw:∀x∈l,LotOk x)(hc:∀k,k<l.length→0≤cs k∧cs k≤l[k]!.2.2):(∀x∈divF l cs l.length,LotOk x)∧∀x∈divR l cs l.length,LotOk x:=by
 refine⟨lJ bZ ?_,lJ bZ ?_⟩
 all_goals
  intro y hy
  obtain⟨k,hk,rfl⟩:=List.mem_map.1 hy
  have hk:=List.mem_range.1 hk
 ·exact(pc_w hk (fun x h=>(hw x h).w) (hc k hk)).1
 ·exact(pc_w hk (fun x h=>(hw x h).w) (hc k hk)).2
abbrev CJ:List Stp:=[.ev 0,.ev 2,.ef 1,.ef 3,.ev 4]
def iK{φ ψ:Prop}(k:ψ)(h:Hid ψ→φ:=by intro k;first|refine GO.ci (f:=267) (Hid.out k)|refine GPW.ci (f:=267) (Hid.out k)|refine GO.cf (f:=267) rfl (Hid.out k)|refine GPW.cf (f:=267) rfl (Hid.out k)|refine KX.inA (Hid.out k)):φ:=h ⟨k⟩
def iJ{φ ψ:Prop}(k:ψ)(h:Hid ψ→φ:=by intro k;(with_reducible apply G.d7);first|refine G.dr 17 3 CJ (Hid.out k)):φ:=h ⟨k⟩
def vl{L:LH}(ad:OA)(cap:Nat)(xs:LL)(x:Lot)(hl:xs.length≤4096)(a4:∀l∈xs,LotOk l)(hx:LotOk x) :
  Tri ai 217 #[ah ad xs.length cap,aN (aj x)] (isl aj 3 ad xs::L) (fun v L'=>∃a3 a0,v=ah a3 (aY xs x).length a0∧L' = osl aj 3 tLot a3 a0 (aY xs x)::isl aj 3 ad xs::L):=by
 have a6:=hx;obtain⟨o1,o2,o3,o4,o5⟩:=a6;refine Tri.bd ?_;repeat first|refine aa ?_|intro _|refine iJ ?_|refine iK ?_
 refine GO.cr (iv ad xs.length cap xs rfl hl a4) ?_;repeat first|refine aa ?_|intro _|refine iJ ?_|refine iK ?_
 rw[aS o5];repeat first|refine aa ?_|intro _|refine iJ ?_|refine iK ?_
 refine GPW.ca (ig ad xs.length cap xs rfl ab) ?_;rintro _ _⟨a5,a1,rfl,rfl⟩;repeat first|refine aa ?_|intro _|refine iJ ?_|refine iK ?_
 refine GPW.ca (qr a5 a1 xs x ab (fun y h=>(a4 y h).w) hx.w) ?_;rintro _ _⟨ad2,a2,rfl,rfl⟩;repeat first|refine aa ?_|intro _|refine iJ ?_|refine iK ?_
 exact KX.en ⟨ad2,a2,rfl,rfl⟩
def shQ(l:LL)(n:Int)(k:Nat):Int:=n*l[k]!.2.2 / lsum l
def shR(l:LL)(n:Int)(k:Nat):Int:=n*l[k]!.2.2 % lsum l
def Hz(l:LL)(n:Int)(k:Nat):Nat:=((List.range l.length).filter (fun j=>decide (shR l n k<shR l n j∨(shR l n j=shR l n k∧j<k)))).length
def ge(l:LL)(n:Int):Int:=n - (List.range l.length).foldl (fun s k=>s+shQ l n k) 0
def shC(l:LL)(n:Int)(k:Nat):Int:=shQ l n k+(if(Hz l n k:Int)<ge l n then 1 else 0)
def tkC(mixed:Bool)(l:LL)(n:Int):Nat→Int:=if mixed=true∧0<n then shC l n else fuC l n
def gS(mixed:Bool)(l:LL)(n:Int):LL:=divF l (tkC mixed l n) l.length
def eN(mixed:Bool)(l:LL)(n:Int):LL:=divR l (tkC mixed l n) l.length
structure TakeC (mixed:Bool):Prop where
 bd:∀(l:LL) (n:Int),(∀x∈l,LotOk x)→0≤n→n≤lsum l→∀k,k<l.length→0≤tkC mixed l n k∧tkC mixed l n k≤l[k]!.2.2
 tri:∀(L:LH) (ad:OA) (c:Nat) (xs:LL) (n:Int),xs.length≤4096→(∀l∈xs,LotOk l)→0≤n→n≤1099511627776 →
  Tri ai 284 #[ah ad xs.length c,ac n,.bool mixed] (isl aj 3 ad xs::L) (fun v L' =>
   (lsum xs<n∧v=.tuple #[ah none 0 0,ah none 0 0,ac 10]∧L' = isl aj 3 ad xs::L) ∨
   (n≤lsum xs∧∃ad1 c1 ad2 c2,v=.tuple #[ah ad1 (gS mixed xs n).length c1,ah ad2 (eN mixed xs n).length c2,ac 0]∧L' = osl aj 3 tLot ad1 c1 (gS mixed xs n)::osl aj 3 tLot ad2 c2 (eN mixed xs n)::isl aj 3 ad xs::L))
def yV:TakeC false where
 bd:=fun l n hl h0 _ k hk=>ou h0 (fun x h=>(hl x h).w) k hk
 tri:=fun _ ad c xs n h1 h2 h3 h4=>Cn ad c xs n false rfl h1 h2 h3 h4
structure ChX where
 cs:Nat
 ct:Nat
 ci:Nat
 cr:Nat
 stk:List ((Int×Int)×Stk)
 tot:List (Int×Int)
 flows:List FlV
 fad:OA
 fcap:Nat
 sunk:List Int
 kad:OA
 kcap:Nat
abbrev tCh:Nat:=131
abbrev gj(b:Nat)(s:StV)(z:ChX):LV:=[ax b,ac s.id,ac s.kind,ac s.actor,ac s.tick,ac s.rule,ac s.times,ah s.mad s.moves.length s.mcap,.map (some z.cs),.map (some z.ct),.map (some z.ci),.map (some z.cr),ah z.fad z.flows.length z.fcap,ah z.kad z.sunk.length z.kcap]
abbrev chL(b bc:Nat)(s:StV)(z:ChX)(L:LH):LH :=
 obj bc tCh (gj b s z)::gmap kvP Stk.v z.cs z.stk::gmap kvI encN z.ct z.tot::gmap kvI Stk.v z.ci []::gmap kvI Stk.v z.cr []::osl bL 11 cz z.fad z.fcap z.flows::osl (encZ .i64) 1 tInt z.kad z.kcap z.sunk::allP (fun p:(Int×Int)×Stk=>stkP p.2) z.stk::allP flP z.flows::L
def curS(x:LedX)(z:ChX)(k:Int×Int):Stk:=(glk z.stk k).getD (eA x.stk k)
def nZ{κ:Type}[DecidableEq κ](m:List (κ×Stk))(k:κ):((@List.lookup _ _ instBEqOfDecidableEq k m).map Stk.v).getD (ah none 0 0)=(eA m k).v:=by
 unfold eA glk;cases @List.lookup _ _ instBEqOfDecidableEq k m<;>rfl
def nm{κ:Type}[DecidableEq κ]{m:List (κ×Stk)}(k:κ){L:LH}:Ent (allP (fun p:κ×Stk=>stkP p.2) m::L) (stkP (eA m k)::allP (fun p:κ×Stk=>stkP p.2) m::L):=by
 unfold eA;cases h:glk m k with
 | none=>exact Ent.e8 aj 3 none
 | some s=>exact Ent.e7 (f:=fun p:κ×Stk=>stkP p.2) (x:=(k,s)) (iS h)
abbrev CL:=ay6 [.ev 10]
abbrev CK:=ay6 []
def KW{φ ψ:Prop}(k:ψ)(h:Hid ψ→φ:=by intro k;(repeat (first|refine aa ?_|intro zzz|refine G.dr 33 2 CL ?_|refine G.dr 33 5 CK ?_));(repeat revert zzz);exact Hid.out k):φ:=h ⟨k⟩
def qI{L R1 R2 R3 R4:LH}{b bc:Nat}{sh:Int}{x:LedX}{s:StV}{z:ChX}[a3:PickObj L b tLed (bJ sh x) R1][a0:PickObj L bc tCh (gj b s z) R2][a1:PickG L z.cs (Int×Int) Stk kvP Stk.v z.stk R3][a2:PickG L x.ms (Int×Int) Stk kvP Stk.v x.stk R4](a i:Int) :
  Tri ai 216 #[ax bc,ac a,ac i] L (fun v L'=>v=(curS x z (a,i)).v∧L' = L):=by
 refine Tri.bd ?_;refine KW ?_;intros;refine GPW.evL (Ev.l8 rfl rfl) ag ?_;cases h:@List.lookup _ _ instBEqOfDecidableEq (a,i) z.stk with
 | some k =>
  simp only[fq,gk,Option.isSome_some];refine KW ?_;intros;refine KX.d7 al ae ⟨?_,rfl⟩;unfold curS glk;rw[h];rfl
 | none =>
  simp only[eK,dY,Option.isSome_none];refine KW ?_;intros;refine GPW.evL (Ev.e8 rfl rfl) ag ?_;rw[nZ];refine KW ?_;intros;refine KX.d7 al ae ⟨?_,rfl⟩;unfold curS glk;rw[h];rfl
def yB{x:LedX}{z:ChX}(k:Int×Int){L:LH}:Ent (allP (fun p:(Int×Int)×Stk=>stkP p.2) z.stk::allP (fun p:(Int×Int)×Stk=>stkP p.2) x.stk::L) (stkP (curS x z k)::allP (fun p:(Int×Int)×Stk=>stkP p.2) z.stk::allP (fun p:(Int×Int)×Stk=>stkP p.2) x.stk::L):=by
 unfold curS;cases h:glk z.stk k with
 | none=>exact(Ent.d7 (nm k)).trans Ent.swap
 | some s=>exact Ent.e7 (f:=fun p:(Int×Int)×Stk=>stkP p.2) (x:=(k,s)) (iS h)
def ji{m:List ((Int×Int)×Stk)}{k:Int×Int}{s:Stk}{L:LH}:Ent (stkP s::allP (fun p:(Int×Int)×Stk=>stkP p.2) m::L) (allP (fun p:(Int×Int)×Stk=>stkP p.2) (gins m k s)::L) :=
 (Ent.g9 (f:=fun p:(Int×Int)×Stk=>stkP p.2) (fun p=>mR p.2) (x:=(k,s)) (l:=m)).trans (Ent.l5 (l':=gins m k s) pb)
def yA{x:LedX}{z:ChX}{k q:Int×Int}{s:Stk}:curS x { z with stk:=gins z.stk k s } q=if q=k then s else curS x z q:=by
 unfold curS glk;dsimp only;have h:=iw (m:=z.stk) (k:=k) (q:=q) (a:=s);by_cases hq:q=k
 ·rw[if_pos hq] at h ⊢;exact(congrArg (fun o:Option Stk=>o.getD (eA x.stk q)) h)
 ·rw[if_neg hq] at h ⊢;exact(congrArg (fun o:Option Stk=>o.getD (eA x.stk q)) h)
structure WdOk (x:LedX) (z:ChX) (m:MvM):Prop where
 item:0≤m.item∧m.item<x.cat.items.length
 n:0≤m.n∧m.n≤1099511627776
 parts:m.parts.length=0
 len:(curS x z (m.frm,m.item)).lots.length≤4096
 lots:∀l∈(curS x z (m.frm,m.item)).lots,LotOk l
def bO(x:LedX)(i:Int):Bool:=x.cat.items[i.toNat]!.mixed
abbrev CI:=ay7 [.ev 13,.ev 14,.ev 15,.ef 16,.ev 17,.ev 18,.ev 19,.ev 20,.ev 21,.ev 22,.ev 23]
abbrev CH:=ay4 [.ef 6]
abbrev zu:=ay5 [.ef 8,.ef 9]
def Lb{φ ψ:Prop}(k:ψ)(h:Hid ψ→φ:=by intro k;(repeat (first|refine aa ?_|intro zzz|refine G.dr 73 4 CI ?_|refine G.dr 73 7 CH ?_|refine G.dr 73 11 zu ?_));(repeat revert zzz);exact Hid.out k):φ:=h ⟨k⟩
def vL{L:LH}(b bc:Nat)(sh:Int)(x:LedX)(s:StV)(z:ChX)(m:MvV)(h:WdOk x z m.m)(hT:TakeC (bO x m.m.item))(a4:x.cat.items.length≤64) :
  Tri ai 264 #[ax bc,aN (aM m)] (chL b bc s z (ledL b sh x L)) (fun v L' =>
   (lsum (curS x z (m.m.frm,m.m.item)).lots<m.m.n∧v=.tuple #[ah none 0 0,ac 10]∧L' = chL b bc s z (ledL b sh x L)) ∨
   (m.m.n≤lsum (curS x z (m.m.frm,m.m.item)).lots∧∃pad pcap sk,v=.tuple #[ah pad (gS (bO x m.m.item) (curS x z (m.m.frm,m.m.item)).lots m.m.n).length pcap,ac 0]∧sk.lots=eN (bO x m.m.item) (curS x z (m.m.frm,m.m.item)).lots m.m.n ∧
    L' = isl aj 3 pad (gS (bO x m.m.item) (curS x z (m.m.frm,m.m.item)).lots m.m.n)::chL b bc s { z with stk:=gins z.stk (m.m.frm,m.m.item) sk } (ledL b sh x L))):=by
 obtain⟨⟨a5,a6⟩,⟨a2,a1⟩,hp,hl,a3⟩:=h;refine Tri.bd ?_;refine G.ent (L':=stkP (curS x z (m.m.frm,m.m.item))::isl dE 7 x.cat.iad x.cat.items::chL b bc s z (ledL b sh x L)) ?_ ?_
 ·simp only[chL,ledL];refine(Ent.at (A:=catP x.cat) pq).trans ?_;refine(Ent.at (A:=allP (fun p:(Int×Int)×Stk=>stkP p.2) z.stk) (Ent.refl _)).trans ?_;refine(Ent.d7 (Ent.at (A:=allP (fun p:(Int×Int)×Stk=>stkP p.2) x.stk) (Ent.refl _))).trans ?_;refine(yB (m.m.frm,m.m.item)).trans ?_;exact ae
 simp only[chL,ledL];refine Lb ?_;intros;refine GO.cr (qI (b:=b) (sh:=sh) (x:=x) (s:=s) (z:=z) m.m.frm m.m.item) ?_;generalize hsk:curS x z (m.m.frm,m.m.item)=sk at *;simp only[Stk.v];refine Lb ?_;intros;refine GPW.ent (Ent.at (A:=stkP sk) (Ent.refl _)) ?_;refine GPW.ca (hT.tri _ sk.ad sk.cap sk.lots m.m.n hl a3 a2 a1) ?_;rintro _ _ (⟨h1,rfl,rfl⟩|⟨h1,a0,c1,ad2,c2,rfl,rfl⟩)
 ·refine Lb ?_;intros;exact KX.en (.inl ⟨h1,rfl,rfl⟩)
 ·refine Lb ?_;intros;refine GPW.efu (Ef.e7 (enc:=Stk.v) (e:=(⟨ad2,c2,eN (bO x m.m.item) sk.lots m.m.n⟩:Stk)) rfl rfl rfl rfl) ?_;rintro _ _ rfl;refine Lb ?_;intros;refine KX.d7 al ?_ (.inr ⟨h1,a0,c1,⟨ad2,c2,eN (bO x m.m.item) sk.lots m.m.n⟩,rfl,rfl,rfl⟩);refine(Ent.frz a0).trans ((Ent.frz ad2).trans ?_);refine(Ent.at (A:=allP (fun p:(Int×Int)×Stk=>stkP p.2) z.stk) (Ent.refl _)).trans ?_;refine(Ent.at (A:=stkP ⟨ad2,c2,eN (bO x m.m.item) sk.lots m.m.n⟩) (ji (k:=(m.m.frm,m.m.item)))).trans ?_;exact ae
structure Wk where
 stk:Int→Int→LL
 tot:Int→Int
 flows:List FlM
 sunk:List Int
def upd2{α:Type}(f:Int→Int→α)(a i:Int)(v:α):Int→Int→α:=fun a' i'=>if a' = a∧i' = i then v else f a' i'
def gG(mix:Int→Bool)(W:Wk)(m:MvM):Int→Int→LL:=if m.frm=0 then W.stk else upd2 W.stk m.frm m.item (eN (mix m.item) (W.stk m.frm m.item) m.n)
def jC(mix:Int→Bool)(W:Wk)(m:MvM):LL:=if m.frm=0 then[] else gS (mix m.item) (W.stk m.frm m.item) m.n
def cq(W:Wk)(m:MvM):Int:=W.tot m.item+(if m.frm=0 then m.n else 0) - (if m.to=0 then m.n else 0)
def cB(sh:Int)(nf:Nat)(W:Wk):Int:=sh*4294967296+nf+W.flows.length
def cX(s:StM)(W:Wk)(m:MvM):List Int:=if m.frm=0∧(s.kind=4∨s.kind=10) then W.sunk else[]
def kV(sh:Int)(nf:Nat)(mix:Int→Bool)(s:StM)(W:Wk)(m:MvM):FlM:=⟨cB sh nf W,s.id,s.kind,s.tick,s.actor,m.frm,m.to,m.item,m.n,jC mix W m,cX s W m⟩
def ij(sh:Int)(nf:Nat)(mix:Int→Bool)(s:StM)(W:Wk)(m:MvM):Int×Wk :=
 if m.frm≠0∧lsum (W.stk m.frm m.item)<m.n then(10,W)
 else if cq W m>1099511627776 then(4,W)
 else if m.to=0 then(0,⟨gG mix W m,upd W.tot m.item (cq W m),W.flows++[kV sh nf mix s W m],W.sunk++[cB sh nf W]⟩)
 else if 4096≤(gG mix W m m.to m.item).length then(4,W)
 else(0,⟨upd2 (gG mix W m) m.to m.item (aY (gG mix W m m.to m.item) (cB sh nf W,0,m.n)),upd W.tot m.item (cq W m),W.flows++[kV sh nf mix s W m],W.sunk⟩)
structure WkF (x:LedX) (z:ChX) (W:Wk):Prop where
 stk:∀a i,(curS x z (a,i)).lots=W.stk a i
 tot:∀i,(glk z.tot i).getD ((glk x.tot i).getD 0)=W.tot i
 flows:z.flows.map FlV.m=W.flows
 sunk:z.sunk=W.sunk
structure Wk.Ok (nf:Nat) (W:Wk):Prop where
 stk:∀a i,(W.stk a i).length≤4096∧∀l∈W.stk a i,LotOk l
 tot:∀i,-(((nf:Int)+W.flows.length)*1099511627776)≤W.tot i∧W.tot i≤1099511627776
 sunk:W.sunk.length≤W.flows.length
def iZ{L:LH}(ad:OA)(n c:Nat)(xs:List Int)[Rds L ad Int (encZ .i64) 1 xs](hn:n=xs.length)(hb:n≤1000000) :
  Tri ai 103 #[ah ad n c] L (fun v L'=>∃a1 a0,v=ah a1 xs.length a0∧L' = osl (encZ .i64) 1 tInt a1 a0 xs::L):=by
 refine Tri.bd ?_;repeat' first|refine aa ?_|intro _|with_reducible refine CB.dec (fun _=>?_) (fun _=>?_)|with_reducible refine GB.dec (fun _=>?_) (fun _=>?_)|with_reducible refine CB.bool (fun _=>?_) (fun _=>?_)|with_reducible refine GB.bool (fun _=>?_) (fun _=>?_)
 ·have h:ad=none:=by assumption
  subst h;refine KX.l0 (.inl rfl) (oh (L:=L) (xs:=xs)) ?_;intro hx;subst hx;refine KX.d7 al (Ent.d8 (encZ .i64) 1 tInt) ⟨_,_,rfl,rfl⟩
 ·refine GO.ent (Ent.f7 (enc:=encZ .i64) (sz:=1) (xs:=[]) rfl rfl bZ bZ) ?_;refine GO.ef (Ef.g8 rfl rfl rfl rfl hn (fun e _=>by simp[encZ,Value.oneCell']) fW fW) ag ?_;rintro _ _⟨a1,a0,rfl,rfl⟩;refine Jq ?_;intros;refine KX.d7 al (Ent.refl _) ⟨a1,a0,rfl,rfl⟩
structure MvFit (x:LedX) (m:MvM):Prop where
 item:0≤m.item∧m.item<x.cat.items.length
 n:1≤m.n∧m.n≤1099511627776
 frm:accP m.frm
 to:accP m.to
 ne:m.frm≠m.to
 parts:m.parts.length=0
abbrev zJ:List Stp:=[.ev 0,.ev 1,.ev 3,.ev 4,.ef 2,.ef 5,.ev 6,.ev 7]
abbrev zI:List Stp:=[.ev 0,.ev 1,.ev 3,.ev 4,.ef 2,.ef 5,.ev 6,.ev 7]
def Lj{φ ψ:Prop}(k:ψ)(h:Hid ψ→φ:=by intro k;(repeat (first|refine aa ?_|intro zzz|refine G.dr 35 5 zJ ?_|refine G.dr 35 7 zI ?_));(repeat revert zzz);exact Hid.out k):φ:=h ⟨k⟩
def Bn{L:LH}(b bc:Nat)(sh:Int)(x:LedX)(s:StV)(z:ChX)(m:MvV)(W:Wk)(hW:WkF x z W)(hO:W.Ok x.flows.length)(h:MvFit x m.m)(hk:lr s.kind)(hT:∀mx,TakeC mx)(a3:x.cat.items.length≤64) :
  Tri ai 215 #[ax bc,aN (aM m)] (chL b bc s z (ledL b sh x L)) (fun v L' =>
   ((m.m.frm≠0∧lsum (W.stk m.m.frm m.m.item)<m.m.n)∧v=.tuple #[ah none 0 0,ac 10]∧L' = chL b bc s z (ledL b sh x L)) ∨
   (¬(m.m.frm≠0∧lsum (W.stk m.m.frm m.m.item)<m.m.n)∧∃pad pcap a1,v=.tuple #[ah pad (jC (bO x) W m.m).length pcap,ac 0]∧(∀a i,(curS x { z with stk:=a1 } (a,i)).lots=gG (bO x) W m.m a i) ∧
    L' = isl aj 3 pad (jC (bO x) W m.m)::chL b bc s { z with stk:=a1 } (ledL b sh x L))):=by
 have a5:s.kind≠5:=by unfold lr at hk;omega
 have a4:s.kind≠9:=by unfold lr at hk;omega
 have a0:=hW.stk m.m.frm m.m.item;refine Tri.bd ?_;by_cases h0:m.m.frm=0
 ·simp only[chL,ledL];refine Lj ?_;intros;refine KX.d7 al ?_ (.inr ⟨fun h=>h.1 h0,none,0,z.stk,?_,?_,rfl⟩)
  ·rw[show jC (bO x) W m.m=[] by unfold jC;rw[if_pos h0]];refine Ent.trans ?_ (Ent.e8 aj 3 none);exact ae
  ·rw[show jC (bO x) W m.m=[] by unfold jC;rw[if_pos h0]];rfl
  ·intro a i;unfold gG;rw[if_pos h0];exact hW.stk a i
 ·refine Lj ?_;intros;refine GO.ent Ent.drop ?_;refine GO.ca (vL b bc sh x s z m ⟨h.item,⟨by have:=h.n;omega,h.n.2⟩,h.parts,by rw[a0];exact(hO.stk _ _).1,by rw[a0];exact(hO.stk _ _).2⟩ (hT _) a3) ?_;rw[a0];rintro _ _ (⟨h1,rfl,rfl⟩|⟨h1,pad,pcap,sk,rfl,a2,rfl⟩)
  ·refine Lj ?_;intros;exact KX.d7 al (Ent.refl _) (.inl ⟨⟨h0,h1⟩,rfl,rfl⟩)
  ·have e:jC (bO x) W m.m=gS (bO x m.m.item) (W.stk m.m.frm m.m.item) m.m.n:=by unfold jC;rw[if_neg h0]
   rw[e];refine Lj ?_;intros;refine KX.d7 al (Ent.refl _) (.inr ⟨fun h=>by omega,pad,pcap,gins z.stk (m.m.frm,m.m.item) sk,rfl,?_,rfl⟩);intro a i;rw[yA];unfold gG upd2;rw[if_neg h0];by_cases hq:a=m.m.frm∧i=m.m.item
   ·obtain⟨rfl,rfl⟩:=hq;rw[if_pos rfl,if_pos ⟨rfl,rfl⟩,a2]
   ·rw[if_neg (fun h=>hq (by simpa using h)),if_neg hq];exact hW.stk a i
