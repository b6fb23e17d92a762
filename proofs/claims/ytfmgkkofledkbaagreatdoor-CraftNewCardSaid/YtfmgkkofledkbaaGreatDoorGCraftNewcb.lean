/- Lemmas and contracts of functions. -/
import Derived.Test.YtfmgkkofledkbaaGreatDoorGCraftNews
import Derived.Test.YtfmgkkofledkbaaGreatDoorGCraftNewd
import Derived.Test.YtfmgkkofledkbaaGreatDoorGCraftNewj
set_option linter.all false
set_option maxHeartbeats 1000000
namespace Go.Proofs.YtfmgkkofledkbaaGreatDoor
section
open Go.V
attribute [local irreducible] tryM fD fw fq
section
attribute [local irreducible] bz ej
variable {B:LedM→Prop} (hp:∀ S s,B S→B (bz S s))
include hp
theorem pw {acc tick hold:Int} {S:LedM} (h:B S):∀ k,B (gbM acc tick hold S k)
 | 0=>h
 | k+1=>by
  rw [kE]
  unfold gbS
  split
  ·exact pw h k
  ·exact hp _ _ (pw h k)
theorem Ei {S:LedM} (h:B S) (seed:List Int) (j:JobM) (tick:Int):B (endJ S seed j tick).1:=by
 unfold endJ gE
 exact pw hp (hp _ _ (hp _ _ h)) _
theorem vV {tick:Int}:∀ (ids:List Nat) (p:LedM×YardM),B p.1→B (ids.foldl (endM tick) p).1
 | [],_,h=>h
 | k::ids,p,h=>vV ids (endM tick p k) (Ei hp h _ _ _)
theorem FK {S:LedM} {Y:YardM} (h:B S) (tick:Int):B (advM S Y tick).2.1:=by
 by_cases h1:cp Y.tick S.now tick
 ·obtain ⟨ids,hids⟩:=jc Y.jobs tick
  rw [kH h1 hids,wv]
  exact vV hp ids (S,{ Y with tick:=tick }) h
 ·rw [ik h1]
  exact h
theorem Cc {S:LedM} {Y:YardM} (h:B S) (acc level rule times tick:Int):B (cS S Y acc level rule times tick).2.1:=by
 rcases iT S Y acc level rule times tick with ⟨e,_⟩|⟨_,_,_,_,_,e⟩
 ·rw [e]
  exact h
 ·rw [e]
  dsimp only
  split
  ·exact h
  ·exact hp _ _ h
theorem BO {S:LedM} {Y:YardM} (h:B S) (acc job tick:Int):B (dD S Y acc job tick).2.1:=by
 unfold dD
 split
 ·exact h
 ·split
  ·exact h
  ·split
   ·exact h
   ·split
    ·exact h
    ·exact pw hp h _
theorem Cd {S:LedM} {Y:YardM} (h:B S) (acc rule times tick:Int):B (du S Y acc rule times tick).2.1:=by
 unfold du
 split
 ·exact h
 ·split
  ·exact h
  ·exact hp _ _ h
theorem DP {S:LedM} {Y:YardM} (h:B S) (acc table tick:Int):B (dG S Y acc table tick).2.1:=by
 by_cases h1:cg acc∧cp Y.tick S.now tick
 case neg =>
  rw [jb h1]
  exact h
 by_cases h2:0≤table∧table<S.cat.tables.length
 case neg =>
  rw [iA h1.1 h1.2 h2]
  exact h
 obtain ⟨p,hp'⟩:∃ p,p=fw (fD Y.seed Y.loots) (S.cat.tables[table.toNat]!.rows.map (·.weight)) 0:=⟨_,rfl⟩
 rw [jJ h1.1 h1.2 h2 rfl rfl hp']
 clear hp'
 generalize S.cat.tables[table.toNat]!.rows[p.1.toNat]!.give=gv
 by_cases h3:p.2.1=0
 case neg =>
  rw [if_pos h3]
  exact h
 rw [if_neg (fun q=>q h3)]
 by_cases h4:gv.length=0
 case pos =>
  rw [if_pos h4]
  exact h
 rw [if_neg h4]
 by_cases h5:(tryM S (eX acc gv 1 tick)).1=0
 case neg =>
  rw [if_pos h5]
  exact h
 rw [if_neg (fun q=>q h5)]
 exact hp _ _ h
attribute [local irreducible] dG advM cS dD du
theorem FI {S:LedM} {Y:YardM} (h:B S) (o:OpM):B (doM S Y o).2.1:=by
 unfold doM
 split
 ·exact Cc hp h _ _ _ _ _
 ·split
  ·exact BO hp h _ _ _
  ·split
   ·exact FK hp h _
   ·split
    ·exact Cd hp h _ _ _ _
    ·split
     ·exact DP hp h _ _ _
     ·exact hp _ _ h
attribute [local irreducible] doM
theorem lG {S:LedM} {Y:YardM} (h:B S) {ops:List OpM}:∀ n,n≤ops.length→B (runS S Y ops n).1
 | 0,_=>h
 | n+1,hn=>by
  rw [ma ab]
  exact FI hp (lG h n ab) _
end
def nV (stk:Int→Int→List Lot) (F:List FlM):Prop:=∀ a i,stk a i≠[]→∃ f∈F,f.to=a∧f.item=i
theorem zy {mix:Int→Bool} {W:Wk} {m:MvM} {a i:Int} (h:cy mix W m a i≠[]):W.stk a i≠[]:=by
 unfold cy at h
 split at h
 ·exact h
 ·unfold upd2 at h
  split at h
  ·rename_i e
   intro q
   apply h
   have h1:=(jq (W.stk m.frm m.item) (tkC (mix m.item) (W.stk m.frm m.item) m.n) (W.stk m.frm m.item).length).2
   rw [← e.1,← e.2] at h1 ⊢
   apply aP
   unfold gL
   have h2:(W.stk a i).length=0:=by rw [q];rfl
   omega
  ·exact h
theorem Bj {sh:Int} {nf:Nat} {mix:Int→Bool} {s:StM} {W:Wk} {m:MvM} {F:List FlM} (h:nV W.stk (F++W.flows)) (he:(cz sh nf mix s W m).1=0):nV (cz sh nf mix s W m).2.stk (F++(cz sh nf mix s W m).2.flows):=by
 unfold cz at he ⊢
 by_cases h1:m.frm≠0∧lsum (W.stk m.frm m.item)<m.n
 ·rw [if_pos h1] at he;exact absurd (show (10:Int)=0 from he) ab
 rw [if_neg h1] at he ⊢
 by_cases h2:db W m>1099511627776
 ·rw [if_pos h2] at he;exact absurd (show (4:Int)=0 from he) ab
 rw [if_neg h2] at he ⊢
 have hold:∀ a i,cy mix W m a i≠[]→∃ f∈F++(W.flows++[fx sh nf mix s W m]),f.to=a∧f.item=i:=fun a i q=>by
  obtain ⟨f,hf,e⟩:=h a i (zy q)
  rw [← aD]
  exact ⟨f,List.mem_append_left _ hf,e⟩
 by_cases h3:m.to=0
 ·rw [if_pos h3]
  exact hold
 rw [if_neg h3] at he ⊢
 by_cases h4:4096≤(cy mix W m m.to m.item).length
 ·rw [if_pos h4] at he;exact absurd (show (4:Int)=0 from he) ab
 rw [if_neg h4]
 intro a i q
 dsimp only at q ⊢
 by_cases e:a=m.to∧i=m.item
 ·exact ⟨fx sh nf mix s W m,by simp,e.1.symm,e.2.symm⟩
 ·unfold upd2 at q
  rw [if_neg e] at q
  exact hold a i q
theorem pR {sh:Int} {nf:Nat} {mix:Int→Bool} {s:StM} {F:List FlM}:∀ (ms:List MvM) (W:Wk),nV W.stk (F++W.flows)→(dy sh nf mix s W ms).1=0→nV (dy sh nf mix s W ms).2.stk (F++(dy sh nf mix s W ms).2.flows)
 | [],_,h,_=>h
 | m::ms,W,h,he=>by
  have e:dy sh nf mix s W (m::ms)=if (cz sh nf mix s W m).1=0 then dy sh nf mix s (cz sh nf mix s W m).2 ms else ((cz sh nf mix s W m).1,W):=rfl
  rw [e] at he ⊢
  by_cases h1:(cz sh nf mix s W m).1=0
  ·rw [if_pos h1] at he ⊢
   exact pR ms _ (Bj h h1) he
  ·rw [if_neg h1] at he
   exact absurd he h1
def SrcI (S:LedM):Prop:=S.Ok∧nV S.stk S.flows
theorem sX (S:LedM) (s:StM) (h:SrcI S):SrcI (bz S s):=by
 refine ⟨ig h.1 fX,?_⟩
 unfold bz
 split
 ·rename_i he
  obtain ⟨h1,h2,_⟩:=lB h.1 fX he
  have e:tryM S s=dy S.shard S.flows.length (cP S.cat) (s.at (aW S)) (wk0 S) s.moves:=by
   unfold tryM
   rw [if_neg ab,if_neg (fun q=>q h2)]
  show nV (tryM S s).2.stk (S.flows++(tryM S s).2.flows)
  rw [e] at he ⊢
  refine pR s.moves (wk0 S) ?_ he
  show nV S.stk (S.flows++[])
  rw [bR]
  exact h.2
 ·exact h.2
theorem nZ {α:Type} [DecidableEq α]:∀ {l m:List α},l.Nodup→(∀ x∈l,x∈m)→l.length≤m.length
 | [],_,_,_=>ap _
 | x::l,m,hn,hs=>by
  obtain ⟨h1,h2⟩:=List.nodup_cons.1 hn
  have hx:=hs x aA
  have h3:=nZ (m:=m.erase x) h2 (fun y hy=>(List.mem_erase_of_ne (fun e=>h1 (by rw [← e];exact hy))).2 (hs y (az _ hy)))
  have h4:=List.length_erase_of_mem hx
  have h5:=List.length_pos_of_mem hx
  rw [aR]
  omega
end
section
open Go.V
attribute [local irreducible] G GO GP GPW GPK Ev Ef EfR Ent CB GB V.Enters
abbrev Hd:=Int×Int×Int
def dU (h:Int×Int×Int):List Value:=[.int .i64 h.1,.int .i64 h.2.1,.int .i64 h.2.2]
abbrev CD:List Stp:=[.ev 0,.ev 1,.ev 2,.ev 3,.ev 4,.ev 5,.ev 6,.ev 7,.ev 8]
theorem gY {φ ψ:Prop} (k:ψ) (h:Hid ψ→φ:=by intro k;(with_reducible apply G.a7);first|refine G.a6 (N:=26) (id:=6) CD mixed aj (Hid.out k)):φ:=h ⟨k⟩
theorem pN {L:List HP} (ad1 ad2:Option Addr) (n1 n2 c1 c2:Nat) (xs ys:List Hd) [Rds L ad1 Hd dU 3 xs] [Rds L ad2 Hd dU 3 ys] (h1:n1=xs.length) (h2:n2=ys.length) (hl:xs.length≤1000000000) :
  Tri Tryz.prog 34 #[.slice ad1 n1 c1,.slice ad2 n2 c2] L (fun v L'=>v=.bool (dB (xs=ys))∧L' = L):=by
 subst h1 h2
 refine Tri.body (args:=[.slice ad1 xs.length c1,.slice ad2 ys.length c2]) 26 en34 Tryz.func34 rfl rfl rfl (by simp) ?_
 by_cases he:xs.length=ys.length
 case neg =>
  rw [ay (fun h:xs=ys=>he (by rw [h]))]
  repeat first|refine aa ?_|intro _|refine gY ?_
  exact KX.a6 am (Ent.refl _) ⟨rfl,rfl⟩
 repeat first|refine aa ?_|intro _|refine gY ?_
 refine G.loop (α:=Nat) (fun i=>i≤xs.length∧xs.take i=ys.take i) (fun i=>[(0,.slice ad1 xs.length c1),(1,.slice ad2 ys.length c2),(5,.int .i64 (i:Int))]) (fun _=>L) (fun i=>xs.length - i) 0 ⟨ap _,by simp⟩ ao (Ent.refl _) ?_
 rintro i ⟨hi,ht⟩
 by_cases hlt:i<xs.length
 case neg =>
  have e:xs=ys:=by
   rw [ax ab,ax ab] at ht
   exact ht
  rw [aO e]
  repeat first|refine aa ?_|intro _|refine gY ?_
  exact KX.a6 am (Ent.refl _) ⟨rfl,rfl⟩
 have hii:(i:Int).toNat=i:=ab
 obtain ⟨x,hx⟩:∃ x,xs[i]! = x:=⟨_,rfl⟩
 obtain ⟨y,hy⟩:∃ y,ys[i]! = y:=⟨_,rfl⟩
 have hx2:xs[(i:Int).toNat]! = x:=by rw [hii];exact hx
 have hy2:ys[(i:Int).toNat]! = y:=by rw [hii];exact hy
 repeat first|refine aa ?_|intro _|refine gY ?_
 rw [hx2,hy2]
 refine GPW.evP (Ev.l9 (xs:=[x.1,x.2.1,x.2.2]) (ys:=[y.1,y.2.1,y.2.2]) (cs:=dU x) (ds:=dU y) (hc:=⟨rfl⟩) (hd:=⟨rfl⟩) rfl rfl rfl rfl) ac ?_
 by_cases e:x=y
 ·rw [ay (fun h:¬ [x.1,x.2.1,x.2.2]=[y.1,y.2.1,y.2.2]=>h (by rw [e]))]
  repeat first|refine aa ?_|intro _|refine gY ?_
  refine ⟨i+1,⟨ab,?_⟩,ab,?_,Ent.refl _⟩
  ·rw [au hlt,au ab,ht]
   rw [getElem!_of hlt] at hx
   rw [getElem!_of ab] at hy
   rw [hx,hy,e]
  ·rw [aF i]
   exact ao
 ·have e2:¬ [x.1,x.2.1,x.2.2]=[y.1,y.2.1,y.2.2]:=fun h=>e (by
   obtain ⟨a1,a2,a3⟩:=x
   obtain ⟨b1,b2,b3⟩:=y
   simpa using h)
  rw [aO e2,ay (fun h:xs=ys=>e (by rw [← hx,← hy,h]))]
  repeat first|refine aa ?_|intro _|refine gY ?_
  exact KX.a6 am (Ent.refl _) ⟨rfl,rfl⟩
end
section
open Go.V
attribute [local irreducible] G GO GP GPW GPK Ev Ef EfR Ent CB GB V.Enters
theorem iB (t:Hd):∀ u∈dU t,u.oneCell' = true:=by simp [dU,Value.oneCell']
abbrev tHd:Nat:=161
def hdC (x y:Hd):Int:=orI (cmpI x.1 y.1) (cmpI x.2.1 y.2.1)
def klt (x y:Hd):Prop:=x.1<y.1∨(x.1=y.1∧x.2.1<y.2.1)
theorem rK (x y:Hd):hdC x y<0↔klt x y:=by
 unfold hdC orI cmpI klt
 (repeat' split)<;>omega
theorem Fv:Go.Sort.SWO (ltOf hdC) where
 irrefl x:=by simp only [ltOf,decide_eq_false_iff_not];rw [rK];unfold klt;omega
 trans x y z h1 h2:=by simp only [ltOf,decide_eq_true_eq] at *;rw [rK] at *;unfold klt at *;omega
 ntrans x y z h1 h2:=by simp only [ltOf,decide_eq_false_iff_not] at *;rw [rK] at *;unfold klt at *;omega
abbrev Ba:List Stp:=[.ev 0,.ev 1,.ev 2,.ev 3,.ev 5,.ev 6,.ev 7,.ev 8,.ef 4,.ef 9,.ef 10,.ef 11,.ev 12]
theorem jG {φ ψ:Prop} (k:ψ) (h:Hid ψ→φ:=by intro k;(with_reducible apply G.a7);first|refine G.a6 (N:=17) (id:=1) Ba mixed aj (Hid.out k)):φ:=h ⟨k⟩
theorem Bu {L:List HP} (x y:Hd):Tri Tryz.prog 76 #[.agg (dU x).toArray,.agg (dU y).toArray] L (fun v L'=>v=.int .i64 (hdC x y)∧L' = L):=by
 refine Tri.body (args:=[.agg (dU x).toArray,.agg (dU y).toArray]) 17 en76 Tryz.func76 rfl rfl rfl (by simp) ?_
 repeat first|refine aa ?_|intro _|refine jG ?_
 refine GPW.ef (Ef.a6 (jy x.1 y.1) rfl) ac ?_
 rintro _ _ ⟨rfl,rfl⟩
 repeat first|refine aa ?_|intro _|refine jG ?_
 refine GPW.ef (Ef.a6 (jy x.2.1 y.2.1) rfl) ac ?_
 rintro _ _ ⟨rfl,rfl⟩
 repeat first|refine aa ?_|intro _|refine jG ?_
 rename_i bc
 refine GPW.ent (Ent.c6 (enc:=encZ .i64) (sz:=1) (xs:=[cmpI x.1 y.1,cmpI x.2.1 y.2.1]) rfl rfl (fun _ _=>rfl) (by simp)) ?_
 refine GPW.ef (Ef.a6 (nB (some ⟨bc,0,none⟩) 2 (cmpI x.1 y.1) (cmpI x.2.1 y.2.1)) rfl) ac ?_
 rintro _ _ ⟨rfl,rfl⟩
 repeat first|refine aa ?_|intro _|refine jG ?_
 exact KX.a6 am ai ⟨rfl,rfl⟩
theorem wI {E cap:Nat} {ad:Option Addr} {xs:List Hd} (hsz:xs.length<4611686018427387904) :
  Tri Tryz.prog 75 #[.slice ad xs.length cap,.func (.func 76) #[] #[]] [osl dU 3 E ad cap xs] (fun v L'=>v=.tuple #[]∧∃ ys,gG hdC xs ys∧L' = [osl dU 3 E ad cap ys]) :=
 Tri.c8 (ρ:=Tryz.a8) Tryz.c6 (k:=3) Tryz.isAgg161 Tryz.sizeOf161 (fun _=>rfl) iB (Lc:=[]) hdC Fv en75 en76 (fun _ _ _=>trivial) (fun x y=>(Bu (L:=[]) x y).mono (fun _ _ h=>h.1)) hsz
structure HoldL (f:Int→Int→Int) (hs:List Hd):Prop where
 srt:hs.Pairwise klt
 mem:∀ h,h∈hs↔h.2.2=f h.1 h.2.1∧h.2.2≠0
theorem rE {x:Hd}:¬klt x x:=by unfold klt;omega
theorem CS {x y:Hd} (h:klt x y):¬klt y x:=by unfold klt at *;omega
theorem nW:∀ {l m:List Hd},l.Pairwise klt→m.Pairwise klt→(∀ x,x∈l↔x∈m)→l=m
 | [],[],_,_,_=>rfl
 | [],y::m,_,_,h=>absurd ((h y).2 aA) (by simp)
 | x::l,[],_,_,h=>absurd ((h x).1 aA) (by simp)
 | x::l,y::m,h1,h2,h=>by
  obtain ⟨a1,a2⟩:=List.pairwise_cons.1 h1
  obtain ⟨b1,b2⟩:=List.pairwise_cons.1 h2
  have e:x=y:=by
   rcases List.mem_cons.1 ((h x).1 aA) with e|hx
   ·exact e
   ·rcases List.mem_cons.1 ((h y).2 aA) with e|hy
    ·exact e.symm
    ·exact absurd (a1 y hy) (CS (b1 x hx))
  subst e
  rw [nW a2 b2 (fun z=>?_)]
  constructor
  ·intro hz
   rcases List.mem_cons.1 ((h z).1 (az _ hz)) with e|q
   ·exact absurd (e▸a1 z hz) rE
   ·exact q
  ·intro hz
   rcases List.mem_cons.1 ((h z).2 (az _ hz)) with e|q
   ·exact absurd (e▸b1 z hz) rE
   ·exact q
theorem HoldL.unique {f g:Int→Int→Int} {l m:List Hd} (h1:HoldL f l) (h2:HoldL g m) (e:∀ a i,f a i=g a i):l=m :=
 nW h1.srt h2.srt (fun x=>by rw [h1.mem,h2.mem,e])
def balF (S:LedM) (a i:Int):Int:=lsum (S.stk a i)
def kN (p:(Int×Int)×Stk):Hd:=(p.1.1,p.1.2,lsum p.2.lots)
theorem zc {S:LedM} (h:S.Ok) {a i:Int}:lsum (S.stk a i)≠0↔S.stk a i≠[]:=by
 constructor
 ·intro q e
  exact q (by rw [e];rfl)
 ·intro q
  have:=kB (h.stk a i).2 (List.length_pos_iff.2 q)
  omega
theorem DX {S:LedM} {x:LedX} (hS:S.Ok) (hF:LedF S x) (hn:(x.stk.map (·.1)).Nodup) {ys:List Hd} (hy:gG hdC (x.stk.map kN) ys):HoldL (balF S) ys:=by
 have hlk:∀ p∈x.stk,S.stk p.1.1 p.1.2=p.2.lots:=fun p hp=>by
  rw [← hF.stk]
  unfold gB glk
  rw [fa hn hp]
  rfl
 have hkn:(ys.map (fun h=>(h.1,h.2.1))).Nodup:=by
  refine ((hy.1.map _).nodup_iff).2 ?_
  rw [cw]
  exact hn
 constructor
 ·have h2:=List.pairwise_map.1 hkn
  refine (List.pairwise_and_iff.2 ⟨hy.2,h2⟩).imp (fun {a b} h=>?_)
  obtain ⟨q1,q2⟩:=h
  rw [rK] at q1
  have q3:¬(a.1=b.1∧a.2.1=b.2.1):=fun e=>q2 (by rw [e.1,e.2])
  unfold klt at q1 ⊢
  omega
 ·intro h
  rw [hy.1.mem_iff,List.mem_map]
  constructor
  ·rintro ⟨p,hp,rfl⟩
   have e:=hlk p hp
   refine ⟨?_,?_⟩
   ·show lsum p.2.lots=lsum (S.stk p.1.1 p.1.2)
    rw [e]
   ·show lsum p.2.lots≠0
    rw [← e]
    refine (zc hS).2 ?_
    rw [e]
    exact hF.full p hp
  ·rintro ⟨e1,e2⟩
   have h3:S.stk h.1 h.2.1≠[]:=(zc hS).1 (by rw [e1] at e2;exact e2)
   have h4:=hF.stk h.1 h.2.1
   unfold gB at h4
   cases hg:glk x.stk (h.1,h.2.1) with
   | none =>
    rw [hg] at h4
    exact absurd h4.symm h3
   | some s =>
    rw [hg] at h4
    refine ⟨((h.1,h.2.1),s),iL hg,?_⟩
    obtain ⟨a,i,n⟩:=h
    show (a,i,lsum s.lots)=(a,i,n)
    have h5:s.lots=S.stk a i:=h4
    rw [h5]
    have h6:n=lsum (S.stk a i):=e1
    rw [h6]
theorem EY {S:LedM} {x:LedX} (hS:SrcI S) (hF:LedF S x) (hn:(x.stk.map (·.1)).Nodup):x.stk.length≤S.flows.length:=by
 have h:=nZ (m:=S.flows.map (fun f=>(f.to,f.item))) hn (fun k hk=>by
  obtain ⟨p,hp,rfl⟩:=List.mem_map.1 hk
  have e:S.stk p.1.1 p.1.2=p.2.lots:=by
   rw [← hF.stk]
   unfold gB glk
   rw [fa hn hp]
   rfl
  obtain ⟨f,hf,e1,e2⟩:=hS.2 p.1.1 p.1.2 (by rw [e];exact hF.full p hp)
  exact List.mem_map.2 ⟨f,hf,by rw [e1,e2]⟩)
 rw [av,av] at h
 exact h
abbrev Bb:List Stp:=[.ev 0,.ev 1,.ev 2,.ev 3,.ev 4,.ev 5,.ef 6,.ev 7,.ef 8,.ef 9,.ev 10]
theorem eY {φ ψ:Prop} (k:ψ) (h:Hid ψ→φ:=by intro k;(with_reducible apply G.a7);first|refine G.a6 (N:=35) (id:=5) Bb mixed aj (Hid.out k)):φ:=h ⟨k⟩
theorem rI {L:List HP} (b:Nat) (S:LedM) (x:LedX) (hF:LedF S x) (hS:SrcI S) (hfl:S.flows.length≤100000) :
  Tri Tryz.prog 32 #[.pointer (some ⟨b,0,none⟩)] (obj b tLed (bJ S.shard x)::gmap kvP Stk.v x.ms x.stk::allP (fun p:(Int×Int)×Stk=>stkP p.2) x.stk::L) (fun v L'=>∃ ad cap hs,v=.slice ad hs.length cap∧(HoldL (balF S) hs∧hs.length≤4194304)∧L' = osl dU 3 tHd ad cap hs::obj b tLed (bJ S.shard x)::gmap kvP Stk.v x.ms x.stk::allP (fun p:(Int×Int)×Stk=>stkP p.2) x.stk::L):=by
 refine Tri.body (args:=[.pointer (some ⟨b,0,none⟩)]) 35 en32 Tryz.func32 rfl rfl rfl (by simp) ?_
 simp only [bJ]
 refine G.c9 (hZ (b:=x.ms) (m:=x.stk) (kv:=kvP) (enc:=Stk.v)) ?_
 intro hnd
 have hfew:=EY hS hF hnd
 repeat first|refine aa ?_|intro _|refine eY ?_
 refine GO.ev (Ev.A3 rfl) ac ?_
 repeat first|refine aa ?_|intro _|refine eY ?_
 refine GO.ef (Ef.d8 dU ((0,0,0):Int×Int×Int) rfl rfl rfl ac ab ab ab) ac ?_
 rintro _ _ ⟨bs,rfl,rfl⟩
 rw [show List.replicate (0:Int).toNat ((0,0,0):Int×Int×Int)=[] from rfl]
 repeat first|refine aa ?_|intro _|refine eY ?_
 refine GO.ef (Ef.g6 rfl) ac ?_
 rintro _ _ ⟨r,rfl,rfl⟩
 repeat first|refine aa ?_|intro _|refine eY ?_
 refine G.loop (α:=Option Addr×Nat×List ((Int×Int)×Stk)) (fun z=>z.2.2.length≤x.stk.length) (fun z=>[(3,.slice z.1 (z.2.2.map kN).length z.2.1),(16,.pointer (some ⟨r,0,none⟩))]) (fun z=>eG kvP Stk.v x.ms x.stk r z.2.2::osl dU 3 tHd z.1 z.2.1 (z.2.2.map kN)::obj b tLed (bJ S.shard x)::allP (fun p:(Int×Int)×Stk=>stkP p.2) x.stk::L) (fun z=>x.stk.length - z.2.2.length) (some ⟨bs,0,none⟩,(x.stk.length:Int).toNat,[]) (ap _) ao (Ent.refl _) ?_
 rintro ⟨ad,cap,done⟩ hdl
 dsimp only at hdl ⊢
 have hml:(done.map kN).length=done.length:=by simp
 repeat first|refine aa ?_|intro _|refine eY ?_
 refine GO.ef (Ef.g9 rfl) ac ?_
 rintro _ _ (⟨rfl,rfl,hp⟩|⟨p,rfl,rfl,hpm,hpn,hl2⟩)
 ·have hdl2:=hp.length_eq
  repeat first|refine aa ?_|intro _|refine eY ?_
  (first|refine GO.ef (Ef.call (wI (E:=tHd) (ad:=ad) (cap:=cap) (xs:=done.map kN) ab) rfl (by repeat (first|exact Ent.refl _|apply Ent.take))) ac ?_)
  rintro _ _ ⟨_,⟨rfl,ys,hys,rfl⟩,hL⟩
  simp only [ae,ah] at hL;subst hL
  repeat first|refine aa ?_|intro _|refine eY ?_
  have hys2:gG hdC (x.stk.map kN) ys:=⟨hys.1.trans (hp.map kN),hys.2⟩
  have hyl:=hys.1.length_eq
  refine KX.a6 am ?_ ⟨ad,cap,ys,by rw [hyl];rfl,⟨DX hS.1 hF hnd hys2,ab⟩,rfl⟩
  refine (Ent.at (A:=eG kvP Stk.v x.ms x.stk r done) Ent.itEnd).trans ?_
  exact ai
 have hlk:p.2.lots=S.stk p.1.1 p.1.2:=by
  rw [← hF.stk]
  unfold gB glk
  rw [fa hnd hpm]
  rfl
 obtain ⟨hc1,hc2⟩:=hS.1.stk p.1.1 p.1.2
 rw [← hlk] at hc1 hc2
 refine GO.ent (Ent.at (A:=allP (fun p:(Int×Int)×Stk=>stkP p.2) x.stk) (Ent.a8 (x:=p) hpm)) ?_
 repeat first|refine aa ?_|intro _|refine eY ?_
 refine GO.ev (Ev.g8 (done:=done) rfl rfl) ac ?_
 simp only [kvP,Stk.v,aU,dV]
 repeat first|refine aa ?_|intro _|refine eY ?_
 refine GPW.ef (Ef.a6 (mC p.2.ad _ p.2.cap p.2.lots rfl ab hc2) rfl) ac ?_
 rintro _ _ ⟨rfl,rfl⟩
 repeat first|refine aa ?_|intro _|refine eY ?_
 refine GPW.ef (Ef.a7 (enc:=dU) (e:=kN p) rfl rfl rfl rfl rfl (by rfl) (iB _) ab ab) ac ?_
 rintro _ _ ⟨ad2,cap2,rfl,rfl⟩
 repeat first|refine aa ?_|intro _|refine eY ?_
 refine ⟨(ad2,cap2,done++[p]),by dsimp only;simp;omega,by dsimp only;simp;omega,?_,?_⟩
 ·dsimp only
  rw [aK]
  exact ao
 ·dsimp only
  rw [aK,show List.map kN [p]=[kN p] from rfl]
  exact ai
theorem uc {L:List HP} (b:Nat) (S:LedM) (hS:SrcI S) (hfl:S.flows.length≤100000) :
  Tri Tryz.prog 32 #[.pointer (some ⟨b,0,none⟩)] (LedR b S::L) (fun v L'=>∃ ad cap hs,v=.slice ad hs.length cap∧(HoldL (balF S) hs∧hs.length≤4194304)∧L' = osl dU 3 tHd ad cap hs::LedR b S::L):=by
 refine Tri.a7 (g:=ledA b S) en32 ?_
 intro x
 show Tri _ _ _ (cj (LedF S x)::ledL b S.shard x L) _
 refine Tri.a6 en32 ?_
 intro hF
 refine ((rI (L:=gmap kvI encN x.mt x.tot::asl be 7 dd x.sad x.scap x.steps::asl cq 11 de x.fad x.fcap x.flows::gmap kvI Stk.v x.mi x.imp::gmap kvI Stk.v x.mr x.ret::catP x.cat::allP gj x.steps::allP flP x.flows::allP (fun p:Int×Stk=>stkP p.2) x.imp::allP (fun p:Int×Stk=>stkP p.2) x.ret::L) b S x hF hS hfl).pre (by simp only [ledL,ae,ah];exact ai)).conseq ?_
 rintro _ _ ⟨ad,cap,hs,h1,h2,rfl⟩
 refine ⟨_,⟨ad,cap,hs,h1,h2,rfl⟩,?_⟩
 refine Ent.trans ?_ (Ent.a6 (gQ x hF))
 simp only [ledL]
 exact ai
def ledW (b:Nat) (S:LedM) (x:LedX):List HP:=[cj (LedF S x),obj b tLed (bJ S.shard x),gmap kvP Stk.v x.ms x.stk,allP (fun p:(Int×Int)×Stk=>stkP p.2) x.stk]
def LedW (b:Nat) (S:LedM):HP:=hex fun x=>bK (ledW b S x)
theorem ti {b:Nat} {S:LedM} {L:List HP} (x:LedX) (h:LedF S x):Ent (obj b tLed (bJ S.shard x)::gmap kvP Stk.v x.ms x.stk::allP (fun p:(Int×Int)×Stk=>stkP p.2) x.stk::L) (LedW b S::L) :=
 Ent.e9 (f:=ledW b S) x (Ent.pure h (Ent.refl _))
theorem rJ {L:List HP} (b:Nat) (S:LedM) (hS:SrcI S) (hfl:S.flows.length≤100000) :
  Tri Tryz.prog 32 #[.pointer (some ⟨b,0,none⟩)] (LedW b S::L) (fun v L'=>∃ ad cap hs,v=.slice ad hs.length cap∧(HoldL (balF S) hs∧hs.length≤4194304)∧L' = osl dU 3 tHd ad cap hs::LedW b S::L):=by
 refine Tri.a7 (g:=ledW b S) en32 ?_
 intro x
 show Tri _ _ _ (cj (LedF S x)::obj b tLed (bJ S.shard x)::gmap kvP Stk.v x.ms x.stk::allP (fun p:(Int×Int)×Stk=>stkP p.2) x.stk::L) _
 refine Tri.a6 en32 ?_
 intro hF
 refine (rI (L:=L) b S x hF hS hfl).conseq ?_
 rintro _ _ ⟨ad,cap,hs,h1,h2,rfl⟩
 exact ⟨_,⟨ad,cap,hs,h1,h2,rfl⟩,Ent.a6 (ti x hF)⟩
end
section
open Go.V
attribute [local irreducible] G GO GP GPW GPK Ev Ef EfR Ent CB GB V.Enters
theorem uu {L:List HP} (ad:Option Addr) (n c:Nat):Tri Tryz.prog 42 #[.pointer none,.slice ad n c] L (fun v L'=>v=.tuple #[.pointer none,.int .i64 1]∧L' = L):=by
 refine Tri.body (args:=[.pointer none,.slice ad n c]) 25 en42 Tryz.func42 rfl rfl rfl (by simp) ?_
 repeat first|refine aa ?_|intro
 exact KX.a6 am ai ⟨rfl,rfl⟩
theorem uv {L:List HP} (lb:Nat) (ad:Option Addr) (n c:Nat) (xs:List Int) [hr:Rds L ad Int (encZ .u8) 1 xs] (hn:n=xs.length) :
  Tri Tryz.prog 42 #[.pointer (some ⟨lb,0,none⟩),.slice ad n c] L (fun v L'=>∃ p k,v=.tuple #[.pointer p,.int .i64 k]∧(((1≤n∧n≤4096)∧k=0∧∃ yb,p=some ⟨yb,0,none⟩)∨(¬(1≤n∧n≤4096)∧k=1∧p=none))∧L' = L):=by
 by_cases h:1≤n∧n≤4096
 case pos =>
  refine (lE (L:=L) lb ad n c xs hn h.1 h.2).conseq ?_
  rintro _ _ ⟨yb,rfl,rfl⟩
  exact ⟨L,⟨_,_,rfl,.inl ⟨h,rfl,yb,rfl⟩,rfl⟩,by exact ai⟩
 refine Tri.body (args:=[.pointer (some ⟨lb,0,none⟩),.slice ad n c]) 25 en42 Tryz.func42 rfl rfl rfl (by simp) ?_
 by_cases h1:n=0
 ·subst h1
  repeat first|refine aa ?_|intro
  exact KX.a6 am ai ⟨_,_,rfl,.inr ⟨h,rfl,rfl⟩,rfl⟩
 have h2:4096<n:=ab
 repeat first|refine aa ?_|intro
 exact KX.a6 am ai ⟨_,_,rfl,.inr ⟨h,rfl,rfl⟩,rfl⟩
theorem yy {L:List HP} (b:Nat) (S:LedM) (hS:S.Ok):Tri Tryz.prog 43 #[.pointer (some ⟨b,0,none⟩)] (LedR b S::L) (fun v L'=>∃ b',v=.pointer (some ⟨b',0,none⟩)∧L' = LedR b' S::LedW b S::L):=by
 refine Tri.a7 (g:=ledA b S) en43 ?_
 intro x
 show Tri _ _ _ (cj (LedF S x)::ledL b S.shard x L) _
 refine Tri.a6 en43 ?_
 intro hF
 have hss:=hS.steps
 have hsf:=hS.flows
 have e1:x.steps.length=S.steps.length:=by rw [← hF.steps];simp
 have e2:x.flows.length=S.flows.length:=by rw [← hF.flows];simp
 refine Tri.fact en43 (φ:=x.steps.length≤x.scap∧x.flows.length≤x.fcap) (fun θ R w s=>⟨(pA (L:=ledL b S.shard x L) (ad:=x.sad) θ R w s).1,(pA (L:=ledL b S.shard x L) (ad:=x.fad) θ R w s).1⟩) ?_
 intro hc
 refine ((rD (L:=L) b S x hc.1 hc.2).pre (by simp only [ledL,ae,ah];exact Ent.refl _)).conseq ?_
 rintro _ _ ⟨b',m1,m2,m3,m4,rfl,rfl⟩
 refine ⟨_,⟨b',rfl,rfl⟩,?_⟩
 have hF2:LedF S { x with ms:=m1,mt:=m2,mi:=m3,mr:=m4,scap:=x.steps.length,fcap:=x.flows.length }:=⟨hF.cat,hF.catB,hF.stk,hF.full,hF.tot,hF.steps,hF.flows,hF.imp,hF.ret⟩
 refine Ent.trans ?_ (gQ (b:=b') _ hF2)
 simp only [ledL,bJ]
 refine Ent.trans (B:=asl be 7 dd x.sad x.scap x.steps::asl cq 11 de x.fad x.fcap x.flows::allP (fun p:(Int×Int)×Stk=>stkP p.2) x.stk::obj b' tLed (bJ S.shard { x with ms:=m1,mt:=m2,mi:=m3,mr:=m4,scap:=x.steps.length,fcap:=x.flows.length })::gmap kvP Stk.v m1 x.stk::gmap kvI encN m2 x.tot::gmap kvI Stk.v m3 x.imp::gmap kvI Stk.v m4 x.ret::obj b tLed (bJ S.shard x)::gmap kvP Stk.v x.ms x.stk::catP x.cat::allP gj x.steps::allP flP x.flows::allP (fun p:Int×Stk=>stkP p.2) x.imp::allP (fun p:Int×Stk=>stkP p.2) x.ret::L) (by simp only [bJ];exact ai) ?_
 refine Ent.freezeA.trans ((Ent.g9 (E:=dd) (by simp only [maxLen];omega)).trans ?_)
 refine Ent.trans (B:=asl cq 11 de x.fad x.fcap x.flows::asl be 7 dd x.sad x.steps.length x.steps::allP (fun p:(Int×Int)×Stk=>stkP p.2) x.stk::obj b' tLed (bJ S.shard { x with ms:=m1,mt:=m2,mi:=m3,mr:=m4,scap:=x.steps.length,fcap:=x.flows.length })::gmap kvP Stk.v m1 x.stk::gmap kvI encN m2 x.tot::gmap kvI Stk.v m3 x.imp::gmap kvI Stk.v m4 x.ret::obj b tLed (bJ S.shard x)::gmap kvP Stk.v x.ms x.stk::catP x.cat::allP gj x.steps::allP flP x.flows::allP (fun p:Int×Stk=>stkP p.2) x.imp::allP (fun p:Int×Stk=>stkP p.2) x.ret::L) ai ?_
 refine Ent.freezeA.trans ((Ent.g9 (E:=de) (by simp only [maxLen];omega)).trans ?_)
 refine Ent.trans (B:=allP (fun p:(Int×Int)×Stk=>stkP p.2) x.stk::asl cq 11 de x.fad x.flows.length x.flows::asl be 7 dd x.sad x.steps.length x.steps::obj b' tLed (bJ S.shard { x with ms:=m1,mt:=m2,mi:=m3,mr:=m4,scap:=x.steps.length,fcap:=x.flows.length })::gmap kvP Stk.v m1 x.stk::gmap kvI encN m2 x.tot::gmap kvI Stk.v m3 x.imp::gmap kvI Stk.v m4 x.ret::obj b tLed (bJ S.shard x)::gmap kvP Stk.v x.ms x.stk::catP x.cat::allP gj x.steps::allP flP x.flows::allP (fun p:Int×Stk=>stkP p.2) x.imp::allP (fun p:Int×Stk=>stkP p.2) x.ret::L) ai ?_
 refine (Ent.dup (mB _ _)).trans ?_
 refine Ent.trans (B:=obj b tLed (bJ S.shard x)::gmap kvP Stk.v x.ms x.stk::allP (fun p:(Int×Int)×Stk=>stkP p.2) x.stk::allP (fun p:(Int×Int)×Stk=>stkP p.2) x.stk::asl cq 11 de x.fad x.flows.length x.flows::asl be 7 dd x.sad x.steps.length x.steps::obj b' tLed (bJ S.shard { x with ms:=m1,mt:=m2,mi:=m3,mr:=m4,scap:=x.steps.length,fcap:=x.flows.length })::gmap kvP Stk.v m1 x.stk::gmap kvI encN m2 x.tot::gmap kvI Stk.v m3 x.imp::gmap kvI Stk.v m4 x.ret::catP x.cat::allP gj x.steps::allP flP x.flows::allP (fun p:Int×Stk=>stkP p.2) x.imp::allP (fun p:Int×Stk=>stkP p.2) x.ret::L) ai ?_
 refine (ti x hF).trans ?_
 simp only [bJ]
 exact ai
end
end Go.Proofs.YtfmgkkofledkbaaGreatDoor
