/- Lemmas and contracts of functions. -/
import Derived.Test.YtfmgkkofledkbaaGreatDoorGCraftTwos
set_option linter.all false
set_option maxHeartbeats 1000000
namespace Go.Proofs.YtfmgkkofledkbaaGreatDoor
open Go.V
attribute [local irreducible] G GO GP GPW GPK Ev Ef EfR Ent CB GB V.Enters
section
abbrev Hd:=Int×Int×Int
def cP (h:Int×Int×Int):List Value:=[.int .i64 h.1,.int .i64 h.2.1,.int .i64 h.2.2]
abbrev Bz:List Stp:=[.ev 0,.ev 1,.ev 2,.ev 3,.ev 4,.ev 5,.ev 6,.ev 7,.ev 8]
theorem fm {φ ψ:Prop} (k:ψ) (h:Hid ψ→φ:=by intro k;(with_reducible apply G.a7);first|refine G.a6 (N:=26) (id:=6) Bz mixed ah (Hid.out k)):φ:=h ⟨k⟩
theorem kO {L:List HP} (ad1 ad2:Option Addr) (n1 n2 c1 c2:Nat) (xs ys:List Hd) [Rds L ad1 Hd cP 3 xs] [Rds L ad2 Hd cP 3 ys] (h1:n1=xs.length) (h2:n2=ys.length) (hl:xs.length≤1000000000) :
  Tri Tryz.prog 34 #[.slice ad1 n1 c1,.slice ad2 n2 c2] L (fun v L'=>v=.bool (dB (xs=ys))∧L' = L):=by
 subst h1 h2
 refine Tri.body (args:=[.slice ad1 xs.length c1,.slice ad2 ys.length c2]) 26 en34 Tryz.func34 rfl rfl rfl (by simp) ?_
 by_cases he:xs.length=ys.length
 case neg =>
  rw [ao (fun h:xs=ys=>he (by rw [h]))]
  repeat first|refine aa ?_|intro _|refine fm ?_
  exact KX.a6 ai (Ent.refl _) ⟨rfl,rfl⟩
 repeat first|refine aa ?_|intro _|refine fm ?_
 refine G.loop (α:=Nat) (fun i=>i≤xs.length∧xs.take i=ys.take i) (fun i=>[(0,.slice ad1 xs.length c1),(1,.slice ad2 ys.length c2),(5,.int .i64 (i:Int))]) (fun _=>L) (fun i=>xs.length - i) 0 ⟨Nat.zero_le _,by simp⟩ aj (Ent.refl _) ?_
 rintro i ⟨hi,ht⟩
 by_cases hlt:i<xs.length
 case neg =>
  have e:xs=ys:=by
   rw [List.take_of_length_le ab,List.take_of_length_le ab] at ht
   exact ht
  rw [ay e]
  repeat first|refine aa ?_|intro _|refine fm ?_
  exact KX.a6 ai (Ent.refl _) ⟨rfl,rfl⟩
 have hii:(i:Int).toNat=i:=ab
 obtain ⟨x,hx⟩:∃ x,xs[i]! = x:=⟨_,rfl⟩
 obtain ⟨y,hy⟩:∃ y,ys[i]! = y:=⟨_,rfl⟩
 have hx2:xs[(i:Int).toNat]! = x:=by rw [hii];exact hx
 have hy2:ys[(i:Int).toNat]! = y:=by rw [hii];exact hy
 repeat first|refine aa ?_|intro _|refine fm ?_
 rw [hx2,hy2]
 refine GPW.evP (Ev.l9 (xs:=[x.1,x.2.1,x.2.2]) (ys:=[y.1,y.2.1,y.2.2]) (cs:=cP x) (ds:=cP y) (hc:=⟨rfl⟩) (hd:=⟨rfl⟩) rfl rfl rfl rfl) ac ?_
 by_cases e:x=y
 ·rw [ao (fun h:¬ [x.1,x.2.1,x.2.2]=[y.1,y.2.1,y.2.2]=>h (by rw [e]))]
  repeat first|refine aa ?_|intro _|refine fm ?_
  refine ⟨i+1,⟨ab,?_⟩,ab,?_,Ent.refl _⟩
  ·rw [List.take_succ_eq_append_getElem hlt,List.take_succ_eq_append_getElem ab,ht]
   rw [getElem!_of hlt] at hx
   rw [getElem!_of ab] at hy
   rw [hx,hy,e]
  ·rw [aq i]
   exact aj
 ·have e2:¬ [x.1,x.2.1,x.2.2]=[y.1,y.2.1,y.2.2]:=fun h=>e (by
   obtain ⟨a1,a2,a3⟩:=x
   obtain ⟨b1,b2,b3⟩:=y
   simpa using h)
  rw [ay e2,ao (fun h:xs=ys=>e (by rw [← hx,← hy,h]))]
  repeat first|refine aa ?_|intro _|refine fm ?_
  exact KX.a6 ai (Ent.refl _) ⟨rfl,rfl⟩
end
end Go.Proofs.YtfmgkkofledkbaaGreatDoor
namespace Go.Proofs.YtfmgkkofledkbaaGreatDoor
open Go.V
attribute [local irreducible] tryM cR db cQ
section
attribute [local irreducible] aG cF
variable {B:LedM→Prop} (hp:∀ S s,B S→B (aG S s))
include hp
theorem nO {acc tick hold:Int} {S:LedM} (h:B S):∀ k,B (gbM acc tick hold S k)
 | 0=>h
 | k+1=>by
  rw [ig]
  unfold gbS
  split
  ·exact nO h k
  ·exact hp _ _ (nO h k)
theorem Di {S:LedM} (h:B S) (seed:List Int) (j:JobM) (tick:Int):B (endJ S seed j tick).1:=by
 unfold endJ dl
 exact nO hp (hp _ _ (hp _ _ h)) _
theorem uR {tick:Int}:∀ (ids:List Nat) (p:LedM×YardM),B p.1→B (ids.foldl (endM tick) p).1
 | [],_,h=>h
 | k::ids,p,h=>uR ids (endM tick p k) (Di hp h _ _ _)
theorem EG {S:LedM} {Y:YardM} (h:B S) (tick:Int):B (advM S Y tick).2.1:=by
 by_cases h1:aU Y.tick S.now tick
 ·obtain ⟨ids,hids⟩:=fb Y.jobs tick
  rw [ge h1 hids,mu]
  exact uR hp ids (S,{ Y with tick:=tick }) h
 ·rw [em h1]
  exact h
theorem rB {S:LedM} {Y:YardM} (h:B S) (acc level rule times tick:Int):B (bA S Y acc level rule times tick).2.1:=by
 rcases eA S Y acc level rule times tick with ⟨e,_⟩|⟨_,_,_,_,_,e⟩
 ·rw [e]
  exact h
 ·rw [e]
  dsimp only
  split
  ·exact h
  ·exact hp _ _ h
theorem qJ {S:LedM} {Y:YardM} (h:B S) (acc job tick:Int):B (aY S Y acc job tick).2.1:=by
 unfold aY
 split
 ·exact h
 ·split
  ·exact h
  ·split
   ·exact h
   ·split
    ·exact h
    ·exact nO hp h _
theorem Bc {S:LedM} {Y:YardM} (h:B S) (acc rule times tick:Int):B (bH S Y acc rule times tick).2.1:=by
 unfold bH
 split
 ·exact h
 ·split
  ·exact h
  ·exact hp _ _ h
theorem CP {S:LedM} {Y:YardM} (h:B S) (acc table tick:Int):B (bT S Y acc table tick).2.1:=by
 by_cases h1:aL acc∧aU Y.tick S.now tick
 case neg =>
  rw [fa h1]
  exact h
 by_cases h2:0≤table∧table<S.cat.tables.length
 case neg =>
  rw [eC h1.1 h1.2 h2]
  exact h
 obtain ⟨p,hp'⟩:∃ p,p=db (cR Y.seed Y.loots) (S.cat.tables[table.toNat]!.rows.map (·.weight)) 0:=⟨_,rfl⟩
 rw [fD h1.1 h1.2 h2 rfl rfl hp']
 clear hp'
 generalize S.cat.tables[table.toNat]!.rows[p.1.toNat]!.give=gv
 by_cases h3:p.2.1=0
 case neg =>
  rw [if_pos h3]
  exact h
 rw [if_neg (fun q=>q h3)]
 by_cases h4:gv.length=0
 case pos =>
  rw [if_pos h4]
  exact h
 rw [if_neg h4]
 by_cases h5:(tryM S (cI acc gv 1 tick)).1=0
 case neg =>
  rw [if_pos h5]
  exact h
 rw [if_neg (fun q=>q h5)]
 exact hp _ _ h
attribute [local irreducible] bT advM bA aY bH
theorem EF {S:LedM} {Y:YardM} (h:B S) (o:OpM):B (doM S Y o).2.1:=by
 unfold doM
 split
 ·exact rB hp h _ _ _ _ _
 ·split
  ·exact qJ hp h _ _ _
  ·split
   ·exact EG hp h _
   ·split
    ·exact Bc hp h _ _ _ _
    ·split
     ·exact CP hp h _ _ _
     ·exact hp _ _ h
attribute [local irreducible] doM
theorem lD {S:LedM} {Y:YardM} (h:B S) {ops:List OpM}:∀ n,n≤ops.length→B (runS S Y ops n).1
 | 0,_=>h
 | n+1,hn=>by
  rw [fO ab]
  exact EF hp (lD h n ab) _
end
def my (stk:Int→Int→List Lot) (F:List FlM):Prop:=∀ a i,stk a i≠[]→∃ f∈F,f.to=a∧f.item=i
theorem yB {mix:Int→Bool} {W:Wk} {m:MvM} {a i:Int} (h:bE mix W m a i≠[]):W.stk a i≠[]:=by
 unfold bE at h
 split at h
 ·exact h
 ·unfold upd2 at h
  split at h
  ·rename_i e
   intro q
   apply h
   have h1:=(gO (W.stk m.frm m.item) (tkC (mix m.item) (W.stk m.frm m.item) m.n) (W.stk m.frm m.item).length).2
   rw [← e.1,← e.2] at h1 ⊢
   apply List.eq_nil_of_length_eq_zero
   unfold eQ
   have h2:(W.stk a i).length=0:=by rw [q];rfl
   omega
  ·exact h
theorem Aj {sh:Int} {nf:Nat} {mix:Int→Bool} {s:StM} {W:Wk} {m:MvM} {F:List FlM} (h:my W.stk (F++W.flows)) (he:(ba sh nf mix s W m).1=0):my (ba sh nf mix s W m).2.stk (F++(ba sh nf mix s W m).2.flows):=by
 unfold ba at he ⊢
 by_cases h1:m.frm≠0∧lsum (W.stk m.frm m.item)<m.n
 ·rw [if_pos h1] at he;exact absurd (show (10:Int)=0 from he) ab
 rw [if_neg h1] at he ⊢
 by_cases h2:bU W m>1099511627776
 ·rw [if_pos h2] at he;exact absurd (show (4:Int)=0 from he) ab
 rw [if_neg h2] at he ⊢
 have hold:∀ a i,bE mix W m a i≠[]→∃ f∈F++(W.flows++[dG sh nf mix s W m]),f.to=a∧f.item=i:=fun a i q=>by
  obtain ⟨f,hf,e⟩:=h a i (yB q)
  rw [← List.append_assoc]
  exact ⟨f,List.mem_append_left _ hf,e⟩
 by_cases h3:m.to=0
 ·rw [if_pos h3]
  exact hold
 rw [if_neg h3] at he ⊢
 by_cases h4:4096≤(bE mix W m m.to m.item).length
 ·rw [if_pos h4] at he;exact absurd (show (4:Int)=0 from he) ab
 rw [if_neg h4]
 intro a i q
 dsimp only at q ⊢
 by_cases e:a=m.to∧i=m.item
 ·exact ⟨dG sh nf mix s W m,by simp,e.1.symm,e.2.symm⟩
 ·unfold upd2 at q
  rw [if_neg e] at q
  exact hold a i q
theorem ow {sh:Int} {nf:Nat} {mix:Int→Bool} {s:StM} {F:List FlM}:∀ (ms:List MvM) (W:Wk),my W.stk (F++W.flows)→(bK sh nf mix s W ms).1=0→my (bK sh nf mix s W ms).2.stk (F++(bK sh nf mix s W ms).2.flows)
 | [],_,h,_=>h
 | m::ms,W,h,he=>by
  have e:bK sh nf mix s W (m::ms)=if (ba sh nf mix s W m).1=0 then bK sh nf mix s (ba sh nf mix s W m).2 ms else ((ba sh nf mix s W m).1,W):=rfl
  rw [e] at he ⊢
  by_cases h1:(ba sh nf mix s W m).1=0
  ·rw [if_pos h1] at he ⊢
   exact ow ms _ (Aj h h1) he
  ·rw [if_neg h1] at he
   exact absurd he h1
def SrcI (S:LedM):Prop:=S.Ok∧my S.stk S.flows
theorem ky (S:LedM) (s:StM) (h:SrcI S):SrcI (aG S s):=by
 refine ⟨eY h.1 dz,?_⟩
 unfold aG
 split
 ·rename_i he
  obtain ⟨h1,h2,_⟩:=gI h.1 dz he
  have e:tryM S s=bK S.shard S.flows.length (bN S.cat) (s.at (aB S)) (wk0 S) s.moves:=by
   unfold tryM
   rw [if_neg ab,if_neg (fun q=>q h2)]
  show my (tryM S s).2.stk (S.flows++(tryM S s).2.flows)
  rw [e] at he ⊢
  refine ow s.moves (wk0 S) ?_ he
  show my S.stk (S.flows++[])
  rw [List.append_nil]
  exact h.2
 ·exact h.2
theorem mC {α:Type} [DecidableEq α]:∀ {l m:List α},l.Nodup→(∀ x∈l,x∈m)→l.length≤m.length
 | [],_,_,_=>Nat.zero_le _
 | x::l,m,hn,hs=>by
  obtain ⟨h1,h2⟩:=List.nodup_cons.1 hn
  have hx:=hs x List.mem_cons_self
  have h3:=mC (m:=m.erase x) h2 (fun y hy=>(List.mem_erase_of_ne (fun e=>h1 (by rw [← e];exact hy))).2 (hs y (List.mem_cons_of_mem _ hy)))
  have h4:=List.length_erase_of_mem hx
  have h5:=List.length_pos_of_mem hx
  rw [List.length_cons]
  omega
end Go.Proofs.YtfmgkkofledkbaaGreatDoor
namespace Go.Proofs.YtfmgkkofledkbaaGreatDoor
open Go.V
attribute [local irreducible] G GO GP GPW GPK Ev Ef EfR Ent CB GB V.Enters
section
theorem fP (t:Hd):∀ u∈cP t,u.oneCell' = true:=by simp [cP,Value.oneCell']
abbrev tHd:Nat:=161
def hdC (x y:Hd):Int:=orI (cmpI x.1 y.1) (cmpI x.2.1 y.2.1)
def klt (x y:Hd):Prop:=x.1<y.1∨(x.1=y.1∧x.2.1<y.2.1)
theorem qs (x y:Hd):hdC x y<0↔klt x y:=by
 unfold hdC orI cmpI klt
 (repeat' split)<;>omega
theorem Es:Go.Sort.SWO (ltOf hdC) where
 irrefl x:=by simp only [ltOf,decide_eq_false_iff_not];rw [qs];unfold klt;omega
 trans x y z h1 h2:=by simp only [ltOf,decide_eq_true_eq] at *;rw [qs] at *;unfold klt at *;omega
 ntrans x y z h1 h2:=by simp only [ltOf,decide_eq_false_iff_not] at *;rw [qs] at *;unfold klt at *;omega
abbrev Ab:List Stp:=[.ev 0,.ev 1,.ev 2,.ev 3,.ev 5,.ev 6,.ev 7,.ev 8,.ef 4,.ef 9,.ef 10,.ef 11,.ev 12]
theorem hZ {φ ψ:Prop} (k:ψ) (h:Hid ψ→φ:=by intro k;(with_reducible apply G.a7);first|refine G.a6 (N:=17) (id:=1) Ab mixed ah (Hid.out k)):φ:=h ⟨k⟩
theorem Aw {L:List HP} (x y:Hd):Tri Tryz.prog 76 #[.agg (cP x).toArray,.agg (cP y).toArray] L (fun v L'=>v=.int .i64 (hdC x y)∧L' = L):=by
 refine Tri.body (args:=[.agg (cP x).toArray,.agg (cP y).toArray]) 17 en76 Tryz.func76 rfl rfl rfl (by simp) ?_
 repeat first|refine aa ?_|intro _|refine hZ ?_
 refine GPW.ef (Ef.a6 (gU x.1 y.1) rfl) ac ?_
 rintro _ _ ⟨rfl,rfl⟩
 repeat first|refine aa ?_|intro _|refine hZ ?_
 refine GPW.ef (Ef.a6 (gU x.2.1 y.2.1) rfl) ac ?_
 rintro _ _ ⟨rfl,rfl⟩
 repeat first|refine aa ?_|intro _|refine hZ ?_
 rename_i bc
 refine GPW.ent (Ent.c6 (enc:=encZ .i64) (sz:=1) (xs:=[cmpI x.1 y.1,cmpI x.2.1 y.2.1]) rfl rfl (fun _ _=>rfl) (by simp)) ?_
 refine GPW.ef (Ef.a6 (lR (some ⟨bc,0,none⟩) 2 (cmpI x.1 y.1) (cmpI x.2.1 y.2.1)) rfl) ac ?_
 rintro _ _ ⟨rfl,rfl⟩
 repeat first|refine aa ?_|intro _|refine hZ ?_
 exact KX.a6 ai ae ⟨rfl,rfl⟩
theorem vC {E cap:Nat} {ad:Option Addr} {xs:List Hd} (hsz:xs.length<4611686018427387904) :
  Tri Tryz.prog 75 #[.slice ad xs.length cap,.func (.func 76) #[] #[]] [osl cP 3 E ad cap xs] (fun v L'=>v=.tuple #[]∧∃ ys,eM hdC xs ys∧L' = [osl cP 3 E ad cap ys]) :=
 Tri.c6 (ρ:=Tryz.a8) Tryz.c6 (k:=3) Tryz.isAgg161 Tryz.sizeOf161 (fun _=>rfl) fP (Lc:=[]) hdC Es en75 en76 (fun _ _ _=>trivial) (fun x y=>(Aw (L:=[]) x y).mono (fun _ _ h=>h.1)) hsz
structure HoldL (f:Int→Int→Int) (hs:List Hd):Prop where
 srt:hs.Pairwise klt
 mem:∀ h,h∈hs↔h.2.2=f h.1 h.2.1∧h.2.2≠0
theorem qn {x:Hd}:¬klt x x:=by unfold klt;omega
theorem BP {x y:Hd} (h:klt x y):¬klt y x:=by unfold klt at *;omega
theorem mz:∀ {l m:List Hd},l.Pairwise klt→m.Pairwise klt→(∀ x,x∈l↔x∈m)→l=m
 | [],[],_,_,_=>rfl
 | [],y::m,_,_,h=>absurd ((h y).2 List.mem_cons_self) (by simp)
 | x::l,[],_,_,h=>absurd ((h x).1 List.mem_cons_self) (by simp)
 | x::l,y::m,h1,h2,h=>by
  obtain ⟨a1,a2⟩:=List.pairwise_cons.1 h1
  obtain ⟨b1,b2⟩:=List.pairwise_cons.1 h2
  have e:x=y:=by
   rcases List.mem_cons.1 ((h x).1 List.mem_cons_self) with e|hx
   ·exact e
   ·rcases List.mem_cons.1 ((h y).2 List.mem_cons_self) with e|hy
    ·exact e.symm
    ·exact absurd (a1 y hy) (BP (b1 x hx))
  subst e
  rw [mz a2 b2 (fun z=>?_)]
  constructor
  ·intro hz
   rcases List.mem_cons.1 ((h z).1 (List.mem_cons_of_mem _ hz)) with e|q
   ·exact absurd (e▸a1 z hz) qn
   ·exact q
  ·intro hz
   rcases List.mem_cons.1 ((h z).2 (List.mem_cons_of_mem _ hz)) with e|q
   ·exact absurd (e▸b1 z hz) qn
   ·exact q
theorem HoldL.unique {f g:Int→Int→Int} {l m:List Hd} (h1:HoldL f l) (h2:HoldL g m) (e:∀ a i,f a i=g a i):l=m :=
 mz h1.srt h2.srt (fun x=>by rw [h1.mem,h2.mem,e])
def balF (S:LedM) (a i:Int):Int:=lsum (S.stk a i)
def jh (p:(Int×Int)×Stk):Hd:=(p.1.1,p.1.2,lsum p.2.lots)
theorem xZ {S:LedM} (h:S.Ok) {a i:Int}:lsum (S.stk a i)≠0↔S.stk a i≠[]:=by
 constructor
 ·intro q e
  exact q (by rw [e];rfl)
 ·intro q
  have:=iV (h.stk a i).2 (List.length_pos_iff.2 q)
  omega
theorem CX {S:LedM} {x:LedX} (hS:S.Ok) (hF:LedF S x) (hn:(x.stk.map (·.1)).Nodup) {ys:List Hd} (hy:eM hdC (x.stk.map jh) ys):HoldL (balF S) ys:=by
 have hlk:∀ p∈x.stk,S.stk p.1.1 p.1.2=p.2.lots:=fun p hp=>by
  rw [← hF.stk]
  unfold eI glk
  rw [du hn hp]
  rfl
 have hkn:(ys.map (fun h=>(h.1,h.2.1))).Nodup:=by
  refine ((hy.1.map _).nodup_iff).2 ?_
  rw [List.map_map]
  exact hn
 constructor
 ·have h2:=List.pairwise_map.1 hkn
  refine (List.pairwise_and_iff.2 ⟨hy.2,h2⟩).imp (fun {a b} h=>?_)
  obtain ⟨q1,q2⟩:=h
  rw [qs] at q1
  have q3:¬(a.1=b.1∧a.2.1=b.2.1):=fun e=>q2 (by rw [e.1,e.2])
  unfold klt at q1 ⊢
  omega
 ·intro h
  rw [hy.1.mem_iff,List.mem_map]
  constructor
  ·rintro ⟨p,hp,rfl⟩
   have e:=hlk p hp
   refine ⟨?_,?_⟩
   ·show lsum p.2.lots=lsum (S.stk p.1.1 p.1.2)
    rw [e]
   ·show lsum p.2.lots≠0
    rw [← e]
    refine (xZ hS).2 ?_
    rw [e]
    exact hF.full p hp
  ·rintro ⟨e1,e2⟩
   have h3:S.stk h.1 h.2.1≠[]:=(xZ hS).1 (by rw [e1] at e2;exact e2)
   have h4:=hF.stk h.1 h.2.1
   unfold eI at h4
   cases hg:glk x.stk (h.1,h.2.1) with
   | none =>
    rw [hg] at h4
    exact absurd h4.symm h3
   | some s =>
    rw [hg] at h4
    refine ⟨((h.1,h.2.1),s),ga hg,?_⟩
    obtain ⟨a,i,n⟩:=h
    show (a,i,lsum s.lots)=(a,i,n)
    have h5:s.lots=S.stk a i:=h4
    rw [h5]
    have h6:n=lsum (S.stk a i):=e1
    rw [h6]
theorem DW {S:LedM} {x:LedX} (hS:SrcI S) (hF:LedF S x) (hn:(x.stk.map (·.1)).Nodup):x.stk.length≤S.flows.length:=by
 have h:=mC (m:=S.flows.map (fun f=>(f.to,f.item))) hn (fun k hk=>by
  obtain ⟨p,hp,rfl⟩:=List.mem_map.1 hk
  have e:S.stk p.1.1 p.1.2=p.2.lots:=by
   rw [← hF.stk]
   unfold eI glk
   rw [du hn hp]
   rfl
  obtain ⟨f,hf,e1,e2⟩:=hS.2 p.1.1 p.1.2 (by rw [e];exact hF.full p hp)
  exact List.mem_map.2 ⟨f,hf,by rw [e1,e2]⟩)
 rw [List.length_map,List.length_map] at h
 exact h
abbrev Ac:List Stp:=[.ev 0,.ev 1,.ev 2,.ev 3,.ev 4,.ev 5,.ef 6,.ev 7,.ef 8,.ef 9,.ev 10]
theorem dp {φ ψ:Prop} (k:ψ) (h:Hid ψ→φ:=by intro k;(with_reducible apply G.a7);first|refine G.a6 (N:=35) (id:=5) Ac mixed ah (Hid.out k)):φ:=h ⟨k⟩
theorem gW {L:List HP} (b:Nat) (S:LedM) (hS:SrcI S) (hfl:S.flows.length≤100000) :
  Tri Tryz.prog 32 #[.pointer (some ⟨b,0,none⟩)] (LedR b S::L) (fun v L'=>∃ ad cap hs,v=.slice ad hs.length cap∧(HoldL (balF S) hs∧hs.length≤4194304)∧L' = osl cP 3 tHd ad cap hs::LedR b S::L):=by
 refine Tri.body (args:=[.pointer (some ⟨b,0,none⟩)]) 35 en32 Tryz.func32 rfl rfl rfl (by simp) ?_
 refine G.c6 (f:=ledA b S) ?_
 intro x
 simp only [ledA,ledL,bQ,List.cons_append,List.nil_append]
 refine G.c8 ?_
 intro hF
 refine G.c9 (fx (b:=x.ms) (m:=x.stk) (kv:=kvP) (enc:=Stk.v)) ?_
 intro hnd
 have hfew:=DW hS hF hnd
 repeat first|refine aa ?_|intro _|refine dp ?_
 refine GO.ev (Ev.z8 rfl) ac ?_
 repeat first|refine aa ?_|intro _|refine dp ?_
 refine GO.ef (Ef.d9 cP ((0,0,0):Int×Int×Int) rfl rfl rfl ac ab ab ab) ac ?_
 rintro _ _ ⟨bs,rfl,rfl⟩
 rw [show List.replicate (0:Int).toNat ((0,0,0):Int×Int×Int)=[] from rfl]
 repeat first|refine aa ?_|intro _|refine dp ?_
 refine GO.ef (Ef.g6 rfl) ac ?_
 rintro _ _ ⟨r,rfl,rfl⟩
 repeat first|refine aa ?_|intro _|refine dp ?_
 refine G.loop (α:=Option Addr×Nat×List ((Int×Int)×Stk)) (fun z=>z.2.2.length≤x.stk.length) (fun z=>[(3,.slice z.1 (z.2.2.map jh).length z.2.1),(16,.pointer (some ⟨r,0,none⟩))]) (fun z=>dc kvP Stk.v x.ms x.stk r z.2.2::osl cP 3 tHd z.1 z.2.1 (z.2.2.map jh)::obj b tLed (bQ S.shard x)::gmap kvI encN x.mt x.tot::osl aK 7 cw x.sad x.scap x.steps::osl bG 11 cy x.fad x.fcap x.flows::gmap kvI Stk.v x.mi x.imp::gmap kvI Stk.v x.mr x.ret::catP x.cat::allP (fun p:(Int×Int)×Stk=>stkP p.2) x.stk::allP fk x.steps::allP flP x.flows::allP (fun p:Int×Stk=>stkP p.2) x.imp::allP (fun p:Int×Stk=>stkP p.2) x.ret::L) (fun z=>x.stk.length - z.2.2.length) (some ⟨bs,0,none⟩,(x.stk.length:Int).toNat,[]) (Nat.zero_le _) aj (Ent.refl _) ?_
 rintro ⟨ad,cap,done⟩ hdl
 dsimp only at hdl ⊢
 have hml:(done.map jh).length=done.length:=by simp
 repeat first|refine aa ?_|intro _|refine dp ?_
 refine GO.ef (Ef.g9 rfl) ac ?_
 rintro _ _ (⟨rfl,rfl,hp⟩|⟨p,rfl,rfl,hpm,hpn,hl2⟩)
 ·have hdl2:=hp.length_eq
  repeat first|refine aa ?_|intro _|refine dp ?_
  (first|refine GO.ef (Ef.call (vC (E:=tHd) (ad:=ad) (cap:=cap) (xs:=done.map jh) ab) rfl (by repeat (first|exact Ent.refl _|apply Ent.take))) ac ?_)
  rintro _ _ ⟨_,⟨rfl,ys,hys,rfl⟩,hL⟩
  simp only [List.cons_append,List.nil_append] at hL;subst hL
  repeat first|refine aa ?_|intro _|refine dp ?_
  have hys2:eM hdC (x.stk.map jh) ys:=⟨hys.1.trans (hp.map jh),hys.2⟩
  have hyl:=hys.1.length_eq
  refine KX.a6 ai ?_ ⟨ad,cap,ys,by rw [hyl];rfl,⟨CX hS.1 hF hnd hys2,ab⟩,rfl⟩
  refine (Ent.at (A:=dc kvP Stk.v x.ms x.stk r done) Ent.itEnd).trans ?_
  refine Ent.trans ?_ (Ent.a6 (fE x hF))
  simp only [ledL]
  exact ae
 have hlk:p.2.lots=S.stk p.1.1 p.1.2:=by
  rw [← hF.stk]
  unfold eI glk
  rw [du hnd hpm]
  rfl
 obtain ⟨hc1,hc2⟩:=hS.1.stk p.1.1 p.1.2
 rw [← hlk] at hc1 hc2
 refine GO.ent (Ent.at (A:=allP (fun p:(Int×Int)×Stk=>stkP p.2) x.stk) (Ent.a8 (x:=p) hpm)) ?_
 repeat first|refine aa ?_|intro _|refine dp ?_
 refine GO.ev (Ev.g8 (done:=done) rfl rfl) ac ?_
 simp only [kvP,Stk.v,List.map_cons,List.map_nil]
 repeat first|refine aa ?_|intro _|refine dp ?_
 refine GPW.ef (Ef.a6 (kN p.2.ad _ p.2.cap p.2.lots rfl ab hc2) rfl) ac ?_
 rintro _ _ ⟨rfl,rfl⟩
 repeat first|refine aa ?_|intro _|refine dp ?_
 refine GPW.ef (Ef.a7 (enc:=cP) (e:=jh p) rfl rfl rfl rfl rfl (by rfl) (fP _) ab ab) ac ?_
 rintro _ _ ⟨ad2,cap2,rfl,rfl⟩
 repeat first|refine aa ?_|intro _|refine dp ?_
 refine ⟨(ad2,cap2,done++[p]),by dsimp only;simp;omega,by dsimp only;simp;omega,?_,?_⟩
 ·dsimp only
  rw [List.map_append]
  exact aj
 ·dsimp only
  rw [List.map_append,show List.map jh [p]=[jh p] from rfl]
  exact ae
end
end Go.Proofs.YtfmgkkofledkbaaGreatDoor
