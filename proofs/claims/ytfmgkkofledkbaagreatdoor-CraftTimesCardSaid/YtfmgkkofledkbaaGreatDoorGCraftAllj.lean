/- Lemmas and contracts of functions, in the order: Y1, Y2, Y3, Y4, Y5, D3, Y6, Y7, Y8. -/
import Derived.Test.YtfmgkkofledkbaaGreatDoorGCraftAllh
import Derived.Test.YtfmgkkofledkbaaGreatDoorGCraftAllg
import Derived.Test.YtfmgkkofledkbaaGreatDoorGCraftAlle
import Derived.Test.YtfmgkkofledkbaaGreatDoorGCraftAllm
set_option linter.all false
set_option maxHeartbeats 4000000
namespace Go.V
theorem Ev.p9 {P:Program} {L:List HP} {env:Env} {ty:TypeId} {t yt:TypeId} {x y:Operand} {a b:Bool} [ht:TyBool P t] (hx:evE env x=some (.bool a)) (hy:evE env y=some (.bool b)):Ev P L env (.binOp .neq t x y yt) ty (.bool (!(a == b))):=by
 have h:=Ev.r5 (P:=P) (L:=L) (ty:=ty) (t:=t) (yt:=yt) (φ:=a=true) (ψ:=b=true) (x:=x) (y:=y) (env:=env) (by rw [hx,cu];cases a<;>rfl) (by rw [hy,cu];cases b<;>rfl)
 have e:dB (¬(a=true↔b=true)) = !(a == b):=by rw [cu];cases a<;>cases b<;>rfl
 rw [e] at h
 exact h
end Go.V
namespace Go.Proofs.YtfmgkkofledkbaaGreatDoor
open Go.V
attribute [local irreducible] G GO GP GPW GPK Ev Ef EfR Ent CB GB V.Enters
section
theorem jk {sh:Int} {c:CatM} (h:0≤sh∧sh<12):(led0 sh c).Ok:=⟨h,Nat.zero_le _,Nat.zero_le _,fun _ _=>⟨Nat.zero_le _,(fun _ hx=>by cases hx)⟩,fun _=>by show -(((0:Nat):Int)*1099511627776)≤(0:Int)∧(0:Int)≤1099511627776;omega⟩
theorem sI {L:List HP} (sh:Int) (c:CatV) (hsh:0≤sh∧sh<12) (hB:c.B) (h:CatGood c.m):Tri Tryz.prog 41 #[.int .i64 sh,.agg c.cells.toArray] (catP c::aP::L) (fun v L'=>∃ b,v=.tuple #[.pointer (some ⟨b,0,none⟩),.int .i64 0]∧L' = LedR b (led0 sh c.m)::catP c::aP::L):=by
 obtain ⟨h1,h2⟩:=hsh
 refine Tri.body (args:=[.int .i64 sh,.agg c.cells.toArray]) 27 en41 Tryz.func41 rfl rfl rfl (by simp) ?_
 simp only [CatV.cells]
 repeat first|refine aa ?_|intro _
 rename_i b3
 refine GO.ent (L':=catP c::aP::obj b3 tCat c.cells::L) (by simp only [CatV.cells];exact ae) ?_
 refine GO.ef (Ef.a6 (CV c hB h) rfl) ac ?_
 rintro _ _ ⟨rfl,rfl⟩
 simp only [CatV.cells]
 repeat first|refine aa ?_|intro _
 refine GO.ent (L':=catP c::aP::obj b3 tCat c.cells::L) (by simp only [CatV.cells];exact ae) ?_
 refine GO.ef (Ef.a6 (nh c hB) rfl) ac ?_
 rintro _ _ ⟨c',rfl,hc',rfl⟩
 simp only [CatV.cells]
 refine GO.ef (Ef.c7 kvP Stk.v (.inl rfl)) ac ?_
 rintro _ _ ⟨b1,rfl,rfl⟩
 refine GO.ef (Ef.c7 kvI encN (.inl rfl)) ac ?_
 rintro _ _ ⟨b2,rfl,rfl⟩
 refine GO.ef (Ef.c7 kvI Stk.v (.inl rfl)) ac ?_
 rintro _ _ ⟨b4,rfl,rfl⟩
 refine GO.ef (Ef.c7 kvI Stk.v (.inl rfl)) ac ?_
 rintro _ _ ⟨b5,rfl,rfl⟩
 repeat first|refine aa ?_|intro _
 rename_i b6
 refine KX.a6 ai ?_ ⟨b6,rfl,rfl⟩
 refine Ent.trans ?_ (fP (S:=led0 sh c.m) ⟨c',b1,b2,b4,b5,[],[],[],[],[],none,0,[],none,0⟩ ⟨hc',CatV.a6 hc' hB,fun _ _=>rfl,(fun _ h=>by cases h),fun _=>rfl,rfl,rfl,fun _=>rfl,fun _=>rfl⟩)
 simp only [ledL,bT,led0]
 refine (Ent.a7 aK 7 cy).trans ((Ent.a7 bH 11 cz).trans ?_)
 refine (Ent.c7 (fun p:(Int×Int)×Stk=>stkP p.2)).trans ((Ent.c7 fx).trans ((Ent.c7 flP).trans ((Ent.c7 (fun p:Int×Stk=>stkP p.2)).trans ((Ent.c7 (fun p:Int×Stk=>stkP p.2)).trans ?_))))
 exact ae
def aM (a:Int):Prop:=1≤a∧a<1048576
instance:DecidablePred aM:=fun n=>by unfold aM;infer_instance
theorem gm {L:List HP} (n:Int):Tri Tryz.prog 49 #[.int .i64 n] L (fun v L'=>v=.bool (dB (aM n))∧L' = L):=by
 refine Tri.body (args:=[.int .i64 n]) 9 en49 Tryz.func49 rfl rfl rfl (by simp) ?_
 by_cases h1:1≤n
 ·by_cases h2:n<1048576
  ·repeat first|refine aa ?_|intro _
   exact KX.a6 ai (Ent.refl _) ⟨by rw [aw h2,aw (show aM n from ⟨h1,h2⟩)];rfl,rfl⟩
  ·repeat first|refine aa ?_|intro _
   exact KX.a6 ai (Ent.refl _) ⟨by rw [an h2,an (fun h:aM n=>h2 h.2)];rfl,rfl⟩
 ·repeat first|refine aa ?_|intro _
  exact KX.a6 ai (Ent.refl _) ⟨by rw [an (fun h:aM n=>h1 h.1)];rfl,rfl⟩
def cn (a:Int):Prop:=1≤a∧a≤1000
instance:DecidablePred cn:=fun n=>by unfold cn;infer_instance
theorem lp {L:List HP} (n:Int):Tri Tryz.prog 71 #[.int .i64 n] L (fun v L'=>v=.bool (dB (cn n))∧L' = L):=by
 refine Tri.body (args:=[.int .i64 n]) 9 en71 Tryz.func71 rfl rfl rfl (by simp) ?_
 by_cases h1:1≤n
 ·by_cases h2:n≤1000
  ·repeat first|refine aa ?_|intro _
   exact KX.a6 ai (Ent.refl _) ⟨by rw [aw h2,aw (show cn n from ⟨h1,h2⟩)];rfl,rfl⟩
  ·repeat first|refine aa ?_|intro _
   exact KX.a6 ai (Ent.refl _) ⟨by rw [an h2,an (fun h:cn n=>h2 h.2)];rfl,rfl⟩
 ·repeat first|refine aa ?_|intro _
  exact KX.a6 ai (Ent.refl _) ⟨by rw [an (fun h:cn n=>h1 h.1)];rfl,rfl⟩
structure JobM where
 id:Int
 acc:Int
 hold:Int
 rule:Int
 times:Int
 beg:Int
 fin:Int
 done:Bool
 won:Int
 lost:Int
 deriving Inhabited,DecidableEq
def aq (j:JobM):List Value:=[.int .i64 j.id,.int .i64 j.acc,.int .i64 j.hold,.int .i64 j.rule,.int .i64 j.times,.int .i64 j.beg,.int .i64 j.fin,.bool j.done,.int .i64 j.won,.int .i64 j.lost]
theorem mM (t:JobM):∀ u∈aq t,u.oneCell' = true:=by simp [aq,Value.oneCell']
instance:EncC aq:=⟨mM⟩
structure YardM where
 seed:List Int
 jobs:List JobM
 tick:Int
 loots:Int
def aG (js:List JobM) (a:Int):List Int:=((List.range js.length).filter (fun k=>decide (js[k]!.acc=a) && !js[k]!.done)).map (fun k:Nat=>(k:Int))
structure SlI where
 ad:Option Addr
 cap:Nat
 ids:List Int
 deriving Inhabited
def SlI.v (s:SlI):Value:=.slice s.ad s.ids.length s.cap
structure YardX where
 sad:Option Addr
 scap:Nat
 jad:Option Addr
 jcap:Nat
 om:Nat
 m:List (Int×SlI)
abbrev bu:Nat:=123
abbrev tJob:Nat:=63
structure YardF (Y:YardM) (x:YardX):Prop where
 cap:Y.seed.length≤x.scap
 opn:∀ a,((glk x.m a).map (·.ids)).getD []=aG Y.jobs a
 full:∀ p∈x.m,p.2.ids≠[]
structure YardM.Ok (Y:YardM):Prop where
 seed:dy Y.seed∧Y.seed.length≤4096
 len:Y.jobs.length≤60
 loots:0≤Y.loots∧Y.loots<100
 tick:0≤Y.tick∧Y.tick≤1099511627776
 id:∀ k,k<Y.jobs.length→Y.jobs[k]!.id=k∧Y.jobs[k]!.hold=536870912+k
 num:∀ k,k<Y.jobs.length→aM Y.jobs[k]!.acc∧cn Y.jobs[k]!.times∧(0≤Y.jobs[k]!.beg∧Y.jobs[k]!.beg≤Y.jobs[k]!.fin∧Y.jobs[k]!.fin≤1099511627776+1000000*(k+1))∧I64 Y.jobs[k]!.rule
def idsP (p:Int×SlI):HP:=osl (encZ .i64) 1 tInt p.2.ad p.2.cap p.2.ids
abbrev ax (lb:Nat) (Y:YardM) (x:YardX):List Value:=[.pointer (some ⟨lb,0,none⟩),.int .i64 Y.tick,.slice x.sad Y.seed.length x.scap,.slice x.jad Y.jobs.length x.jcap,.map (some x.om),.int .i64 Y.loots]
abbrev co (yb lb:Nat) (Y:YardM) (x:YardX) (L:List HP):List HP:=obj yb bu (ax lb Y x)::isl (encZ .u8) 1 x.sad Y.seed::osl aq 10 tJob x.jad x.jcap Y.jobs::gmap kvI SlI.v x.om x.m::bigO idsP x.m::L
def ew (yb lb:Nat) (Y:YardM) (x:YardX):List HP:=bK (YardF Y x)::co yb lb Y x []
def bz (yb lb:Nat) (Y:YardM):HP:=hex fun x=>aX (ew yb lb Y x)
theorem dq {yb lb:Nat} {Y:YardM} {L:List HP} (x:YardX) (h:YardF Y x):Ent (co yb lb Y x L) (bz yb lb Y::L):=Ent.e9 (f:=ew yb lb Y) x (Ent.pure h (Ent.refl _))
def bO (seed:List Int):YardM:=⟨seed,[],0,0⟩
theorem rV {L:List HP} (ad:Option Addr) (n c:Nat) (xs:List Int) [Rds L ad Int (encZ .u8) 1 xs] (hn:n=xs.length) (hb:n≤1000000) :
  Tri Tryz.prog 95 #[.slice ad n c] L (fun v L'=>∃ ad' cap',v=.slice ad' xs.length cap'∧L' = osl (encZ .u8) 1 jZ ad' cap' xs::L):=by
 refine Tri.body (args:=[.slice ad n c]) 8 en95 Tryz.func95 rfl rfl rfl (by simp) ?_
 repeat' first|refine aa ?_|intro _|with_reducible refine CB.dec (fun _=>?_) (fun _=>?_)|with_reducible refine GB.dec (fun _=>?_) (fun _=>?_)|with_reducible refine CB.bool (fun _=>?_) (fun _=>?_)|with_reducible refine GB.bool (fun _=>?_) (fun _=>?_)
 ·have h:ad=none:=by assumption
  subst h
  refine KX.d9 (.inl rfl) (jf (L:=L) (xs:=xs)) ?_
  intro hx
  subst hx
  refine KX.a6 ai (Ent.a7 (encZ .u8) 1 jZ) ⟨_,_,rfl,rfl⟩
 ·refine GO.ent (Ent.c6 (enc:=encZ .u8) (sz:=1) (xs:=[]) rfl rfl (by simp) (by simp)) ?_
  refine GO.ef (Ef.c6 rfl rfl rfl rfl hn (fun e _=>by simp [encZ,Value.oneCell']) (by simp;omega) (by simp;omega)) ac ?_
  rintro _ _ ⟨ad',cap',rfl,rfl⟩
  repeat first|refine aa ?_|intro _
  refine KX.a6 ai (Ent.refl _) ⟨ad',cap',rfl,rfl⟩
theorem nj {L:List HP} (lb:Nat) (ad:Option Addr) (n c:Nat) (xs:List Int) [Rds L ad Int (encZ .u8) 1 xs] (hn:n=xs.length) (h1:1≤n) (h2:n≤4096) :
  Tri Tryz.prog 42 #[.pointer (some ⟨lb,0,none⟩),.slice ad n c] L (fun v L'=>∃ yb,v=.tuple #[.pointer (some ⟨yb,0,none⟩),.int .i64 0]∧L' = bz yb lb (bO xs)::L):=by
 refine Tri.body (args:=[.pointer (some ⟨lb,0,none⟩),.slice ad n c]) 25 en42 Tryz.func42 rfl rfl rfl (by simp) ?_
 repeat first|refine aa ?_|intro _
 refine GO.ef (Ef.a6 (rV ad n c xs hn ab) rfl) ac ?_
 rintro _ _ ⟨ad',cap',rfl,rfl⟩
 refine GO.c9 (fe (ad:=ad')) ?_
 rintro ⟨hcp,_⟩
 refine GO.ef (Ef.c7 kvI SlI.v (.inl rfl)) ac ?_
 rintro _ _ ⟨om,rfl,rfl⟩
 repeat first|refine aa ?_|intro _
 rename_i yb
 refine KX.a6 ai ?_ ⟨yb,rfl,rfl⟩
 refine Ent.trans ?_ (dq (Y:=bO xs) ⟨ad',cap',none,0,om,[]⟩ ⟨hcp,fun _=>rfl,fun _ h=>by cases h⟩)
 simp only [co,ax,bO]
 refine (Ent.frz ad').trans ((Ent.a7 aq 10 tJob).trans ((Ent.g7 idsP).trans ?_))
 exact ae
end
end Go.Proofs.YtfmgkkofledkbaaGreatDoor
namespace Go.V
section
variable {P:Program} {N:Nat} {ops:Array Oper} {done:List Nat} {plan:List Stp} {pend:List PE} {env:Env} {L:List HP} {K:Post}
theorem GP.d7 {φ:Prop} (h:∀ θ R w,Sat θ (L++R) w→φ) (k:φ→GP P N ops done plan pend env L K):GP P N ops done plan pend env L K:=fun hK hp hs hcl θ Y a w S i hpo hpw=>let ⟨_,_,_,s⟩:=i;k (h θ _ w s) hK hp hs hcl θ Y a w S i hpo hpw
theorem GPW.c9 {s:Stp} {dst:Option Tmp} {op:Op} {ty:TypeId} {φ:Prop} (h:∀ θ R w,Sat θ (L++R) w→φ) (k:φ→GPW P N ops done s plan dst op ty pend env L K):GPW P N ops done s plan dst op ty pend env L K:=fun pos af g h1 h2=>GP.d7 h (fun hφ=>k hφ pos af g h1 h2)
end
end Go.V
namespace Go.Proofs.YtfmgkkofledkbaaGreatDoor
open Go.V
attribute [local irreducible] G GO GP GPW GPK Ev Ef EfR Ent CB GB V.Enters
section
def aV (t now tick:Int):Prop:=t≤tick∧now≤tick∧tick≤1099511627776
instance (a b c:Int):Decidable (aV a b c):=by unfold aV;infer_instance
theorem fG {L:List HP} (yb lb:Nat) (Y:YardM) (x:YardX) (S:LedM) (hS:S.Ok) (tick:Int) :
  Tri Tryz.prog 50 #[.pointer (some ⟨yb,0,none⟩),.int .i64 tick] (LedR lb S::obj yb bu (ax lb Y x)::L) (fun v L'=>v=.bool (dB (aV Y.tick S.now tick))∧L' = LedR lb S::obj yb bu (ax lb Y x)::L):=by
 refine Tri.body (args:=[.pointer (some ⟨yb,0,none⟩),.int .i64 tick]) 24 en50 Tryz.func50 rfl rfl rfl (by simp) ?_
 by_cases h1:Y.tick≤tick
 case neg =>
  repeat first|refine aa ?_|intro _
  exact KX.a6 ai (Ent.refl _) ⟨by rw [an (fun h:aV _ _ _=>h1 h.1)];rfl,rfl⟩
 repeat first|refine aa ?_|intro _
 refine GO.ef (Ef.a6 (nC lb S hS) rfl) ac ?_
 rintro _ _ ⟨rfl,rfl⟩
 by_cases h2:S.now≤tick
 case neg =>
  repeat first|refine aa ?_|intro _
  exact KX.a6 ai (Ent.refl _) ⟨by rw [an (fun h:aV _ _ _=>h2 h.2.1)];rfl,rfl⟩
 repeat first|refine aa ?_|intro _
 refine KX.a6 ai (Ent.refl _) ⟨?_,rfl⟩
 by_cases h3:tick≤1099511627776
 ·rw [aw h3,aw (show aV Y.tick S.now tick from ⟨h1,h2,h3⟩)];rfl
 ·rw [an h3,an (fun h:aV Y.tick S.now tick=>h3 h.2.2)];rfl
def mkMv (times frm to:Int) (a:Int×Int):MvM:=⟨frm,to,a.1,a.2*times,[]⟩
def bV (times frm to:Int) (a:Int×Int):MvV:=⟨mkMv times frm to a,none,0⟩
theorem jh (times frm to:Int) (l:List (Int×Int)):(l.map (bV times frm to)).map (·.m)=l.map (mkMv times frm to):=by rw [List.map_map];rfl
theorem jA {L:List HP} (ad:Option Addr) (n c:Nat) (l:List (Int×Int)) (times frm to:Int) [hr:Rds L ad (Int×Int) aB 2 l] (hn:n=l.length) (hl:l.length≤64) (ha:AmB l) (ht:0≤times∧times≤1048576) :
  Tri Tryz.prog 77 #[.slice ad n c,.int .i64 times,.int .i64 frm,.int .i64 to] L (fun v L'=>∃ ad' cap',v=.slice ad' l.length cap'∧L' = osl aJ 5 tMv ad' cap' (l.map (bV times frm to))::L):=by
 subst hn
 obtain ⟨ht1,ht2⟩:=ht
 refine Tri.body (args:=[.slice ad l.length c,.int .i64 times,.int .i64 frm,.int .i64 to]) 32 en77 Tryz.func77 rfl rfl rfl (by simp) ?_
 repeat first|refine aa ?_|intro _
 refine G.loop (α:=Nat×Option Addr×Nat) (fun g=>g.1≤l.length) (fun g=>[(1,.int .i64 times),(2,.int .i64 frm),(3,.int .i64 to),(9,.slice g.2.1 ((l.take g.1).map (bV times frm to)).length g.2.2),(12,.slice ad l.length c),(13,.int .i64 l.length),(14,.int .i64 (g.1:Int))]) (fun g=>osl aJ 5 tMv g.2.1 g.2.2 ((l.take g.1).map (bV times frm to))::L) (fun g=>l.length - g.1) (0,none,0) (Nat.zero_le _) aj (Ent.a7 aJ 5 tMv) ?_
 rintro ⟨i,ad',cap'⟩ hi
 dsimp only at hi ⊢
 by_cases hlt:i<l.length
 case neg =>
  have hin:i=l.length:=ab
  subst hin
  rw [List.take_length]
  have hll:(l.map (bV times frm to)).length=l.length:=by simp
  rw [hll]
  repeat first|refine aa ?_|intro _
  exact KX.a6 ai (Ent.refl _) ⟨ad',cap',rfl,rfl⟩
 have hii:(i:Int).toNat=i:=ab
 have hab:=ha _ (ap hlt)
 have hm0:0≤l[i]!.2*times:=Int.mul_nonneg hab.1 ht1
 have hm1:l[i]!.2*times≤1099511627776*1048576:=Int.mul_le_mul hab.2 ht2 ht1 ac
 have htl:((l.take i).map (bV times frm to)).length=i:=by rw [List.length_map,List.length_take];omega
 repeat first|refine aa ?_|intro _
 rw [hii]
 repeat first|refine aa ?_|intro _
 refine GO.ef (Ef.a7 (enc:=aJ) (e:=bV times frm to l[i]!) rfl rfl rfl rfl rfl (by rfl) (ge _) ab ab) ac ?_
 rintro _ _ ⟨ad2,cap2,rfl,rfl⟩
 repeat first|refine aa ?_|intro _
 have e:(l.take i).map (bV times frm to)++[bV times frm to l[i]!]=(l.take (i+1)).map (bV times frm to):=by
  rw [List.take_succ_eq_append_getElem hlt,List.map_append,getElem!_of hlt]
  rfl
 rw [e]
 refine ⟨(i+1,ad2,cap2),by dsimp only;omega,by dsimp only;omega,?_,by exact ae⟩
 dsimp only
 rw [show ((i+1:Nat):Int)=(i:Int)+1 by omega]
 exact aj
def dG (rules:List RuM) (i:Int) (spawn:Bool):Prop:=0≤i∧i<rules.length∧rules[i.toNat]!.spawn=spawn
instance (a b c):Decidable (dG a b c):=by unfold dG;infer_instance
theorem fD (rs:List RuV) {i:Nat} (h:i<rs.length):(rs.map RuV.m)[i]! = rs[i]!.m:=ek _ h
theorem gt {L:List HP} (c:CatV) (hB:c.B) (i:Int) (spawn:Bool) :
  Tri Tryz.prog 70 #[.agg c.cells.toArray,.int .i64 i,.bool spawn] (catP c::L) (fun v L'=>(¬dG c.m.rules i spawn∧v=.tuple #[.agg (aA ru0).toArray,.bool false]∧L' = catP c::L)∨(dG c.m.rules i spawn∧v=.tuple #[.agg (aA c.rules[i.toNat]!).toArray,.bool true]∧L' = ruP c.rules[i.toNat]!::catP c::L)):=by
 have hrl:c.m.rules.length=c.rules.length:=by simp [CatV.m]
 have h64:=hB.rules
 refine Tri.body (args:=[.agg c.cells.toArray,.int .i64 i,.bool spawn]) 33 en70 Tryz.func70 rfl rfl rfl (by simp) ?_
 refine G.ent catOpenR ?_
 simp only [CatV.cells]
 by_cases h1:0≤i
 case neg =>
  repeat first|refine aa ?_|intro _
  refine KX.a6 (vs:=[.agg (aA ru0).toArray,.bool false]) (ResOk.cell rfl (by rfl) (ResOk.tmp rfl ResOk.nil)) ?_ (.inl ⟨fun h=>h1 h.1,rfl,rfl⟩)
  exact ae
 by_cases h2:i<c.rules.length
 case neg =>
  repeat first|refine aa ?_|intro _
  refine KX.a6 (vs:=[.agg (aA ru0).toArray,.bool false]) (ResOk.cell rfl (by rfl) (ResOk.tmp rfl ResOk.nil)) ?_ (.inl ⟨fun h=>h2 (by have:=h.2.1;omega),rfl,rfl⟩)
  exact ae
 have hil:i.toNat<c.rules.length:=ab
 have hru:=fD c.rules hil
 repeat first|refine aa ?_|intro _
 refine GO.ev (Ev.p9 rfl rfl) ac ?_
 by_cases h3:c.rules[i.toNat]!.spawn=spawn
 ·rw [show (!(c.rules[i.toNat]!.spawn == spawn))=false by rw [h3];simp]
  repeat first|refine aa ?_|intro _
  refine KX.a6 (vs:=[.agg (aA c.rules[i.toNat]!).toArray,.bool true]) (ResOk.cell rfl (by rfl) (ResOk.tmp rfl ResOk.nil)) ?_ (.inr ⟨⟨h1,ab,?_⟩,rfl,rfl⟩)
  ·refine (Ent.at (A:=allP ruP c.rules) (Ent.a8 (f:=ruP) (ap hil))).trans ?_
   exact ae
  ·show (c.rules.map RuV.m)[i.toNat]!.spawn=spawn
   rw [hru]
   exact h3
 ·rw [show (!(c.rules[i.toNat]!.spawn == spawn))=true by rw [Bool.not_eq_true',beq_eq_false_iff_ne];exact h3]
  repeat first|refine aa ?_|intro _
  refine KX.a6 (vs:=[.agg (aA ru0).toArray,.bool false]) (ResOk.cell rfl (by rfl) (ResOk.tmp rfl ResOk.nil)) ?_ (.inl ⟨?_,rfl,rfl⟩)
  ·exact ae
  ·intro h
   have h4:(c.rules.map RuV.m)[i.toNat]!.spawn=spawn:=h.2.2
   rw [hru] at h4
   exact h3 h4
def cw (kind actor tick rule times:Int) (ms:List MvM):StM:=⟨0,kind,actor,tick,rule,times,ms⟩
def cK (acc:Int) (l:List (Int×Int)) (times tick:Int):StM:=cw 0 0 tick (-1) 0 (l.map (mkMv times 0 acc))
theorem yF (l:List (Int×Int)) (times frm to:Int) {L:List HP}:Ent L (allP mvP (l.map (bV times frm to))::L):=by
 induction l with
 | nil=>exact Ent.c7 mvP
 | cons a l ih=>exact ih.trans ((Ent.c8 av 3 none).trans (Ent.c9 (f:=mvP) (x:=bV times frm to a) kd))
abbrev Cd:List Stp:=[.ev 0,.ev 1,.ev 2,.ev 3,.ev 4,.ev 5,.ev 6,.ev 7,.ev 8,.ef 9,.ev 10,.ef 11,.ev 12,.ev 13,.ev 14,.ev 15]
theorem kG {φ ψ:Prop} (k:ψ) (h:Hid ψ→φ:=by intro k;(with_reducible apply G.a7);first|refine G.a6 (N:=26) (id:=1) Cd mixed ah (Hid.out k)):φ:=h ⟨k⟩
theorem oJ {L:List HP} (yb lb:Nat) (Y:YardM) (x:YardX) (S:LedM) (hS:S.Ok) (hc:S.cat.Ok) (acc:Int) (ad:Option Addr) (n c:Nat) (l:List (Int×Int)) (times tick:Int) (hn:n=l.length) (hl:l.length≤64) (ha:AmB l) (ht:0≤times∧times≤1048576) :
  Tri Tryz.prog 53 #[.pointer (some ⟨yb,0,none⟩),.int .i64 acc,.slice ad n c,.int .i64 times,.int .i64 tick] (LedR lb S::obj yb bu (ax lb Y x)::isl aB 2 ad l::L) (fun v L'=>v=.tuple #[.int .i64 (cL S (cK acc l times tick)),.int .i64 (tryM S (cK acc l times tick)).1]∧L' = LedR lb (aI S (cK acc l times tick))::obj yb bu (ax lb Y x)::isl aB 2 ad l::L):=by
 subst hn
 refine Tri.body (args:=[.pointer (some ⟨yb,0,none⟩),.int .i64 acc,.slice ad l.length c,.int .i64 times,.int .i64 tick]) 26 en53 Tryz.func53 rfl rfl rfl (by simp) ?_
 repeat first|refine aa ?_|intro _|refine kG ?_
 refine GPW.ef (Ef.a6 (jA ad l.length c l times 0 acc rfl hl ha ht) rfl) ac ?_
 rintro _ _ ⟨ad2,cap2,rfl,rfl⟩
 repeat first|refine aa ?_|intro _|refine kG ?_
 refine GPW.c9 (fe (ad:=ad2)) ?_
 rintro ⟨hcp,_⟩
 have hml:(l.map (bV times 0 acc)).length=l.length:=by simp
 obtain ⟨s,hs⟩:∃ s:StV,s=⟨0,0,0,tick,-1,0,l.map (bV times 0 acc),ad2,cap2⟩:=⟨_,rfl⟩
 have hsm:s.m=cK acc l times tick:=by rw [hs];unfold StV.m cK cw;rw [jh]
 have hse:([.int .i64 0,.int .i64 0,.int .i64 0,.int .i64 tick,.int .i64 (-1),.int .i64 0,.slice ad2 l.length cap2]:List Value)=aK s:=by rw [hs];unfold aK;dsimp only;rw [hml]
 refine GPW.ent (L':=LedR lb S::stM s::stP s::obj yb bu (ax lb Y x)::isl aB 2 ad l::L) ?_ ?_
 ·rw [hs]
  refine (Ent.frz ad2).trans ((yF l times 0 acc).trans ?_)
  exact ae
 have hpost:=jJ (L:=obj yb bu (ax lb Y x)::isl aB 2 ad l::L) lb S hS hc s ⟨by rw [hs];exact .inl rfl,by rw [hs];dsimp only;omega,by rw [hs];dsimp only;omega,by rw [hs];unfold I64;dsimp only;omega,by rw [hs];intro m hm;obtain ⟨a,_,rfl⟩:=List.mem_map.1 hm;exact Nat.zero_le _⟩ dF
 rw [← hse,hsm] at hpost
 refine GPW.ef (Ef.a6 (hpost) rfl) ac ?_
 rintro _ _ ⟨rfl,rfl⟩
 repeat first|refine aa ?_|intro _|refine kG ?_
 exact KX.a6 ai ae ⟨rfl,rfl⟩
end
section
abbrev lootBA:ByteArray:={ data:=#[108,111,111,116,32] }
def dc (seed:List Int) (n:Int):Nat:=bS (aD (lootBA++decS n.toNat)) seed
theorem la (n:Nat):(decS n).size≤2:=by unfold decS;split<;>simp [ByteArray.size]
noncomputable def bW (S:LedM) (Y:YardM) (acc table tick:Int):(Int×Int×Int)×LedM×YardM :=
 if ¬(aM acc∧aV Y.tick S.now tick) then ((0,0,1),S,Y)
 else if ¬(0≤table∧table<S.cat.tables.length) then ((0,0,6),S,Y)
 else
  let rows:=S.cat.tables[table.toNat]!.rows
  let p:=dg (dc Y.seed Y.loots) (rows.map (·.weight)) 0
  if p.2.1≠0 then ((0,0,p.2.1),S,Y)
  else
   let give:=rows[p.1.toNat]!.give
   let s:=cK acc give 1 tick
   if give.length=0 then ((p.1,0,0),S,{ Y with tick:=tick,loots:=Y.loots+1 })
   else if (tryM S s).1≠0 then ((0,0,(tryM S s).1),S,Y)
   else ((p.1,cL S s,0),aI S s,{ Y with tick:=tick,loots:=Y.loots+1 })
theorem ov {ws:List Int} (h:∀ w∈ws,1≤w∧w≤1099511627776):∀ i,i≤ws.length→(i:Int)≤psum ws i∧psum ws i≤i*1099511627776:=by
 intro i
 induction i with
 | zero=>intro _;simp [psum]
 | succ i ih =>
  intro hi
  have h1:=ih ab
  have h2:=h _ (ap (show i<ws.length by omega))
  rw [jI ws ab]
  omega
theorem uN:∀ (ws:List Int) (r:Int),(∀ w∈ws,0≤w)→r<psum ws ws.length→0<ws.length→iT ws r<ws.length
 | [],_,_,_,h=>by simp at h
 | w::ws,r,hw,hr,_=>by
  unfold iT
  split
  ·simp
  ·rename_i h
   rw [List.length_cons,kP] at hr
   have hp:0<ws.length:=by
    rcases Nat.eq_zero_or_pos ws.length with h0|h0
    ·rw [h0] at hr
     exact absurd hr (by simp [psum];omega)
    ·exact h0
   have:=uN ws (r - w) (fun x hx=>hw x (List.mem_cons_of_mem _ hx)) ab hp
   simp only [List.length_cons]
   omega
theorem BO (rs:List RwV) {i:Nat} (h:i<rs.length):(rs.map RwV.m)[i]! = rs[i]!.m:=ek _ h
theorem BE (rs:List TbV) {i:Nat} (h:i<rs.length):(rs.map TbV.m)[i]! = rs[i]!.m:=ek _ h
theorem vO {c:CatV} {L:List HP}:Ent (catP c::L) (isl aS 2 c.tad c.tables::allP tbP c.tables::L) :=
 Ent.andE.trans (Ent.drop.trans (Ent.andE.trans (Ent.drop.trans (Ent.andE.trans (Ent.andE.trans (Ent.a6 (Ent.a6 Ent.drop)))))))
theorem jK {S:LedM} {s:StM} (h:¬(tryM S s).1=0):aI S s=S:=by unfold aI;rw [if_neg h]
theorem uq {key n a:Nat} (hn:0<n):0≤(bU key n a).1∧(bU key n a).1<n:=by
 have h:=mg (label:=jt) (key:=key) hn 128 a
 unfold bU
 exact ⟨h.1,h.2.1⟩
theorem uO {key:Nat} {ws:List Int} {a:Nat} {r:Int×Int×Nat} (h:bU key (psum ws ws.length).toNat a=r):dg key ws a=if r.2.1=0 then ((iT ws r.1:Int),0,r.2.2) else (0,r.2.1,r.2.2):=by
 rw [← h]
 unfold dg
 rfl
theorem EU {ws:List Int} {r:Int×Int×Nat} (hw:∀ w∈ws,0≤w) (hr:0≤r.1∧r.1<psum ws ws.length) (hl:0<ws.length) {p:Int×Int×Nat} (hp:p=if r.2.1=0 then ((iT ws r.1:Int),0,r.2.2) else (0,r.2.1,r.2.2)):p.2.1=0→0≤p.1∧p.1<ws.length:=by
 intro h0
 by_cases h:r.2.1=0
 ·rw [if_pos h] at hp
  rw [hp]
  dsimp only
  have:=uN ws r.1 hw hr.2 hl
  omega
 ·rw [if_neg h] at hp
  rw [hp] at h0
  exact absurd h0 h
theorem uP {key:Nat} {ws:List Int} {a:Nat} (hw:∀ w∈ws,0≤w) (hp:0<psum ws ws.length) (hl:0<ws.length) {p:Int×Int×Nat} (hpp:p=dg key ws a):p.2.1=0→0≤p.1∧p.1<ws.length:=by
 have hn:0<(psum ws ws.length).toNat:=ab
 have hN:((psum ws ws.length).toNat:Int)=psum ws ws.length:=ab
 have h:=uq (key:=key) (a:=a) hn
 rw [hN] at h
 exact EU hw h hl (hpp.trans (uO rfl))
theorem fm {S:LedM} {Y:YardM} {acc table tick:Int} (h:¬(aM acc∧aV Y.tick S.now tick)):bW S Y acc table tick=((0,0,1),S,Y):=by
 unfold bW
 rw [if_pos h]
theorem eH {S:LedM} {Y:YardM} {acc table tick:Int} (h1:aM acc) (h2:aV Y.tick S.now tick) (h3:¬(0≤table∧table<S.cat.tables.length)):bW S Y acc table tick=((0,0,6),S,Y):=by
 unfold bW
 rw [if_neg (fun h=>h ⟨h1,h2⟩),if_pos h3]
theorem fO {S:LedM} {Y:YardM} {acc table tick:Int} (h1:aM acc) (h2:aV Y.tick S.now tick) (h4:0≤table∧table<S.cat.tables.length) {rows:List RwM} (hr:S.cat.tables[table.toNat]!.rows=rows) {ws:List Int} (hw:rows.map (·.weight)=ws) {p:Int×Int×Nat} (hp:p=dg (dc Y.seed Y.loots) ws 0) :
  bW S Y acc table tick=if p.2.1≠0 then ((0,0,p.2.1),S,Y) else if (rows[p.1.toNat]!.give).length=0 then ((p.1,0,0),S,{ Y with tick:=tick,loots:=Y.loots+1 }) else if (tryM S (cK acc rows[p.1.toNat]!.give 1 tick)).1≠0 then ((0,0,(tryM S (cK acc rows[p.1.toNat]!.give 1 tick)).1),S,Y) else ((p.1,cL S (cK acc rows[p.1.toNat]!.give 1 tick),0),aI S (cK acc rows[p.1.toNat]!.give 1 tick),{ Y with tick:=tick,loots:=Y.loots+1 }):=by
 unfold bW
 rw [if_neg (fun h=>h ⟨h1,h2⟩),if_neg (fun h=>h h4)]
 dsimp only
 rw [hr,hw,← hp]
attribute [local irreducible] bU dg dc bS bW
abbrev zX:List Stp:=[.ev 0,.ev 1,.ev 2,.ev 3,.ev 4,.ev 5,.ev 6,.ev 7,.ev 11,.ef 8,.ev 9,.ef 10,.ef 12,.ev 13,.ev 14,.ev 15,.ev 16,.ev 17]
theorem bN {φ ψ:Prop} (k:ψ) (h:Hid ψ→φ:=by intro k;(with_reducible apply G.a7);first|refine G.a6 (N:=119) (id:=13) zX mixed ah (Hid.out k)):φ:=h ⟨k⟩
theorem Cz {L:List HP} (yb lb:Nat) (Y:YardM) (hY:Y.Ok) (S:LedM) (hS:S.Ok) (hg:CatGood S.cat) (hc:S.cat.Ok) (acc table tick:Int) :
  Tri Tryz.prog 14 #[.pointer (some ⟨yb,0,none⟩),.int .i64 acc,.int .i64 table,.int .i64 tick] (bz yb lb Y::LedR lb S::L) (fun v L'=>v=.tuple #[.int .i64 (bW S Y acc table tick).1.1,.int .i64 (bW S Y acc table tick).1.2.1,.int .i64 (bW S Y acc table tick).1.2.2]∧L' = bz yb lb (bW S Y acc table tick).2.2::LedR lb (bW S Y acc table tick).2.1::L):=by
 obtain ⟨hs1,hs2⟩:=hY.seed
 obtain ⟨hlo1,hlo2⟩:=hY.loots
 refine Tri.body (args:=[.pointer (some ⟨yb,0,none⟩),.int .i64 acc,.int .i64 table,.int .i64 tick]) 119 en14 Tryz.func14 rfl rfl rfl (by simp) ?_
 refine G.c6 (f:=ew yb lb Y) ?_
 intro x
 simp only [ew,co,List.cons_append,List.nil_append]
 refine G.c8 ?_
 intro hF
 have hyc:=dq (yb:=yb) (lb:=lb) (Y:=Y) (L:=LedR lb S::L) x hF
 simp only [co] at hyc
 repeat first|refine aa ?_|intro _|refine bN ?_
 refine GO.ef (Ef.a6 (gm acc) rfl) ac ?_
 rintro _ _ ⟨rfl,rfl⟩
 by_cases h1:aM acc
 case neg =>
  have e:bW S Y acc table tick=((0,0,1),S,Y):=fm (fun h=>h1 h.1)
  rw [e,an h1]
  repeat first|refine aa ?_|intro _|refine bN ?_
  exact KX.a6 ai (Ent.trans ae hyc) ⟨rfl,rfl⟩
 rw [aw h1]
 repeat first|refine aa ?_|intro _|refine bN ?_
 refine GO.ent (L':=LedR lb S::obj yb bu (ax lb Y x)::isl (encZ .u8) 1 x.sad Y.seed::osl aq 10 tJob x.jad x.jcap Y.jobs::gmap kvI SlI.v x.om x.m::bigO idsP x.m::L) ae ?_
 refine GO.ef (Ef.a6 (fG yb lb Y x S hS tick) rfl) ac ?_
 rintro _ _ ⟨rfl,rfl⟩
 by_cases h2:aV Y.tick S.now tick
 case neg =>
  have e:bW S Y acc table tick=((0,0,1),S,Y):=fm (fun h=>h2 h.2)
  rw [e,an h2]
  repeat first|refine aa ?_|intro _|refine bN ?_
  exact KX.a6 ai (Ent.trans ae hyc) ⟨rfl,rfl⟩
 rw [aw h2]
 repeat first|refine aa ?_|intro _|refine bN ?_
 refine GO.ef (Ef.a6 (iN lb S) rfl) ac ?_
 rintro _ _ ⟨c,rfl,⟨hcm,hcB⟩,rfl⟩
 have htl:S.cat.tables.length=c.tables.length:=by rw [← hcm];simp [CatV.m]
 have ht32:=hcB.tables
 simp only [CatV.cells]
 refine GO.ent vO ?_
 refine GO.ev (Ev.t8 (off:=2) (fs:=Tryz.prog.fieldsOf 32) (fd:=(Tryz.prog.fieldsOf 32)[2]!) ah ah ah (fun _=>by kernel_rfl) rfl rfl) ac ?_
 by_cases h3:0≤table∧table<S.cat.tables.length
 case neg =>
  have e:bW S Y acc table tick=((0,0,6),S,Y):=eH h1 h2 h3
  rw [e]
  by_cases h4:0≤table
  ·have h5:¬table<c.tables.length:=ab
   repeat first|refine aa ?_|intro _|refine bN ?_
   exact KX.a6 ai (Ent.trans ae hyc) ⟨rfl,rfl⟩
  ·repeat first|refine aa ?_|intro _|refine bN ?_
   exact KX.a6 ai (Ent.trans ae hyc) ⟨rfl,rfl⟩
 obtain ⟨h4,h5⟩:=h3
 have htn:table.toNat<c.tables.length:=ab
 obtain ⟨tb,htb⟩:∃ tb,tb=c.tables[table.toNat]!:=⟨_,rfl⟩
 have htm:S.cat.tables[table.toNat]! = tb.m:=by rw [← hcm,htb];exact BE c.tables htn
 have htg:TbGood S.cat.items.length tb.m:=by rw [← htm];exact hg.tb _ (ap ab)
 obtain ⟨⟨r1,r2⟩,r3⟩:=iE htg
 have htB:tb.B:=by rw [htb];exact hcB.tb _ (ap htn)
 have hmem:tb∈c.tables:=by rw [htb];exact ap htn
 refine GO.ent (Ent.at (A:=allP tbP c.tables) ((Ent.a8 (f:=tbP) hmem).trans Ent.andE)) ?_
 repeat first|refine aa ?_|intro _|refine bN ?_
 rw [← htb]
 repeat first|refine aa ?_|intro _|refine bN ?_
 refine GO.ef (Ef.makeSlice (encZ .i64) 0 rfl rfl rfl ab ab ab) ac ?_
 rintro _ _ ⟨bw,rfl,rfl⟩
 rw [Int.toNat_natCast,← hU tb.rows.length (fun k=>tb.rows[k]!.weight)]
 obtain ⟨ws,hws⟩:∃ ws,ws=tb.rows.map (·.weight):=⟨_,rfl⟩
 have hwl:ws.length=tb.rows.length:=by rw [hws];simp
 have hww:∀ w∈ws,1≤w∧w≤1099511627776:=by
  rw [hws]
  intro w hw
  obtain ⟨r,hr,rfl⟩:=List.mem_map.1 hw
  exact (r3 r hr).num
 have hpb:=ov hww ws.length (Nat.le_refl _)
 have hm64:(ws.length:Int)*1099511627776≤64*1099511627776:=Int.mul_le_mul_of_nonneg_right ab ac
 repeat first|((fail_if_success (with_reducible refine G.c7 8 ?_));(with_reducible apply G.seq))|refine aL ?_|intro _|refine bN ?_
 refine G.a8 (α:=Unit) (fun _=>True) (fun _=>[(0,.pointer (some ⟨yb,0,none⟩)),(1,.int .i64 acc),(3,.int .i64 tick),(12,.slice tb.ad tb.rows.length tb.cap),(13,.slice (some ⟨bw,0,none⟩) tb.rows.length tb.rows.length)]) (fun _=>isl (encZ .i64) 1 (some ⟨bw,0,none⟩) ws::isl cI 2 tb.ad tb.rows::allP rwP tb.rows::LedR lb S::obj yb bu (ax lb Y x)::isl (encZ .u8) 1 x.sad Y.seed::osl aq 10 tJob x.jad x.jcap Y.jobs::gmap kvI SlI.v x.om x.m::bigO idsP x.m::L) ?_ ?_
 ·repeat first|refine aa ?_|intro _|refine bN ?_
  refine G.loop (α:=Nat) (fun i=>i≤tb.rows.length) (fun i=>[(0,.pointer (some ⟨yb,0,none⟩)),(1,.int .i64 acc),(3,.int .i64 tick),(12,.slice tb.ad tb.rows.length tb.cap),(13,.slice (some ⟨bw,0,none⟩) tb.rows.length tb.rows.length),(54,.slice tb.ad tb.rows.length tb.cap),(55,.int .i64 tb.rows.length),(56,.int .i64 (i:Int))])
   (fun i=>osl (encZ .i64) 1 tInt (some ⟨bw,0,none⟩) tb.rows.length (dO tb.rows.length i (fun k=>tb.rows[k]!.weight))::isl cI 2 tb.ad tb.rows::allP rwP tb.rows::LedR lb S::obj yb bu (ax lb Y x)::isl (encZ .u8) 1 x.sad Y.seed::osl aq 10 tJob x.jad x.jcap Y.jobs::gmap kvI SlI.v x.om x.m::bigO idsP x.m::L) (fun i=>tb.rows.length - i) 0 (Nat.zero_le _) aj ae ?_
  intro i hi
  have hf1:=iI tb.rows.length i (fun k=>tb.rows[k]!.weight)
  by_cases hlt:i<tb.rows.length
  case neg =>
   have hin:i=tb.rows.length:=ab
   have e:dO tb.rows.length i (fun k=>tb.rows[k]!.weight)=ws:=by
    rw [hin,iJ,hws]
    apply List.ext_getElem
    ·simp
    ·intro k q1 q2
     have hk:k<tb.rows.length:=by simpa using q1
     simp [hk]
   rw [e]
   repeat first|refine aa ?_|intro _|refine bN ?_
   exact ⟨(),trivial,aj,Ent.frz (some ⟨bw,0,none⟩)⟩
  have hii:(i:Int).toNat=i:=ab
  have h6:(dO tb.rows.length i (fun k=>tb.rows[k]!.weight)).set i tb.rows[i]!.weight=dO tb.rows.length (i+1) (fun k=>tb.rows[k]!.weight):=iH _ hlt
  repeat first|refine aa ?_|intro _|refine bN ?_
  rw [hii,h6]
  refine ⟨i+1,ab,ab,?_,by exact ae⟩
  rw [show ((i+1:Nat):Int)=(i:Int)+1 by omega]
  exact aj
 rintro _ _
 obtain ⟨lN,hlN⟩:∃ lN:Nat,Y.loots=(lN:Int):=⟨Y.loots.toNat,ab⟩
 have hsz:(lootBA++decS lN).size≤100:=by
  rw [ByteArray.size_append]
  have:=la lN
  have h7:lootBA.size=5:=by decide
  omega
 have hds:=la lN
 have hkey:dc Y.seed Y.loots=bS (aD (lootBA++decS lN)) Y.seed:=by unfold dc;rw [hlN,Int.toNat_natCast]
 simp only [ax]
 rw [hlN]
 repeat first|refine aa ?_|intro _|refine bN ?_
 have hadd:lootBA.size+(decS lN).size≤1000000000:=by
  have h7:lootBA.size=5:=by decide
  omega
 refine GPW.ef (Ef.a6 (sK lN ab) rfl) ac ?_
 rintro _ _ ⟨rfl,rfl⟩
 repeat first|refine aa ?_|intro _|refine bN ?_
 refine GPW.evP (Ev.e7 rfl rfl hadd) ac ?_
 repeat first|refine aa ?_|intro _|refine bN ?_
 refine GPW.ef (Ef.a6 (kD (lootBA++decS lN) x.sad Y.seed.length x.scap Y.seed hs1 rfl hF.cap ab ab) rfl) ac ?_
 rintro _ _ ⟨d,rfl,rfl⟩
 repeat first|refine aa ?_|intro _|refine bN ?_
 refine GPW.ef (Ef.a6 (Cr d (bS (aD (lootBA++decS lN)) Y.seed) 0 (some ⟨bw,0,none⟩) tb.rows.length tb.rows.length ws hwl.symm ab (fun w hw=>by have:=hww w hw;omega) ab ab (ld _ _) ac) rfl) ac ?_
 rintro _ _ ⟨rfl,rfl⟩
 rw [← hkey]
 have hrows:S.cat.tables[table.toNat]!.rows=tb.rows.map RwV.m:=by rw [htm];rfl
 have hwsm:(tb.rows.map RwV.m).map (·.weight)=ws:=by rw [hws,List.map_map];rfl
 obtain ⟨p,hp⟩:∃ p,p=dg (dc Y.seed Y.loots) ws 0:=⟨_,rfl⟩
 have hpr:p.2.1=0→0≤p.1∧p.1<tb.rows.length:=by
  have h:=uP (fun w hw=>by have:=hww w hw;omega) ab ab hp
  rw [hwl] at h
  exact h
 have hlm:=fO (acc:=acc) h1 h2 ⟨h4,h5⟩ hrows hwsm hp
 rw [← hp]
 clear hp
 rw [hlm]
 by_cases h8:p.2.1=0
 case neg =>
  rw [if_pos h8]
  repeat first|refine aa ?_|intro _|refine bN ?_
  refine KX.a6 ai (Ent.trans ?_ hyc) ⟨rfl,rfl⟩
  simp only [ax]
  rw [hlN]
  exact ae
 rw [if_neg (fun h=>h h8)]
 obtain ⟨p1,p2⟩:=hpr h8
 have hpn:p.1.toNat<tb.rows.length:=ab
 have hgv:=BO tb.rows hpn
 rw [hgv]
 obtain ⟨rw_,hrw⟩:∃ r,r=tb.rows[p.1.toNat]!:=⟨_,rfl⟩
 rw [← hrw]
 have hrg:=r3 _ (ap hpn)
 have hrB:rw_.give.l.length≤64:=by rw [hrw];exact htB.2 _ (ap hpn)
 rw [← hrw] at hrg
 have hga:AmB rw_.give.l:=fun a ha=>⟨by have:=hrg.give.1 a ha;omega,(hrg.give.1 a ha).2.2.2⟩
 rw [show rw_.m.give=rw_.give.l from rfl]
 by_cases h9:rw_.give.l.length=0
 case pos =>
  have hnp:¬(0<tb.rows[p.1.toNat]!.give.l.length):=by rw [← hrw];omega
  rw [if_pos h9]
  repeat first|refine aa ?_|intro _|refine bN ?_
  refine KX.a6 ai ?_ ⟨rfl,rfl⟩
  refine Ent.trans ?_ (dq (yb:=yb) (lb:=lb) (Y:={ Y with tick:=tick,loots:=Y.loots+1 }) (L:=LedR lb S::L) x ⟨hF.cap,hF.opn,hF.full⟩)
  simp only [co,ax,List.cons_append,List.nil_append]
  rw [hlN]
  exact ae
 have hnp:0<tb.rows[p.1.toNat]!.give.l.length:=by rw [← hrw];omega
 rw [if_neg h9]
 repeat first|refine aa ?_|intro _|refine bN ?_
 rw [← hrw]
 have hmr:rw_∈tb.rows:=by rw [hrw];exact ap hpn
 obtain ⟨Y',hY'⟩:∃ Y' : YardM,Y' = { Y with loots:=(lN:Int) }:=⟨_,rfl⟩
 have hcl:([.pointer (some ⟨lb,0,none⟩),.int .i64 Y.tick,.slice x.sad Y.seed.length x.scap,.slice x.jad Y.jobs.length x.jcap,.map (some x.om),.int .i64 (lN:Int)]:List Value)=ax lb Y x:=by simp only [ax];rw [hlN]
 rw [hcl]
 refine GO.ent (L':=LedR lb S::obj yb bu (ax lb Y x)::isl aB 2 rw_.give.ad rw_.give.l::isl (encZ .u8) 1 x.sad Y.seed::osl aq 10 tJob x.jad x.jcap Y.jobs::gmap kvI SlI.v x.om x.m::bigO idsP x.m::L) ((Ent.at (A:=allP rwP tb.rows) (Ent.a8 (f:=rwP) hmr)).trans (by unfold rwP amS;exact ae)) ?_
 refine GO.ef (Ef.a6 (oJ yb lb Y x S hS hc acc rw_.give.ad rw_.give.l.length rw_.give.cap rw_.give.l 1 tick rfl hrB hga ab) rfl) ac ?_
 rintro _ _ ⟨rfl,rfl⟩
 by_cases h10:(tryM S (cK acc rw_.give.l 1 tick)).1=0
 case neg =>
  rw [if_pos h10]
  rw [jK h10]
  repeat first|refine aa ?_|intro _|refine bN ?_
  exact KX.a6 ai (Ent.trans ae hyc) ⟨rfl,rfl⟩
 rw [if_neg (fun h=>h h10)]
 repeat first|refine aa ?_|intro _|refine bN ?_
 refine KX.a6 ai ?_ ⟨rfl,rfl⟩
 refine Ent.trans ?_ (dq (yb:=yb) (lb:=lb) (Y:={ Y with tick:=tick,loots:=Y.loots+1 }) (L:=LedR lb (aI S (cK acc rw_.give.l 1 tick))::L) x ⟨hF.cap,hF.opn,hF.full⟩)
 simp only [co,ax,List.cons_append,List.nil_append]
 exact ae
end
end Go.Proofs.YtfmgkkofledkbaaGreatDoor
namespace Go.V
theorem Ent.f8 {α:Type} {f:α→HP} {l l' : List α} (h:l.Perm l') {L:List HP}:Ent (bigO f l::L) (bigO f l'::L):=fun θ R w s=>by
 have s1:=Sat.ofStars (A:=l.map f) s
 have s2:Sat θ (l'.map f++(L++R)) w:=s1.perm ((h.map f).append_right _)
 exact Sat.a6 (A:=l'.map f) s2
end Go.V
namespace Go.Proofs.YtfmgkkofledkbaaGreatDoor
open Go.V
attribute [local irreducible] G GO GP GPW GPK Ev Ef EfR Ent CB GB V.Enters
section
section
variable {κ α:Type} [DecidableEq κ]
theorem mH:∀ {m:List (κ×α)} {k:κ},k∉m.map (·.1)→gera m k=m
 | [],_,_=>rfl
 | p::m,k,h=>by
  simp only [List.map_cons,List.mem_cons,not_or] at h
  have e:(p.1 == k)=false:=by rw [beq_eq_false_iff_ne];exact fun x=>h.1 x.symm
  have ih:=mH (m:=m) (k:=k) h.2
  unfold gera at ih ⊢
  rw [List.filter_cons_of_pos (by rw [e];rfl),ih]
theorem kA:∀ {m:List (κ×α)} {k:κ},glk m k=none→k∉m.map (·.1)
 | [],_,_=>by simp
 | p::m,k,h=>by
  obtain ⟨q,a⟩:=p
  unfold glk at h
  rw [List.lookup_cons] at h
  by_cases e:k=q
  ·subst e
   simp at h
  ·have e2:(k == q)=false:=by rw [beq_eq_false_iff_ne];exact e
   rw [e2] at h
   have:=kA (m:=m) (k:=k) h
   simp only [List.map_cons,List.mem_cons,not_or]
   exact ⟨e,this⟩
theorem kU:∀ {m:List (κ×α)} {k:κ} {a:α},(m.map (·.1)).Nodup→glk m k=some a→m.Perm ((k,a)::gera m k)
 | [],_,_,_,h=>by cases h
 | p::m,k,a,hn,h=>by
  obtain ⟨q,b⟩:=p
  simp only [List.map_cons,List.nodup_cons] at hn
  unfold glk at h
  rw [List.lookup_cons] at h
  by_cases e:k=q
  ·subst e
   simp only [beq_self_eq_true] at h
   obtain rfl:b=a:=by simpa using h
   have e3:gera ((k,b)::m) k=m:=by
    have:=mH hn.1
    unfold gera at this ⊢
    rw [List.filter_cons_of_neg (by simp),this]
   rw [e3]
  ·have e2:(k == q)=false:=by rw [beq_eq_false_iff_ne];exact e
   rw [e2] at h
   have ih:=kU hn.2 h
   have e3:gera ((q,b)::m) k=(q,b)::gera m k:=by
    unfold gera
    rw [List.filter_cons_of_pos (by simp;exact fun x=>e x.symm)]
   rw [e3]
   exact (List.Perm.cons _ ih).trans (List.Perm.swap _ _ _)
theorem sU {k:κ} {a:α}:∀ m:List (κ×α),gera (m.map fun p=>if p.1=k then (k,a) else p) k=gera m k
 | []=>rfl
 | p::m=>by
  have ih:=sU (k:=k) (a:=a) m
  unfold gera at ih ⊢
  simp only [List.map_cons]
  by_cases e:p.1=k
  ·rw [if_pos e,List.filter_cons_of_neg (by simp),List.filter_cons_of_neg (by simp [e]),ih]
  ·rw [if_neg e,List.filter_cons_of_pos (by simp [e]),List.filter_cons_of_pos (by simp [e]),ih]
theorem CL {m:List (κ×α)} {k:κ} {a:α} (hn:(m.map (·.1)).Nodup):(gins m k a).Perm ((k,a)::gera m k):=by
 have h1:=kU (m:=gins m k a) (k:=k) (a:=a) (sT hn) (by rw [jm,if_pos rfl])
 have h2:gera (gins m k a) k=gera m k:=by
  unfold gins
  split
  ·exact sU m
  ·unfold gera
   rw [List.filter_append]
   simp
 rw [h2] at h1
 exact h1
end
theorem iw {L:List HP} (yb lb:Nat) (Y:YardM) (hY:Y.Ok) (k:Nat) (hk:k<Y.jobs.length) :
  Tri Tryz.prog 25 #[.pointer (some ⟨yb,0,none⟩),.int .i64 (k:Int)] (bz yb lb Y::L) (fun v L'=>v=.tuple #[.agg (aq Y.jobs[k]!).toArray,.bool true]∧L' = bz yb lb Y::L):=by
 have hl:=hY.len
 refine Tri.body (args:=[.pointer (some ⟨yb,0,none⟩),.int .i64 (k:Int)]) 25 en25 Tryz.func25 rfl rfl rfl (by simp) ?_
 refine G.c6 (f:=ew yb lb Y) ?_
 intro x
 simp only [ew,co,List.cons_append,List.nil_append]
 refine G.c8 ?_
 intro hF
 have hyc:=dq (yb:=yb) (lb:=lb) (Y:=Y) (L:=L) x hF
 simp only [co] at hyc
 repeat first|refine aa ?_|intro _
 rw [Int.toNat_natCast]
 refine KX.a6 (vs:=[.agg (aq Y.jobs[k]!).toArray,.bool true]) (ResOk.cell rfl (by rfl) (ResOk.tmp rfl ResOk.nil)) (Ent.trans ae hyc) ⟨rfl,rfl⟩
end
section
def begM (js:List JobM) (ids:List Int) (t:Int):Int:=ids.foldl (fun b k=>max b js[k.toNat]!.fin) t
def eE (acc:Int) (l:List (Int×Int)) (times tick hold:Int):StM:=cw 2 acc tick (-1) 0 (l.map (mkMv times acc hold))
noncomputable def bC (S:LedM) (Y:YardM) (acc level rule times tick:Int):(Int×Int)×LedM×YardM :=
 if ¬(aM acc∧aV Y.tick S.now tick∧cn times) then ((0,1),S,Y)
 else if ¬dG S.cat.rules rule false then ((0,6),S,Y)
 else
  let r:=S.cat.rules[rule.toNat]!
  let s:=eE acc r.take times tick (536870912+Y.jobs.length)
  let b:=begM Y.jobs (aG Y.jobs acc) tick
  if level<r.level then ((0,12),S,Y)
  else if r.take.length≠0∧(tryM S s).1≠0 then ((0,(tryM S s).1),S,Y)
  else ((Y.jobs.length,0),(if r.take.length=0 then S else aI S s),{ Y with jobs:=Y.jobs++[⟨Y.jobs.length,acc,536870912+Y.jobs.length,rule,times,b,b+r.time,false,0,0⟩],tick:=tick })
theorem iD {S:LedM} {Y:YardM} {acc level rule times tick:Int} (h:aM acc∧aV Y.tick S.now tick∧cn times) (h2:dG S.cat.rules rule false) {r:RuM} (hr:S.cat.rules[rule.toNat]! = r) :
  bC S Y acc level rule times tick=if level<r.level then ((0,12),S,Y) else if r.take.length≠0∧(tryM S (eE acc r.take times tick (536870912+Y.jobs.length))).1≠0 then ((0,(tryM S (eE acc r.take times tick (536870912+Y.jobs.length))).1),S,Y)
  else (((Y.jobs.length:Int),0),(if r.take.length=0 then S else aI S (eE acc r.take times tick (536870912+Y.jobs.length))),{ Y with jobs:=Y.jobs++[⟨Y.jobs.length,acc,536870912+Y.jobs.length,rule,times,begM Y.jobs (aG Y.jobs acc) tick,begM Y.jobs (aG Y.jobs acc) tick+r.time,false,0,0⟩],tick:=tick }):=by
 unfold bC
 rw [if_neg (fun q=>q h),if_neg (fun q=>q h2)]
 dsimp only
 rw [hr]
def slOf (m:List (Int×SlI)) (a:Int):SlI:=(glk m a).getD ⟨none,0,[]⟩
theorem BK (m:List (Int×SlI)) (a:Int):((glk m a).map SlI.v).getD (.slice none 0 0)=SlI.v (slOf m a):=by
 unfold slOf
 cases glk m a<;>rfl
theorem ns {m:List (Int×SlI)} (hn:(m.map (·.1)).Nodup) (a:Int) {L:List HP}:Ent (bigO idsP m::L) (osl (encZ .i64) 1 tInt (slOf m a).ad (slOf m a).cap (slOf m a).ids::bigO idsP (gera m a)::L):=by
 unfold slOf
 cases h:glk m a with
 | none =>
  rw [mH (kA h)]
  exact Ent.a7 (encZ .i64) 1 tInt
 | some e=>exact (Ent.f8 (kU hn h)).trans Ent.bigO_uncons
theorem qj {m:List (Int×SlI)} (hn:(m.map (·.1)).Nodup) (a:Int) (e:SlI) {L:List HP}:Ent (osl (encZ .i64) 1 tInt e.ad e.cap e.ids::bigO idsP (gera m a)::L) (bigO idsP (gins m a e)::L):=by
 have h1:Ent (idsP (a,e)::bigO idsP (gera m a)::L) (bigO idsP ((a,e)::gera m a)::L):=Ent.bigO_cons
 exact h1.trans (Ent.f8 (CL hn).symm)
theorem uV (js:List JobM) (j:JobM) (a:Int) (hd:j.done=false):aG (js++[j]) a=if j.acc=a then aG js a++[(js.length:Int)] else aG js a:=by
 have h1:(List.range js.length).filter (fun k=>decide ((js++[j])[k]!.acc=a) && !(js++[j])[k]!.done)=(List.range js.length).filter (fun k=>decide (js[k]!.acc=a) && !js[k]!.done):=by
  apply List.filter_congr
  intro k hk
  have hk' : k<js.length:=List.mem_range.1 hk
  have e:(js++[j])[k]! = js[k]!:=by rw [getElem!_of (by simp;omega),getElem!_of hk',List.getElem_append_left hk']
  rw [e]
 have h2:(js++[j])[js.length]! = j:=by rw [getElem!_of (by simp)];simp
 unfold aG
 rw [List.length_append,List.length_singleton,List.range_succ,List.filter_append,h1,List.map_append]
 by_cases h:j.acc=a
 ·rw [if_pos h]
  simp [h2,h,hd]
 ·rw [if_neg h]
  simp [h2,h]
theorem pn {Y:YardM} {x:YardX} (h:YardF Y x) (a:Int):(slOf x.m a).ids=aG Y.jobs a:=by
 rw [← h.opn a]
 unfold slOf
 cases glk x.m a<;>rfl
theorem fE {js:List JobM} {a k:Int} (h:k∈aG js a):0≤k∧k<js.length:=by
 unfold aG at h
 obtain ⟨n,hn,rfl⟩:=List.mem_map.1 h
 have:=List.mem_range.1 (List.mem_filter.1 hn).1
 omega
theorem oB {js:List JobM} {B:Int} (hj:∀ k,k<js.length→js[k]!.fin≤B):∀ (ids:List Int) (t:Int),(∀ k∈ids,0≤k∧k<js.length)→0≤t→t≤B→0≤begM js ids t∧begM js ids t≤B
 | [],t,_,h0,h1=>⟨h0,h1⟩
 | k::ids,t,hk,h0,h1=>by
  have h2:=hk k List.mem_cons_self
  have h3:=hj k.toNat ab
  exact oB hj ids (max t js[k.toNat]!.fin) (fun q hq=>hk q (List.mem_cons_of_mem _ hq)) ab ab
theorem ti (js:List JobM) (ids:List Int) (k t:Int):begM js (ids++[k]) t=max (begM js ids t) js[k.toNat]!.fin:=by
 unfold begM
 rw [List.foldl_append]
 rfl
theorem jl:cT 2:=by unfold cT;omega
attribute [local irreducible] bC tryM aI
abbrev zW:List Stp:=[.ev 0,.ev 1,.ev 2,.ev 3,.ev 4,.ev 5,.ev 6,.ev 7,.ev 8,.ev 9,.ev 10,.ev 11,.ev 12,.ev 13,.ev 14,.ev 15,.ef 16,.ef 17]
abbrev zV:List Stp:=[.ev 0,.ev 1,.ev 2,.ev 3,.ev 4,.ev 5,.ef 6,.ev 7,.ev 8,.ev 9,.ev 10,.ev 11]
abbrev zU:List Stp:=[.ev 0,.ev 1,.ev 2,.ev 3,.ev 4,.ev 5,.ev 6,.ev 7,.ev 8,.ev 9,.ev 10,.ev 11,.ef 12]
abbrev zT:List Stp:=[.ev 0,.ev 1,.ev 2,.ev 3,.ev 4,.ev 5,.ef 6,.ef 7,.ev 8,.ev 9,.ef 10]
abbrev zS:List Stp:=[.ev 0,.ev 1,.ev 2,.ev 3,.ev 4,.ev 5,.ev 6,.ev 7,.ev 8,.ev 9,.ev 10,.ev 11,.ev 12,.ef 13,.ef 14,.ef 15]
theorem bE {φ ψ:Prop} (k:ψ) (h:Hid ψ→φ:=by intro k;(with_reducible apply G.a7);first|refine G.a6 (N:=169) (id:=10) zW mixed ah (Hid.out k)|refine G.a6 (N:=169) (id:=13) zV mixed ah (Hid.out k)|refine G.a6 (N:=169) (id:=19) zU mixed ah (Hid.out k)|refine G.a6 (N:=169) (id:=22) zT mixed ah (Hid.out k)|refine G.a6 (N:=169) (id:=23) zS mixed ah (Hid.out k)):φ:=h ⟨k⟩
theorem ka {L:List HP} (yb lb:Nat) (Y:YardM) (hY:Y.Ok) (S:LedM) (hS:S.Ok) (hg:CatGood S.cat) (hc:S.cat.Ok) (acc level rule times tick:Int) :
  Tri Tryz.prog 33 #[.pointer (some ⟨yb,0,none⟩),.int .i64 acc,.int .i64 level,.int .i64 rule,.int .i64 times,.int .i64 tick] (bz yb lb Y::LedR lb S::L) (fun v L'=>v=.tuple #[.int .i64 (bC S Y acc level rule times tick).1.1,.int .i64 (bC S Y acc level rule times tick).1.2]∧L' = bz yb lb (bC S Y acc level rule times tick).2.2::LedR lb (bC S Y acc level rule times tick).2.1::L):=by
 have hjl:=hY.len
 refine Tri.body (args:=[.pointer (some ⟨yb,0,none⟩),.int .i64 acc,.int .i64 level,.int .i64 rule,.int .i64 times,.int .i64 tick]) 169 en33 Tryz.func33 rfl rfl rfl (by simp) ?_
 refine G.c6 (f:=ew yb lb Y) ?_
 intro x
 simp only [ew,co,List.cons_append,List.nil_append]
 refine G.c8 ?_
 intro hF
 have hyc:=dq (yb:=yb) (lb:=lb) (Y:=Y) (L:=LedR lb S::L) x hF
 simp only [co] at hyc
 have hno:¬(aM acc∧aV Y.tick S.now tick∧cn times)→bC S Y acc level rule times tick=((0,1),S,Y):=by
  intro h
  unfold bC
  rw [if_pos h]
 repeat first|refine aa ?_|intro _|refine bE ?_
 refine GO.ef (Ef.a6 (gm acc) rfl) ac ?_
 rintro _ _ ⟨rfl,rfl⟩
 by_cases h1:aM acc
 case neg =>
  rw [hno (fun h=>h1 h.1),an h1]
  repeat first|refine aa ?_|intro _|refine bE ?_
  exact KX.a6 ai (Ent.trans ae hyc) ⟨rfl,rfl⟩
 rw [aw h1]
 repeat first|refine aa ?_|intro _|refine bE ?_
 refine GO.ent (L':=LedR lb S::obj yb bu (ax lb Y x)::isl (encZ .u8) 1 x.sad Y.seed::osl aq 10 tJob x.jad x.jcap Y.jobs::gmap kvI SlI.v x.om x.m::bigO idsP x.m::L) ae ?_
 refine GO.ef (Ef.a6 (fG yb lb Y x S hS tick) rfl) ac ?_
 rintro _ _ ⟨rfl,rfl⟩
 by_cases h2:aV Y.tick S.now tick
 case neg =>
  rw [hno (fun h=>h2 h.2.1),an h2]
  repeat first|refine aa ?_|intro _|refine bE ?_
  exact KX.a6 ai (Ent.trans ae hyc) ⟨rfl,rfl⟩
 rw [aw h2]
 repeat first|refine aa ?_|intro _|refine bE ?_
 refine GO.ef (Ef.a6 (lp times) rfl) ac ?_
 rintro _ _ ⟨rfl,rfl⟩
 by_cases h3:cn times
 case neg =>
  rw [hno (fun h=>h3 h.2.2),an h3]
  repeat first|refine aa ?_|intro _|refine bE ?_
  exact KX.a6 ai (Ent.trans ae hyc) ⟨rfl,rfl⟩
 rw [aw h3]
 repeat first|refine aa ?_|intro _|refine bE ?_
 refine GO.ef (Ef.a6 (iN lb S) rfl) ac ?_
 rintro _ _ ⟨c,rfl,⟨hcm,hcB⟩,rfl⟩
 repeat first|refine aa ?_|intro _|refine bE ?_
 refine GO.ef (Ef.a6 (gt c hcB rule false) rfl) ac ?_
 rintro _ _ (⟨hn,rfl,rfl⟩|⟨hr,rfl,rfl⟩)
 ·rw [hcm] at hn
  have e:bC S Y acc level rule times tick=((0,6),S,Y):=by
   unfold bC
   rw [if_neg (fun q=>q ⟨h1,h2,h3⟩),if_pos hn]
  rw [e]
  repeat first|refine aa ?_|intro _|refine bE ?_
  exact KX.a6 ai (Ent.trans ae hyc) ⟨rfl,rfl⟩
 rw [hcm] at hr
 have hrl:S.cat.rules.length=c.rules.length:=by rw [← hcm];simp [CatV.m]
 have hrn:rule.toNat<c.rules.length:=by have:=hr.1;have:=hr.2.1;omega
 obtain ⟨r,hrv⟩:∃ r,c.rules[rule.toNat]! = r:=⟨_,rfl⟩
 have hrm:S.cat.rules[rule.toNat]! = r.m:=by rw [← hcm,← hrv];exact fD c.rules hrn
 have hrg:RuGood S.cat.items.length r.m:=by rw [← hrm];exact hg.ru _ (ap ab)
 have hst:=iD (level:=level) (Y:=Y) ⟨h1,h2,h3⟩ hr hrm
 rw [hst,hrv]
 clear hno hst
 simp only [aA]
 by_cases h4:level<r.level
 ·rw [if_pos (show level<r.m.level from h4)]
  repeat first|refine aa ?_|intro _|refine bE ?_
  exact KX.a6 ai (Ent.trans ae hyc) ⟨rfl,rfl⟩
 rw [if_neg (show ¬level<r.m.level from h4)]
 obtain ⟨hgt1,hgt2⟩:=hrg.take
 have hlim:=hrg.lim
 have htl:r.take.l.length≤64:=by have:r.m.take=r.take.l:=rfl;rw [← this];omega
 obtain ⟨t3,t4⟩:0≤times∧times≤1048576:=by unfold cn at h3;omega
 have hga:AmB r.take.l:=fun a ha=>⟨by have:=hgt1 a ha;omega,(hgt1 a ha).2.2.2⟩
 obtain ⟨s,hs⟩:∃ s,s=eE acc r.take.l times tick (536870912+(Y.jobs.length:Int)):=⟨_,rfl⟩
 rw [show r.m.take=r.take.l from rfl,show r.m.time=r.time from rfl,← hs]
 repeat first|((fail_if_success (with_reducible refine G.c7 11 ?_));(with_reducible apply G.seq))|refine aL ?_|intro _|refine bE ?_
 rename_i b14 b16
 refine G.a8 (α:=LedM) (fun S'=>S' = (if r.take.l.length=0 then S else aI S s)∧¬(r.take.l.length≠0∧(tryM S s).1≠0)) (fun _=>[(0,.pointer (some ⟨yb,0,none⟩)),(1,.int .i64 acc),(5,.int .i64 tick),(14,.pointer (some ⟨b14,0,none⟩)),(16,.pointer (some ⟨b16,0,none⟩))]) (fun S'=>obj b16 tJob [.int .i64 (Y.jobs.length:Int),.int .i64 acc,.int .i64 (536870912+(Y.jobs.length:Int)),.int .i64 rule,.int .i64 times,.int .i64 tick,.int .i64 0,.bool false,.int .i64 0,.int .i64 0]::obj b14 67 [.string r.name,.bool r.spawn,.int .i64 r.level,.int .i64 r.time,.int .i64 r.chance,.int .i64 r.of_,.slice r.take.ad r.take.l.length r.take.cap,.slice r.give.ad r.give.l.length r.give.cap,.slice r.back.ad r.back.l.length r.back.cap]::LedR lb S'::obj yb bu (ax lb Y x)::isl (encZ .u8) 1 x.sad Y.seed::osl aq 10 tJob x.jad x.jcap Y.jobs::gmap kvI SlI.v x.om x.m::bigO idsP x.m::L) ?_ ?_
 ·by_cases h5:r.take.l.length=0
  ·repeat first|refine aa ?_|intro _|refine bE ?_
   exact ⟨S,⟨by rw [if_pos h5],fun h=>h.1 h5⟩,aj,by exact ae⟩
  refine G.ent (Ent.at (A:=ruP r) Ent.andE) ?_
  repeat first|refine aa ?_|intro _|refine bE ?_
  refine GO.ef (Ef.a6 (jA r.take.ad r.take.l.length r.take.cap r.take.l times acc (536870912+(Y.jobs.length:Int)) rfl htl hga ⟨t3,t4⟩) rfl) ac ?_
  rintro _ _ ⟨ad2,cap2,rfl,rfl⟩
  repeat first|refine aa ?_|intro _|refine bE ?_
  rename_i b17
  refine GPW.c9 (fe (ad:=ad2)) ?_
  rintro ⟨hcp,_⟩
  have hml:(r.take.l.map (bV times acc (536870912+(Y.jobs.length:Int)))).length=r.take.l.length:=by simp
  obtain ⟨sv,hsv⟩:∃ sv:StV,sv=⟨0,2,acc,tick,-1,0,r.take.l.map (bV times acc (536870912+(Y.jobs.length:Int))),ad2,cap2⟩:=⟨_,rfl⟩
  have hsm:sv.m=s:=by rw [hs,hsv];unfold StV.m eE cw;rw [jh]
  have hse:([.int .i64 0,.int .i64 2,.int .i64 acc,.int .i64 tick,.int .i64 (-1),.int .i64 0,.slice ad2 r.take.l.length cap2]:List Value)=aK sv:=by rw [hsv];unfold aK;dsimp only;rw [hml]
  refine GPW.ent (L':=LedR lb S::stM sv::stP sv::obj b17 140 [.int .i64 0,.int .i64 2,.int .i64 acc,.int .i64 tick,.int .i64 (-1),.int .i64 0,.slice ad2 r.take.l.length cap2]::obj b16 tJob [.int .i64 (Y.jobs.length:Int),.int .i64 acc,.int .i64 (536870912+(Y.jobs.length:Int)),.int .i64 rule,.int .i64 times,.int .i64 tick,.int .i64 0,.bool false,.int .i64 0,.int .i64 0]::obj b14 67 [.string r.name,.bool r.spawn,.int .i64 r.level,.int .i64 r.time,.int .i64 r.chance,.int .i64 r.of_,.slice r.take.ad r.take.l.length r.take.cap,.slice r.give.ad r.give.l.length r.give.cap,.slice r.back.ad r.back.l.length r.back.cap]::obj yb bu (ax lb Y x)::isl (encZ .u8) 1 x.sad Y.seed::osl aq 10 tJob x.jad x.jcap Y.jobs::gmap kvI SlI.v x.om x.m::bigO idsP x.m::L) ?_ ?_
  ·rw [hsv]
   refine (Ent.frz ad2).trans ((yF r.take.l times acc (536870912+(Y.jobs.length:Int))).trans ?_)
   exact ae
  have hpost:=jJ (L:=obj b17 140 [.int .i64 0,.int .i64 2,.int .i64 acc,.int .i64 tick,.int .i64 (-1),.int .i64 0,.slice ad2 r.take.l.length cap2]::obj b16 tJob [.int .i64 (Y.jobs.length:Int),.int .i64 acc,.int .i64 (536870912+(Y.jobs.length:Int)),.int .i64 rule,.int .i64 times,.int .i64 tick,.int .i64 0,.bool false,.int .i64 0,.int .i64 0]::obj b14 67 [.string r.name,.bool r.spawn,.int .i64 r.level,.int .i64 r.time,.int .i64 r.chance,.int .i64 r.of_,.slice r.take.ad r.take.l.length r.take.cap,.slice r.give.ad r.give.l.length r.give.cap,.slice r.back.ad r.back.l.length r.back.cap]::obj yb bu (ax lb Y x)::isl (encZ .u8) 1 x.sad Y.seed::osl aq 10 tJob x.jad x.jcap Y.jobs::gmap kvI SlI.v x.om x.m::bigO idsP x.m::L) lb S hS hc sv ⟨by rw [hsv];exact jl,by rw [hsv];dsimp only;omega,by rw [hsv];dsimp only;omega,by rw [hsv];unfold I64;dsimp only;omega,by rw [hsv];intro m hm;obtain ⟨a,_,rfl⟩:=List.mem_map.1 hm;exact Nat.zero_le _⟩ dF
  rw [← hse,hsm] at hpost
  refine GPW.ef (Ef.a6 (hpost) rfl) ac ?_
  rintro _ _ ⟨rfl,rfl⟩
  by_cases h10:(tryM S s).1=0
  case neg =>
   rw [if_pos (show r.take.l.length≠0∧(tryM S s).1≠0 from ⟨h5,h10⟩),jK h10]
   repeat first|refine aa ?_|intro _|refine bE ?_
   exact KX.a6 ai (Ent.trans ae hyc) ⟨rfl,rfl⟩
  repeat first|refine aa ?_|intro _|refine bE ?_
  exact ⟨aI S s,⟨by rw [if_neg h5],fun h=>h.2 h10⟩,aj,by exact ae⟩
 rintro S' ⟨hS',hok⟩
 rw [if_neg hok,← hS']
 repeat first|refine aa ?_|intro _|refine bE ?_
 refine GO.c9 (fH (b:=x.om)) ?_
 intro hnd
 refine GO.ev (Ev.c7 rfl rfl) ac ?_
 have hlk:((x.m.lookup acc).map SlI.v).getD (.slice none 0 0)=SlI.v (slOf x.m acc):=BK x.m acc
 rw [hlk]
 refine GO.ent (Ent.at (A:=bigO idsP x.m) (ns hnd acc)) ?_
 simp only [SlI.v]
 have hids:=pn hF acc
 have hidb:∀ k∈(slOf x.m acc).ids,0≤k∧k<Y.jobs.length:=fun k hk=>fE (a:=acc) (hids▸hk)
 obtain ⟨sl,hsl⟩:∃ sl,slOf x.m acc=sl:=⟨_,rfl⟩
 rw [hsl] at hids hidb
 rw [hsl]
 have hil:sl.ids.length≤60:=by
  rw [hids]
  unfold aG
  rw [List.length_map]
  have:=List.length_filter_le (fun k=>decide (Y.jobs[k]!.acc=acc) && !Y.jobs[k]!.done) (List.range Y.jobs.length)
  rw [List.length_range] at this
  omega
 have hfb:∀ k,k<Y.jobs.length→Y.jobs[k]!.fin≤1099511627776+1000000*60:=fun k hk=>by have:=(hY.num k hk).2.2.1.2.2;omega
 have htk:0≤tick∧tick≤1099511627776:=by have:=hY.tick;unfold aV at h2;omega
 repeat first|refine aa ?_|intro _|refine bE ?_
 refine G.loop (α:=Nat) (fun i=>i≤sl.ids.length) (fun i=>[(0,.pointer (some ⟨yb,0,none⟩)),(1,.int .i64 acc),(5,.int .i64 tick),(14,.pointer (some ⟨b14,0,none⟩)),(16,.pointer (some ⟨b16,0,none⟩)),(112,.slice sl.ad sl.ids.length sl.cap),(113,.int .i64 (sl.ids.length:Int)),(114,.int .i64 (i:Int))]) (fun i=>osl (encZ .i64) 1 tInt sl.ad sl.cap sl.ids::bigO idsP (gera x.m acc)::obj b16 tJob [.int .i64 (Y.jobs.length:Int),.int .i64 acc,.int .i64 (536870912+(Y.jobs.length:Int)),.int .i64 rule,.int .i64 times,.int .i64 (begM Y.jobs (sl.ids.take i) tick),.int .i64 0,.bool false,.int .i64 0,.int .i64 0]::obj b14 67 [.string r.name,.bool r.spawn,.int .i64 r.level,.int .i64 r.time,.int .i64 r.chance,.int .i64 r.of_,.slice r.take.ad r.take.l.length r.take.cap,.slice r.give.ad r.give.l.length r.give.cap,.slice r.back.ad r.back.l.length r.back.cap]::LedR lb S'::obj yb bu (ax lb Y x)::isl (encZ .u8) 1 x.sad Y.seed::osl aq 10 tJob x.jad x.jcap Y.jobs::gmap kvI SlI.v x.om x.m::L) (fun i=>sl.ids.length - i) 0 (Nat.zero_le _) aj ae ?_
 intro i hi
 by_cases hlt:i<sl.ids.length
 case neg =>
  rw [List.take_of_length_le ab,hids]
  have hbb:=oB hfb (aG Y.jobs acc) tick (fun k hk=>fE hk) htk.1 ab
  have hrt:0≤r.time∧r.time≤1000000:=hrg.num.2.1
  rw [← hids]
  rw [← hids] at hbb
  repeat first|refine aa ?_|intro _|refine bE ?_
  obtain ⟨j,hj⟩:∃ j:JobM,j=⟨Y.jobs.length,acc,536870912+Y.jobs.length,rule,times,begM Y.jobs sl.ids tick,begM Y.jobs sl.ids tick+r.time,false,0,0⟩:=⟨_,rfl⟩
  refine GPW.ef (Ef.a7 (enc:=aq) j rfl rfl (by rw [hj];rfl) rfl rfl (by rfl) (by simp [Value.oneCell']) ab ab) ac ?_
  rintro _ _ ⟨ad3,cap3,rfl,rfl⟩
  repeat first|refine aa ?_|intro _|refine bE ?_
  have hev:∀ {env:Env} {L' R' : List HP} {t u:Nat} {ty:TypeId} [hp:PickG L' x.om Int SlI kvI SlI.v x.m R'],evE env (.tmp t)=some (.map (some x.om))→evE env (.tmp u)=some (.int .i64 acc)→Ev Tryz.prog L' env (.lookup 121 (.tmp t) (.tmp u) false) ty (.slice sl.ad sl.ids.length sl.cap):=by
   intro env L' R' t u ty hp h1 h2
   have h3:=Ev.c7 (P:=Tryz.prog) (L:=L') (env:=env) (t:=121) (ty:=ty) (kv:=kvI) (enc:=SlI.v) (m:=x.m) (Rest:=R') (k:=acc) (hkv:=⟨rfl⟩) h1 h2
   have h4:((x.m.lookup acc).map SlI.v).getD (.slice none 0 0)=.slice sl.ad sl.ids.length sl.cap:=by rw [hlk,hsl];rfl
   rw [h4] at h3
   exact h3
  refine GPW.evL (hev rfl rfl) ac ?_
  repeat first|refine aa ?_|intro _|refine bE ?_
  refine GPK.keep (hev rfl rfl) ?_
  repeat first|refine aa ?_|intro _|refine bE ?_
  refine GPW.ef (Ef.a7 (enc:=encZ .i64) (Y.jobs.length:Int) rfl rfl rfl rfl rfl (by rfl) (eS _ _) ab ab) ac ?_
  rintro _ _ ⟨ad4,cap4,rfl,rfl⟩
  repeat first|refine aa ?_|intro _|refine bE ?_
  refine GPW.efu (Ef.e9 (kv:=kvI) (enc:=SlI.v) (⟨ad4,cap4,sl.ids++[(Y.jobs.length:Int)]⟩:SlI) rfl rfl rfl rfl) ?_
  rintro _ _ rfl
  repeat first|refine aa ?_|intro _|refine bE ?_
  have hja:j.acc=acc:=by rw [hj]
  have hjd:j.done=false:=by rw [hj]
  have hF2:YardF { Y with jobs:=Y.jobs++[j],tick:=tick } { x with jad:=ad3,jcap:=cap3,m:=gins x.m acc ⟨ad4,cap4,sl.ids++[(Y.jobs.length:Int)]⟩ }:=by
   refine ⟨hF.cap,?_,?_⟩
   ·intro a
    show ((glk (gins x.m acc _) a).map (·.ids)).getD []=aG (Y.jobs++[j]) a
    rw [jm,uV _ _ _ hjd,hja]
    by_cases e:a=acc
    ·rw [if_pos e,if_pos e.symm,e,← hids]
     rfl
    ·rw [if_neg e,if_neg (fun q=>e q.symm)]
     exact hF.opn a
   ·intro p hp
    rcases List.mem_cons.1 (mG p hp) with h|h
    ·rw [h]
     simp
    ·exact hF.full p h
  have hcl:=dq (yb:=yb) (lb:=lb) (L:=LedR lb S'::L) { x with jad:=ad3,jcap:=cap3,m:=gins x.m acc ⟨ad4,cap4,sl.ids++[(Y.jobs.length:Int)]⟩ } hF2
  rw [hj] at hcl ⊢
  refine KX.a6 ai (Ent.trans ?_ hcl) ⟨rfl,rfl⟩
  refine Ent.trans (B:=osl (encZ .i64) 1 tInt ad4 cap4 (sl.ids++[(Y.jobs.length:Int)])::bigO idsP (gera x.m acc)::obj yb bu (ax lb { Y with jobs:=Y.jobs++[j],tick:=tick } { x with jad:=ad3,jcap:=cap3,m:=gins x.m acc ⟨ad4,cap4,sl.ids++[(Y.jobs.length:Int)]⟩ })::isl (encZ .u8) 1 x.sad Y.seed::osl aq 10 tJob ad3 cap3 (Y.jobs++[j])::gmap kvI SlI.v x.om (gins x.m acc ⟨ad4,cap4,sl.ids++[(Y.jobs.length:Int)]⟩)::LedR lb S'::L) ?_ ?_
  ·rw [hj]
   exact ae
  ·refine (qj hnd acc ⟨ad4,cap4,sl.ids++[(Y.jobs.length:Int)]⟩).trans ?_
   rw [hj]
   simp only [co]
   exact ae
 have hii:(i:Int).toNat=i:=ab
 have hkb:=hidb _ (ap hlt)
 have e:=ti Y.jobs (sl.ids.take i) sl.ids[i]! tick
 rw [getElem!_of hlt,← List.take_succ_eq_append_getElem hlt,← getElem!_of hlt] at e
 have hkb' : 0≤sl.ids[(i:Int).toNat]!∧sl.ids[(i:Int).toNat]! < Y.jobs.length:=by rw [hii];exact hkb
 repeat first|refine aa ?_|intro _|refine bE ?_
 rw [hii,← e]
 refine ⟨i+1,ab,ab,?_,by exact ae⟩
 rw [show ((i+1:Nat):Int)=(i:Int)+1 by omega]
 exact aj
end
section
def vU (g:FuncId) (cap:List Value) (p:Int→Prop) [DecidablePred p] (C:HP):Prop:=∀ (n:Int) (L:List HP),Tri Tryz.prog g (([]++[Value.int .i64 n]++cap:List Value)).toArray (C::L) (fun v L'=>v=.bool (dB (p n))∧L' = C::L)
theorem xY {L:List HP} (g:FuncId) (cap:List Value) (p:Int→Prop) [DecidablePred p] (C:HP) (hg:vU g cap p C) (ad:Option Addr) (c:Nat) (xs:List Int) [hr:Rds (C::L) ad Int (encZ .i64) 1 xs] (hl:xs.length≤1000000) :
  Tri Tryz.prog 185 #[.slice ad xs.length c,.func (.func g) #[] cap.toArray] (C::L) (fun v L'=>∃ i:Int,v=.int .i64 i∧((i = -1∧∀ k,k<xs.length→¬p xs[k]!)∨∃ k:Nat,i=k∧k<xs.length∧p xs[k]!∧∀ j,j<k→¬p xs[j]!)∧L' = C::L):=by
 refine Tri.body (args:=[.slice ad xs.length c,.func (.func g) #[] cap.toArray]) 19 Iy Tryz.func185 rfl rfl rfl (by simp) ?_
 repeat first|refine aa ?_|intro _
 refine G.loop (α:=Nat) (fun i=>i≤xs.length∧∀ j,j<i→¬p xs[j]!) (fun i=>[(0,.slice ad xs.length c),(1,.func (.func g) #[] cap.toArray),(7,.int .i64 (xs.length:Int)),(8,.int .i64 (i:Int))]) (fun _=>C::L) (fun i=>xs.length - i) 0 ⟨Nat.zero_le _,fun j hj=>by omega⟩ aj (Ent.refl _) ?_
 rintro i ⟨hi,hb⟩
 by_cases hlt:i<xs.length
 case neg =>
  obtain rfl:i=xs.length:=ab
  repeat first|refine aa ?_|intro _
  exact KX.a6 ai (Ent.refl _) ⟨-1,rfl,.inl ⟨rfl,hb⟩,rfl⟩
 have hii:(i:Int).toNat=i:=ab
 repeat first|refine aa ?_|intro _
 rw [hii]
 refine GO.ef (Ef.a8 rfl rfl (hg xs[i]! _)) ac ?_
 rintro _ _ ⟨rfl,rfl⟩
 by_cases hp:p xs[i]!
 ·rw [aw hp]
  repeat first|refine aa ?_|intro _
  exact KX.a6 ai (Ent.refl _) ⟨i,rfl,.inr ⟨i,rfl,hlt,hp,hb⟩,rfl⟩
 ·rw [an hp]
  repeat first|refine aa ?_|intro _
  refine ⟨i+1,⟨ab,?_⟩,ab,?_,Ent.refl _⟩
  ·intro j hj
   rcases Nat.lt_or_ge j i with h|h
   ·exact hb j h
   ·obtain rfl:j=i:=ab
    exact hp
  ·rw [show ((i+1:Nat):Int)=(i:Int)+1 by omega]
   exact aj
def ey (p:Int→Prop) [DecidablePred p] (xs:List Int):List Int:=xs.filter fun x=>!dB (p x)
theorem nH {p:Int→Prop} [DecidablePred p] {xs:List Int} (h:∀ k,k<xs.length→¬p xs[k]!):ey p xs=xs:=by
 unfold ey
 rw [List.filter_eq_self]
 intro a ha
 obtain ⟨k,hk,rfl⟩:=List.mem_iff_getElem.1 ha
 have:=h k hk
 rw [getElem!_of hk] at this
 rw [an this]
 rfl
theorem iW {p:Int→Prop} [DecidablePred p] {xs:List Int} {j:Nat} (h:j<xs.length):ey p (xs.take (j+1))=ey p (xs.take j)++(if p xs[j]! then [] else [xs[j]!]):=by
 unfold ey
 rw [List.take_succ_eq_append_getElem h,List.filter_append,← getElem!_of h]
 congr 1
 generalize xs[j]! = v
 by_cases hp:p v
 ·rw [if_pos hp]
  simp [aw hp]
 ·rw [if_neg hp]
  simp [an hp]
theorem vG {L:List HP} (g:FuncId) (cap:List Value) (p:Int→Prop) [DecidablePred p] (C:HP) (hg:vU g cap p C) (ad:Option Addr) (c:Nat) (xs:List Int) (hl:xs.length≤1000000) :
  Tri Tryz.prog 121 #[.slice ad xs.length c,.func (.func g) #[] cap.toArray] (C::osl (encZ .i64) 1 tInt ad c xs::L) (fun v L'=>v=.slice ad (ey p xs).length c∧L' = C::osl (encZ .i64) 1 tInt ad c (ey p xs)::L):=by
 refine Tri.body (args:=[.slice ad xs.length c,.func (.func g) #[] cap.toArray]) 42 Jp Tryz.func121 rfl rfl rfl (by simp) ?_
 refine G.c9 (fe (ad:=ad)) ?_
 rintro ⟨hcp,_⟩
 repeat first|refine aa ?_|intro _
 refine GO.ef (Ef.a6 (xY g cap p C hg ad c xs hl) rfl) ac ?_
 rintro _ _ ⟨z,rfl,(⟨rfl,hz⟩|⟨i0,rfl,hi0,hpi,hbi⟩),rfl⟩
 ·rw [nH hz]
  repeat first|refine aa ?_|intro _
  exact KX.a6 ai (Ent.refl _) ⟨rfl,rfl⟩
 have hk0:ey p (xs.take i0)=xs.take i0:=nH (fun k hk=>by
  have hk' : k<i0:=by rw [List.length_take] at hk;omega
  rw [getElem!_of hk,List.getElem_take,← getElem!_of ab]
  exact hbi k hk')
 repeat first|refine aa ?_|intro _
 refine G.loop (α:=Nat×Nat×List Int) (fun z=>z.1<z.2.1∧z.2.1≤xs.length∧z.2.2.length=xs.length∧z.2.2.take z.1=ey p (xs.take z.2.1)∧z.2.2.drop z.2.1=xs.drop z.2.1) (fun z=>[(0,.slice ad xs.length c),(1,.func (.func g) #[] cap.toArray),(5,.int .i64 (z.1:Int)),(6,.int .i64 (z.2.1:Int))]) (fun z=>C::osl (encZ .i64) 1 tInt ad c z.2.2::L) (fun z=>xs.length - z.2.1) (i0,i0+1,xs) ⟨Nat.lt_succ_self _,hi0,rfl,by rw [iW hi0,if_pos hpi,hk0,List.append_nil],rfl⟩ aj (Ent.refl _) ?_
 rintro ⟨i,j,ys⟩ ⟨h1,h2,h3,h4,h5⟩
 dsimp only at h1 h2 h3 h4 h5 ⊢
 by_cases hlt:j<xs.length
 case neg =>
  obtain rfl:j=xs.length:=ab
  rw [List.take_length] at h4
  have hkl:(ey p xs).length=i:=by rw [← h4,List.length_take];omega
  repeat first|refine aa ?_|intro _
  refine GO.efu (Ef.j9 (i:=i) (xs:=ys) rfl ab (by simp [Value.oneCell'])) ?_
  rintro _ _ ⟨rfl,rfl⟩
  rw [h4]
  repeat first|refine aa ?_|intro _
  exact KX.a6 ai ae ⟨by rw [hkl];show Value.slice ad (i:Int).toNat c=_;rw [Int.toNat_natCast],rfl⟩
 have hjj:(j:Int).toNat=j:=ab
 have hyj:ys[j]! = xs[j]!:=by
  have e:=congrArg (fun l=>l[0]?) h5
  simp only [List.getElem?_drop,Nat.add_zero] at e
  rw [List.getElem?_eq_getElem ab,List.getElem?_eq_getElem hlt] at e
  rw [getElem!_of ab,getElem!_of hlt]
  simpa using e
 repeat first|refine aa ?_|intro _
 rw [hjj,hyj]
 refine GO.ef (Ef.a8 rfl rfl (hg xs[j]! _)) ac ?_
 rintro _ _ ⟨rfl,rfl⟩
 have hdr:∀ zs:List Int,zs.drop j=xs.drop j→zs.drop (j+1)=xs.drop (j+1):=fun zs h=>by
  have:=congrArg (List.drop 1) h
  simpa [List.drop_drop] using this
 by_cases hp:p xs[j]!
 ·rw [aw hp]
  repeat first|refine aa ?_|intro _
  refine ⟨(i,j+1,ys),⟨by dsimp only;omega,by dsimp only;omega,h3,?_,hdr ys h5⟩,by dsimp only;omega,?_,Ent.refl _⟩
  ·dsimp only
   rw [iW hlt,if_pos hp,List.append_nil]
   exact h4
  ·dsimp only
   rw [show ((j+1:Nat):Int)=(j:Int)+1 by omega]
   exact aj
 ·rw [an hp]
  have hii:(i:Int).toNat=i:=ab
  repeat first|refine aa ?_|intro _
  rw [hii]
  refine ⟨(i+1,j+1,ys.set i xs[j]!),⟨by dsimp only;omega,by dsimp only;omega,by dsimp only;rw [List.length_set];exact h3,?_,?_⟩,by dsimp only;omega,?_,by exact ae⟩
  ·dsimp only
   rw [iW hlt,if_neg hp,← h4,List.take_succ_eq_append_getElem (by rw [List.length_set];omega),List.getElem_set_self,List.take_set_of_le (Nat.le_refl _)]
  ·dsimp only
   rw [List.drop_set_of_lt ab]
   exact hdr ys h5
  ·dsimp only
   rw [show ((j+1:Nat):Int)=(j:Int)+1 by omega,show ((i+1:Nat):Int)=(i:Int)+1 by omega]
   exact aj
end
end Go.Proofs.YtfmgkkofledkbaaGreatDoor
namespace Go.V
def oD (ad:Option Addr):Prop:=∃ a,ad=some a
theorem Ev.a7 {P:Program} {L:List HP} {env:Env} {ty:TypeId} {x:Operand} {ad:Option Addr} {sz j o:Nat} (hx:evE env x=some (.pointer (elP ad sz j o))) (h:oD ad):Ev P L env (.nilCheck x) ty (.pointer (elP ad sz j o)):=by
 obtain ⟨g,rfl⟩:=h
 exact Ev.nilCheck (a:=Addr.add g (j*sz+o)) hx
theorem pz {α:Type} {enc:α→List Value} {sz E:Nat} {ad:Option Addr} {cap:Nat} {xs:List α} {L R' : List HP} [h:PickOsl L ad α enc sz E cap xs R'] (h0:0<xs.length):∀ θ R w,Sat θ (L++R) w→oD ad:=fun θ R w s=>by
 have s1:Sat θ (osl enc sz E ad cap xs::(R'++R)) w:=s.perm (h.perm.append_right R)
 obtain ⟨_,h1,_,h2⟩:=s1.osl_parts
 rcases h2 with ⟨_,h3⟩|⟨g,cur,h3,_⟩
 ·omega
 ·exact ⟨_,h3⟩
theorem Dt {α:Type} {enc:α→List Value} {sz:Nat} {ad:Option Addr} {xs:List α} {L:List HP} [h:Rds L ad α enc sz xs] (h0:0<xs.length):∀ θ R w,Sat θ (L++R) w→oD ad:=fun θ R w s=>by
 rcases (h.rd θ R w s).2 with h1|⟨a,h1,_⟩
 ·rw [h1] at h0;simp at h0
 ·exact ⟨a,h1⟩
end Go.V
namespace Go.Proofs.YtfmgkkofledkbaaGreatDoor
open Go.V
attribute [local irreducible] G GO GP GPW GPK Ev Ef EfR Ent CB GB V.Enters
section
def finJ (j:JobM):JobM:={ j with done:=true }
def finY (Y:YardM) (k:Nat):YardM:={ Y with jobs:=Y.jobs.set k (finJ Y.jobs[k]!) }
theorem dj {α:Type} [Inhabited α] {l:List α} {k i:Nat} {a:α} (h:i<l.length):(l.set k a)[i]! = if i=k then a else l[i]!:=by
 rw [getElem!_of (by rw [List.length_set];exact h),getElem!_of h,List.getElem_set]
 by_cases e:k=i
 ·rw [if_pos e,if_pos e.symm]
 ·rw [if_neg e,if_neg (fun x=>e x.symm)]
theorem xN (js:List JobM) {k:Nat} (hk:k<js.length) (a:Int):aG (js.set k (finJ js[k]!)) a=ey (fun n=>n=(k:Int)) (aG js a):=by
 unfold aG ey
 rw [List.filter_map,List.filter_filter,List.length_set]
 congr 1
 apply List.filter_congr
 intro i hi
 have hi' : i<js.length:=List.mem_range.1 hi
 rw [dj hi']
 simp only [Function.comp]
 by_cases e:i=k
 ·subst e
  rw [if_pos rfl,aw rfl]
  simp [finJ]
 ·rw [if_neg e,an ab]
  simp
theorem xP {js:List JobM} {a:Int} {k:Nat} (h:(k:Int)∈aG js a):js[k]!.acc=a:=by
 unfold aG at h
 obtain ⟨i,hi,e⟩:=List.mem_map.1 h
 obtain rfl:i=k:=ab
 have:=(List.mem_filter.1 hi).2
 simp only [Bool.and_eq_true,decide_eq_true_eq] at this
 exact this.1
theorem AV {k:Int} {xs:List Int} (h:k∉xs):ey (fun n=>n=k) xs=xs:=nH (fun i hi e=>h (e▸ap hi))
theorem yK {Y:YardM} {x:YardX} (hF:YardF Y x) {k:Nat} (hk:k<Y.jobs.length) {m' : List (Int×SlI)} (h1:((glk m' Y.jobs[k]!.acc).map (·.ids)).getD []=ey (fun n=>n=(k:Int)) (aG Y.jobs Y.jobs[k]!.acc)) (h2:∀ a,a≠Y.jobs[k]!.acc→glk m' a=glk x.m a) (h3:∀ p∈m',p.2.ids≠[]):YardF (finY Y k) { x with m:=m' }:=by
 refine ⟨hF.cap,?_,h3⟩
 intro a
 show ((glk m' a).map (·.ids)).getD []=aG (Y.jobs.set k (finJ Y.jobs[k]!)) a
 rw [xN _ hk]
 by_cases e:a=Y.jobs[k]!.acc
 ·rw [e]
  exact h1
 ·rw [h2 a e,hF.opn a,AV (fun h=>e (xP h).symm)]
abbrev ju:Nat:=145
def finC (b:Nat) (jad:Option Addr) (jcap k:Nat) (js:List JobM):HP:=aX [obj b ju [.pointer (elP jad 10 k 0)],osl aq 10 tJob jad jcap js]
theorem Bd (b:Nat) (jad:Option Addr) (jcap k:Nat) (js:List JobM) (hk:k<js.length) (hid:js[k]!.id=k) (had:oD jad):vU 122 [.pointer (some ⟨b,0,none⟩)] (fun n=>n=(k:Int)) (finC b jad jcap k js):=by
 intro n L
 refine Tri.body (args:=[.int .i64 n,.pointer (some ⟨b,0,none⟩)]) 10 Jo Tryz.func122 rfl rfl rfl (by simp) ?_
 refine G.ent Ent.openS ?_
 simp only [List.cons_append,List.nil_append]
 repeat first|refine aa ?_|intro _
 refine GO.ev (Ev.a7 rfl had) ac ?_
 repeat first|refine aa ?_|intro _
 rw [hid]
 refine KX.a6 ai ?_ ⟨rfl,rfl⟩
 exact Ent.e7 (A:=[_,_]) (L:=L)
theorem yM {env:Env} {L R:List HP} {t u:Nat} {ty:TypeId} {m:List (Int×SlI)} {om:Nat} {a acc:Int} {sl:SlI} [hp:PickG L om Int SlI kvI SlI.v m R] (ha:a=acc) (hsl:slOf m acc=sl) (h1:evE env (.tmp t)=some (.map (some om))) (h2:evE env (.tmp u)=some (.int .i64 a)):Ev Tryz.prog L env (.lookup 121 (.tmp t) (.tmp u) false) ty (.slice sl.ad sl.ids.length sl.cap):=by
 subst ha
 have h3:=Ev.c7 (P:=Tryz.prog) (L:=L) (env:=env) (t:=121) (ty:=ty) (kv:=kvI) (enc:=SlI.v) (m:=m) (Rest:=R) (k:=a) (hkv:=⟨rfl⟩) h1 h2
 have h4:((m.lookup a).map SlI.v).getD (.slice none 0 0)=.slice sl.ad sl.ids.length sl.cap:=by rw [← hsl];exact BK m a
 rw [h4] at h3
 exact h3
abbrev Cc:List Stp:=[.ev 0,.ev 1,.ev 2,.ev 3,.ev 4,.ev 5,.ev 6,.ev 7,.ev 8,.ev 9,.ef 10,.ev 11]
abbrev Cb:List Stp:=[.ev 0,.ev 1,.ev 2,.ev 3,.ev 4,.ev 5,.ev 6,.ev 7,.ef 8]
abbrev Ca:List Stp:=[.ev 0,.ev 1,.ev 2,.ev 3,.ev 4,.ev 5,.ev 6,.ev 7,.ev 8,.ef 9]
theorem dm {φ ψ:Prop} (k:ψ) (h:Hid ψ→φ:=by intro k;(with_reducible apply G.a7);first|refine G.a6 (N:=39) (id:=2) Cc mixed ah (Hid.out k)|refine G.a6 (N:=39) (id:=4) Cb mixed ah (Hid.out k)|refine G.a6 (N:=39) (id:=5) Ca mixed ah (Hid.out k)):φ:=h ⟨k⟩
theorem pg {L:List HP} (yb lb:Nat) (Y:YardM) (hY:Y.Ok) (x:YardX) (hF:YardF Y x) (k:Nat) (hk:k<Y.jobs.length) :
  Tri Tryz.prog 78 #[.pointer (some ⟨yb,0,none⟩),.pointer (elP x.jad 10 k 0)] (co yb lb Y x L) (fun _ L'=>∃ m',YardF (finY Y k) { x with m:=m' }∧L' = co yb lb (finY Y k) { x with m:=m' } L):=by
 have hjl:=hY.len
 obtain ⟨hid,hhold⟩:=hY.id k hk
 obtain ⟨js,hjs⟩:∃ js,js=Y.jobs.set k (finJ Y.jobs[k]!):=⟨_,rfl⟩
 have hjsl:js.length=Y.jobs.length:=by rw [hjs,List.length_set]
 have hjk:js[k]! = finJ Y.jobs[k]!:=by rw [hjs,dj hk,if_pos rfl]
 have hkj:k<js.length:=ab
 refine Tri.body (args:=[.pointer (some ⟨yb,0,none⟩),.pointer (elP x.jad 10 k 0)]) 39 en78 Tryz.func78 rfl rfl rfl (by simp) ?_
 simp only [co]
 refine G.c9 (pz (ad:=x.jad) (by omega:0<Y.jobs.length)) ?_
 intro had
 refine G.c9 (fH (b:=x.om)) ?_
 intro hnd
 repeat first|refine aa ?_|intro _|refine dm ?_
 rename_i b3
 refine GO.ev (Ev.a7 rfl had) ac ?_
 repeat first|refine aa ?_|intro _|refine dm ?_
 refine GO.efu (Ef.f8 (enc:=aq) (finJ Y.jobs[k]!) rfl rfl rfl rfl hk ac) ?_
 rintro _ _ rfl
 rw [← hjs]
 obtain ⟨acc,hacc⟩:∃ a,Y.jobs[k]!.acc=a:=⟨_,rfl⟩
 have hja:js[k]!.acc=acc:=by rw [hjk];exact hacc
 have hids:=pn hF acc
 obtain ⟨sl,hsl⟩:∃ sl,slOf x.m acc=sl:=⟨_,rfl⟩
 rw [hsl] at hids
 have hil:sl.ids.length≤60:=by
  rw [hids]
  unfold aG
  rw [List.length_map]
  have:=List.length_filter_le (fun k=>decide (Y.jobs[k]!.acc=acc) && !Y.jobs[k]!.done) (List.range Y.jobs.length)
  rw [List.length_range] at this
  omega
 repeat first|refine aa ?_|intro _|refine dm ?_
 refine GPW.evP (Ev.a7 rfl had) ac ?_
 repeat first|refine aa ?_|intro _|refine dm ?_
 refine GPW.evL (yM hja hsl rfl rfl) ac ?_
 repeat first|refine aa ?_|intro _|refine dm ?_
 refine GPW.ent (Ent.at (A:=bigO idsP x.m) (ns hnd acc)) ?_
 rw [hsl]
 refine GPW.ent (L':=finC b3 x.jad x.jcap k js::osl (encZ .i64) 1 tInt sl.ad sl.cap sl.ids::bigO idsP (gera x.m acc)::obj yb bu (ax lb Y x)::isl (encZ .u8) 1 x.sad Y.seed::gmap kvI SlI.v x.om x.m::L) ?_ ?_
 ·refine Ent.trans (B:=[obj b3 ju [.pointer (elP x.jad 10 k 0)],osl aq 10 tJob x.jad x.jcap js]++(osl (encZ .i64) 1 tInt sl.ad sl.cap sl.ids::bigO idsP (gera x.m acc)::obj yb bu (ax lb Y x)::isl (encZ .u8) 1 x.sad Y.seed::gmap kvI SlI.v x.om x.m::L)) ?_ Ent.e7
  simp only [List.cons_append,List.nil_append]
  exact ae
 refine GPW.ef (Ef.a6 (vG _ _ (fun n=>n=(k:Int)) (finC b3 x.jad x.jcap k js) (Bd b3 x.jad x.jcap k js hkj (by rw [hjk];exact hid) had) sl.ad sl.cap sl.ids ab) rfl) ac ?_
 rintro _ _ ⟨rfl,rfl⟩
 have hyl:(finY Y k).jobs=js:=hjs.symm
 by_cases hk0:(ey (fun n=>n=(k:Int)) sl.ids).length=0
 ·repeat first|refine aa ?_|intro _|refine dm ?_
  refine GPW.ent Ent.openS ?_
  simp only [List.cons_append,List.nil_append]
  repeat first|refine aa ?_|intro _|refine dm ?_
  refine GPW.evP (Ev.a7 rfl had) ac ?_
  repeat first|refine aa ?_|intro _|refine dm ?_
  refine GPW.efu (Ef.k5 (kv:=kvI) (enc:=SlI.v) rfl rfl) ?_
  rintro _ _ rfl
  repeat first|refine aa ?_|intro _|refine dm ?_
  have hm:YardF (finY Y k) { x with m:=gera x.m acc }:=by
   refine yK hF hk ?_ ?_ ?_
   ·rw [hacc,pH,if_pos rfl,← hids,List.eq_nil_of_length_eq_zero hk0]
    rfl
   ·intro a ha
    rw [hacc] at ha
    rw [pH,if_neg ha]
   ·intro p hp
    exact hF.full p (List.mem_filter.1 hp).1
  refine KX.a8 ai ?_ ⟨gera x.m acc,hm,rfl⟩
  rw [hja,hyl]
  show Ent _ (obj yb bu [.pointer (some ⟨lb,0,none⟩),.int .i64 Y.tick,.slice x.sad Y.seed.length x.scap,.slice x.jad (finY Y k).jobs.length x.jcap,.map (some x.om),.int .i64 Y.loots]::isl (encZ .u8) 1 x.sad Y.seed::_)
  rw [hyl,hjsl]
  exact ae
 ·repeat first|refine aa ?_|intro _|refine dm ?_
  refine GPW.ent Ent.openS ?_
  simp only [List.cons_append,List.nil_append]
  repeat first|refine aa ?_|intro _|refine dm ?_
  refine GPW.evP (Ev.a7 rfl had) ac ?_
  repeat first|refine aa ?_|intro _|refine dm ?_
  refine GPW.efu (Ef.e9 (kv:=kvI) (enc:=SlI.v) (⟨sl.ad,sl.cap,ey (fun n=>n=(k:Int)) sl.ids⟩:SlI) rfl rfl rfl rfl) ?_
  rintro _ _ rfl
  repeat first|refine aa ?_|intro _|refine dm ?_
  have hm:YardF (finY Y k) { x with m:=gins x.m acc ⟨sl.ad,sl.cap,ey (fun n=>n=(k:Int)) sl.ids⟩ }:=by
   refine yK hF hk ?_ ?_ ?_
   ·rw [hacc,jm,if_pos rfl,← hids]
    rfl
   ·intro a ha
    rw [hacc] at ha
    rw [jm,if_neg ha]
   ·intro p hp
    rcases List.mem_cons.1 (mG p hp) with h|h
    ·rw [h]
     intro q
     exact hk0 (by rw [show ey (fun n=>n=(k:Int)) sl.ids=[] from q];rfl)
    ·exact hF.full p h
  refine KX.a8 ai ?_ ⟨gins x.m acc ⟨sl.ad,sl.cap,ey (fun n=>n=(k:Int)) sl.ids⟩,hm,rfl⟩
  rw [hja,hyl]
  show Ent _ (obj yb bu [.pointer (some ⟨lb,0,none⟩),.int .i64 Y.tick,.slice x.sad Y.seed.length x.scap,.slice x.jad (finY Y k).jobs.length x.jcap,.map (some x.om),.int .i64 Y.loots]::isl (encZ .u8) 1 x.sad Y.seed::_)
  rw [hyl,hjsl]
  refine Ent.trans (B:=osl (encZ .i64) 1 tInt sl.ad sl.cap (ey (fun n=>n=(k:Int)) sl.ids)::bigO idsP (gera x.m acc)::obj yb bu (ax lb Y x)::isl (encZ .u8) 1 x.sad Y.seed::osl aq 10 tJob x.jad x.jcap js::gmap kvI SlI.v x.om (gins x.m acc ⟨sl.ad,sl.cap,ey (fun n=>n=(k:Int)) sl.ids⟩)::L) ae ?_
  refine (qj hnd acc ⟨sl.ad,sl.cap,ey (fun n=>n=(k:Int)) sl.ids⟩).trans ?_
  exact ae
def gbT (acc tick hold:Int) (i:Int) (n:Int):StM:=cw 2 acc tick (-1) 0 [⟨hold,acc,i,n,[]⟩]
noncomputable def gbS (acc tick hold:Int) (S:LedM) (i:Int):LedM:=if lsum (S.stk hold i)=0 then S else aI S (gbT acc tick hold i (lsum (S.stk hold i)))
noncomputable def gbM (acc tick hold:Int) (S:LedM) (k:Nat):LedM:=(List.range k).foldl (fun S (i:Nat)=>gbS acc tick hold S (i:Int)) S
theorem FT {acc tick hold:Int} {S:LedM} {i:Int} (h:S.Ok):(gbS acc tick hold S i).Ok:=by
 unfold gbS
 split
 ·exact h
 ·exact fj h dF
theorem Fl (acc tick hold:Int) (S:LedM) (i:Int):(gbS acc tick hold S i).cat=S.cat:=by
 unfold gbS
 split
 ·rfl
 ·unfold aI;split<;>rfl
theorem jo (acc tick hold:Int) (S:LedM) (k:Nat):gbM acc tick hold S (k+1)=gbS acc tick hold (gbM acc tick hold S k) (k:Int):=by
 unfold gbM
 rw [List.range_succ,List.foldl_append]
 rfl
theorem lH {acc tick hold:Int} {S:LedM} (h:S.Ok):∀ k,(gbM acc tick hold S k).Ok∧(gbM acc tick hold S k).cat=S.cat
 | 0=>⟨h,rfl⟩
 | k+1=>by
  obtain ⟨h1,h2⟩:=lH (acc:=acc) (tick:=tick) (hold:=hold) h k
  rw [jo]
  exact ⟨FT h1,(Fl ..).trans h2⟩
attribute [local irreducible] tryM aI
abbrev BZ:List Stp:=[.ev 0,.ev 1,.ev 2,.ev 3,.ev 4,.ev 5,.ev 6,.ev 7,.ev 8,.ev 9,.ef 10,.ev 11,.ef 12]
theorem fr {φ ψ:Prop} (k:ψ) (h:Hid ψ→φ:=by intro k;(with_reducible apply G.a7);first|refine G.a6 (N:=47) (id:=6) BZ mixed ah (Hid.out k)):φ:=h ⟨k⟩
theorem nb {L:List HP} (yb lb:Nat) (Y:YardM) (x:YardX) (S:LedM) (hS:S.Ok) (hc:S.cat.Ok) (hil:S.cat.items.length≤64) (hold acc:Int) :
  Tri Tryz.prog 79 #[.pointer (some ⟨yb,0,none⟩),.int .i64 hold,.int .i64 acc] (LedR lb S::obj yb bu (ax lb Y x)::L) (fun _ L'=>L' = LedR lb (gbM acc Y.tick hold S S.cat.items.length)::obj yb bu (ax lb Y x)::L):=by
 refine Tri.body (args:=[.pointer (some ⟨yb,0,none⟩),.int .i64 hold,.int .i64 acc]) 47 en79 Tryz.func79 rfl rfl rfl (by simp) ?_
 repeat first|refine aa ?_|intro _|refine fr ?_
 refine GO.ef (Ef.a6 (iN lb S) rfl) ac ?_
 rintro _ _ ⟨c,rfl,⟨hcm,hcB⟩,rfl⟩
 have hcl:S.cat.items.length=c.items.length:=by rw [← hcm];rfl
 simp only [CatV.cells]
 refine GO.ev (Ev.t8 (off:=0) (fs:=Tryz.prog.fieldsOf 32) (fd:=(Tryz.prog.fieldsOf 32)[0]!) ah ah ah (fun _=>by kernel_rfl) rfl rfl) ac ?_
 repeat first|refine aa ?_|intro _|refine fr ?_
 rw [← hcl]
 refine G.loop (α:=Nat) (fun i=>i≤S.cat.items.length) (fun i=>[(0,.pointer (some ⟨yb,0,none⟩)),(1,.int .i64 hold),(2,.int .i64 acc),(15,.int .i64 (S.cat.items.length:Int)),(16,.int .i64 (i:Int))]) (fun i=>LedR lb (gbM acc Y.tick hold S i)::obj yb bu (ax lb Y x)::L) (fun i=>S.cat.items.length - i) 0 (Nat.zero_le _) aj ae ?_
 intro i hi
 by_cases hlt:i<S.cat.items.length
 case neg =>
  obtain rfl:i=S.cat.items.length:=ab
  repeat first|refine aa ?_|intro _|refine fr ?_
  exact KX.a8 ai ae rfl
 obtain ⟨hg1,hg2⟩:=lH (acc:=acc) (tick:=Y.tick) (hold:=hold) hS i
 have hsu:=jo acc Y.tick hold S i
 obtain ⟨T,hT⟩:∃ T,T=gbM acc Y.tick hold S i:=⟨_,rfl⟩
 rw [← hT] at hg1 hg2 hsu ⊢
 repeat first|refine aa ?_|intro _|refine fr ?_
 refine GO.ef (Ef.a6 (jQ lb T hg1 hold (i:Int)) rfl) ac ?_
 rintro _ _ ⟨rfl,rfl⟩
 by_cases h0:lsum (T.stk hold (i:Int))=0
 ·have e:gbS acc Y.tick hold T (i:Int)=T:=if_pos h0
  rw [e] at hsu
  repeat first|refine aa ?_|intro _|refine fr ?_
  refine ⟨i+1,ab,ab,?_,by rw [hsu];exact Ent.refl _⟩
  rw [show ((i+1:Nat):Int)=(i:Int)+1 by omega]
  exact aj
 have e:gbS acc Y.tick hold T (i:Int)=aI T (gbT acc Y.tick hold (i:Int) (lsum (T.stk hold (i:Int)))):=if_neg h0
 rw [e] at hsu
 repeat first|refine aa ?_|intro _|refine fr ?_
 rename_i b17 b18
 obtain ⟨n,hn⟩:∃ n,lsum (T.stk hold (i:Int))=n:=⟨_,rfl⟩
 rw [hn] at e hsu
 rw [hn]
 obtain ⟨mv,hmv⟩:∃ mv:MvV,mv=⟨⟨hold,acc,i,n,[]⟩,none,0⟩:=⟨_,rfl⟩
 obtain ⟨sv,hsv⟩:∃ sv:StV,sv=⟨0,2,acc,Y.tick,-1,0,[mv],some ⟨b18,0,none⟩,1⟩:=⟨_,rfl⟩
 have hsm:sv.m=gbT acc Y.tick hold (i:Int) n:=by rw [hsv,hmv];rfl
 have hse:([.int .i64 0,.int .i64 2,.int .i64 acc,.int .i64 Y.tick,.int .i64 (-1),.int .i64 0,.slice (some ⟨b18,0,none⟩) 1 1]:List Value)=aK sv:=by rw [hsv];rfl
 have hmc:([.int .i64 hold,.int .i64 acc,.int .i64 (i:Int),.int .i64 n,.slice none 0 0]:List Value)=aJ mv:=by rw [hmv];rfl
 refine GPW.ent (L':=LedR lb T::stM sv::stP sv::obj b17 tMv [.int .i64 hold,.int .i64 acc,.int .i64 (i:Int),.int .i64 n,.slice none 0 0]::obj yb bu (ax lb Y x)::L) ?_ ?_
 ·rw [hsv,hmc]
  refine Ent.trans (Ent.c6 (enc:=aJ) (sz:=5) (xs:=[mv]) (by simp) rfl (by intro y hy;simp at hy;subst hy;rfl) (by simp)) ?_
  refine Ent.freezeSl.trans ((Ent.c8 av 3 none).trans ?_)
  have h1:Ent (mvP mv::(isl aJ 5 (some ⟨b18,0,none⟩) [mv]::obj b17 tMv (aJ mv)::LedR lb T::obj yb bu (ax lb Y x)::L)) (allP mvP [mv]::(isl aJ 5 (some ⟨b18,0,none⟩) [mv]::obj b17 tMv (aJ mv)::LedR lb T::obj yb bu (ax lb Y x)::L)):=Ent.d9 kd
  have h2:(mvP mv)=isl av 3 none []:=by rw [hmv]
  rw [h2] at h1
  refine h1.trans ?_
  exact ae
 have hpost:=jJ (L:=obj b17 tMv [.int .i64 hold,.int .i64 acc,.int .i64 (i:Int),.int .i64 n,.slice none 0 0]::obj yb bu (ax lb Y x)::L) lb T hg1 (by rw [hg2];exact hc) sv ⟨by rw [hsv];exact jl,by rw [hsv];simp,by rw [hsv];simp,by rw [hsv];unfold I64;dsimp only;omega,by rw [hsv];intro m hm;simp at hm;rw [hm,hmv];exact Nat.zero_le _⟩ dF
 rw [← hse,hsm] at hpost
 refine GPW.ef (Ef.a6 (hpost) rfl) ac ?_
 rintro _ _ ⟨rfl,rfl⟩
 repeat first|refine aa ?_|intro _|refine fr ?_
 refine ⟨i+1,ab,ab,?_,?_⟩
 ·rw [show ((i+1:Nat):Int)=(i:Int)+1 by omega]
  exact aj
 ·rw [hsu]
  exact ae
end
section
theorem rP {L R:List HP} {yb lb:Nat} {Y:YardM} {x:YardX} [hp:PickObj L yb bu (ax lb Y x) R] (now tick:Int) (hnow:Tri Tryz.prog 27 #[.pointer (some ⟨lb,0,none⟩)] L (fun v L'=>v=.int .i64 now∧L' = L)) :
  Tri Tryz.prog 50 #[.pointer (some ⟨yb,0,none⟩),.int .i64 tick] L (fun v L'=>v=.bool (dB (aV Y.tick now tick))∧L' = L):=by
 refine Tri.body (args:=[.pointer (some ⟨yb,0,none⟩),.int .i64 tick]) 24 en50 Tryz.func50 rfl rfl rfl (by simp) ?_
 by_cases h1:Y.tick≤tick
 case neg =>
  repeat first|refine aa ?_|intro _
  exact KX.a6 ai (Ent.refl _) ⟨by rw [an (fun h:aV _ _ _=>h1 h.1)];rfl,rfl⟩
 repeat first|refine aa ?_|intro _
 refine GO.ef (Ef.a6 (hnow) rfl) ac ?_
 rintro _ L ⟨rfl,rfl⟩
 by_cases h2:now≤tick
 case neg =>
  repeat first|refine aa ?_|intro _
  exact KX.a6 ai (Ent.refl _) ⟨by rw [an (fun h:aV _ _ _=>h2 h.2.1)];rfl,rfl⟩
 repeat first|refine aa ?_|intro _
 refine KX.a6 ai (Ent.refl _) ⟨?_,rfl⟩
 by_cases h3:tick≤1099511627776
 ·rw [aw h3,aw (show aV Y.tick now tick from ⟨h1,h2,h3⟩)];rfl
 ·rw [an h3,an (fun h:aV Y.tick now tick=>h3 h.2.2)];rfl
abbrev zR:List Stp:=[.ev 0,.ev 1,.ev 2,.ev 3,.ev 4,.ev 5,.ev 6,.ev 7,.ef 8]
theorem be {φ ψ:Prop} (k:ψ) (h:Hid ψ→φ:=by intro k;(with_reducible apply G.a7);first|refine G.a6 (N:=77) (id:=12) zR mixed ah (Hid.out k)):φ:=h ⟨k⟩
theorem rq {L R:List HP} {yb lb:Nat} {Y:YardM} {x:YardX} [hp:PickObj L yb bu (ax lb Y x) R] [hr:Rds L x.jad JobM aq 10 Y.jobs] (hjl:Y.jobs.length≤60) (now tick acc:Int) (hnow:Tri Tryz.prog 27 #[.pointer (some ⟨lb,0,none⟩)] L (fun v L'=>v=.int .i64 now∧L' = L))
  (k:Nat) (h1:aM acc) (h2:aV Y.tick now tick) (hk:k<Y.jobs.length) (hd:Y.jobs[k]!.done=false) (ha:Y.jobs[k]!.acc=acc) (hf:Y.jobs[k]!.fin≤tick) :
  Tri Tryz.prog 35 #[.pointer (some ⟨yb,0,none⟩),.int .i64 acc,.int .i64 (k:Int),.int .i64 tick] L (fun v L'=>v=.int .i64 14∧L' = L):=by
 refine Tri.body (args:=[.pointer (some ⟨yb,0,none⟩),.int .i64 acc,.int .i64 (k:Int),.int .i64 tick]) 77 en35 Tryz.func35 rfl rfl rfl (by simp) ?_
 refine G.c9 (Dt (ad:=x.jad) (by omega:0<Y.jobs.length)) ?_
 intro had
 have hki:(k:Int).toNat=k:=Int.toNat_natCast k
 rw [← hki] at hd ha hf
 repeat first|refine aa ?_|intro _|refine be ?_
 refine GO.ef (Ef.a6 (gm acc) rfl) ac ?_
 rintro _ L ⟨rfl,rfl⟩
 rw [aw h1]
 repeat first|refine aa ?_|intro _|refine be ?_
 refine GO.ef (Ef.a6 (rP (yb:=yb) (lb:=lb) (Y:=Y) (x:=x) now tick hnow) rfl) ac ?_
 rintro _ L ⟨rfl,rfl⟩
 rw [aw h2]
 repeat first|refine aa ?_|intro _|refine be ?_
 rw [hd]
 repeat first|refine aa ?_|intro _|refine be ?_
 refine GO.ev (Ev.a7 rfl had) ac ?_
 repeat first|refine aa ?_|intro _|refine be ?_
 refine GO.ev (Ev.a7 rfl had) ac ?_
 repeat first|refine aa ?_|intro _|refine be ?_
 exact KX.a6 ai (Ent.refl _) ⟨rfl,rfl⟩
noncomputable def ba (S:LedM) (Y:YardM) (acc job tick:Int):Int×LedM×YardM :=
 if ¬(aM acc∧aV Y.tick S.now tick) then (1,S,Y)
 else if ¬(0≤job∧job<Y.jobs.length∧Y.jobs[job.toNat]!.done=false) then (7,S,Y)
 else if ¬Y.jobs[job.toNat]!.acc=acc then (15,S,Y)
 else if Y.jobs[job.toNat]!.fin≤tick then (14,S,Y)
 else (0,gbM acc tick Y.jobs[job.toNat]!.hold S S.cat.items.length,finY { Y with tick:=tick } job.toNat)
theorem sW {Y:YardM} {x:YardX} {t:Int} (h:YardF Y x):YardF { Y with tick:=t } x:=⟨h.cap,h.opn,h.full⟩
theorem YardM.Ok.at_tick {Y:YardM} (h:Y.Ok) {t:Int} (ht:0≤t∧t≤1099511627776):YardM.Ok { Y with tick:=t }:=⟨h.seed,h.len,h.loots,ht,h.id,h.num⟩
attribute [local irreducible] gbM
theorem gy {L:List HP} (yb lb:Nat) (Y:YardM) (hY:Y.Ok) (S:LedM) (hS:S.Ok) (hc:S.cat.Ok) (hil:S.cat.items.length≤64) (acc job tick:Int) :
  Tri Tryz.prog 35 #[.pointer (some ⟨yb,0,none⟩),.int .i64 acc,.int .i64 job,.int .i64 tick] (bz yb lb Y::LedR lb S::L) (fun v L'=>v=.int .i64 (ba S Y acc job tick).1∧L' = bz yb lb (ba S Y acc job tick).2.2::LedR lb (ba S Y acc job tick).2.1::L):=by
 have hjl:=hY.len
 refine Tri.body (args:=[.pointer (some ⟨yb,0,none⟩),.int .i64 acc,.int .i64 job,.int .i64 tick]) 77 en35 Tryz.func35 rfl rfl rfl (by simp) ?_
 refine G.c6 (f:=ew yb lb Y) ?_
 intro x
 simp only [ew,co,List.cons_append,List.nil_append]
 refine G.c8 ?_
 intro hF
 have hyc:=dq (yb:=yb) (lb:=lb) (Y:=Y) (L:=LedR lb S::L) x hF
 simp only [co] at hyc
 obtain ⟨M,hM⟩:∃ M,M=ba S Y acc job tick:=⟨_,rfl⟩
 rw [← hM]
 unfold ba at hM
 repeat first|refine aa ?_|intro _|refine be ?_
 refine GO.ef (Ef.a6 (gm acc) rfl) ac ?_
 rintro _ _ ⟨rfl,rfl⟩
 by_cases h1:aM acc
 case neg =>
  rw [if_pos (fun h=>h1 h.1)] at hM
  rw [hM,an h1]
  repeat first|refine aa ?_|intro _|refine be ?_
  exact KX.a6 ai (Ent.trans ae hyc) ⟨rfl,rfl⟩
 rw [aw h1]
 repeat first|refine aa ?_|intro _|refine be ?_
 refine GO.ent (L':=LedR lb S::obj yb bu (ax lb Y x)::isl (encZ .u8) 1 x.sad Y.seed::osl aq 10 tJob x.jad x.jcap Y.jobs::gmap kvI SlI.v x.om x.m::bigO idsP x.m::L) ae ?_
 refine GO.ef (Ef.a6 (fG yb lb Y x S hS tick) rfl) ac ?_
 rintro _ _ ⟨rfl,rfl⟩
 by_cases h2:aV Y.tick S.now tick
 case neg =>
  rw [if_pos (fun h=>h2 h.2)] at hM
  rw [hM,an h2]
  repeat first|refine aa ?_|intro _|refine be ?_
  exact KX.a6 ai (Ent.trans ae hyc) ⟨rfl,rfl⟩
 rw [aw h2]
 rw [if_neg (fun h=>h ⟨h1,h2⟩)] at hM
 by_cases h3:0≤job
 case neg =>
  rw [if_pos (fun h=>h3 h.1)] at hM
  rw [hM]
  repeat first|refine aa ?_|intro _|refine be ?_
  exact KX.a6 ai (Ent.trans ae hyc) ⟨rfl,rfl⟩
 by_cases h4:job<Y.jobs.length
 case neg =>
  rw [if_pos (fun h=>h4 h.2.1)] at hM
  rw [hM]
  repeat first|refine aa ?_|intro _|refine be ?_
  exact KX.a6 ai (Ent.trans ae hyc) ⟨rfl,rfl⟩
 cases h5:Y.jobs[job.toNat]!.done with
 | true =>
  rw [if_pos (fun h=>by have:=h.2.2;rw [h5] at this;cases this)] at hM
  rw [hM]
  repeat first|refine aa ?_|intro _|refine be ?_
  rw [h5]
  repeat first|refine aa ?_|intro _|refine be ?_
  exact KX.a6 ai (Ent.trans ae hyc) ⟨rfl,rfl⟩
 | false =>
 rw [if_neg (fun h=>h ⟨h3,h4,h5⟩)] at hM
 have hk:job.toNat<Y.jobs.length:=ab
 refine GO.c9 (pz (ad:=x.jad) (by omega:0<Y.jobs.length)) ?_
 intro had
 by_cases h6:Y.jobs[job.toNat]!.acc=acc
 case neg =>
  rw [if_pos h6] at hM
  rw [hM]
  repeat first|refine aa ?_|intro _|refine be ?_
  rw [h5]
  repeat first|refine aa ?_|intro _|refine be ?_
  refine GO.ev (Ev.a7 rfl had) ac ?_
  repeat first|refine aa ?_|intro _|refine be ?_
  exact KX.a6 ai (Ent.trans ae hyc) ⟨rfl,rfl⟩
 rw [if_neg (fun h=>h h6)] at hM
 by_cases h7:Y.jobs[job.toNat]!.fin≤tick
 case pos =>
  rw [if_pos h7] at hM
  rw [hM]
  repeat first|refine aa ?_|intro _|refine be ?_
  rw [h5]
  repeat first|refine aa ?_|intro _|refine be ?_
  refine GO.ev (Ev.a7 rfl had) ac ?_
  repeat first|refine aa ?_|intro _|refine be ?_
  refine GO.ev (Ev.a7 rfl had) ac ?_
  repeat first|refine aa ?_|intro _|refine be ?_
  exact KX.a6 ai (Ent.trans ae hyc) ⟨rfl,rfl⟩
 rw [if_neg h7] at hM
 have htk:0≤tick∧tick≤1099511627776:=by have:=hY.tick;unfold aV at h2;omega
 repeat first|refine aa ?_|intro _|refine be ?_
 rw [h5]
 repeat first|refine aa ?_|intro _|refine be ?_
 refine GO.ev (Ev.a7 rfl had) ac ?_
 repeat first|refine aa ?_|intro _|refine be ?_
 refine GO.ev (Ev.a7 rfl had) ac ?_
 repeat first|refine aa ?_|intro _|refine be ?_
 obtain ⟨k,hkk⟩:∃ k,job.toNat=k:=⟨_,rfl⟩
 rw [hkk] at hk h5 h6 h7 hM
 rw [hkk]
 refine GO.ent (L':=co yb lb { Y with tick:=tick } x (LedR lb S::L)) (by simp only [co];exact ae) ?_
 refine GO.ef (Ef.a6 (pg yb lb { Y with tick:=tick } (hY.at_tick htk) x (sW hF) k hk) rfl) ac ?_
 rintro _ _ ⟨m',hF',rfl⟩
 simp only [co]
 obtain ⟨hid,hhold⟩:=hY.id k hk
 have hjk:(finY { Y with tick:=tick } k).jobs[k]! = finJ Y.jobs[k]!:=by
  show (Y.jobs.set k _)[k]! = _
  rw [dj hk,if_pos rfl]
 have hjk2:(finY { Y with tick:=tick } k).jobs.length=Y.jobs.length:=by
  show (Y.jobs.set k _).length=_
  rw [List.length_set]
 repeat first|refine aa ?_|intro _|refine be ?_
 refine GPW.evP (Ev.a7 rfl had) ac ?_
 repeat first|refine aa ?_|intro _|refine be ?_
 obtain ⟨Y1,hY1⟩:∃ Y1,Y1=finY { Y with tick:=tick } k:=⟨_,rfl⟩
 have hyc1:=dq (yb:=yb) (lb:=lb) (Y:=finY { Y with tick:=tick } k) (L:=LedR lb (gbM acc tick Y.jobs[k]!.hold S S.cat.items.length)::L) { x with m:=m' } hF'
 simp only [co] at hyc1
 have hg:=nb (L:=isl (encZ .u8) 1 x.sad (finY { Y with tick:=tick } k).seed::osl aq 10 tJob x.jad x.jcap (finY { Y with tick:=tick } k).jobs::gmap kvI SlI.v x.om m'::bigO idsP m'::L) yb lb (finY { Y with tick:=tick } k) { x with m:=m' } S hS hc hil (finY { Y with tick:=tick } k).jobs[k]!.hold acc
 refine GPW.ent (L':=LedR lb S::obj yb bu (ax lb (finY { Y with tick:=tick } k) { x with m:=m' })::isl (encZ .u8) 1 x.sad (finY { Y with tick:=tick } k).seed::osl aq 10 tJob x.jad x.jcap (finY { Y with tick:=tick } k).jobs::gmap kvI SlI.v x.om m'::bigO idsP m'::L) ae ?_
 refine GPW.ef (Ef.a6 (hg) rfl) ac ?_
 rintro _ _ rfl
 have hgb:gbM acc (finY { Y with tick:=tick } k).tick (finY { Y with tick:=tick } k).jobs[k]!.hold S S.cat.items.length=gbM acc tick Y.jobs[k]!.hold S S.cat.items.length:=by
  rw [hjk]
  rfl
 rw [hgb]
 repeat first|refine aa ?_|intro _|refine be ?_
 rw [hM]
 exact KX.a6 ai (Ent.trans ae hyc1) ⟨rfl,rfl⟩
end
end Go.Proofs.YtfmgkkofledkbaaGreatDoor
namespace Go.V
section
variable {P:Program} {L:List HP} {env:Env} {ty:TypeId}
theorem Ev.m6 {t:TypeId} {x hi mx:Operand} {ad:Option Addr} {n c E sz bb:Nat} {z:List Value} {k k' : IntKind} {j:Int} [ht:TySl P t E sz bb z] (hx:evE env x=some (.slice ad n c)) (hh:evE env hi=some (.int k j)) (hm:evE env mx=some (.int k' j)) (h0:0≤j) (h1:j≤c):Ev P L env (.slice t x none (some hi) (some mx)) ty (.slice ad j.toNat j.toNat) :=
 Ev.mk (fun _ _ _ w ea _ _ _ _ _=>by
  obtain ⟨ii,z0,i1,i2,i3,i4,i5⟩:=ht.parts
  have h2:j≤(j.toNat:Int):=ab
  simp [execOp,ao ea hx,ao ea hh,ao ea hm,Instr.sliceAt,Instr.slice,run_underlying ht.under,Instr.sliceBounds,Instr.sliceBound,asIntOf,h0,h1,h2,sizeOf,typeInfo,i1]
  rw [if_pos ab]
  cases ad<;>simp [Addr.add])
end
theorem vd {α:Type} {l:List α} {p:α} (h:p∈l):∃ r,l.Perm (p::r):=by
 obtain ⟨s,t,rfl⟩:=List.append_of_mem h
 exact ⟨s++t,List.perm_middle⟩
end Go.V
namespace Go.Proofs.YtfmgkkofledkbaaGreatDoor
open Go.V
attribute [local irreducible] G GO GP GPW GPK Ev Ef EfR Ent CB GB V.Enters
section
theorem ke:IsMapClone Tryz.prog 149:=⟨fun args w=>run_callFunc_extern Tryz.func149 ah ah ah (e:=Extern.MapsClone.clone) ah args w⟩
theorem vf {L R:List HP} (b:Nat) (m:List (Int×SlI)) [hp:PickG L b Int SlI kvI SlI.v m R]:Tri Tryz.prog 101 #[.map (some b)] L (fun v L'=>∃ b',v=.map (some b')∧L' = gmap kvI SlI.v b' m::gmap kvI SlI.v b m::R):=by
 refine Tri.body (args:=[.map (some b)]) 9 JF Tryz.func101 rfl rfl rfl (by simp) ?_
 repeat first|refine aa ?_|intro _
 refine GO.ev (Ev.k9 rfl rfl) ac ?_
 repeat first|refine aa ?_|intro _
 refine GO.ev (Ev.g8 rfl) ac ?_
 repeat first|refine aa ?_|intro _
 refine GO.ef (Ef.g9 ke rfl) ac ?_
 rintro _ _ ⟨b',rfl,rfl⟩
 repeat first|refine aa ?_|intro _
 refine GO.ev (Ev.m5 rfl) ac ?_
 repeat first|refine aa ?_|intro _
 exact KX.a6 ai (Ent.refl _) ⟨b',rfl,rfl⟩
theorem ve {L R:List HP} (b:Nat) (m:List ((Int×Int)×Stk)) [hp:PickG L b (Int×Int) Stk kvP Stk.v m R]:Tri Tryz.prog 96 #[.map (some b)] L (fun v L'=>∃ b',v=.map (some b')∧L' = gmap kvP Stk.v b' m::gmap kvP Stk.v b m::R):=by
 refine Tri.body (args:=[.map (some b)]) 9 en96 Tryz.func96 rfl rfl rfl (by simp) ?_
 repeat first|refine aa ?_|intro _
 refine GO.ev (Ev.k9 rfl rfl) ac ?_
 repeat first|refine aa ?_|intro _
 refine GO.ev (Ev.g8 rfl) ac ?_
 repeat first|refine aa ?_|intro _
 refine GO.ef (Ef.g9 ke rfl) ac ?_
 rintro _ _ ⟨b',rfl,rfl⟩
 repeat first|refine aa ?_|intro _
 refine GO.ev (Ev.m5 rfl) ac ?_
 repeat first|refine aa ?_|intro _
 exact KX.a6 ai (Ent.refl _) ⟨b',rfl,rfl⟩
theorem vg {L R:List HP} (b:Nat) (m:List (Int×Int)) [hp:PickG L b Int Int kvI encN m R]:Tri Tryz.prog 97 #[.map (some b)] L (fun v L'=>∃ b',v=.map (some b')∧L' = gmap kvI encN b' m::gmap kvI encN b m::R):=by
 refine Tri.body (args:=[.map (some b)]) 9 en97 Tryz.func97 rfl rfl rfl (by simp) ?_
 repeat first|refine aa ?_|intro _
 refine GO.ev (Ev.k9 rfl rfl) ac ?_
 repeat first|refine aa ?_|intro _
 refine GO.ev (Ev.g8 rfl) ac ?_
 repeat first|refine aa ?_|intro _
 refine GO.ef (Ef.g9 ke rfl) ac ?_
 rintro _ _ ⟨b',rfl,rfl⟩
 repeat first|refine aa ?_|intro _
 refine GO.ev (Ev.m5 rfl) ac ?_
 repeat first|refine aa ?_|intro _
 exact KX.a6 ai (Ent.refl _) ⟨b',rfl,rfl⟩
theorem nE {L R:List HP} (b:Nat) (m:List (Int×Stk)) [hp:PickG L b Int Stk kvI Stk.v m R]:Tri Tryz.prog 100 #[.map (some b)] L (fun v L'=>∃ b',v=.map (some b')∧L' = gmap kvI Stk.v b' m::gmap kvI Stk.v b m::R):=by
 refine Tri.body (args:=[.map (some b)]) 9 JG Tryz.func100 rfl rfl rfl (by simp) ?_
 repeat first|refine aa ?_|intro _
 refine GO.ev (Ev.k9 rfl rfl) ac ?_
 repeat first|refine aa ?_|intro _
 refine GO.ev (Ev.g8 rfl) ac ?_
 repeat first|refine aa ?_|intro _
 refine GO.ef (Ef.g9 ke rfl) ac ?_
 rintro _ _ ⟨b',rfl,rfl⟩
 repeat first|refine aa ?_|intro _
 refine GO.ev (Ev.m5 rfl) ac ?_
 repeat first|refine aa ?_|intro _
 exact KX.a6 ai (Ent.refl _) ⟨b',rfl,rfl⟩
theorem yv {L:List HP} (ad:Option Addr) (n c:Nat) (h:n≤c):Tri Tryz.prog 98 #[.slice ad n c] L (fun v L'=>v=.slice ad n n∧L' = L):=by
 refine Tri.body (args:=[.slice ad n c]) 9 en98 Tryz.func98 rfl rfl rfl (by simp) ?_
 repeat first|refine aa ?_|intro _
 refine GO.ev (Ev.m6 rfl rfl rfl ab ab) ac ?_
 rw [Int.toNat_natCast]
 repeat first|refine aa ?_|intro _
 exact KX.a6 ai (Ent.refl _) ⟨rfl,rfl⟩
theorem yw {L:List HP} (ad:Option Addr) (n c:Nat) (h:n≤c):Tri Tryz.prog 99 #[.slice ad n c] L (fun v L'=>v=.slice ad n n∧L' = L):=by
 refine Tri.body (args:=[.slice ad n c]) 9 en99 Tryz.func99 rfl rfl rfl (by simp) ?_
 repeat first|refine aa ?_|intro _
 refine GO.ev (Ev.m6 rfl rfl rfl ab ab) ac ?_
 rw [Int.toNat_natCast]
 repeat first|refine aa ?_|intro _
 exact KX.a6 ai (Ent.refl _) ⟨rfl,rfl⟩
theorem tE {L:List HP} (ad:Option Addr) (n c:Nat) (xs:List JobM) [Rds L ad JobM aq 10 xs] (hn:n=xs.length) (hb:n≤1000000) :
  Tri Tryz.prog 102 #[.slice ad n c] L (fun v L'=>∃ ad' cap',v=.slice ad' xs.length cap'∧L' = osl aq 10 tJob ad' cap' xs::L):=by
 refine Tri.body (args:=[.slice ad n c]) 8 JE Tryz.func102 rfl rfl rfl (by simp) ?_
 repeat' first|refine aa ?_|intro _|with_reducible refine CB.dec (fun _=>?_) (fun _=>?_)|with_reducible refine GB.dec (fun _=>?_) (fun _=>?_)|with_reducible refine CB.bool (fun _=>?_) (fun _=>?_)|with_reducible refine GB.bool (fun _=>?_) (fun _=>?_)
 ·have h:ad=none:=by assumption
  subst h
  refine KX.d9 (.inl rfl) (jf (L:=L) (xs:=xs)) ?_
  intro hx
  subst hx
  refine KX.a6 ai (Ent.a7 aq 10 tJob) ⟨_,_,rfl,rfl⟩
 ·refine GO.ent (Ent.c6 (enc:=aq) (sz:=10) (xs:=[]) rfl rfl (by simp) (by simp)) ?_
  refine GO.ef (Ef.c6 rfl rfl rfl rfl hn (fun e _=>mM e) (by simp;omega) (by simp;omega)) ac ?_
  rintro _ _ ⟨ad',cap',rfl,rfl⟩
  repeat first|refine aa ?_|intro _
  refine KX.a6 ai (Ent.refl _) ⟨ad',cap',rfl,rfl⟩
def mD (m:List (Int×SlI)):List (Int×List Int):=m.map (fun p=>(p.1,p.2.ids))
theorem AZ (m:List (Int×SlI)) (p:Int×SlI) (e:SlI) (he:e.ids=p.2.ids) (hp:∀ q∈m,q.1=p.1→q.2.ids=p.2.ids):mD (grep m p.1 e)=mD m:=by
 unfold mD grep
 rw [List.map_map]
 apply List.map_congr_left
 intro q hq
 simp only [Function.comp]
 by_cases h:q.1=p.1
 ·rw [if_pos h]
  simp [h,he,hp q hq h]
 ·rw [if_neg h]
theorem sS (m:List (Int×SlI)) (a:Int):glk (mD m) a=(glk m a).map (·.ids):=pc (fun s:SlI=>s.ids) a m
abbrev BX:List Stp:=[.ev 0,.ev 1,.ev 2,.ev 3,.ev 4,.ev 5,.ev 6,.ev 7,.ev 8,.ev 9,.ev 10,.ev 11,.ev 12,.ev 13,.ev 14,.ev 16,.ev 17,.ev 18,.ev 19,.ev 20,.ef 15,.ev 21,.ef 22,.ev 23]
theorem dV {φ ψ:Prop} (k:ψ) (h:Hid ψ→φ:=by intro k;(with_reducible apply G.a7);first|refine G.a6 (N:=47) (id:=6) BX mixed ah (Hid.out k)):φ:=h ⟨k⟩
theorem yY {L:List HP} (yb lb lb' : Nat) (Y:YardM) (hY:Y.Ok):Tri Tryz.prog 44 #[.pointer (some ⟨yb,0,none⟩),.pointer (some ⟨lb',0,none⟩)] (bz yb lb Y::L) (fun v L'=>∃ yb',v=.pointer (some ⟨yb',0,none⟩)∧L' = bz yb' lb' Y::bz yb lb Y::L):=by
 have hjl:=hY.len
 refine Tri.body (args:=[.pointer (some ⟨yb,0,none⟩),.pointer (some ⟨lb',0,none⟩)]) 47 en44 Tryz.func44 rfl rfl rfl (by simp) ?_
 refine G.c6 (f:=ew yb lb Y) ?_
 intro x
 simp only [ew,co,List.cons_append,List.nil_append]
 refine G.c8 ?_
 intro hF
 refine G.c9 (fH (b:=x.om)) ?_
 intro hnd
 repeat first|refine aa ?_|intro _|refine dV ?_
 refine GO.ef (Ef.a6 (vf x.om x.m) rfl) ac ?_
 rintro _ _ ⟨ob,rfl,rfl⟩
 repeat first|refine aa ?_|intro _|refine dV ?_
 refine GO.ef (Ef.g7 rfl) ac ?_
 rintro _ _ ⟨r,rfl,rfl⟩
 repeat first|refine aa ?_|intro _|refine dV ?_
 refine G.loop (α:=List (Int×SlI)×List (Int×SlI)) (fun z=>z.1.map (·.1)=x.m.map (·.1)∧mD z.1=mD x.m∧(∀ q∈z.1,q∈z.2∨q∈x.m)∧z.2.length≤x.m.length) (fun z=>[(0,.pointer (some ⟨yb,0,none⟩)),(1,.pointer (some ⟨lb',0,none⟩)),(5,.map (some ob)),(14,.pointer (some ⟨r,0,none⟩))]) (fun z=>dd kvI SlI.v ob z.1 r z.2::bigO idsP z.2::gmap kvI SlI.v x.om x.m::bigO idsP x.m::obj yb bu (ax lb Y x)::isl (encZ .u8) 1 x.sad Y.seed::osl aq 10 tJob x.jad x.jcap Y.jobs::L) (fun z=>x.m.length - z.2.length) (x.m,[]) ⟨rfl,rfl,fun q hq=>.inr hq,Nat.zero_le _⟩ aj ((Ent.g7 idsP).trans ae) ?_
 rintro ⟨mc,z⟩ ⟨h1,h2,h3,h4⟩
 dsimp only at h1 h2 h3 h4 ⊢
 repeat first|refine aa ?_|intro _|refine dV ?_
 refine GO.ef (Ef.j0 rfl) ac ?_
 rintro _ _ (⟨rfl,rfl,hp⟩|⟨p,rfl,rfl,hpm,hpn,hl⟩)
 ·have hF2:∀ jad jcap,YardF Y { x with om:=ob,m:=mc,jad:=jad,jcap:=jcap }:=fun jad jcap=>by
   refine ⟨hF.cap,?_,?_⟩
   ·intro a
    rw [← hF.opn a]
    show ((glk mc a).map (·.ids)).getD []=_
    rw [← sS,← sS,h2]
   ·intro q hq hn
    have h5:(q.1,q.2.ids)∈mD x.m:=by
     rw [← h2]
     exact List.mem_map.2 ⟨q,hq,rfl⟩
    obtain ⟨u,hu,e⟩:=List.mem_map.1 h5
    have e2:u.2.ids=q.2.ids:=congrArg Prod.snd e
    exact hF.full u hu (by rw [e2,hn])
  repeat first|refine aa ?_|intro _|refine dV ?_
  refine GPW.ef (Ef.a6 (tE x.jad Y.jobs.length x.jcap Y.jobs rfl ab) rfl) ac ?_
  rintro _ _ ⟨ad2,cap2,rfl,rfl⟩
  repeat first|refine aa ?_|intro _|refine dV ?_
  rename_i yb'
  refine KX.a6 ai ?_ ⟨yb',rfl,rfl⟩
  have hc1:=dq (yb:=yb) (lb:=lb) (Y:=Y) (L:=L) x hF
  have hc2:=dq (yb:=yb') (lb:=lb') (Y:=Y) (L:=bz yb lb Y::L) { x with om:=ob,m:=mc,jad:=ad2,jcap:=cap2 } (hF2 ad2 cap2)
  simp only [co] at hc1 hc2
  refine Ent.trans ?_ hc2
  refine Ent.trans (B:=isl (encZ .u8) 1 x.sad Y.seed::isl (encZ .u8) 1 x.sad Y.seed::obj yb' bu (ax lb' Y { x with om:=ob,m:=mc,jad:=ad2,jcap:=cap2 })::osl aq 10 tJob ad2 cap2 Y.jobs::gmap kvI SlI.v ob mc::bigO idsP mc::obj yb bu (ax lb Y x)::osl aq 10 tJob x.jad x.jcap Y.jobs::gmap kvI SlI.v x.om x.m::bigO idsP x.m::L) ?_ ?_
  ·refine Ent.trans (B:=isl (encZ .u8) 1 x.sad Y.seed::obj yb' bu (ax lb' Y { x with om:=ob,m:=mc,jad:=ad2,jcap:=cap2 })::osl aq 10 tJob ad2 cap2 Y.jobs::dd kvI SlI.v ob mc r z::bigO idsP z::obj yb bu (ax lb Y x)::osl aq 10 tJob x.jad x.jcap Y.jobs::gmap kvI SlI.v x.om x.m::bigO idsP x.m::L) ae ?_
   refine (Ent.dup (ix _ _ _ _)).trans ?_
   refine Ent.a6 (Ent.a6 (Ent.a6 (Ent.a6 ?_)))
   exact Ent.itEnd.trans (Ent.a6 (Ent.f8 hp))
  ·refine Ent.trans (B:=obj yb' bu (ax lb' Y { x with om:=ob,m:=mc,jad:=ad2,jcap:=cap2 })::isl (encZ .u8) 1 x.sad Y.seed::osl aq 10 tJob ad2 cap2 Y.jobs::gmap kvI SlI.v ob mc::bigO idsP mc::obj yb bu (ax lb Y x)::isl (encZ .u8) 1 x.sad Y.seed::osl aq 10 tJob x.jad x.jcap Y.jobs::gmap kvI SlI.v x.om x.m::bigO idsP x.m::L) ae ?_
   exact Ent.a6 (Ent.a6 (Ent.a6 (Ent.a6 (Ent.a6 hc1))))
 have hpx:p∈x.m:=(h3 p hpm).resolve_left hpn
 have hmn:(mc.map (·.1)).Nodup:=by rw [h1];exact hnd
 have huniq:∀ q∈mc,q.1=p.1→q=p:=fun q hq e=>by
  have g1:=dz hmn (show (q.1,q.2)∈mc from hq)
  have g2:=dz hmn (show (p.1,p.2)∈mc from hpm)
  rw [e] at g1
  have:q.2=p.2:=by rw [g1] at g2;exact Option.some.inj g2
  exact Prod.ext e this
 refine GO.c9 (vj (r:=r)) ?_
 rintro ⟨_,hzm,_⟩
 have hzk:p.1∉z.map (·.1):=fun h=>by
  obtain ⟨q,hq,e⟩:=List.mem_map.1 h
  have:=huniq q (hzm q (List.mem_append_left _ hq)) e
  exact hpn (this▸hq)
 have hlen:mc.length=x.m.length:=by have:=congrArg List.length h1;simpa using this
 obtain ⟨rm,hrm⟩:=vd hpx
 have hpl:p.2.ids.length≤60:=by
  have e1:((glk x.m p.1).map (·.ids)).getD []=p.2.ids:=by
   have:glk x.m p.1=some p.2:=dz hnd (show (p.1,p.2)∈x.m from hpx)
   rw [this]
   rfl
  rw [hF.opn] at e1
  rw [← e1]
  unfold aG
  rw [List.length_map]
  have:=List.length_filter_le (fun k=>decide (Y.jobs[k]!.acc=p.1) && !Y.jobs[k]!.done) (List.range Y.jobs.length)
  rw [List.length_range] at this
  omega
 repeat first|refine aa ?_|intro _|refine dV ?_
 refine GO.ev (Ev.g9 (done:=z) rfl rfl) ac ?_
 repeat first|refine aa ?_|intro _|refine dV ?_
 refine GO.ent (L':=osl (encZ .i64) 1 tInt p.2.ad p.2.cap p.2.ids::bigO idsP rm::dd kvI SlI.v ob mc r (z++[p])::bigO idsP z::gmap kvI SlI.v x.om x.m::obj yb bu (ax lb Y x)::isl (encZ .u8) 1 x.sad Y.seed::osl aq 10 tJob x.jad x.jcap Y.jobs::L) (Ent.at (A:=bigO idsP x.m) ((Ent.f8 hrm).trans Ent.bigO_uncons)) ?_
 refine GO.ef (Ef.a6 (iu p.2.ad p.2.ids.length p.2.cap p.2.ids rfl ab) rfl) ac ?_
 rintro _ _ ⟨ad2,cap2,rfl,rfl⟩
 repeat first|refine aa ?_|intro _|refine dV ?_
 refine GO.efu (Ef.k7 (r:=r) (kv:=kvI) (enc:=SlI.v) (⟨ad2,cap2,p.2.ids⟩:SlI) rfl rfl rfl rfl (List.mem_map_of_mem hpm)) ?_
 rintro _ _ rfl
 repeat first|refine aa ?_|intro _|refine dV ?_
 have hgz:grep (z++[p]) p.1 ⟨ad2,cap2,p.2.ids⟩=z++[(p.1,⟨ad2,cap2,p.2.ids⟩)]:=by
  unfold grep
  rw [List.map_append]
  congr 1
  ·rw [List.map_congr_left (g:=id),List.map_id]
   intro q hq
   have hne:q.1≠p.1:=fun e=>hzk (by rw [← e];exact List.mem_map.2 ⟨q,hq,rfl⟩)
   exact if_neg hne
  ·simp
 refine ⟨(grep mc p.1 ⟨ad2,cap2,p.2.ids⟩,z++[(p.1,⟨ad2,cap2,p.2.ids⟩)]),⟨?_,?_,?_,?_⟩,?_,aj,?_⟩
 ·dsimp only
  rw [sR,h1]
 ·dsimp only
  rw [AZ mc p (⟨ad2,cap2,p.2.ids⟩:SlI) rfl (fun q hq e=>by rw [huniq q hq e]),h2]
 ·dsimp only
  intro q hq
  unfold grep at hq
  obtain ⟨u,hu,e⟩:=List.mem_map.1 hq
  by_cases h:u.1=p.1
  ·rw [if_pos h] at e
   rw [← e]
   exact .inl (by simp)
  ·rw [if_neg h] at e
   rw [← e]
   rcases h3 u hu with h5|h5
   ·exact .inl (List.mem_append_left _ h5)
   ·exact .inr h5
 ·dsimp only
  simp
  omega
 ·dsimp only
  simp
  omega
 ·dsimp only
  rw [← hgz]
  refine Ent.trans (B:=idsP (p.1,⟨ad2,cap2,p.2.ids⟩)::bigO idsP z::idsP p::bigO idsP rm::dd kvI SlI.v ob (grep mc p.1 ⟨ad2,cap2,p.2.ids⟩) r (grep (z++[p]) p.1 ⟨ad2,cap2,p.2.ids⟩)::gmap kvI SlI.v x.om x.m::obj yb bu (ax lb Y x)::isl (encZ .u8) 1 x.sad Y.seed::osl aq 10 tJob x.jad x.jcap Y.jobs::L) ?_ ?_
  ·simp only [idsP]
   exact ae
  rw [hgz]
  refine Ent.bigO_snoc.trans ?_
  refine Ent.trans (B:=bigO idsP (z++[(p.1,(⟨ad2,cap2,p.2.ids⟩:SlI))])::bigO idsP x.m::dd kvI SlI.v ob (grep mc p.1 ⟨ad2,cap2,p.2.ids⟩) r (z++[(p.1,⟨ad2,cap2,p.2.ids⟩)])::gmap kvI SlI.v x.om x.m::obj yb bu (ax lb Y x)::isl (encZ .u8) 1 x.sad Y.seed::osl aq 10 tJob x.jad x.jcap Y.jobs::L) (Ent.a6 (Ent.bigO_cons.trans (Ent.f8 hrm.symm))) ?_
  exact ae
abbrev BY:List Stp:=[.ev 0,.ev 1,.ev 2,.ev 3,.ev 4,.ev 5,.ev 6,.ev 7,.ev 8,.ev 9,.ev 10,.ev 11,.ev 13,.ev 14,.ev 15,.ev 16,.ev 18,.ev 19,.ev 20,.ev 21,.ev 23,.ev 24,.ev 25,.ev 26,.ev 28,.ev 29,.ev 30,.ev 31,.ev 33,.ev 34,.ev 35,.ev 36,.ef 12,.ef 17,.ef 22,.ef 27,.ef 32,.ef 37,.ev 38,.ef 39,.ev 40]
theorem fq {φ ψ:Prop} (k:ψ) (h:Hid ψ→φ:=by intro k;(with_reducible apply G.a7);first|refine G.a6 (N:=43) (id:=1) BY mixed ah (Hid.out k)):φ:=h ⟨k⟩
theorem AS {L:List HP} (b:Nat) (S:LedM) (x:LedX) (h1:x.steps.length≤x.scap) (h2:x.flows.length≤x.fcap) :
  Tri Tryz.prog 43 #[.pointer (some ⟨b,0,none⟩)] (ledL b S.shard x L) (fun v L'=>∃ b' m1 m2 m3 m4,v=.pointer (some ⟨b',0,none⟩)∧L' = obj b' tLed (bT S.shard { x with ms:=m1,mt:=m2,mi:=m3,mr:=m4,scap:=x.steps.length,fcap:=x.flows.length })::gmap kvP Stk.v m1 x.stk::gmap kvI encN m2 x.tot::gmap kvI Stk.v m3 x.imp::gmap kvI Stk.v m4 x.ret::ledL b S.shard x L):=by
 refine Tri.body (args:=[.pointer (some ⟨b,0,none⟩)]) 43 en43 Tryz.func43 rfl rfl rfl (by simp) ?_
 simp only [ledL]
 repeat first|refine aa ?_|intro _|refine fq ?_
 refine GPW.ef (Ef.a6 (ve x.ms x.stk) rfl) ac ?_
 rintro _ _ ⟨m1,rfl,rfl⟩
 repeat first|refine aa ?_|intro _|refine fq ?_
 refine GPW.ef (Ef.a6 (vg x.mt x.tot) rfl) ac ?_
 rintro _ _ ⟨m2,rfl,rfl⟩
 repeat first|refine aa ?_|intro _|refine fq ?_
 refine GPW.ef (Ef.a6 (yv x.sad x.steps.length x.scap h1) rfl) ac ?_
 rintro _ _ ⟨rfl,rfl⟩
 repeat first|refine aa ?_|intro _|refine fq ?_
 refine GPW.ef (Ef.a6 (yw x.fad x.flows.length x.fcap h2) rfl) ac ?_
 rintro _ _ ⟨rfl,rfl⟩
 repeat first|refine aa ?_|intro _|refine fq ?_
 refine GPW.ef (Ef.a6 (nE x.mi x.imp) rfl) ac ?_
 rintro _ _ ⟨m3,rfl,rfl⟩
 repeat first|refine aa ?_|intro _|refine fq ?_
 refine GPW.ef (Ef.a6 (nE x.mr x.ret) rfl) ac ?_
 rintro _ _ ⟨m4,rfl,rfl⟩
 repeat first|refine aa ?_|intro _|refine fq ?_
 rename_i b'
 refine KX.a6 ai ?_ ⟨b',m1,m2,m3,m4,rfl,rfl⟩
 simp only [ledL,bT]
 exact ae
end
end Go.Proofs.YtfmgkkofledkbaaGreatDoor
