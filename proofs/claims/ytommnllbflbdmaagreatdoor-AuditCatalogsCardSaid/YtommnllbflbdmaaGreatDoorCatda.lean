/- Lemmas. -/
import Derived.Test.YtommnllbflbdmaaGreatDoorCatbq
set_option linter.all false
set_option maxHeartbeats 16000000
namespace Go.Proofs.YtommnllbflbdmaaGreatDoor
section
open Go.V
attribute [local irreducible] G GO GP GPW GPK Ev Ef EfR Ent CB GB V.Enters
abbrev tG9:Nat:=143
abbrev gen9(g:Nat)(ad:OA)(n c:Nat)(i:Int):HP:=obj g tG9 [ae ad n c,ac i]
abbrev CD:=ar6 [.ef 10,.ev 11]
def TW{φ ψ:Prop}(k:ψ)(h:Hid ψ→φ:=by intro k;(repeat (first|refine aa ?_|intro zzz|refine G.dr 23 2 CD ?_));(repeat revert zzz);exact Hid.out k):φ:=h ⟨k⟩
def bL{L:LH}(g:Nat)(ad:OA)(n c:Nat)(i:Int)(xs:List Int)[hrd:Rds L ad Int (encZ .i64) 1 xs](hn:n=xs.length)(hx:∀x∈xs,I64 x)(k:Int)(hk:1≤k∧k≤9223372036854775807) :
  Tri ai 77 #[aq g,ac k] (gen9 g ad n c i::L) (fun v L'=>∃p i',v=ac p∧(0≤p∧p<k)∧L' = gen9 g ad n c i'::L):=by
 subst hn;refine Tri.bd ?_;refine TW ?_;intros;refine GO.ev (Ev.B9 rfl rfl) ag ?_;refine TW ?_;intros;refine GPW.evP (Ev.B2 rfl rfl) ag ?_;refine TW ?_;intros;refine GPW.ca (wP ad xs.length c xs rfl hx (IntKind.i64.wrap (IntKind.i64.wrap (i+1) - 1)) k hk) ?_;rintro _ _⟨p,rfl,hp,rfl⟩;refine TW ?_;intros;exact KX.en ⟨p,_,rfl,hp,rfl⟩
def rotP(a0:List ByteArray)(t:Int)(n:Nat):List ByteArray:=(List.range n).map fun i:Nat=>a0[(((i:Int)+t) % a0.length).toNat]!
def Ee(a0:List ByteArray)(t:Int)(n:Nat):rotP a0 t n++[a0[(((n:Int)+t) % a0.length).toNat]!]=rotP a0 t (n+1):=by
 unfold rotP;rw[gh,aR];rfl
def lD(a0:List ByteArray)(t:Int)(n:Nat):(rotP a0 t n).length=n:=by unfold rotP;rw[aA,List.length_range]
def om{a0:List ByteArray}{t:Int}{n:Nat}(ht:0≤t)(hp:1≤a0.length):∀s∈rotP a0 t n,s∈a0:=by
 intro s hs;unfold rotP at hs;obtain⟨i,_,rfl⟩:=List.mem_map.1 hs;have h0:(0:Int)≤(i:Int)+t:=ab;have h1:=eA ((i:Int)+t) (ab:(a0.length:Int)≠0);have h2:=dS ((i:Int)+t) (ab:(0:Int)<a0.length);exact aL (ab:_<a0.length)
def oh{a0:List ByteArray}{t:Int}{n:Nat}(ht:0≤t)(hp:a0.Nodup)(hn:n≤a0.length):(rotP a0 t n).Nodup:=by
 unfold rotP;refine List.pairwise_map.2 (List.Pairwise.imp_of_mem ?_ List.nodup_range);intro a b ha hb a5 e;rw[List.mem_range] at ha hb;have h0:(0:Int)≤(a:Int)+t:=ab;have a2 : (0:Int)≤(b:Int)+t:=ab;have h1:=eA ((a:Int)+t) (ab:(a0.length:Int)≠0);have h2:=dS ((a:Int)+t) (ab:(0:Int)<a0.length);have a3:=eA ((b:Int)+t) (ab:(a0.length:Int)≠0);have a4:=dS ((b:Int)+t) (ab:(0:Int)<a0.length);rw[getElem!_of (ab:_<a0.length),getElem!_of (ab:_<a0.length)] at e
 have e3:((a:Int)+t) % a0.length=((b:Int)+t) % a0.length:=by
  have a1:=List.pairwise_iff_getElem.1 hp;rcases Nat.lt_trichotomy (((a:Int)+t) % a0.length).toNat (((b:Int)+t) % a0.length).toNat with q|q|q
  ·exact absurd e (a1 _ _ _ _ q)
  ·omega
  ·exact absurd e.symm (a1 _ _ _ _ q)
 have e4:=Int.emod_add_mul_ediv ((a:Int)+t) a0.length;have e5:=Int.emod_add_mul_ediv ((b:Int)+t) a0.length;rw[e3] at e4;generalize ((a:Int)+t) / (a0.length:Int)=q at *;generalize ((b:Int)+t) / (a0.length:Int)=r at *;have hl:(a0.length:Int)*(q - r)=(a:Int) - b:=by rw[Int.mul_sub];omega
 rcases Int.lt_trichotomy q r with h|h|h
 ·have:(a0.length:Int)*(q - r)≤a0.length*(-1):=Int.mul_le_mul_of_nonneg_left ab ab
  omega
 ·subst h;rw[Int.sub_self,Int.mul_zero] at hl;omega
 ·have:(a0.length:Int)*1≤a0.length*(q - r):=Int.mul_le_mul_of_nonneg_left ab ab
  omega
def nZ{L:LH}(g:Nat)(ad:OA)(n c:Nat)(i:Int)(xs:List Int)[hrd:Rds L ad Int (encZ .i64) 1 xs](hn:n=xs.length)(hx:∀x∈xs,I64 x)
  (pad:OA) (pn pc:Nat) (a0:List ByteArray) [b3:Rds L pad ByteArray cx 1 a0] (a5:pn=a0.length) (b2:1≤a0.length∧a0.length≤100) (a1:Int) (hm:1≤a1∧a1≤100) :
  Tri ai 73 #[aq g,ae pad pn pc,ac a1] (gen9 g ad n c i::L)
   (fun v L'=>∃t m a2 oc i',v=ae a2 (rotP a0 t m).length oc∧(0≤t∧1≤m∧(m:Int)≤a1)∧L' = osl cx 1 tStr a2 oc (rotP a0 t m)::gen9 g ad n c i'::L):=by
 subst a5;refine Tri.bd ?_;refine IF ?_;intros;refine GO.ca (bL g ad n c i xs hn hx a0.length ab) ?_;rintro _ _⟨t,i1,rfl,⟨a6,b4⟩,rfl⟩;refine IF ?_;intros;refine GO.ca (bL g ad n c i1 xs hn hx a1 ab) ?_;rintro _ _⟨m,i2,rfl,⟨b0,b1⟩,rfl⟩;refine IF ?_;intros;obtain⟨M,hM⟩:∃M:Nat,1+m=(M:Int):=⟨(1+m).toNat,ab⟩;rw[hM];refine G.ent (Ent.d8 cx 1 tStr) ?_
 refine G.loop (α:=Nat×OA×Nat) (fun z=>z.1≤M) (fun z=>[(0,aq g),(1,ae pad a0.length pc),(7,ac t),(8,ac (M:Int)),(9,ae z.2.1 z.1 z.2.2),(10,ac (z.1:Int))])
  (fun z=>osl cx 1 tStr z.2.1 z.2.2 (rotP a0 t z.1)::gen9 g ad n c i2::L) (fun z=>M - z.1) (0,none,0) (az _) an (by rw[show rotP a0 t 0=[] from rfl];exact ah) ?_
 rintro⟨j,a2,oc⟩ hj;dsimp only at hj ⊢;by_cases a9:j<M
 case neg =>
  obtain rfl:j=M:=ab;refine IF ?_;intros;exact KX.d7 av ah ⟨t,j,a2,oc,i2,by rw[lD];rfl,⟨a6,ab,ab⟩,rfl⟩
 have a8:(0:Int)≤(j:Int)+t:=ab;have q1:=eA ((j:Int)+t) (ab:(a0.length:Int)≠0);have q2:=dS ((j:Int)+t) (ab:(0:Int)<a0.length);have a4:=lD a0 t j;refine IF ?_;intros;refine GO.ef (Ef.d7 (enc:=cx) (e:=a0[(((j:Int)+t) % a0.length).toNat]!) rfl rfl rfl a4.symm rfl aJ (kl _) ab ab) ag ?_;rintro _ _⟨a3,a7,rfl,rfl⟩;rw[Ee,lD];refine IF ?_;intros;exact⟨(j+1,a3,a7),by dsimp only;omega,by dsimp only;omega,an,by exact ah⟩
abbrev tAm9:Nat:=81
structure AmG (n most:Nat) (l:List (Int×Int)):Prop where
 srt:fS n l
 u4:∀a∈l,a.2≤4
 len:l.length≤most
def td{n:Nat}{l:List (Int×Int)}(h:fS n l){x y:Int}(hx:0≤x∧x<n)(hl:∀a∈l,a.1<x)(hy:1≤y∧y≤1099511627776):fS n (l++[(x,y)]):=by
 obtain⟨h1,h2⟩:=h;refine⟨fun a ha=>?_,List.pairwise_append.2 ⟨h2,bq _ _,fun a ha b hb=>?_⟩⟩
 ·rcases List.mem_append.1 ha with ha|ha
  ·exact h1 a ha
  ·rw[List.mem_singleton.1 ha];exact⟨hx.1,hx.2,hy⟩
 ·rw[List.mem_singleton.1 hb];exact hl a ha
def gt{L:LH}(g:Nat)(ad:OA)(n c:Nat)(i:Int)(xs:List Int)[hrd:Rds L ad Int (encZ .i64) 1 xs](hn:n=xs.length)(hx:∀x∈xs,I64 x)(N most:Nat)(hN:N≤1000)(hm:most≤100) :
  Tri ai 76 #[aq g,ac N,ac most] (gen9 g ad n c i::L)
   (fun v L'=>∃l a0 oc i',v=ae a0 l.length oc∧AmG N most l∧L' = osl aV 2 tAm9 a0 oc l::gen9 g ad n c i'::L):=by
 refine Tri.bd ?_;refine IF ?_;intros;refine G.ent (Ent.d8 aV 2 tAm9) ?_
 refine G.loop (α:=Nat×List (Int×Int)×OA×Nat×Int) (fun z=>z.1≤N∧fS N z.2.1∧(∀a∈z.2.1,a.2≤4)∧(∀a∈z.2.1,a.1<z.1)∧z.2.1.length≤most)
  (fun z=>[(0,aq g),(1,ac (N:Int)),(7,ae z.2.2.1 z.2.1.length z.2.2.2.1),(8,ac ((most:Int) - z.2.1.length)),(9,ac (z.1:Int))])
  (fun z=>osl aV 2 tAm9 z.2.2.1 z.2.2.2.1 z.2.1::gen9 g ad n c z.2.2.2.2::L) (fun z=>N - z.1) (0,[],none,0,i) ⟨az _,⟨(fun _ h=>absurd h aH),List.Pairwise.nil⟩,(fun _ h=>absurd h aH),(fun _ h=>absurd h aH),az _⟩ (by rw[show((most:Int) - ([]:List (Int×Int)).length)=(most:Int) by simp];exact an) ah ?_
 rintro⟨j,l,a0,oc,i1⟩ ⟨hj,hs,h4,a2,a3⟩;dsimp only at hj hs h4 a2 a3 ⊢;have a1:AmG N most l:=⟨hs,h4,a3⟩;by_cases a6:j<N
 case neg =>
  refine IF ?_;intros;exact KX.en ⟨l,a0,oc,i1,rfl,a1,rfl⟩
 by_cases a7:0<(most:Int) - l.length
 case neg =>
  refine IF ?_;intros;exact KX.en ⟨l,a0,oc,i1,rfl,a1,rfl⟩
 refine IF ?_;intros;refine GO.ent (L':=gen9 g ad n c i1::osl aV 2 tAm9 a0 oc l::L) Ent.swap ?_;refine GO.ca (bL g ad n c i1 xs hn hx 3 ab) ?_;rintro _ _⟨p,i2,rfl,⟨a9,b0⟩,rfl⟩;by_cases h0:p=0
 case neg =>
  refine IF ?_;intros;refine⟨(j+1,l,a0,oc,i2),⟨by dsimp only;omega,hs,h4,fun a ha=>?_,a3⟩,by dsimp only;omega,an,by exact ah⟩;have:=a2 a ha
  dsimp only;omega
 refine IF ?_;intros;refine GO.ca (bL g ad n c i2 xs hn hx 4 ab) ?_;rintro _ _⟨q,i3,rfl,⟨b1,b2⟩,rfl⟩;refine IF ?_;intros;refine GO.ef (Ef.d7 (enc:=aV) (e:=((j:Int),1+q)) rfl rfl rfl rfl rfl aJ (gE _) ab ab) ag ?_;rintro _ _⟨a4,a5,rfl,rfl⟩;refine IF ?_;intros;have a8:(l++[((j:Int),1+q)]).length=l.length+1:=by simp
 refine⟨(j+1,l++[((j:Int),1+q)],a4,a5,i3),⟨by dsimp only;omega,td hs ab a2 ab,fun a ha=>?_,fun a ha=>?_,by dsimp only;omega⟩,by dsimp only;omega,by dsimp only;rw[show((most:Int) - (l++[((j:Int),1+q)]).length)=(most:Int) - l.length - 1 by omega];exact an,by exact ah⟩
 ·rcases List.mem_append.1 ha with ha|ha
  ·exact h4 a ha
  ·rw[List.mem_singleton.1 ha];dsimp only;omega
 ·rcases List.mem_append.1 ha with ha|ha
  ·have:=a2 a ha
   dsimp only;omega
  ·rw[List.mem_singleton.1 ha];dsimp only;omega
abbrev tIt9:Nat:=147
structure ItG9 (x:ItG):Prop where
 form:if x.obj=true then x.mixed=false∧x.coin=false∧0≤x.bind∧x.bind≤2 else x.wear=0∧x.bind=0∧x.level=0
 num:(x.obj=true→1≤x.wear∧x.wear≤1048576)∧0≤x.level∧x.level≤100
def CR{L:LH}(g:Nat)(ad:OA)(n c:Nat)(i:Int)(xs:List Int)[hrd:Rds L ad Int (encZ .i64) 1 xs](hn:n=xs.length)(hx:∀x∈xs,I64 x)(name:ByteArray)(k:Int)(hk:0≤k∧k≤1000) :
  Tri ai 74 #[aq g,.string name,ac k] (gen9 g ad n c i::L)
   (fun v L'=>∃x i',v=aN (be x)∧(x.name=name∧ItG9 x)∧L' = gen9 g ad n c i'::L):=by
 refine Tri.bd ?_;refine IF ?_;intros;rename_i b6 b7;refine GO.ent (L':=gen9 g ad n c i::obj b7 tIt9 [.string name,.bool false,.bool false,.bool false,ac 0,ac 0,ac 0]::obj b6 tIt9 [.string ⟨#[]⟩,.bool false,.bool false,.bool false,ac 0,ac 0,ac 0]::L) ah ?_;refine GO.ca (bL g ad n c i xs hn hx 5 ab) ?_;rintro _ _⟨p,i1,rfl,⟨a3,a4⟩,rfl⟩;by_cases h0:p=0
 ·subst h0;refine IF ?_;intros;exact KX.d7 (by exact ResOk.cell rfl aJ (ResOk.nil)) ah ⟨⟨name,false,true,dB (k=0),0,0,0⟩,i1,rfl,⟨rfl,by simp,by simp⟩,rfl⟩
 by_cases h1:p=1
 case neg =>
  refine IF ?_;intros;exact KX.d7 (by exact ResOk.cell rfl aJ (ResOk.nil)) ah ⟨⟨name,false,false,dB (k=0),0,0,0⟩,i1,rfl,⟨rfl,by simp,by simp⟩,rfl⟩
 subst h1;by_cases a0:0<k
 case neg =>
  refine IF ?_;intros;exact KX.d7 (by exact ResOk.cell rfl aJ (ResOk.nil)) ah ⟨⟨name,false,false,dB (k=0),0,0,0⟩,i1,by rw[aM a0];rfl,⟨rfl,by simp,by simp⟩,rfl⟩
 refine IF ?_;intros;refine GO.ent (Ent.at (A:=gen9 g ad n c i1) (Ent.refl _)) ?_;refine GO.ca (bL g ad n c i1 xs hn hx 9 ab) ?_;rintro _ _⟨w,i2,rfl,⟨a7,a8⟩,rfl⟩;refine IF ?_;intros;refine GO.ent (Ent.at (A:=gen9 g ad n c i2) (Ent.refl _)) ?_;refine GO.ca (bL g ad n c i2 xs hn hx 3 ab) ?_;rintro _ _⟨bi,i3,rfl,⟨a1,a2⟩,rfl⟩;refine IF ?_;intros;refine GO.ent (Ent.at (A:=gen9 g ad n c i3) (Ent.refl _)) ?_;refine GO.ca (bL g ad n c i3 xs hn hx 4 ab) ?_;rintro _ _⟨lv,i4,rfl,⟨a5,a6⟩,rfl⟩;refine IF ?_;intros;exact KX.d7 (by exact ResOk.cell rfl aJ (ResOk.nil)) ah ⟨⟨name,true,false,false,1+w,bi,lv⟩,i4,by rw[aZ a0,aM (ab:¬k=0)];rfl,⟨rfl,by simp;omega,by simp;omega⟩,rfl⟩
end
section
open Go.V
attribute [local irreducible] G GO GP GPW GPK GF GE Ev Ef EfR Ent CB GB V.Enters
abbrev tRu9:Nat:=79
abbrev lh:Nat:=3
abbrev tab4:List Int:=[0,3,5,20]
def Hc{q:Int}(h:0≤q∧q<4):0≤tab4[q.toNat]!∧tab4[q.toNat]!≤20:=by
 have h2:q=0∨q=1∨q=2∨q=3:=ab;rcases h2 with rfl|rfl|rfl|rfl<;>decide
inductive RuC where
 | c0
 | c1 (p:Int)
 | c2 (p q:Int)
 | c3 (p q:Int) (t:AmS)
 | c4 (p q:Int) (t v:AmS)
def RuOk(N:Nat):RuC→Prop
 | .c0=>True
 | .c1 p=>0≤p∧p<4
 | .c2 p q=>(0≤p∧p<4)∧0≤q∧q<4
 | .c3 p q t=>(0≤p∧p<4)∧(0≤q∧q<4)∧AmG N 3 t.l
 | .c4 p q t v=>(0≤p∧p<4)∧(0≤q∧q<4)∧AmG N 3 t.l∧AmG N 2 v.l
structure RuI (N:Nat) where
 a:Option Nat
 z:Option Nat
 s:RuC
 i:Int
 ok:RuOk N s
abbrev ruD(a z:Option Nat)(s:RuC):List Nat :=
 (match z with|some _=>[15]|none=>[])++(match a with|some _=>[3]|none=>[]) ++
 (match s with | .c0=>[] | .c1 _=>[2] | .c2 _ _=>[5,2] | .c3 _ _ _=>[10,5,2] | .c4 _ _ _ _=>[13,10,5,2]) ++
 (match a,s with|some _,.c2 _ _=>[7,6]|some _,.c3 _ _ _=>[7,6]|some _,.c4 _ _ _ _=>[14,7,6]|_,_=>[])++[0,1,4,8,9,11,12]
abbrev ruP1(b0:Nat)(q:Int):List PE:=[⟨7,Op.load 3 (Operand.tmp 16),3,[(16,.pointer (elP (some ⟨b0,0,none⟩) 1 q.toNat 0))],ac tab4[q.toNat]!⟩,⟨6,Op.indexAddr 22 (Operand.tmp 13) (Operand.tmp 15),0,[(13,ae (some ⟨b0,0,none⟩) 4 4),(15,ac q)],.pointer (elP (some ⟨b0,0,none⟩) 1 q.toNat 0)⟩]
abbrev ruPE(a:Option Nat)(s:RuC):List PE:=match a,s with
 | some b0,.c2 _ q=>ruP1 b0 q
 | some b0,.c3 _ q _=>ruP1 b0 q
 | some b0,.c4 _ q _ _=>ruP1 b0 q
 | _,_=>[]
abbrev ruE(g b6:Nat)(name:ByteArray)(N:Nat)(a z:Option Nat)(s:RuC):Env :=
 (match z with|some b7=>[(7,aq b7)]|none=>[])++(match a with|some b0=>[(13,ae (some ⟨b0,0,none⟩) 4 4)]|none=>[]) ++
 (match s with | .c0=>[] | .c1 p=>[(12,ac p)] | .c2 p q=>[(12,ac p),(15,ac q)] | .c3 p q t=>[(12,ac p),(15,ac q),(20,ae t.ad t.l.length t.cap)] | .c4 p q t v=>[(12,ac p),(15,ac q),(20,ae t.ad t.l.length t.cap),(23,ae v.ad v.l.length v.cap)]) ++
 (match a,s with|some _,.c2 _ q=>[(17,ac tab4[q.toNat]!)]|some _,.c3 _ q _=>[(17,ac tab4[q.toNat]!)]|some _,.c4 p q t v=>[(24,.agg #[.string name,.bool false,ac p,ac tab4[q.toNat]!,ac 1,ac 1,ae t.ad t.l.length t.cap,ae v.ad v.l.length v.cap,ae none 0 0]),(17,ac tab4[q.toNat]!)]|_,_=>[]) ++
 [(10,.string name),(11,aq g),(14,aq g),(18,aq g),(19,ac (N:Int)),(21,aq g),(22,ac (N:Int)),(0,aq g),(1,.string name),(2,ac (N:Int)),(6,aq b6)]
abbrev zRu:LV:=[.string ⟨#[]⟩,.bool false,ac 0,ac 0,ac 0,ac 0,ae none 0 0,ae none 0 0,ae none 0 0]
abbrev ruL(g:Nat)(ad:OA)(n c:Nat)(L:LH)(a z:Option Nat)(s:RuC)(i:Int):LH :=
 gen9 g ad n c i::((match z with|some b7=>[obj b7 tRu9 zRu]|none=>[])++(match a with|some b0=>[osl (encZ .i64) 1 lh (some ⟨b0,0,none⟩) 4 tab4]|none=>[]) ++
 (match s with | .c3 _ _ t=>[osl aV 2 tAm9 t.ad t.cap t.l] | .c4 _ _ t v=>[osl aV 2 tAm9 v.ad v.cap v.l,osl aV 2 tAm9 t.ad t.cap t.l]|_=>[])++L)
abbrev ruR{N:Nat}(x:RuI N):Nat:=(match x.s with | .c0=>4 | .c1 _=>3 | .c2 _ _=>2 | .c3 _ _ _=>1 | .c4 _ _ _ _=>0)+(match x.a with|none=>1|some _=>0)+(match x.z with|none=>1|some _=>0)
def uQ{n:Nat}:∀{l:List (Int×Int)},fS n l→∀a∈l,ey l a.1=a.2:=by
 intro l
 suffices H:∀(m:List (Int×Int)) (s:Int) (i:Int),m.Pairwise (fun a b=>a.1<b.1)→(∀a∈m,a.1≠i)→m.foldl (fun s a=>if a.1=i then s+a.2 else s) s=s by
  intro h a ha;obtain⟨k,hk,rfl⟩:=List.mem_iff_getElem.1 ha;have e:l=l.take k++l[k]::l.drop (k+1):=by rw[←dO hk,dq]
  have hp:=h.2;rw[e] at hp;obtain⟨q1,q2,q3⟩:=List.pairwise_append.1 hp;obtain⟨q4,q5⟩:=List.pairwise_cons.1 q2;unfold ey;generalize hx:l[k]=x at *;rw[e,cB,fF,H _ _ _ q1 (fun b hb=>by have:=q3 b hb x au;omega),if_pos rfl,H _ _ _ q5 (fun b hb=>by have:=q4 b hb;omega),Int.zero_add]
 intro m;induction m with
 | nil=>intro s i _ _;rfl
 | cons b m ih =>
  intro s i hp hn;rw[fF,if_neg (hn b au)];exact ih s i (List.pairwise_cons.1 hp).2 (fun a ha=>hn a (aw _ ha))
structure BackG (N:Nat) (l:List (Int×Int)) (j:Nat) (B:List (Int×Int)):Prop where
 srt:fS N B
 len:B.length≤j
 frm:∀a∈B,∃k,k<j∧k<l.length∧l[k]!.1=a.1∧a.2≤l[k]!.2
def BackG.cont{N most:Nat}{l B:List (Int×Int)}{j:Nat}(hl:AmG N most l)(h:BackG N l j B):∀a∈B,ey B a.1≤ey l a.1:=by
 intro a ha;rw[uQ h.srt a ha];obtain⟨k,_,hk,h1,h2⟩:=h.frm a ha;rw[←h1,uQ hl.srt _ (aL hk)];exact h2
def BackG.zero(N:Nat)(l:List (Int×Int)):BackG N l 0 []:=⟨⟨(fun _ h=>absurd h aH),List.Pairwise.nil⟩,az _,(fun _ h=>absurd h aH)⟩
def BackG.skip{N:Nat}{l B:List (Int×Int)}{j:Nat}(h:BackG N l j B):BackG N l (j+1) B:=⟨h.srt,by have:=h.len;omega,fun a ha=>by
 obtain⟨k,h1,h2⟩:=h.frm a ha;exact⟨k,ab,h2⟩⟩
def BackG.add{N most:Nat}{l B:List (Int×Int)}{j:Nat}(hl:AmG N most l)(h:BackG N l j B)(hj:j<l.length){u:Int}(h1:1≤u)(h2:u≤l[j]!.2):BackG N l (j+1) (B++[(l[j]!.1,u)]):=by
 obtain⟨g1,g2,g3,g4⟩:=hl.srt.1 _ (aL hj);refine⟨td h.srt ⟨g1,g2⟩ (fun a ha=>?_) ⟨h1,ab⟩,by rw[ax,aG];have:=h.len;omega,fun a ha=>?_⟩
 ·obtain⟨k,q1,q2,q3,_⟩:=h.frm a ha;rw[←q3,getElem!_of q2,getElem!_of hj];exact List.pairwise_iff_getElem.1 hl.srt.2 k j q2 hj q1
 ·rcases List.mem_append.1 ha with ha|ha
  ·exact h.skip.frm a ha
  ·rw[List.mem_singleton.1 ha];exact⟨j,ab,hj,rfl,h2⟩
structure RuG9 (N:Nat) (r:RuM):Prop where
 sp:r.spawn=false
 take:AmG N 3 r.take
 give:AmG N 2 r.give
 back:fS N r.back∧r.back.length≤3
 form:(r.back.length=0∨r.chance≠r.of_)∧(0<r.take.length∨r.time≠0)
 cont:∀a∈r.back,ey r.back a.1≤ey r.take a.1
 num:(0≤r.level∧r.level≤3)∧(0≤r.time∧r.time≤20)∧(1≤r.of_∧r.of_≤10)∧1≤r.chance∧r.chance≤r.of_
abbrev Ad:=ar6 [.ef 10,.ef 11,.ev 12,.ef 13]
def cH{φ ψ:Prop}(k:ψ)(h:Hid ψ→φ:=by intro k;(with_reducible apply G.d7);first|refine G.dr 90 11 Ad (Hid.out k)):φ:=h ⟨k⟩
def Ua{φ ψ:Prop}(k:ψ)(h:Hid ψ→φ:=by intro k;(repeat (first|refine aa ?_|intro zzz|refine cH ?_));(repeat revert zzz);exact Hid.out k):φ:=h ⟨k⟩
def BE{L:LH}(g:Nat)(ad:OA)(n c:Nat)(i:Int)(xs:List Int)[hrd:Rds L ad Int (encZ .i64) 1 xs](hn:n=xs.length)(hx:∀x∈xs,I64 x)(name:ByteArray)(N:Nat)(hN:N≤1000) :
  Tri ai 75 #[aq g,.string name,ac N] (gen9 g ad n c i::L)
   (fun v L'=>∃r i',v=aN (bj r)∧(r.name=name∧RuG9 N r.m)∧L' = osl aV 2 tAm9 r.take.ad r.take.cap r.take.l::osl aV 2 tAm9 r.give.ad r.give.cap r.give.l::osl aV 2 tAm9 r.back.ad r.back.cap r.back.l::gen9 g ad n c i'::L):=by
 subst hn;refine Tri.bd ?_;have e2:tab4.length=4:=rfl;repeat first|refine G.sn 1 ?_|refine bF ?_|intro _|refine cH ?_
 rename_i b6;refine G.ent (L':=gen9 g ad xs.length c i::obj b6 tRu9 zRu::L) ah ?_
 refine G.d8 (α:=Int×Int×AmS×AmS×Nat×Int) (fun z=>(0≤z.1∧z.1<4)∧(0≤z.2.1∧z.2.1≤20)∧AmG N 3 z.2.2.1.l∧AmG N 2 z.2.2.2.1.l)
  (fun z=>[(0,aq g),(1,.string name),(2,ac (N:Int)),(6,aq b6),(7,.pointer (some ⟨z.2.2.2.2.1,0,none⟩))])
  (fun z=>obj z.2.2.2.2.1 tRu9 [.string name,.bool false,ac z.1,ac z.2.1,ac 1,ac 1,ae z.2.2.1.ad z.2.2.1.l.length z.2.2.1.cap,ae z.2.2.2.1.ad z.2.2.2.1.l.length z.2.2.2.1.cap,ae none 0 0]::gen9 g ad xs.length c z.2.2.2.2.2::osl aV 2 tAm9 z.2.2.1.ad z.2.2.1.cap z.2.2.1.l::osl aV 2 tAm9 z.2.2.2.1.ad z.2.2.2.1.cap z.2.2.2.1.l::obj b6 tRu9 zRu::L) ?_ ?_
 ·refine G.f8 mixed krStd0 ?_;refine GF.evP (i:=0) rfl krStd0 (Ev.move rfl) ag ?_;refine GF.evP (i:=1) rfl krStd0 (Ev.move rfl) ag ?_;refine GF.evP (i:=4) rfl krStd0 (Ev.move rfl) ag ?_;refine GF.evP (i:=8) rfl krStd0 (Ev.move rfl) ag ?_;refine GF.evP (i:=9) rfl krStd0 (Ev.move rfl) ag ?_;refine GF.evP (i:=11) rfl krStd0 (Ev.move rfl) ag ?_;refine GF.evP (i:=12) rfl krStd0 (Ev.move rfl) ag ?_;refine GF.conseq (done':=ruD none none .c0) (env':=ruE g b6 name N none none .c0) (L':=ruL g ad xs.length c (obj b6 tRu9 zRu::L) none none .c0 i) krStd0 an (Ent.refl _) ?_;refine GF.fam (ι:=RuI N) (fun x=>ruD x.a x.z x.s) (fun x=>17 - (ruD x.a x.z x.s).length) (fun x=>ruPE x.a x.s) (fun x=>ruE g b6 name N x.a x.z x.s) (fun x=>ruL g ad xs.length c (obj b6 tRu9 zRu::L) x.a x.z x.s x.i) ruR ?_ ⟨none,none,.c0,i,trivial⟩;clear i;generalize hLL:obj b6 tRu9 zRu::L=LL;have d0 : Rds LL ad Int (encZ .i64) 1 xs:=by rw[←hLL];infer_instance
  rintro⟨a,z,s,i,a5⟩ ih;dsimp only;rcases a with _|b0<;>rcases z with _|b7
  ·rcases s with _|⟨p⟩|⟨p,q⟩|⟨p,q,t⟩|⟨p,q,t,v⟩
   ·dsimp only[ruL,ruE,ruPE,ruP1,aj,ak];change GF _ _ _ _ 10 _ _ _ _;refine GF.d9 2 3 15 krStd0 ?_ ?_ ?_
    ·refine GE.ef rfl (Ef.d9 (bL g ad xs.length c i xs rfl hx 4 ab) rfl) ag ?_;rintro _ _⟨p,i',rfl,h1,rfl⟩;refine⟨dK,?_⟩;exact GF.conseq krStd0 an (Ent.refl _) (ih ⟨none,none,(.c1 p),i',h1⟩ (ao rfl))
    ·refine GE.ef rfl (Ef.lit rfl rfl ag rfl) ag ?_;rintro _ _⟨b0,rfl,rfl⟩;refine⟨dK,?_⟩;refine GF.ent (L':=gen9 g ad xs.length c i::osl (encZ .i64) 1 lh (some ⟨b0,0,none⟩) 4 tab4::LL) (Ent.trans (Ent.e9 (enc:=encZ .i64) (sz:=1) (xs:=tab4) rfl rfl (fun _ _=>rfl) ag) ah) ?_;exact GF.conseq krStd0 an (Ent.refl _) (ih ⟨some b0,none,.c0,i,trivial⟩ (ao rfl))
    ·refine GE.ef rfl Ef.alloc ag ?_;rintro _ _⟨b7,rfl,rfl⟩;refine⟨dK,?_⟩;exact GF.conseq krStd0 an ah (ih ⟨none,some b7,.c0,i,trivial⟩ (ao rfl))
   ·dsimp only[ruL,ruE,ruPE,ruP1,aj,ak];have h1:0≤p∧p<4:=a5;change GF _ _ _ _ 9 _ _ _ _;refine GF.d9 3 5 15 krStd0 ?_ ?_ ?_
    ·refine GE.ef rfl (Ef.lit rfl rfl ag rfl) ag ?_;rintro _ _⟨b0,rfl,rfl⟩;refine⟨dK,?_⟩;refine GF.ent (L':=gen9 g ad xs.length c i::osl (encZ .i64) 1 lh (some ⟨b0,0,none⟩) 4 tab4::LL) (Ent.trans (Ent.e9 (enc:=encZ .i64) (sz:=1) (xs:=tab4) rfl rfl (fun _ _=>rfl) ag) ah) ?_;exact GF.conseq krStd0 an (Ent.refl _) (ih ⟨some b0,none,(.c1 p),i,h1⟩ (ao rfl))
    ·refine GE.ef rfl (Ef.d9 (bL g ad xs.length c i xs rfl hx 4 ab) rfl) ag ?_;rintro _ _⟨q,i',rfl,h2,rfl⟩;obtain⟨a0,a1⟩:=h2;have h2:0≤q∧q<4:=⟨a0,a1⟩;refine⟨dK,?_⟩;exact GF.conseq krStd0 an (Ent.refl _) (ih ⟨none,none,(.c2 p q),i',⟨h1,h2⟩⟩ (ao rfl))
    ·refine GE.ef rfl Ef.alloc ag ?_;rintro _ _⟨b7,rfl,rfl⟩;refine⟨dK,?_⟩;exact GF.conseq krStd0 an ah (ih ⟨none,some b7,(.c1 p),i,h1⟩ (ao rfl))
   ·dsimp only[ruL,ruE,ruPE,ruP1,aj,ak];obtain⟨h1,h2⟩:=a5;obtain⟨a0,a1⟩:=h2;have h2:0≤q∧q<4:=⟨a0,a1⟩;change GF _ _ _ _ 8 _ _ _ _;refine GF.d9 3 10 15 krStd0 ?_ ?_ ?_
    ·refine GE.ef rfl (Ef.lit rfl rfl ag rfl) ag ?_;rintro _ _⟨b0,rfl,rfl⟩;refine⟨dK,?_⟩;refine GF.ent (L':=gen9 g ad xs.length c i::osl (encZ .i64) 1 lh (some ⟨b0,0,none⟩) 4 tab4::LL) (Ent.trans (Ent.e9 (enc:=encZ .i64) (sz:=1) (xs:=tab4) rfl rfl (fun _ _=>rfl) ag) ah) ?_;refine GF.evS (env₀:=[(13,ae (some ⟨b0,0,none⟩) 4 4),(15,ac q)]) (i:=6) (v:=.pointer (elP (some ⟨b0,0,none⟩) 1 q.toNat 0)) (EnvSub.cons rfl (EnvSub.cons rfl (EnvSub.nil _))) rfl krStd0 (Ev.indexAddr (xs:=tab4) rfl rfl ab ab ab) ag ?_;refine GF.evS (env₀:=[(16,.pointer (elP (some ⟨b0,0,none⟩) 1 q.toNat 0))]) (i:=7) (v:=ac tab4[q.toNat]!) (EnvSub.cons rfl (EnvSub.nil _)) rfl krStd0 (Ev.d7 (xs:=tab4) rfl ab ag rfl) ag ?_;exact GF.conseq krStd0 an (Ent.refl _) (ih ⟨some b0,none,(.c2 p q),i,⟨h1,h2⟩⟩ (ao rfl))
    ·refine GE.ef rfl (Ef.d9 (gt g ad xs.length c i xs rfl hx N 3 hN ag) rfl) ag ?_;rintro _ _⟨l,a4,oc,i',rfl,h3,rfl⟩;obtain⟨t,rfl,rfl,rfl⟩:∃t:AmS,t.l=l∧t.ad=a4∧t.cap=oc:=⟨⟨l,a4,oc⟩,rfl,rfl,rfl⟩;refine⟨dK,?_⟩;exact GF.conseq krStd0 an ah (ih ⟨none,none,(.c3 p q t),i',⟨h1,h2,h3⟩⟩ (ao rfl))
    ·refine GE.ef rfl Ef.alloc ag ?_;rintro _ _⟨b7,rfl,rfl⟩;refine⟨dK,?_⟩;exact GF.conseq krStd0 an ah (ih ⟨none,some b7,(.c2 p q),i,⟨h1,h2⟩⟩ (ao rfl))
   ·dsimp only[ruL,ruE,ruPE,ruP1,aj,ak];obtain⟨h1,h2,h3⟩:=a5;obtain⟨a0,a1⟩:=h2;have h2:0≤q∧q<4:=⟨a0,a1⟩;change GF _ _ _ _ 7 _ _ _ _;refine GF.d9 3 13 15 krStd0 ?_ ?_ ?_
    ·refine GE.ef rfl (Ef.lit rfl rfl ag rfl) ag ?_;rintro _ _⟨b0,rfl,rfl⟩;refine⟨dK,?_⟩;refine GF.ent (L':=gen9 g ad xs.length c i::osl (encZ .i64) 1 lh (some ⟨b0,0,none⟩) 4 tab4::osl aV 2 tAm9 t.ad t.cap t.l::LL) (Ent.trans (Ent.e9 (enc:=encZ .i64) (sz:=1) (xs:=tab4) rfl rfl (fun _ _=>rfl) ag) ah) ?_;refine GF.evS (env₀:=[(13,ae (some ⟨b0,0,none⟩) 4 4),(15,ac q)]) (i:=6) (v:=.pointer (elP (some ⟨b0,0,none⟩) 1 q.toNat 0)) (EnvSub.cons rfl (EnvSub.cons rfl (EnvSub.nil _))) rfl krStd0 (Ev.indexAddr (xs:=tab4) rfl rfl ab ab ab) ag ?_;refine GF.evS (env₀:=[(16,.pointer (elP (some ⟨b0,0,none⟩) 1 q.toNat 0))]) (i:=7) (v:=ac tab4[q.toNat]!) (EnvSub.cons rfl (EnvSub.nil _)) rfl krStd0 (Ev.d7 (xs:=tab4) rfl ab ag rfl) ag ?_;exact GF.conseq krStd0 an (Ent.refl _) (ih ⟨some b0,none,(.c3 p q t),i,⟨h1,h2,h3⟩⟩ (ao rfl))
    ·refine GE.ef rfl (Ef.d9 (gt g ad xs.length c i xs rfl hx N 2 hN ag) rfl) ag ?_;rintro _ _⟨l,a4,oc,i',rfl,h4,rfl⟩;obtain⟨v,rfl,rfl,rfl⟩:∃v:AmS,v.l=l∧v.ad=a4∧v.cap=oc:=⟨⟨l,a4,oc⟩,rfl,rfl,rfl⟩;refine⟨dK,?_⟩;exact GF.conseq krStd0 an ah (ih ⟨none,none,(.c4 p q t v),i',⟨h1,h2,h3,h4⟩⟩ (ao rfl))
    ·refine GE.ef rfl Ef.alloc ag ?_;rintro _ _⟨b7,rfl,rfl⟩;refine⟨dK,?_⟩;exact GF.conseq krStd0 an ah (ih ⟨none,some b7,(.c3 p q t),i,⟨h1,h2,h3⟩⟩ (ao rfl))
   ·dsimp only[ruL,ruE,ruPE,ruP1,aj,ak];obtain⟨h1,h2,h3,h4⟩:=a5;obtain⟨a0,a1⟩:=h2;have h2:0≤q∧q<4:=⟨a0,a1⟩;change GF _ _ _ _ 6 _ _ _ _;refine GF.d7 3 15 krStd0 ?_ ?_
    ·refine GE.ef rfl (Ef.lit rfl rfl ag rfl) ag ?_;rintro _ _⟨b0,rfl,rfl⟩;refine⟨dK,?_⟩;refine GF.ent (L':=gen9 g ad xs.length c i::osl (encZ .i64) 1 lh (some ⟨b0,0,none⟩) 4 tab4::osl aV 2 tAm9 v.ad v.cap v.l::osl aV 2 tAm9 t.ad t.cap t.l::LL) (Ent.trans (Ent.e9 (enc:=encZ .i64) (sz:=1) (xs:=tab4) rfl rfl (fun _ _=>rfl) ag) ah) ?_;refine GF.evS (env₀:=[(13,ae (some ⟨b0,0,none⟩) 4 4),(15,ac q)]) (i:=6) (v:=.pointer (elP (some ⟨b0,0,none⟩) 1 q.toNat 0)) (EnvSub.cons rfl (EnvSub.cons rfl (EnvSub.nil _))) rfl krStd0 (Ev.indexAddr (xs:=tab4) rfl rfl ab ab ab) ag ?_;refine GF.evS (env₀:=[(16,.pointer (elP (some ⟨b0,0,none⟩) 1 q.toNat 0))]) (i:=7) (v:=ac tab4[q.toNat]!) (EnvSub.cons rfl (EnvSub.nil _)) rfl krStd0 (Ev.d7 (xs:=tab4) rfl ab ag rfl) ag ?_;refine GF.evP (i:=14) rfl krStd0 (Ev.build rfl rfl) ag ?_;exact GF.conseq krStd0 an (Ent.refl _) (ih ⟨some b0,none,(.c4 p q t v),i,⟨h1,h2,h3,h4⟩⟩ (ao rfl))
    ·refine GE.ef rfl Ef.alloc ag ?_;rintro _ _⟨b7,rfl,rfl⟩;refine⟨dK,?_⟩;exact GF.conseq krStd0 an ah (ih ⟨none,some b7,(.c4 p q t v),i,⟨h1,h2,h3,h4⟩⟩ (ao rfl))
  ·rcases s with _|⟨p⟩|⟨p,q⟩|⟨p,q,t⟩|⟨p,q,t,v⟩
   ·dsimp only[ruL,ruE,ruPE,ruP1,aj,ak];change GF _ _ _ _ 9 _ _ _ _;refine GF.d7 2 3 krStd0 ?_ ?_
    ·refine GE.ef rfl (Ef.d9 (bL g ad xs.length c i xs rfl hx 4 ab) rfl) ag ?_;rintro _ _⟨p,i',rfl,h1,rfl⟩;refine⟨dK,?_⟩;exact GF.conseq krStd0 an (Ent.refl _) (ih ⟨none,some b7,(.c1 p),i',h1⟩ (ao rfl))
    ·refine GE.ef rfl (Ef.lit rfl rfl ag rfl) ag ?_;rintro _ _⟨b0,rfl,rfl⟩;refine⟨dK,?_⟩;refine GF.ent (L':=gen9 g ad xs.length c i::obj b7 tRu9 zRu::osl (encZ .i64) 1 lh (some ⟨b0,0,none⟩) 4 tab4::LL) (Ent.trans (Ent.e9 (enc:=encZ .i64) (sz:=1) (xs:=tab4) rfl rfl (fun _ _=>rfl) ag) ah) ?_;exact GF.conseq krStd0 an (Ent.refl _) (ih ⟨some b0,some b7,.c0,i,trivial⟩ (ao rfl))
   ·dsimp only[ruL,ruE,ruPE,ruP1,aj,ak];have h1:0≤p∧p<4:=a5;change GF _ _ _ _ 8 _ _ _ _;refine GF.d7 3 5 krStd0 ?_ ?_
    ·refine GE.ef rfl (Ef.lit rfl rfl ag rfl) ag ?_;rintro _ _⟨b0,rfl,rfl⟩;refine⟨dK,?_⟩;refine GF.ent (L':=gen9 g ad xs.length c i::obj b7 tRu9 zRu::osl (encZ .i64) 1 lh (some ⟨b0,0,none⟩) 4 tab4::LL) (Ent.trans (Ent.e9 (enc:=encZ .i64) (sz:=1) (xs:=tab4) rfl rfl (fun _ _=>rfl) ag) ah) ?_;exact GF.conseq krStd0 an (Ent.refl _) (ih ⟨some b0,some b7,(.c1 p),i,h1⟩ (ao rfl))
    ·refine GE.ef rfl (Ef.d9 (bL g ad xs.length c i xs rfl hx 4 ab) rfl) ag ?_;rintro _ _⟨q,i',rfl,h2,rfl⟩;obtain⟨a0,a1⟩:=h2;have h2:0≤q∧q<4:=⟨a0,a1⟩;refine⟨dK,?_⟩;exact GF.conseq krStd0 an (Ent.refl _) (ih ⟨none,some b7,(.c2 p q),i',⟨h1,h2⟩⟩ (ao rfl))
   ·dsimp only[ruL,ruE,ruPE,ruP1,aj,ak];obtain⟨h1,h2⟩:=a5;obtain⟨a0,a1⟩:=h2;have h2:0≤q∧q<4:=⟨a0,a1⟩;change GF _ _ _ _ 7 _ _ _ _;refine GF.d7 3 10 krStd0 ?_ ?_
    ·refine GE.ef rfl (Ef.lit rfl rfl ag rfl) ag ?_;rintro _ _⟨b0,rfl,rfl⟩;refine⟨dK,?_⟩;refine GF.ent (L':=gen9 g ad xs.length c i::obj b7 tRu9 zRu::osl (encZ .i64) 1 lh (some ⟨b0,0,none⟩) 4 tab4::LL) (Ent.trans (Ent.e9 (enc:=encZ .i64) (sz:=1) (xs:=tab4) rfl rfl (fun _ _=>rfl) ag) ah) ?_;refine GF.evS (env₀:=[(13,ae (some ⟨b0,0,none⟩) 4 4),(15,ac q)]) (i:=6) (v:=.pointer (elP (some ⟨b0,0,none⟩) 1 q.toNat 0)) (EnvSub.cons rfl (EnvSub.cons rfl (EnvSub.nil _))) rfl krStd0 (Ev.indexAddr (xs:=tab4) rfl rfl ab ab ab) ag ?_;refine GF.evS (env₀:=[(16,.pointer (elP (some ⟨b0,0,none⟩) 1 q.toNat 0))]) (i:=7) (v:=ac tab4[q.toNat]!) (EnvSub.cons rfl (EnvSub.nil _)) rfl krStd0 (Ev.d7 (xs:=tab4) rfl ab ag rfl) ag ?_;exact GF.conseq krStd0 an (Ent.refl _) (ih ⟨some b0,some b7,(.c2 p q),i,⟨h1,h2⟩⟩ (ao rfl))
    ·refine GE.ef rfl (Ef.d9 (gt g ad xs.length c i xs rfl hx N 3 hN ag) rfl) ag ?_;rintro _ _⟨l,a4,oc,i',rfl,h3,rfl⟩;obtain⟨t,rfl,rfl,rfl⟩:∃t:AmS,t.l=l∧t.ad=a4∧t.cap=oc:=⟨⟨l,a4,oc⟩,rfl,rfl,rfl⟩;refine⟨dK,?_⟩;exact GF.conseq krStd0 an ah (ih ⟨none,some b7,(.c3 p q t),i',⟨h1,h2,h3⟩⟩ (ao rfl))
   ·dsimp only[ruL,ruE,ruPE,ruP1,aj,ak];obtain⟨h1,h2,h3⟩:=a5;obtain⟨a0,a1⟩:=h2;have h2:0≤q∧q<4:=⟨a0,a1⟩;change GF _ _ _ _ 6 _ _ _ _;refine GF.d7 3 13 krStd0 ?_ ?_
    ·refine GE.ef rfl (Ef.lit rfl rfl ag rfl) ag ?_;rintro _ _⟨b0,rfl,rfl⟩;refine⟨dK,?_⟩;refine GF.ent (L':=gen9 g ad xs.length c i::obj b7 tRu9 zRu::osl (encZ .i64) 1 lh (some ⟨b0,0,none⟩) 4 tab4::osl aV 2 tAm9 t.ad t.cap t.l::LL) (Ent.trans (Ent.e9 (enc:=encZ .i64) (sz:=1) (xs:=tab4) rfl rfl (fun _ _=>rfl) ag) ah) ?_;refine GF.evS (env₀:=[(13,ae (some ⟨b0,0,none⟩) 4 4),(15,ac q)]) (i:=6) (v:=.pointer (elP (some ⟨b0,0,none⟩) 1 q.toNat 0)) (EnvSub.cons rfl (EnvSub.cons rfl (EnvSub.nil _))) rfl krStd0 (Ev.indexAddr (xs:=tab4) rfl rfl ab ab ab) ag ?_;refine GF.evS (env₀:=[(16,.pointer (elP (some ⟨b0,0,none⟩) 1 q.toNat 0))]) (i:=7) (v:=ac tab4[q.toNat]!) (EnvSub.cons rfl (EnvSub.nil _)) rfl krStd0 (Ev.d7 (xs:=tab4) rfl ab ag rfl) ag ?_;exact GF.conseq krStd0 an (Ent.refl _) (ih ⟨some b0,some b7,(.c3 p q t),i,⟨h1,h2,h3⟩⟩ (ao rfl))
    ·refine GE.ef rfl (Ef.d9 (gt g ad xs.length c i xs rfl hx N 2 hN ag) rfl) ag ?_;rintro _ _⟨l,a4,oc,i',rfl,h4,rfl⟩;obtain⟨v,rfl,rfl,rfl⟩:∃v:AmS,v.l=l∧v.ad=a4∧v.cap=oc:=⟨⟨l,a4,oc⟩,rfl,rfl,rfl⟩;refine⟨dK,?_⟩;exact GF.conseq krStd0 an ah (ih ⟨none,some b7,(.c4 p q t v),i',⟨h1,h2,h3,h4⟩⟩ (ao rfl))
   ·dsimp only[ruL,ruE,ruPE,ruP1,aj,ak];obtain⟨h1,h2,h3,h4⟩:=a5;obtain⟨a0,a1⟩:=h2;have h2:0≤q∧q<4:=⟨a0,a1⟩;change GF _ _ _ _ 5 _ _ _ _;refine GF.d8 [3] krStd0 rfl (fun r hr=>?_);obtain rfl:=List.mem_singleton.1 hr;refine GE.ef rfl (Ef.lit rfl rfl ag rfl) ag ?_;rintro _ _⟨b0,rfl,rfl⟩;refine⟨dK,?_⟩;refine GF.ent (L':=gen9 g ad xs.length c i::obj b7 tRu9 zRu::osl (encZ .i64) 1 lh (some ⟨b0,0,none⟩) 4 tab4::osl aV 2 tAm9 v.ad v.cap v.l::osl aV 2 tAm9 t.ad t.cap t.l::LL) (Ent.trans (Ent.e9 (enc:=encZ .i64) (sz:=1) (xs:=tab4) rfl rfl (fun _ _=>rfl) ag) ah) ?_;refine GF.evS (env₀:=[(13,ae (some ⟨b0,0,none⟩) 4 4),(15,ac q)]) (i:=6) (v:=.pointer (elP (some ⟨b0,0,none⟩) 1 q.toNat 0)) (EnvSub.cons rfl (EnvSub.cons rfl (EnvSub.nil _))) rfl krStd0 (Ev.indexAddr (xs:=tab4) rfl rfl ab ab ab) ag ?_;refine GF.evS (env₀:=[(16,.pointer (elP (some ⟨b0,0,none⟩) 1 q.toNat 0))]) (i:=7) (v:=ac tab4[q.toNat]!) (EnvSub.cons rfl (EnvSub.nil _)) rfl krStd0 (Ev.d7 (xs:=tab4) rfl ab ag rfl) ag ?_;refine GF.evP (i:=14) rfl krStd0 (Ev.build rfl rfl) ag ?_;exact GF.conseq krStd0 an (Ent.refl _) (ih ⟨some b0,some b7,(.c4 p q t v),i,⟨h1,h2,h3,h4⟩⟩ (ao rfl))
  ·rcases s with _|⟨p⟩|⟨p,q⟩|⟨p,q,t⟩|⟨p,q,t,v⟩
   ·dsimp only[ruL,ruE,ruPE,ruP1,aj,ak];change GF _ _ _ _ 9 _ _ _ _;refine GF.d7 2 15 krStd0 ?_ ?_
    ·refine GE.ef rfl (Ef.d9 (bL g ad xs.length c i xs rfl hx 4 ab) rfl) ag ?_;rintro _ _⟨p,i',rfl,h1,rfl⟩;refine⟨dK,?_⟩;exact GF.conseq krStd0 an (Ent.refl _) (ih ⟨some b0,none,(.c1 p),i',h1⟩ (ao rfl))
    ·refine GE.ef rfl Ef.alloc ag ?_;rintro _ _⟨b7,rfl,rfl⟩;refine⟨dK,?_⟩;exact GF.conseq krStd0 an ah (ih ⟨some b0,some b7,.c0,i,trivial⟩ (ao rfl))
   ·dsimp only[ruL,ruE,ruPE,ruP1,aj,ak];have h1:0≤p∧p<4:=a5;change GF _ _ _ _ 8 _ _ _ _;refine GF.d7 5 15 krStd0 ?_ ?_
    ·refine GE.ef rfl (Ef.d9 (bL g ad xs.length c i xs rfl hx 4 ab) rfl) ag ?_;rintro _ _⟨q,i',rfl,h2,rfl⟩;obtain⟨a0,a1⟩:=h2;have h2:0≤q∧q<4:=⟨a0,a1⟩;refine⟨dK,?_⟩;refine GF.evS (env₀:=[(13,ae (some ⟨b0,0,none⟩) 4 4),(15,ac q)]) (i:=6) (v:=.pointer (elP (some ⟨b0,0,none⟩) 1 q.toNat 0)) (EnvSub.cons rfl (EnvSub.cons rfl (EnvSub.nil _))) rfl krStd0 (Ev.indexAddr (xs:=tab4) rfl rfl ab ab ab) ag ?_;refine GF.evS (env₀:=[(16,.pointer (elP (some ⟨b0,0,none⟩) 1 q.toNat 0))]) (i:=7) (v:=ac tab4[q.toNat]!) (EnvSub.cons rfl (EnvSub.nil _)) rfl krStd0 (Ev.d7 (xs:=tab4) rfl ab ag rfl) ag ?_;exact GF.conseq krStd0 an (Ent.refl _) (ih ⟨some b0,none,(.c2 p q),i',⟨h1,h2⟩⟩ (ao rfl))
    ·refine GE.ef rfl Ef.alloc ag ?_;rintro _ _⟨b7,rfl,rfl⟩;refine⟨dK,?_⟩;exact GF.conseq krStd0 an ah (ih ⟨some b0,some b7,(.c1 p),i,h1⟩ (ao rfl))
   ·dsimp only[ruL,ruE,ruPE,ruP1,aj,ak];obtain⟨h1,h2⟩:=a5;obtain⟨a0,a1⟩:=h2;have h2:0≤q∧q<4:=⟨a0,a1⟩;change GF _ _ _ _ 5 _ _ _ _;refine GF.d7 10 15 krStd0 ?_ ?_
    ·refine GE.ef rfl (Ef.d9 (gt g ad xs.length c i xs rfl hx N 3 hN ag) rfl) ag ?_;rintro _ _⟨l,a4,oc,i',rfl,h3,rfl⟩;obtain⟨t,rfl,rfl,rfl⟩:∃t:AmS,t.l=l∧t.ad=a4∧t.cap=oc:=⟨⟨l,a4,oc⟩,rfl,rfl,rfl⟩;refine⟨(by intro pe hp;simp only[bh,aH,or_false] at hp;rcases hp with rfl|rfl;exact Ev.d7 (xs:=tab4) rfl ab ag rfl;exact Ev.indexAddr (xs:=tab4) rfl rfl ab ab ab),?_⟩;exact GF.conseq krStd0 an ah (ih ⟨some b0,none,(.c3 p q t),i',⟨h1,h2,h3⟩⟩ (ao rfl))
    ·refine GE.ef rfl Ef.alloc ag ?_;rintro _ _⟨b7,rfl,rfl⟩;refine⟨(by intro pe hp;simp only[bh,aH,or_false] at hp;rcases hp with rfl|rfl;exact Ev.d7 (xs:=tab4) rfl ab ag rfl;exact Ev.indexAddr (xs:=tab4) rfl rfl ab ab ab),?_⟩;exact GF.conseq krStd0 an ah (ih ⟨some b0,some b7,(.c2 p q),i,⟨h1,h2⟩⟩ (ao rfl))
   ·dsimp only[ruL,ruE,ruPE,ruP1,aj,ak];obtain⟨h1,h2,h3⟩:=a5;obtain⟨a0,a1⟩:=h2;have h2:0≤q∧q<4:=⟨a0,a1⟩;change GF _ _ _ _ 4 _ _ _ _;refine GF.d7 13 15 krStd0 ?_ ?_
    ·refine GE.ef rfl (Ef.d9 (gt g ad xs.length c i xs rfl hx N 2 hN ag) rfl) ag ?_;rintro _ _⟨l,a4,oc,i',rfl,h4,rfl⟩;obtain⟨v,rfl,rfl,rfl⟩:∃v:AmS,v.l=l∧v.ad=a4∧v.cap=oc:=⟨⟨l,a4,oc⟩,rfl,rfl,rfl⟩;refine⟨(by intro pe hp;simp only[bh,aH,or_false] at hp;rcases hp with rfl|rfl;exact Ev.d7 (xs:=tab4) rfl ab ag rfl;exact Ev.indexAddr (xs:=tab4) rfl rfl ab ab ab),?_⟩;refine GF.evP (i:=14) rfl krStd0 (Ev.build rfl rfl) ag ?_;exact GF.conseq krStd0 an ah (ih ⟨some b0,none,(.c4 p q t v),i',⟨h1,h2,h3,h4⟩⟩ (ao rfl))
    ·refine GE.ef rfl Ef.alloc ag ?_;rintro _ _⟨b7,rfl,rfl⟩;refine⟨(by intro pe hp;simp only[bh,aH,or_false] at hp;rcases hp with rfl|rfl;exact Ev.d7 (xs:=tab4) rfl ab ag rfl;exact Ev.indexAddr (xs:=tab4) rfl rfl ab ab ab),?_⟩;exact GF.conseq krStd0 an ah (ih ⟨some b0,some b7,(.c3 p q t),i,⟨h1,h2,h3⟩⟩ (ao rfl))
   ·dsimp only[ruL,ruE,ruPE,ruP1,aj,ak];obtain⟨h1,h2,h3,h4⟩:=a5;obtain⟨a0,a1⟩:=h2;have h2:0≤q∧q<4:=⟨a0,a1⟩;change GF _ _ _ _ 2 _ _ _ _;refine GF.d8 [15] krStd0 rfl (fun r hr=>?_);obtain rfl:=List.mem_singleton.1 hr;refine GE.ef rfl Ef.alloc ag ?_;rintro _ _⟨b7,rfl,rfl⟩;refine⟨(by intro pe hp;simp only[bh,aH,or_false] at hp;rcases hp with rfl|rfl;exact Ev.d7 (xs:=tab4) rfl ab ag rfl;exact Ev.indexAddr (xs:=tab4) rfl rfl ab ab ab),?_⟩;exact GF.conseq krStd0 an ah (ih ⟨some b0,some b7,(.c4 p q t v),i,⟨h1,h2,h3,h4⟩⟩ (ao rfl))
  ·rcases s with _|⟨p⟩|⟨p,q⟩|⟨p,q,t⟩|⟨p,q,t,v⟩
   ·dsimp only[ruL,ruE,ruPE,ruP1,aj,ak];change GF _ _ _ _ 8 _ _ _ _;refine GF.d8 [2] krStd0 rfl (fun r hr=>?_);obtain rfl:=List.mem_singleton.1 hr;refine GE.ef rfl (Ef.d9 (bL g ad xs.length c i xs rfl hx 4 ab) rfl) ag ?_;rintro _ _⟨p,i',rfl,h1,rfl⟩;refine⟨dK,?_⟩;exact GF.conseq krStd0 an (Ent.refl _) (ih ⟨some b0,some b7,(.c1 p),i',h1⟩ (ao rfl))
   ·dsimp only[ruL,ruE,ruPE,ruP1,aj,ak];have h1:0≤p∧p<4:=a5;change GF _ _ _ _ 7 _ _ _ _;refine GF.d8 [5] krStd0 rfl (fun r hr=>?_);obtain rfl:=List.mem_singleton.1 hr;refine GE.ef rfl (Ef.d9 (bL g ad xs.length c i xs rfl hx 4 ab) rfl) ag ?_;rintro _ _⟨q,i',rfl,h2,rfl⟩;obtain⟨a0,a1⟩:=h2;have h2:0≤q∧q<4:=⟨a0,a1⟩;refine⟨dK,?_⟩;refine GF.evS (env₀:=[(13,ae (some ⟨b0,0,none⟩) 4 4),(15,ac q)]) (i:=6) (v:=.pointer (elP (some ⟨b0,0,none⟩) 1 q.toNat 0)) (EnvSub.cons rfl (EnvSub.cons rfl (EnvSub.nil _))) rfl krStd0 (Ev.indexAddr (xs:=tab4) rfl rfl ab ab ab) ag ?_;refine GF.evS (env₀:=[(16,.pointer (elP (some ⟨b0,0,none⟩) 1 q.toNat 0))]) (i:=7) (v:=ac tab4[q.toNat]!) (EnvSub.cons rfl (EnvSub.nil _)) rfl krStd0 (Ev.d7 (xs:=tab4) rfl ab ag rfl) ag ?_;exact GF.conseq krStd0 an (Ent.refl _) (ih ⟨some b0,some b7,(.c2 p q),i',⟨h1,h2⟩⟩ (ao rfl))
   ·dsimp only[ruL,ruE,ruPE,ruP1,aj,ak];obtain⟨h1,h2⟩:=a5;obtain⟨a0,a1⟩:=h2;have h2:0≤q∧q<4:=⟨a0,a1⟩;change GF _ _ _ _ 4 _ _ _ _;refine GF.d8 [10] krStd0 rfl (fun r hr=>?_);obtain rfl:=List.mem_singleton.1 hr;refine GE.ef rfl (Ef.d9 (gt g ad xs.length c i xs rfl hx N 3 hN ag) rfl) ag ?_;rintro _ _⟨l,a4,oc,i',rfl,h3,rfl⟩;obtain⟨t,rfl,rfl,rfl⟩:∃t:AmS,t.l=l∧t.ad=a4∧t.cap=oc:=⟨⟨l,a4,oc⟩,rfl,rfl,rfl⟩;refine⟨(by intro pe hp;simp only[bh,aH,or_false] at hp;rcases hp with rfl|rfl;exact Ev.d7 (xs:=tab4) rfl ab ag rfl;exact Ev.indexAddr (xs:=tab4) rfl rfl ab ab ab),?_⟩;exact GF.conseq krStd0 an ah (ih ⟨some b0,some b7,(.c3 p q t),i',⟨h1,h2,h3⟩⟩ (ao rfl))
   ·dsimp only[ruL,ruE,ruPE,ruP1,aj,ak];obtain⟨h1,h2,h3⟩:=a5;obtain⟨a0,a1⟩:=h2;have h2:0≤q∧q<4:=⟨a0,a1⟩;change GF _ _ _ _ 3 _ _ _ _;refine GF.d8 [13] krStd0 rfl (fun r hr=>?_);obtain rfl:=List.mem_singleton.1 hr;refine GE.ef rfl (Ef.d9 (gt g ad xs.length c i xs rfl hx N 2 hN ag) rfl) ag ?_;rintro _ _⟨l,a4,oc,i',rfl,h4,rfl⟩;obtain⟨v,rfl,rfl,rfl⟩:∃v:AmS,v.l=l∧v.ad=a4∧v.cap=oc:=⟨⟨l,a4,oc⟩,rfl,rfl,rfl⟩;refine⟨(by intro pe hp;simp only[bh,aH,or_false] at hp;rcases hp with rfl|rfl;exact Ev.d7 (xs:=tab4) rfl ab ag rfl;exact Ev.indexAddr (xs:=tab4) rfl rfl ab ab ab),?_⟩;refine GF.evP (i:=14) rfl krStd0 (Ev.build rfl rfl) ag ?_;exact GF.conseq krStd0 an ah (ih ⟨some b0,some b7,(.c4 p q t v),i',⟨h1,h2,h3,h4⟩⟩ (ao rfl))
   ·dsimp only[ruL,ruE,ruPE,ruP1,aj,ak];obtain⟨h1,h2,h3,h4⟩:=a5;obtain⟨a0,a1⟩:=h2;have h2:0≤q∧q<4:=⟨a0,a1⟩;refine GF.plan [.ef 16] krStd0 rfl ?_;refine Ua ?_;intros;exact⟨(p,tab4[q.toNat]!,t,v,b7,i),⟨h1,Hc h2,h3,h4⟩,an,by rw[←hLL];exact ah⟩
 rintro⟨p,tm,t,v,b7,i1⟩ ⟨⟨c8,c9⟩,⟨d1,d2⟩,hT,hV⟩;dsimp only at c8 c9 d1 d2 hT hV ⊢;clear i;have d4:=hT.len
 refine G.d8 (α:=Int×Int×Int) (fun z=>1≤z.1∧z.1≤z.2.1∧z.2.1≤10) (fun _=>[(0,aq g),(1,.string name),(2,ac (N:Int)),(6,aq b6),(7,aq b7)])
  (fun z=>gen9 g ad xs.length c z.2.2::obj b7 tRu9 [.string name,.bool false,ac p,ac tm,ac (z.1),ac (z.2.1),ae t.ad t.l.length t.cap,ae v.ad v.l.length v.cap,ae none 0 0]::osl aV 2 tAm9 t.ad t.cap t.l::osl aV 2 tAm9 v.ad v.cap v.l::obj b6 tRu9 zRu::L) ?_ ?_
 ·refine Ua ?_;intros;refine GO.ent (Ent.at (A:=gen9 g ad xs.length c i1) (Ent.refl _)) ?_;refine GO.ca (bL g ad xs.length c i1 xs rfl hx 3 ab) ?_;rintro _ _⟨a,i2,rfl,⟨b9,c5⟩,rfl⟩;by_cases h0:a=0
  case neg =>
   refine Ua ?_;intros;exact⟨(1,1,i2),⟨by dsimp only;omega,by dsimp only;omega,by dsimp only;omega⟩,an,by exact ah⟩
  refine Ua ?_;intros;refine GO.ca (bL g ad xs.length c i2 xs rfl hx 9 ab) ?_;rintro _ _⟨a2,i3,rfl,⟨b2,d5⟩,rfl⟩;refine Ua ?_;intros;refine GO.ent (Ent.at (A:=gen9 g ad xs.length c i3) (Ent.refl _)) ?_;refine GO.ca (bL g ad xs.length c i3 xs rfl hx (2+a2) ab) ?_;rintro _ _⟨a3,i4,rfl,⟨d6,b4⟩,rfl⟩;refine Ua ?_;intros;exact⟨(1+a3,2+a2,i4),by dsimp only;omega,an,by exact ah⟩
 rintro⟨ch,of_,i2⟩ ⟨b4,c6,c7⟩;dsimp only at b4 c6 c7 ⊢
 refine G.d8 (α:=List (Int×Int)×OA×Nat×Int) (fun z=>BackG N t.l t.l.length z.1∧(z.1.length=0∨ch≠of_)) (fun _=>[(0,aq g),(1,.string name),(2,ac (N:Int)),(6,aq b6),(7,aq b7)])
  (fun z=>gen9 g ad xs.length c z.2.2.2::obj b7 tRu9 [.string name,.bool false,ac p,ac tm,ac (ch),ac (of_),ae t.ad t.l.length t.cap,ae v.ad v.l.length v.cap,ae z.2.1 z.1.length z.2.2.1]::osl aV 2 tAm9 z.2.1 z.2.2.1 z.1::osl aV 2 tAm9 t.ad t.cap t.l::osl aV 2 tAm9 v.ad v.cap v.l::obj b6 tRu9 zRu::L) ?_ ?_
 ·refine G.ent (Ent.d8 aV 2 tAm9) ?_;have b2:BackG N t.l t.l.length []:=⟨(BackG.zero N t.l).srt,az _,(fun _ h=>absurd h aH)⟩;by_cases e3:ch<of_
  case neg =>
   refine Ua ?_;intros;exact⟨([],none,0,i2),⟨b2,.inl rfl⟩,an,by exact ah⟩
  refine Ua ?_;intros;refine GO.ent (Ent.at (A:=gen9 g ad xs.length c i2) (Ent.refl _)) ?_;refine GO.ca (bL g ad xs.length c i2 xs rfl hx 3 ab) ?_;rintro _ _⟨a,i3,rfl,⟨b9,c5⟩,rfl⟩;by_cases h0:0<a
  case neg =>
   refine Ua ?_;intros;exact⟨([],none,0,i3),⟨b2,.inl rfl⟩,an,by exact ah⟩
  refine Ua ?_;intros
  refine G.loop (α:=Nat×List (Int×Int)×OA×Nat×Int) (fun z=>z.1≤t.l.length∧BackG N t.l z.1 z.2.1) (fun z=>[(8,ac (z.1:Int)),(0,aq g),(1,.string name),(2,ac (N:Int)),(6,aq b6),(7,aq b7)])
   (fun z=>gen9 g ad xs.length c z.2.2.2.2::obj b7 tRu9 [.string name,.bool false,ac p,ac tm,ac ch,ac of_,ae t.ad t.l.length t.cap,ae v.ad v.l.length v.cap,ae z.2.2.1 z.2.1.length z.2.2.2.1]::osl aV 2 tAm9 z.2.2.1 z.2.2.2.1 z.2.1::osl aV 2 tAm9 t.ad t.cap t.l::osl aV 2 tAm9 v.ad v.cap v.l::obj b6 tRu9 zRu::L) (fun z=>t.l.length - z.1) (0,[],none,0,i3) ⟨az _,BackG.zero N t.l⟩ an ah ?_
  rintro⟨j,B,a7,a6,i4⟩ ⟨hj,hB⟩;dsimp only at hj hB ⊢;have b8:=hB.len;by_cases b3:j<t.l.length
  case neg =>
   obtain rfl:j=t.l.length:=ab;refine Ua ?_;intros;exact⟨(B,a7,a6,i4),⟨hB,.inr ab⟩,an,by exact ah⟩
  obtain⟨g1,g2,g3,g4⟩:=hT.srt.1 _ (aL b3);have g5:=hT.u4 _ (aL b3);have b5:(j:Int).toNat=j:=aD j;refine Ua ?_;intros;rw[b5];refine Ua ?_;intros;refine GO.ca (bL g ad xs.length c i4 xs rfl hx (t.l[j]!.2+1) ab) ?_;rintro _ _⟨k,i5,rfl,⟨e0,e1⟩,rfl⟩;by_cases hk:0<k
  case neg =>
   refine Ua ?_;intros;exact⟨(j+1,B,a7,a6,i5),⟨by dsimp only;omega,hB.skip⟩,by dsimp only;omega,an,by exact ah⟩
  refine Ua ?_;intros;refine GPW.ef (Ef.d7 (enc:=aV) (e:=(t.l[(j:Int).toNat]!.1,k)) rfl rfl rfl rfl rfl aJ (gE _) ab ab) ag ?_;rintro _ _⟨b1,a8,rfl,rfl⟩;refine Ua ?_;intros;refine⟨(j+1,B++[(t.l[(j:Int).toNat]!.1,k)],b1,a8,i5),⟨by dsimp only;omega,by rw[b5];exact hB.add hT b3 ab ab⟩,by dsimp only;omega,an,by exact ah⟩
 rintro⟨B,a7,a6,i3⟩ ⟨hB,a9⟩;dsimp only at hB a9 ⊢;have b8:=hB.len;by_cases e4:t.l.length=0
 ·by_cases d3:tm=0
  ·refine Ua ?_;intros;exact KX.d7 (by exact ResOk.cell rfl aJ (ResOk.nil)) ah ⟨⟨name,false,p,1,ch,of_,t,v,⟨B,a7,a6⟩⟩,i3,rfl,⟨rfl,⟨rfl,hT,hV,⟨hB.srt,by dsimp only[RuV.m];omega⟩,⟨a9,.inr (by dsimp only[RuV.m];omega)⟩,hB.cont hT,⟨by dsimp only[RuV.m];omega,by dsimp only[RuV.m];omega⟩,⟨by dsimp only[RuV.m];omega,by dsimp only[RuV.m];omega⟩,⟨by dsimp only[RuV.m];omega,by dsimp only[RuV.m];omega⟩,by dsimp only[RuV.m];omega,by dsimp only[RuV.m];omega⟩⟩,rfl⟩
  ·refine Ua ?_;intros;exact KX.d7 (by exact ResOk.cell rfl aJ (ResOk.nil)) ah ⟨⟨name,false,p,tm,ch,of_,t,v,⟨B,a7,a6⟩⟩,i3,rfl,⟨rfl,⟨rfl,hT,hV,⟨hB.srt,by dsimp only[RuV.m];omega⟩,⟨a9,.inr d3⟩,hB.cont hT,⟨by dsimp only[RuV.m];omega,by dsimp only[RuV.m];omega⟩,⟨by dsimp only[RuV.m];omega,by dsimp only[RuV.m];omega⟩,⟨by dsimp only[RuV.m];omega,by dsimp only[RuV.m];omega⟩,by dsimp only[RuV.m];omega,by dsimp only[RuV.m];omega⟩⟩,rfl⟩
 ·refine Ua ?_;intros;exact KX.d7 (by exact ResOk.cell rfl aJ (ResOk.nil)) ah ⟨⟨name,false,p,tm,ch,of_,t,v,⟨B,a7,a6⟩⟩,i3,rfl,⟨rfl,⟨rfl,hT,hV,⟨hB.srt,by dsimp only[RuV.m];omega⟩,⟨a9,.inl (by dsimp only[RuV.m];omega)⟩,hB.cont hT,⟨by dsimp only[RuV.m];omega,by dsimp only[RuV.m];omega⟩,⟨by dsimp only[RuV.m];omega,by dsimp only[RuV.m];omega⟩,⟨by dsimp only[RuV.m];omega,by dsimp only[RuV.m];omega⟩,by dsimp only[RuV.m];omega,by dsimp only[RuV.m];omega⟩⟩,rfl⟩
