/- Lemmas. -/
import Derived.Test.YtlgpgjdggilkgaaGreatDoorEcbb
import Derived.Laws.CopyRow
set_option linter.all false
set_option maxHeartbeats 4000000
namespace Go.Proofs.YtlgpgjdggilkgaaGreatDoor
section
open Go.V
def tD{α:Type}[DecidableEq α]:∀{l m:List α},l.Nodup→(∀x∈l,x∈m)→l.length≤m.length
 | [],_,_,_=>aw _
 | x::l,m,hn,hs=>by
  obtain⟨h1,h2⟩:=List.nodup_cons.1 hn;have hx:=hs x av;have h3:=tD (m:=m.erase x) h2 (fun y hy=>(List.mem_erase_of_ne (fun e=>h1 (by rw[←e];exact hy))).2 (hs y (au _ hy)));have h4:=List.length_erase_of_mem hx;have h5:=List.length_pos_of_mem hx;rw[aM];omega
def LedG.ok{k:Nat}{S:LedM}(h:LedG k S)(hk:k≤4096):S.Ok:=⟨h.shard,h.steps,h.flows,fun a i=>⟨aP (h.stk a i).len hk,(h.stk a i).lots⟩,h.tot⟩
def HK:SetS (gI ([]:List (Int×Stk))) []:=GD
attribute [local irreducible] G GO GP GPW GPK GF GE Ev Ef EfR Ent CB GB V.Enters
def DI{L:LH}(sh:Int)(c:CatV)(a1:0≤sh∧sh<12)(hB:c.B)(h:CatGood c.m):Tri Tryz.prog 46 #[ac sh,aU c.cells] (catP c::cD::L) (fun v L'=>∃b,v=.tuple #[ax b,ac 0]∧L' = aS b (led0 sh c.m)::catP c::cD::L):=by
 obtain⟨h1,h2⟩:=a1;refine Tri.bd ?_;simp only[CatV.cells];refine Ks ?_;intros;rename_i b3;refine GO.ent (L':=catP c::cD::obj b3 tCat c.cells::L) (by simp only[CatV.cells];exact ah) ?_;refine GO.cr (FY c hB h) ?_;simp only[CatV.cells];refine Ks ?_;intros;refine GO.ent (L':=catP c::cD::obj b3 tCat c.cells::L) (by simp only[CatV.cells];exact ah) ?_;refine GO.ca (pG c hB) ?_;rintro _ _⟨c',rfl,a0,rfl⟩;simp only[CatV.cells];refine GO.ef (Ef.d8 kvP Stk.v (.inl rfl)) ae ?_;rintro _ _⟨b1,rfl,rfl⟩;refine GO.ef (Ef.d8 kvI encN (.inl rfl)) ae ?_;rintro _ _⟨b2,rfl,rfl⟩;refine GO.ef (Ef.d8 kvI Stk.v (.inl rfl)) ae ?_;rintro _ _⟨b4,rfl,rfl⟩;refine GO.ef (Ef.d8 kvI Stk.v (.inl rfl)) ae ?_;rintro _ _⟨b5,rfl,rfl⟩;refine Ks ?_;intros;rename_i b6;refine KX.a8 aA ?_ ⟨b6,rfl,rfl⟩;refine Ent.trans ?_ (iU (S:=led0 sh c.m) ⟨c',b1,b2,b4,b5,[],[],[],[],[],none,0,[],none,0⟩ ⟨a0,CatV.a8 a0 hB,fun _ _=>rfl,(fun _ h=>by cases h),fun _=>rfl,rfl,rfl,HK,HK⟩);simp only[ledL,bW,led0];refine(Ent.c8 dQ 7 ik).trans (Ent.ofOsl.trans ((Ent.c8 dT 11 fQ).trans (Ent.ofOsl.trans ?_)));refine(Ent.c7 (fun p:(Int×Int)×Stk=>stkP p.2)).trans ((Ent.c7 iO).trans ((Ent.c7 flP).trans ((Ent.c7 (fun p:Int×Stk=>stkP p.2)).trans ((Ent.c7 (fun p:Int×Stk=>stkP p.2)).trans ?_))));exact ah
end
section
open Go.V
attribute [local irreducible] G GO GP GPW GPK GF GE Ev Ef EfR Ent CB GB V.Enters
def mvN(f t i n:Int):MvV:=⟨⟨f,t,i,n,[]⟩,none,0⟩
def mvsA(f t:Int)(am:List (Int×Int)):List MvV:=am.map fun a=>mvN f t a.1 a.2
def jB{L:LH}(ad:OA)(n c:Nat)(am:List (Int×Int))[hrd:Rds L ad (Int×Int) cy 2 am](hn:n=am.length)(hl:am.length≤1000)(f t:Int) :
  Tri Tryz.prog 147 #[ag ad n c,ac f,ac t] L (fun v L'=>∃mad mcap,v=ag mad (mvsA f t am).length mcap∧L' = osl cj 5 tMv mad mcap (mvsA f t am)::L):=by
 subst hn;refine Tri.bd ?_;refine Ks ?_;intros;refine G.loop (α:=Nat×OA×Nat) (fun g=>g.1≤am.length) (fun g=>[(1,ac f),(2,ac t),(7,ag g.2.1 (mvsA f t (am.take g.1)).length g.2.2),(10,ag ad am.length c),(11,ac (am.length:Int)),(12,ac (g.1:Int))]) (fun g=>osl cj 5 tMv g.2.1 g.2.2 (mvsA f t (am.take g.1))::L) (fun g=>am.length - g.1) (0,none,0) (aw _) aC (by dsimp only;rw[aR];exact Ent.c8 cj 5 tMv) ?_;rintro⟨i,mad,mcap⟩ hi;dsimp only at hi ⊢;have a5:(mvsA f t (am.take i)).length=i:=by unfold mvsA;rw[an,aK];omega
 by_cases a1:i<am.length
 case neg =>
  rw[aD ab];refine Ks ?_;intros;exact KX.en ⟨mad,mcap,rfl,rfl⟩
 have a3:(i:Int).toNat=i:=ab
 have a4:mvsA f t (am.take (i+1))=mvsA f t (am.take i)++[mvN f t am[i]!.1 am[i]!.2]:=by
  unfold mvsA;rw[az a1,aJ,getElem!_of a1];rfl
 refine Ks ?_;intros;rw[a3];refine GO.ef (Ef.a8 (enc:=cj) (e:=mvN f t am[i]!.1 am[i]!.2) rfl rfl rfl rfl rfl aQ (mA _) ab ab) ae ?_;rintro _ _⟨a2,a0,rfl,rfl⟩;rw[←a4];refine Ks ?_;intros;refine⟨(i+1,a2,a0),by dsimp only;omega,by dsimp only;omega,?_,by exact ah⟩;dsimp only;rw[bh i];exact aC
def uG{L:LH}(b:Nat)(S:LedM) :
  Tri Tryz.prog 202 #[ax b] (aS b S::L) (rtQ (ac (S.flows.length:Int)) (aS b S::L)):=by
 refine Tri.bd ?_;refine G.c8 (f:=jb b S) ?_;intro x;simp only[jb,ledL,al,ak];refine G.d7 ?_;intro hF;have a0:x.flows.length=S.flows.length:=by rw[←hF.flows];simp
 simp only[bW];refine Ks ?_;intros;exact KX.a8 aA (iU x hF) ⟨by rw[←a0];rfl,rfl⟩
def yJ{L:LH}(ad:OA)(c:Nat)(ms:List FlV)[hrd:Rds L ad FlV dT 11 ms](hA:∀f∈ms,Ent L (flP f::L))(hl:ms.length≤100000)(hp:∀m∈ms,m.m.parts.length≤1000000∧m.m.made.length≤1000000) :
  Tri Tryz.prog 52 #[ag ad ms.length c,.func (.func 53) #[] #[]] L (fun v L'=>∃a3 c' a1,v=ag a3 a1.length c'∧a1.map (·.m)=ms.map (·.m)∧L' = osl dT 11 fQ a3 c' a1::bigO flO a1::L):=by
 refine Tri.bd ?_;by_cases h0:ms.length=0
 ·have e:ms=[]:=aZ h0;subst e;refine Ks ?_;intros;exact KX.a8 aA ((Ent.j0 flO).trans (Ent.c8 dT 11 fQ)) ⟨none,0,[],rfl,rfl,rfl⟩
 refine Ks ?_;intros;refine GO.ef (Ef.f9 dT fl0 rfl rfl rfl ab ab ab ab) ae ?_;rintro _ _⟨bs,rfl,rfl⟩;rw[show(ms.length:Int).toNat=ms.length by omega];refine Ks ?_;intros
 refine G.loop (α:=Nat×List FlV) (fun z=>z.1≤ms.length∧z.2.length=ms.length∧(z.2.take z.1).map (·.m)=(ms.take z.1).map (·.m)) (fun z=>[(1,.func (.func 53) #[] #[]),(5,ag (some ⟨bs,0,none⟩) ms.length ms.length),(14,ag ad ms.length c),(15,ac (ms.length:Int)),(16,ac (z.1:Int))])
  (fun z=>osl dT 11 fQ (some ⟨bs,0,none⟩) ms.length z.2::bigO flO (z.2.take z.1)::L) (fun z=>ms.length - z.1) (0,List.replicate ms.length fl0) ⟨aw _,by simp,by simp⟩ aC ?_ ?_
 ·dsimp only;rw[aR];refine(Ent.j0 flO).trans ?_;exact ah
 rintro⟨i,zs⟩ ⟨hi,a7,a0⟩;dsimp only at hi a7 a0 ⊢;by_cases a2:i<ms.length
 case neg =>
  have a9:i=ms.length:=ab;subst a9;rw[aD ab,aD ab] at a0;rw[aD (ab:zs.length≤ms.length)];refine Ks ?_;intros;refine KX.a8 aA (Ent.refl _) ⟨some ⟨bs,0,none⟩,ms.length,zs,by rw[a7];rfl,a0,rfl⟩
 have a4:(i:Int).toNat=i:=ab;have a5:ms[i]!∈ms:=aV a2;have a6:=hp _ a5;refine Ks ?_;intros;rw[a4];refine GO.ent (Ent.under (A:=[_,_,_]) (hA _ a5)) ?_;simp only[al,ak];refine GO.ef (Ef.c7 rfl rfl (qF ms[i]! a6.1 a6.2)) ae ?_;rintro _ _⟨m',rfl,b0,rfl⟩;refine Ks ?_;intros;refine GO.efu (Ef.f8 (e:=m') rfl rfl aQ aQ (lW _) ab) ?_;rintro _ _ rfl;rw[a4];refine Ks ?_;intros;refine⟨(i+1,zs.set i m'),⟨by dsimp only;omega,by dsimp only;simp;omega,?_⟩,by dsimp only;omega,?_,?_⟩
 ·dsimp only;rw[dV ab,az a2,aJ,aJ,a0,←getElem!_of a2];simp[b0]
 ·dsimp only;rw[bh i];exact aC
 ·dsimp only;rw[dV ab];refine Ent.a8 ?_;refine Ent.trans (B:=flO m'::bigO flO (zs.take i)::L) ah ?_;exact Ent.k8
abbrev Ar:=XE [.ef 13,.ev 14]
def RQ{φ ψ:Prop}(k:ψ)(h:Hid ψ→φ:=by intro k;(repeat (first|refine aa ?_|intro zzz|refine G.dr 19 1 Ar ?_));(repeat revert zzz);exact Hid.out k):φ:=h ⟨k⟩
def uF{L:LH}(b:Nat)(S:LedM)(k:Nat)(hk:k≤S.flows.length)(hS:∀f∈S.flows.drop k,f.parts.length≤1000000∧f.made.length≤1000000)(hl:S.flows.length≤k+100000) :
  Tri Tryz.prog 203 #[ax b,ac (k:Int)] (aS b S::L) (fun v L'=>∃ad cap fs,v=ag ad fs.length cap∧fs.map FlV.m=S.flows.drop k∧L' = osl dT 11 fQ ad cap fs::bigO flO fs::aS b S::L):=by
 refine Tri.bd ?_;refine G.c8 (f:=jb b S) ?_;intro x;simp only[jb,ledL,al,ak];refine G.d7 ?_;intro hF;have a6:x.flows.length=S.flows.length:=by rw[←hF.flows];simp
 have a2:(x.flows.drop k).map FlV.m=S.flows.drop k:=by rw[←hF.flows,List.map_drop]
 refine G.c9 (Jd (ad:=x.fad) (cap:=x.fcap) (xs:=x.flows) (enc:=dT) (sz:=11) (E:=fQ)) ?_;rintro⟨a4,_⟩;have a3:(max 0 (min (k:Int) (x.flows.length:Int))).toNat=k:=ab
 have hE:∀M:LH,Tri Tryz.prog 52 #[ag (advA x.fad x.fcap 11 (max 0 (min (k:Int) (x.flows.length:Int))).toNat) (x.flows.length - (max 0 (min (k:Int) (x.flows.length:Int))).toNat) (x.fcap - (max 0 (min (k:Int) (x.flows.length:Int))).toNat),.func (.func 53) #[] #[]] (asl dT 11 fQ x.fad x.fcap x.flows::allP flP x.flows::M) (fun v L'=>∃a1 c' a0,v=ag a1 a0.length c'∧a0.map (·.m)=(x.flows.drop k).map (·.m)∧L' = osl dT 11 fQ a1 c' a0::bigO flO a0::asl dT 11 fQ x.fad x.fcap x.flows::allP flP x.flows::M):=fun M=>by
  rw[a3];have h:=yJ (L:=asl dT 11 fQ x.fad x.fcap x.flows::allP flP x.flows::M) (advA x.fad x.fcap 11 k) (x.fcap - k) (x.flows.drop k) (hrd:=Rds.drop inferInstance a4 k) (fun f hf=>(Ent.at (A:=allP flP x.flows) (Ent.c9 (f:=flP) (cG hf))).trans ah) (by rw[bY];omega) (fun f hf=>hS f.m (by rw[←a2];exact alStd0List_mem_map_of_mem hf));rw[bY] at h;exact h
 simp only[bW];refine RQ ?_;intros;refine GPW.ent (Ent.at (A:=asl dT 11 fQ x.fad x.fcap x.flows) (Ent.a8 (Ent.at (A:=allP flP x.flows) (Ent.refl _)))) ?_;refine GPW.ca (hE _) ?_;rintro _ _⟨ad,cap,fs,rfl,a5,rfl⟩;refine RQ ?_;intros;refine KX.a8 aA ?_ ⟨ad,cap,fs,rfl,a5.trans a2,rfl⟩;refine Ent.trans ?_ (Ent.a8 (Ent.a8 (iU x hF)));simp only[ledL,bW];exact ah
end
section
open Go.V
attribute [local irreducible] G GO GP GPW GPK Ev Ef EfR Ent CB GB V.Enters
structure AmG (n most:Nat) (l:List (Int×Int)):Prop where
 srt:iG n l
 u4:∀a∈l,a.2≤4
 len:l.length≤most
def Eh{n:Nat}{l:List (Int×Int)}(h:iG n l){x y:Int}(hx:0≤x∧x<n)(hl:∀a∈l,a.1<x)(hy:1≤y∧y≤1099511627776):iG n (l++[(x,y)]):=by
 obtain⟨h1,h2⟩:=h;refine⟨fun a ha=>?_,List.pairwise_append.2 ⟨h2,bB _ _,fun a ha b hb=>?_⟩⟩
 ·rcases List.mem_append.1 ha with ha|ha
  ·exact h1 a ha
  ·rw[List.mem_singleton.1 ha];exact⟨hx.1,hx.2,hy⟩
 ·rw[List.mem_singleton.1 hb];exact hl a ha
end
section
open Go.V
attribute [local irreducible] G GO GP GPW GPK GF GE Ev Ef EfR Ent CB GB V.Enters
def vH{n:Nat}:∀{l:List (Int×Int)},iG n l→∀a∈l,gA l a.1=a.2:=by
 intro l
 suffices H:∀(m:List (Int×Int)) (s:Int) (i:Int),m.Pairwise (fun a b=>a.1<b.1)→(∀a∈m,a.1≠i)→m.foldl (fun s a=>if a.1=i then s+a.2 else s) s=s by
  intro h a ha;obtain⟨k,hk,rfl⟩:=List.mem_iff_getElem.1 ha;have e:l=l.take k++l[k]::l.drop (k+1):=by rw[←bV hk,cK]
  have hp:=h.2;rw[e] at hp;obtain⟨q1,q2,q3⟩:=List.pairwise_append.1 hp;obtain⟨q4,q5⟩:=List.pairwise_cons.1 q2;unfold gA;generalize hx:l[k]=x at *;rw[e,cF,eO,H _ _ _ q1 (fun b hb=>by have:=q3 b hb x av;omega),if_pos rfl,H _ _ _ q5 (fun b hb=>by have:=q4 b hb;omega),Int.zero_add]
 intro m;induction m with
 | nil=>intro s i _ _;rfl
 | cons b m ih =>
  intro s i hp hn;rw[eO,if_neg (hn b av)];exact ih s i (List.pairwise_cons.1 hp).2 (fun a ha=>hn a (au _ ha))
structure BackG (N:Nat) (l:List (Int×Int)) (j:Nat) (B:List (Int×Int)):Prop where
 srt:iG N B
 len:B.length≤j
 frm:∀a∈B,∃k,k<j∧k<l.length∧l[k]!.1=a.1∧a.2≤l[k]!.2
def BackG.cont{N most:Nat}{l B:List (Int×Int)}{j:Nat}(hl:AmG N most l)(h:BackG N l j B):∀a∈B,gA B a.1≤gA l a.1:=by
 intro a ha;rw[vH h.srt a ha];obtain⟨k,_,hk,h1,h2⟩:=h.frm a ha;rw[←h1,vH hl.srt _ (aV hk)];exact h2
def BackG.zero(N:Nat)(l:List (Int×Int)):BackG N l 0 []:=⟨⟨(fun _ h=>absurd h ay),List.Pairwise.nil⟩,aw _,(fun _ h=>absurd h ay)⟩
def BackG.skip{N:Nat}{l B:List (Int×Int)}{j:Nat}(h:BackG N l j B):BackG N l (j+1) B:=⟨h.srt,by have:=h.len;omega,fun a ha=>by
 obtain⟨k,h1,h2⟩:=h.frm a ha;exact⟨k,ab,h2⟩⟩
def BackG.add{N most:Nat}{l B:List (Int×Int)}{j:Nat}(hl:AmG N most l)(h:BackG N l j B)(hj:j<l.length){u:Int}(h1:1≤u)(h2:u≤l[j]!.2):BackG N l (j+1) (B++[(l[j]!.1,u)]):=by
 obtain⟨g1,g2,g3,g4⟩:=hl.srt.1 _ (aV hj);refine⟨Eh h.srt ⟨g1,g2⟩ (fun a ha=>?_) ⟨h1,ab⟩,by rw[aj,aI];have:=h.len;omega,fun a ha=>?_⟩
 ·obtain⟨k,q1,q2,q3,_⟩:=h.frm a ha;rw[←q3,getElem!_of q2,getElem!_of hj];exact List.pairwise_iff_getElem.1 hl.srt.2 k j q2 hj q1
 ·rcases List.mem_append.1 ha with ha|ha
  ·exact h.skip.frm a ha
  ·rw[List.mem_singleton.1 ha];exact⟨j,ab,hj,rfl,h2⟩
structure RuG9 (N:Nat) (r:RuM):Prop where
 sp:r.spawn=false
 take:AmG N 3 r.take
 give:AmG N 2 r.give
 back:iG N r.back∧r.back.length≤3
 form:(r.back.length=0∨r.chance≠r.of_)∧(0<r.take.length∨r.time≠0)
 cont:∀a∈r.back,gA r.back a.1≤gA r.take a.1
 num:(0≤r.level∧r.level≤3)∧(0≤r.time∧r.time≤20)∧(1≤r.of_∧r.of_≤10)∧1≤r.chance∧r.chance≤r.of_
structure RuW (n:Nat) (r:RuM):Prop where
 len:r.take.length≤3∧r.give.length≤3∧r.back.length≤3
 take:iG n r.take
 give:iG n r.give
 back:iG n r.back
 form:(r.back.length=0∨r.chance≠r.of_)∧(if r.spawn=true then r.take.length=0∧r.back.length=0∧r.level=0∧r.time=0∧r.chance=r.of_ else 0<r.take.length∨r.time≠0)
 cont:∀a∈r.back,gA r.back a.1≤gA r.take a.1
 num:(0≤r.level∧r.level≤100)∧(0≤r.time∧r.time≤1000000)∧(1≤r.of_∧r.of_≤1000000)∧1≤r.chance∧r.chance≤r.of_
def RuW.good{n:Nat}{r:RuM}(h:RuW n r)(hw:IsWord r.name):RuGood n r :=
 ⟨hw,by have:=h.len;omega,h.take,h.give,h.back,h.form,h.cont,h.num⟩
def RuG9.w{n:Nat}{r:RuM}(h:RuG9 n r):RuW n r :=
 ⟨⟨h.take.len,by have:=h.give.len;omega,h.back.2⟩,h.take.srt,h.give.srt,h.back.1,⟨h.form.1,by rw[h.sp];simpa using h.form.2⟩,h.cont,by have:=h.num;omega⟩
def RuW.spawn{n:Nat}{nm:ByteArray}{l:List (Int×Int)}(h:AmG n 3 l):RuW n ⟨nm,true,0,0,1,1,[],l,[]⟩ :=
 ⟨⟨aw _,h.len,aw _⟩,⟨(fun _ h=>absurd h ay),List.Pairwise.nil⟩,h.srt,⟨(fun _ h=>absurd h ay),List.Pairwise.nil⟩,by simp,(fun _ h=>absurd h ay),by dsimp only;decide⟩
abbrev wa:List ByteArray:=[⟨#[]⟩,⟨#[99,104,101,115,116]⟩,⟨#[104,101,114,98]⟩]
abbrev vZ:List ByteArray:=[⟨#[]⟩,⟨#[115,97,108,101]⟩,⟨#[115,116,97,108,108]⟩]
def xk{k j:Nat}(h:k≤2)(hj:j<k):wa[k]!≠wa[j]!∧vZ[k]!≠vZ[j]!:=by
 have h2:(k=1∧j=0)∨(k=2∧j=0)∨(k=2∧j=1):=ab;rcases h2 with⟨rfl,rfl⟩|⟨rfl,rfl⟩|⟨rfl,rfl⟩<;>decide
structure TbsG (N i:Nat) (l:List TbV):Prop where
 len:l.length+i≤2
 nm:∀t∈l,∃k,i<k∧k≤2∧t.name=wa[k]!
 nd:(l.map (·.name)).Nodup
 ok:∀t∈l,(0<t.rows.length∧t.rows.length≤3)∧∀r∈t.rows,RwGood N r.m∧r.give.l.length≤2
def TbsG.add{N i:Nat}{l:List TbV}(h:TbsG N (i+1) l)(rows:List RwV)(ad:OA)(c:Nat)(hr:(0<rows.length∧rows.length≤3)∧∀r∈rows,RwGood N r.m∧r.give.l.length≤2):TbsG N i (l++[⟨wa[i+1]!,rows,ad,c⟩]):=by
 have hl:=h.len;refine⟨by rw[aj,aI];omega,fun t ht=>?_,?_,fun t ht=>?_⟩
 ·rcases List.mem_append.1 ht with ht|ht
  ·obtain⟨k,h1,h2⟩:=h.nm t ht;exact⟨k,ab,h2⟩
  ·rw[List.mem_singleton.1 ht];exact⟨i+1,ab,ab,rfl⟩
 ·rw[aJ];refine List.pairwise_append.2 ⟨h.nd,bB _ _,fun a ha b hb=>?_⟩;obtain⟨t,ht,rfl⟩:=List.mem_map.1 ha;rw[List.mem_singleton.1 hb];obtain⟨k,h1,h2,h3⟩:=h.nm t ht;rw[h3];exact(xk h2 h1).1
 ·rcases List.mem_append.1 ht with ht|ht
  ·exact h.ok t ht
  ·rw[List.mem_singleton.1 ht];exact hr
structure BrG (l:List (Int×Int)):Prop where
 len:1≤l.length∧l.length≤3
 first:l[0]!.1=0
 srt:∀i,i+1<l.length→l[i]!.1<l[i+1]!.1
 num:∀b∈l,(0≤b.1∧b.1≤600*l.length)∧0≤b.2∧b.2≤10000
def BrG.one{p:Int}(h:0≤p∧p<2000):BrG [(0,p)]:=⟨by simp,rfl,fun i hi=>absurd hi cc,fun b hb=>by
 rw[List.mem_singleton.1 hb];dsimp only[aI];omega⟩
def BrG.add{l:List (Int×Int)}(h:BrG l)(hl:l.length≤2){f q:Int}(hf:l[l.length - 1]!.1<f∧f≤l[l.length - 1]!.1+501)(hq:0≤q∧q≤10000):BrG (l++[(f,q)]):=by
 obtain⟨h1,h2⟩:=h.len;have a0:(l++[(f,q)]).length=l.length+1:=by simp
 obtain⟨⟨q1,q2⟩,_⟩:=h.num _ (aV (ab:l.length - 1<l.length));refine⟨ab,?_,fun i hi=>?_,fun b hb=>?_⟩
 ·rw[getElem!_of ab,dw ab,←getElem!_of ab];exact h.first
 ·rw[getElem!_of ab,getElem!_of hi,dw ab];by_cases hj:i+1<l.length
  ·rw[dw hj,←getElem!_of ab,←getElem!_of hj];exact h.srt i hj
  ·obtain rfl:i=l.length - 1:=ab;rw[cM ab,←getElem!_of ab];simpa using hf.1
 ·rw[a0];rcases List.mem_append.1 hb with hb|hb
  ·have:=h.num b hb
   omega
  ·rw[List.mem_singleton.1 hb];dsimp only;omega
structure TxsG (i:Nat) (l:List TxV):Prop where
 len:l.length+i≤2
 nm:∀t∈l,∃k,i<k∧k≤2∧t.name=vZ[k]!
 nd:(l.map (·.name)).Nodup
 ok:∀t∈l,BrG t.brs
def TxsG.add{i:Nat}{l:List TxV}(h:TxsG (i+1) l)(brs:List (Int×Int))(ad:OA)(c:Nat)(hr:BrG brs):TxsG i (l++[⟨vZ[i+1]!,brs,ad,c⟩]):=by
 have hl:=h.len;refine⟨by rw[aj,aI];omega,fun t ht=>?_,?_,fun t ht=>?_⟩
 ·rcases List.mem_append.1 ht with ht|ht
  ·obtain⟨k,h1,h2⟩:=h.nm t ht;exact⟨k,ab,h2⟩
  ·rw[List.mem_singleton.1 ht];exact⟨i+1,ab,ab,rfl⟩
 ·rw[aJ];refine List.pairwise_append.2 ⟨h.nd,bB _ _,fun a ha b hb=>?_⟩;obtain⟨t,ht,rfl⟩:=List.mem_map.1 ha;rw[List.mem_singleton.1 hb];obtain⟨k,h1,h2,h3⟩:=h.nm t ht;rw[h3];exact(xk h2 h1).2
 ·rcases List.mem_append.1 ht with ht|ht
  ·exact h.ok t ht
  ·rw[List.mem_singleton.1 ht];exact hr
def SpT(q:Nat)(l:List RuV):Prop:=∀k,q≤k→k<l.length→l[k]!.spawn=true
def SpT.snoc{q:Nat}{l:List RuV}(h:SpT q l){e:RuV}(he:e.spawn=true):SpT q (l++[e]):=by
 intro k hq hk;have hl:(l++[e]).length=l.length+1:=by simp
 by_cases hj:k<l.length
 ·rw[getElem!_of hk,dw hj,←getElem!_of hj];exact h k hq hj
 ·obtain rfl:k=l.length:=ab;rw[getElem!_of hk,cM (aq _)];simpa using he
def AmW(l:List (Int×Int)):Prop:=∀a∈l,(-1≤a.1∧a.1≤1000)∧-1≤a.2∧a.2≤1099511627777
def AmW.snoc{l:List (Int×Int)}(h:AmW l){x:Int×Int}(hx:(-1≤x.1∧x.1≤1000)∧-1≤x.2∧x.2≤1099511627777):AmW (l++[x]):=by
 intro a ha;rcases List.mem_append.1 ha with ha|ha
 ·exact h a ha
 ·rw[List.mem_singleton.1 ha];exact hx
def AmW.set{l:List (Int×Int)}(h:AmW l){x:Int×Int}(hx:(-1≤x.1∧x.1≤1000)∧-1≤x.2∧x.2≤1099511627777)(k:Nat):AmW (l.set k x):=by
 intro a ha;rcases dj ha with ha|rfl
 ·exact h a ha
 ·exact hx
abbrev NumW(x:Int):Prop:=-1≤x∧x≤1099511627777
def NumW.of{q:Int}(h : -1≤q∧q≤1048577):NumW q:=⟨h.1,ab⟩
end
end Go.Proofs.YtlgpgjdggilkgaaGreatDoor
namespace Go.V
section
section fv
variable {P:Program}{N:Nat}{env:Env}{L:LH}{K:Post}{ty:TypeId}
end fv
end
section
section
variable {P:Program}{env:Env}{L:LH}{ty:TypeId}
def Ef.l6{t:TypeId}{x:Operand}{α:Type}{enc:α→LV}{ad:OA}{n c i sz E bb cap:Nat}{xs:List α}{z:LV}{R1:LH}[ht:TySl P t E sz bb z][hp:PickOsl L ad α enc sz E cap xs R1]
  (hx:evE env x=some (.slice (advA ad cap sz i) n c)) (hi:i+n=xs.length) (h1:∀u∈z,u.oneCell' = true)
  : Ef P L env (.call { callee:=.builtin .clear,args:=#[x],argTypes:=#[t] }) ty (fun v L'=>v=.tuple #[]∧L' = osl enc sz E ad cap (xs.take i)::R1) :=
 Ef.val (fun θ R a w ea s b5 pos af g=>by
  have s1:=s.perm (hp.perm.append_right R);obtain⟨ii,z0,i1,i2,i3,i4,i5⟩:=ht.parts;have a2:Sat θ (osl enc sz E ad cap (xs.take i)::R1++R) w:=Ent.m8 i θ R w s1;by_cases hn:n=0
  ·subst hn;refine⟨.tuple #[],w,_,?_,⟨rfl,rfl⟩,a2⟩;cases hd:advA ad cap sz i with
   | none=>rw[hd] at hx;simp[execOp,resolve,invoke,builtin,aL ea hx,Builtin.clear_,run_underlying ht.under]
   | some d=>rw[hd] at hx;simp[execOp,resolve,invoke,builtin,aL ea hx,Builtin.clear_,run_underlying ht.under]
  obtain⟨p1,p2,p3,p4⟩:=Sat.osl_parts s1;rcases p4 with⟨rfl,rfl⟩|⟨gb,a0,rfl,f1,f2,f3⟩
  ·omega
  have hb:w.heap[gb]? = some (.cells a0 E (0,0)):=f3.own_heap;have b1:=bj sz p2
  have b0:advA (some ⟨gb,0,none⟩) cap sz i=some ⟨gb,i*sz,none⟩:=by
   unfold advA;rw[if_neg ab];simp[fZ]
  rw[b0] at hx;have a9:z0.cells.size=sz:=by rw[←ht.zlen,←i3];simp
  obtain⟨vs,a4⟩:∃vs,vs=(Builtin.zeroCells z0.cells n).toList:=⟨_,rfl⟩;have b4:vs.length=n*sz:=by rw[a4,ep,size_zeroCells,a9]
  have b3:∀u∈vs,u.oneCell' = true:=by
   intro u hu;rw[a4] at hu;simp only[Builtin.zeroCells,Array.toList_map,List.mem_map,Array.toList_range,List.mem_range] at hu;obtain⟨k,hk,rfl⟩:=hu;have a3:0<z0.cells.size:=by rw[a9];exact ht.pos
   have a5:k % z0.cells.size<z0.cells.size:=dU _ a3;refine h1 _ ?_;rw[←i3,getElem!_pos z0.cells _ a5];exact Array.mem_toList_iff.2 (Array.getElem_mem a5)
  have b2:i*sz+n*sz=xs.length*sz:=by rw[←dc,hi]
  have a6:=run_storeCells_at P gb (i*sz) E vs 0 a0 w hb (by rw[b4];omega) b3;simp only[eA] at a6;refine⟨.tuple #[],w.setRow gb (a0.toList.take (i*sz)++vs++a0.toList.drop (i*sz+vs.length)).toArray,_,?_,⟨rfl,rfl⟩,?_⟩
  ·obtain⟨m,rfl⟩:∃m,n=m+1:=⟨n - 1,ab⟩;simp[execOp,resolve,invoke,builtin,aL ea hx,Builtin.clear_,run_underlying ht.under,zeroValue,typeInfo,i1,i2,←a4,a6]
  ·have s3:Sat θ (own gb (.cells (a0.toList.take (i*sz)++vs++a0.toList.drop (i*sz+vs.length)).toArray E (0,0))::(R1++R)) (w.setRow gb (a0.toList.take (i*sz)++vs++a0.toList.drop (i*sz+vs.length)).toArray) :=
    Sat.update f3 ⟨s.1.tape,s.1.os,s.1.output,s.1.drawn⟩ (setRow_heap w gb _ _ E _ hb) (fun k x hk hx=>by rw[setRow_other w gb k _ hk];exact hx)
   have a7:(xs.take i).length=i:=by rw[aK];omega
   refine Sat.osl_mk (L:=R1++R) s3 (fun x hx=>p1 x (bF hx)) ab p3 ?_ ?_
   ·simp;omega
   ·have a1:=dm (xs:=xs.take i) (fun x hx=>p1 x (bF hx));have b6:(a0.toList.take (i*sz)).length=i*sz:=by simp;omega
    have h5:(a0.toList.take (xs.length*sz)).take (i*sz)=a0.toList.take (i*sz):=by rw[List.take_take,dp ab]
    have h6:xs.flatMap enc=(xs.take i).flatMap enc++(xs.drop i).flatMap enc:=by rw[←cl,cK]
    rw[a7,aB];simp only;rw[List.take_append_of_le_length ab,aD ab,←h5,f2,h6];rw[a7] at a1;rw[←a1];exact List.take_left)
end
end
end Go.V
namespace Go.Proofs.YtlgpgjdggilkgaaGreatDoor
section
open Go.V
attribute [local irreducible] G GO GP GPW GPK GF GE Ev Ef EfR Ent CB GB V.Enters
end
section
open Go.V
structure LwI (c:CatM) (k m:Nat) (S:LedM):Prop where
 rep:LRep 0 c S
 a:LedA k S
 st:stK S.steps≤k
 lt:∀a i,stL a i S.steps≤m
 len:S.steps.length≤m
 now:0≤S.now
 cat:S.cat=c
 pt:∀s∈S.steps,∀x∈s.moves,x.parts=[]
 inp:∀s∈S.steps,I64 s.rule∧s.moves.length≤64
def va(a i:Int):∀x y:List StM,stL a i (x++y)=stL a i x+stL a i y
 | [],y=>by show stL a i y=0+stL a i y;omega
 | s::x,y=>by
  have:=va a i x y
  show fU a i s.moves+stL a i (x++y)=fU a i s.moves+stL a i x+stL a i y;omega
def LwI.zero(c:CatM):LwI c 0 0 (led0 0 c) :=
 ⟨.zero,Fl ⟨by decide,by decide⟩ c,aq _,fun _ _=>aq _,aq _,bq _,rfl,fun s hs=>absurd hs (by simp[led0]),fun s hs=>absurd hs (by simp[led0])⟩
def LwI.post{c:CatM}{k m:Nat}{S:LedM}(h:LwI c k m S)(s:StM)(hk:k+mvK s.moves≤2000)(hl:∀a i,fU a i s.moves≤1)(hp:∀x∈s.moves,x.parts=[])(hr:I64 s.rule∧s.moves.length≤64):LwI c (k+mvK s.moves) (m+1) (ce S s):=by
 have hA:=(BN (s:=s) h.a hk).1;have h1:=h.st;have h2:=h.len;by_cases q:(gTry S s).1=0
 ·have e:ce S s=fV S s:=if_pos q;have es:(ce S s).steps=S.steps++[s.at (cV S)]:=by rw[e];rfl
  refine⟨.post h.rep q,hA,?_,fun a i=>?_,?_,?_,(vx _ _).trans h.cat,?_,?_⟩
  ·rw[es,tg];show stK S.steps+(mvK s.moves+0)≤_;omega
  ·rw[es,va];have:=h.lt a i
   have:=hl a i
   show stL a i S.steps+(fU a i s.moves+0)≤_;omega
  ·rw[es,aj];show S.steps.length+1≤_;omega
  ·rw[e];exact vu (jg q) h.now
  ·rw[es];intro u hu;rcases List.mem_append.1 hu with hu|hu
   ·exact h.pt u hu
   ·rw[List.mem_singleton.1 hu];exact hp
  ·rw[es];intro u hu;rcases List.mem_append.1 hu with hu|hu
   ·exact h.inp u hu
   ·rw[List.mem_singleton.1 hu];exact hr
 ·have e:ce S s=S:=if_neg q;rw[e] at hA ⊢;exact⟨h.rep,hA,ab,fun a i=>Nat.le_succ_of_le (h.lt a i),ab,h.now,h.cat,h.pt,h.inp⟩
def IY(f:FlV)(L:LH):Ent (flO f::L) (flP f::L):=Ent.unstars2.trans (Ent.freezeSl.trans (Ent.swap.trans (Ent.freezeSl.trans (Ent.swap.trans (Ent.f8 (bO _ _ _ _) (bO _ _ _ _))))))
def Ho(fs:List FlV){L:LH}:Ent (bigO flO fs::L) (allP flP fs::L):=Ent.l5 tP IY fs L
attribute [local irreducible] G GO GP GPW GPK Ev Ef EfR Ent CB GB V.Enters
def spV(b:Nat)(t x n:Int):StV:=⟨0,0,0,t,-1,0,[⟨⟨0,1,x,n,[]⟩,none,0⟩],some ⟨b,0,none⟩,1⟩
def LwI.sp{c:CatM}{k m:Nat}{S:LedM}(h:LwI c k m S)(hk:k+1≤2000)(b:Nat)(t x n:Int):LwI c (k+1) (m+1) (ce S (spV b t x n).m):=by
 have hl:∀a i,fU a i (spV b t x n).m.moves≤1:=fun a i=>by
  show((if(1:Int)=a∧x=i then 1 else 0)+(if(0:Int)=a∧x=i then 0 else 0))+0≤1;split<;>split<;>omega
 exact h.post (spV b t x n).m hk hl (fun u hu=>by rw[List.mem_singleton.1 hu]) ⟨by show I64 (-1);unfold I64;decide,by show 1≤64;decide⟩
end
section
open Go.V
abbrev tNd:Nat:=147
structure LdI (sh:Int) (c:CatM) (k:Nat) (S:LedM):Prop where
 rep:LRep sh c S
 a:LedA k S
 now:0≤S.now
 cat:S.cat=c
 ok:c.Ok
 sh:S.shard=sh
def FC(S:LedM)(s:StM):(ce S s).shard=S.shard:=by
 unfold ce;split
 ·rfl
 ·rfl
def LdI.post{sh:Int}{c:CatM}{k:Nat}{S:LedM}(h:LdI sh c k S)(s:StM)(hk:k+mvK s.moves≤2000):LdI sh c (k+mvK s.moves) (ce S s):=by
 have hA:=(BN (s:=s) h.a hk).1;by_cases q:(gTry S s).1=0
 ·have e:ce S s=fV S s:=if_pos q;exact⟨.post h.rep q,hA,by rw[e];exact vu (jg q) h.now,(vx _ _).trans h.cat,h.ok,(FC _ _).trans h.sh⟩
 ·have e:ce S s=S:=if_neg q;rw[e] at hA ⊢;exact⟨h.rep,hA,h.now,h.cat,h.ok,h.sh⟩
def ndC(lb:Nat)(sh shs cnt hl:Int)(mb mp mr:Nat):LV:=[ax lb,ac sh,ac shs,ac cnt,ac hl,.map (some mb),.map (some mp),.map (some mr)]
def estp(kind tick:Int)(ms:List MvV)(mad:OA)(mcap:Nat):StV:=⟨0,kind,0,tick,-1,0,ms,mad,mcap⟩
noncomputable def kV(S:LedM)(s:StM):List Int:=((ce S s).flows.drop S.flows.length).map (·.id)
attribute [local irreducible] G GO GP GPW GPK GF GE Ev Ef EfR Ent CB GB V.Enters
abbrev Aq:=XA [.ev 4,.ef 5,.ev 6,.ev 7,.ev 8,.ev 9,.ev 10]
def RS{φ ψ:Prop}(k:ψ)(h:Hid ψ→φ:=by intro k;(repeat (first|refine aa ?_|intro zzz|refine G.dr 55 3 Aq ?_));(repeat revert zzz);exact Hid.out k):φ:=h ⟨k⟩
def tB{L:LH}(nb lb:Nat)(sh shs cnt hl:Int)(mb mp mr:Nat)(c:CatM)(k:Nat)(S:LedM)(hS:LdI sh c k S)(kind tick:Int)(ms:List MvV)(mad:OA)(mcap:Nat)(hs:StInG (estp kind tick ms mad mcap))(a4:ms.length≤mcap)(hk:k+mvK (ms.map MvV.m)≤2000) :
  Tri Tryz.prog 146 #[ax nb,ac kind,ac tick,ag mad ms.length mcap] (obj nb tNd (ndC lb sh shs cnt hl mb mp mr)::aS lb S::stM (estp kind tick ms mad mcap)::stP (estp kind tick ms mad mcap)::L) (fun v L' =>
   ((gTry S (estp kind tick ms mad mcap).m).1=0∧∃fad fcap,v=.tuple #[ag fad (kV S (estp kind tick ms mad mcap).m).length fcap,.bool true]∧L' = osl (encZ .i64) 1 tInt fad fcap (kV S (estp kind tick ms mad mcap).m)::obj nb tNd (ndC lb sh shs cnt hl mb mp mr)::aS lb (ce S (estp kind tick ms mad mcap).m)::stM (estp kind tick ms mad mcap)::stP (estp kind tick ms mad mcap)::L) ∨
   ((gTry S (estp kind tick ms mad mcap).m).1≠0∧v=.tuple #[ag none 0 0,.bool false]∧L' = obj nb tNd (ndC lb sh shs cnt hl mb mp mr)::aS lb S::stM (estp kind tick ms mad mcap)::stP (estp kind tick ms mad mcap)::L)):=by
 have b3:S.cat.Ok:=by rw[hS.cat];exact hS.ok
 have c5:=hS.a.g.flows;have d0:=hS.a.g.steps;have a0:=fun M:LH=>kO (L:=M) lb S k hS.a b3 hS.now (estp kind tick ms mad mcap) hs a4 hk sY;have a7:=hS.post (estp kind tick ms mad mcap).m hk;have c3:=rE S (estp kind tick ms mad mcap).m;have a5:=fun h:(gTry S (estp kind tick ms mad mcap).m).1=0=>(sw (s:=(estp kind tick ms mad mcap).m) hS.a hk h).2;have c1:(gTry S (estp kind tick ms mad mcap).m).1≠0→ce S (estp kind tick ms mad mcap).m=S:=fun h=>if_neg h
 have a1:(gTry S (estp kind tick ms mad mcap).m).1=0→(ce S (estp kind tick ms mad mcap).m).flows=S.flows++(gTry S (estp kind tick ms mad mcap).m).2.flows:=fun h=>by
  rw[show ce S (estp kind tick ms mad mcap).m=fV S (estp kind tick ms mad mcap).m from if_pos h];rfl
 refine Tri.bd ?_;simp only[ndC];refine RS ?_;intros;generalize hse:estp kind tick ms mad mcap=s at *;have b1:dQ s=[ac 0,ac kind,ac 0,ac tick,ac (-1),ac 0,ag mad ms.length mcap]:=by rw[←hse];rfl
 refine GO.ent (L':=aS lb S::(obj nb tNd [ax lb,ac sh,ac shs,ac cnt,ac hl,.map (some mb),.map (some mp),.map (some mr)]::stM s::stP s::L)) ah ?_;refine GO.cr (uG lb S) ?_;by_cases he:(gTry S s.m).1=0
 case neg =>
  have a6:=c1 he;obtain⟨w,hw⟩:∃w,(gTry S s.m).1=w:=⟨_,rfl⟩;rw[a6,hw] at a0;rw[b1] at a0;have d1:w≠0:=by rw[←hw];exact he
  refine RS ?_;intros;rename_i a2;refine GPW.ent (L':=aS lb S::stM s::stP s::(obj a2 ik [ac 0,ac kind,ac 0,ac tick,ac (-1),ac 0,ag mad ms.length mcap]::obj nb tNd [ax lb,ac sh,ac shs,ac cnt,ac hl,.map (some mb),.map (some mp),.map (some mr)]::L)) ah ?_;refine GPW.cr (a0 _) ?_;refine RS ?_;intros;exact KX.en (.inr ⟨he,rfl,rfl⟩)
 rw[he,b1] at a0;have b7:(ce S s.m).flows.drop S.flows.length=(gTry S s.m).2.flows:=by rw[a1 he,List.drop_left]
 obtain⟨c2,b9⟩:=a5 he;have c0:s.m.moves.length≤64:=c2.2.2.2.1.2;have b5:(ce S s.m).flows.length=S.flows.length+s.m.moves.length:=by rw[a1 he,aj,b9]
 have b4:∀f∈(ce S s.m).flows.drop S.flows.length,f.parts.length≤1000000∧f.made.length≤1000000:=fun f hf=>by
  have h1:=cG hf;have h2:=(a7.a.g.fl f h1).2;have h3:=a7.rep.made f h1;omega
 refine RS ?_;intros;rename_i a2;refine GPW.ent (L':=aS lb S::stM s::stP s::(obj a2 ik [ac 0,ac kind,ac 0,ac tick,ac (-1),ac 0,ag mad ms.length mcap]::obj nb tNd [ax lb,ac sh,ac shs,ac cnt,ac hl,.map (some mb),.map (some mp),.map (some mr)]::L)) ah ?_;refine GPW.cr (a0 _) ?_;refine RS ?_;intros;refine GO.ent (L':=aS lb (ce S s.m)::(stM s::stP s::obj nb tNd [ax lb,ac sh,ac shs,ac cnt,ac hl,.map (some mb),.map (some mp),.map (some mr)]::L)) ah ?_;refine GO.ca (uF lb (ce S s.m) S.flows.length ab b4 ab) ?_;rintro _ _⟨fad,fcap,fs,rfl,a9,rfl⟩
 have b6:fs.length=s.m.moves.length:=by
  have:=congrArg List.length a9
  rw[an,bY] at this;omega
 refine RS ?_;intros;refine G.loop (α:=Nat×OA×Nat) (fun g=>g.1≤fs.length) (fun g=>[(14,ag g.2.1 ((fs.take g.1).map (·.m.id)).length g.2.2),(42,ag fad fs.length fcap),(43,ac (fs.length:Int)),(44,ac (g.1:Int))]) (fun g=>osl (encZ .i64) 1 tInt g.2.1 g.2.2 ((fs.take g.1).map (·.m.id))::osl dT 11 fQ fad fcap fs::aS lb (ce S s.m)::stM s::stP s::obj nb tNd [ax lb,ac sh,ac shs,ac cnt,ac hl,.map (some mb),.map (some mp),.map (some mr)]::L) (fun g=>fs.length - g.1) (0,none,0) (aw _) aC ?_ ?_
 ·dsimp only;rw[aR,bG];refine(Ent.c8 (encZ .i64) 1 tInt).trans ?_;exact ah
 rintro⟨i,iad,icap⟩ hi;dsimp only at hi ⊢;have c6:((fs.take i).map (·.m.id)).length=i:=by rw[an,aK];omega
 by_cases b0:i<fs.length
 case neg =>
  have hN:(fs.take i).map (·.m.id)=kV S s.m:=by
   unfold kV;rw[←a9,cX,aD ab];rfl
  rw[hN];refine RS ?_;intros;exact KX.en (.inl ⟨he,iad,icap,rfl,rfl⟩)
 have b8:(i:Int).toNat=i:=ab
 have c4:(fs.take (i+1)).map (·.m.id)=(fs.take i).map (·.m.id)++[fs[i]!.m.id]:=by
  rw[az b0,aJ,getElem!_of b0];rfl
 refine RS ?_;intros;rw[b8];refine GO.ef (Ef.a8 (enc:=encZ .i64) (e:=fs[i]!.m.id) rfl rfl rfl rfl rfl aQ (iu _ _) ab ab) ae ?_;rintro _ _⟨b2,a3,rfl,rfl⟩;rw[←c4];refine RS ?_;intros;refine⟨(i+1,b2,a3),by dsimp only;omega,by dsimp only;omega,?_,by exact ah⟩;dsimp only;rw[bh i];exact aC
