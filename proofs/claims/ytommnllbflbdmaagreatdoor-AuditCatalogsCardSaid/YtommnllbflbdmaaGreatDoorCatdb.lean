/- Contracts: the generator of catalogs: items and rules of a catalog. -/
import Derived.Test.YtommnllbflbdmaaGreatDoorCatda
set_option linter.all false
set_option maxHeartbeats 16000000
namespace Go.Proofs.YtommnllbflbdmaaGreatDoor
open Go.V
attribute [local irreducible] G GO GP GPW GPK GF GE Ev Ef EfR Ent CB GB V.Enters
abbrev poolI:List ByteArray:=[⟨#[103,111,108,100]⟩,⟨#[105,114,111,110]⟩,⟨#[111,114,101]⟩,⟨#[99,111,97,108]⟩,⟨#[115,119,111,114,100]⟩,⟨#[119,97,116,101,114]⟩,⟨#[103,101,109]⟩,⟨#[97,120,101]⟩]
abbrev mN:ByteArray:=⟨#[115,116,111,110,101]⟩
abbrev poolR:List ByteArray:=[⟨#[115,109,101,108,116]⟩,⟨#[102,111,114,103,101]⟩,⟨#[109,101,108,116]⟩,⟨#[98,114,101,119]⟩,⟨#[103,114,105,110,100]⟩]
abbrev poolS:List ByteArray:=[⟨#[114,97,105,110]⟩,⟨#[109,105,110,101]⟩,⟨#[100,105,103]⟩]
def BK:∀s∈mN::poolI,IsWord s:=by
 intro s hs;simp only[bh,aH,or_false] at hs;rcases hs with rfl|rfl|rfl|rfl|rfl|rfl|rfl|rfl|rfl<;>exact fJ (by decide +kernel)
def BJ:∀s∈poolR++poolS,IsWord s:=by
 intro s hs;simp only[ak,aj,bh,aH,or_false] at hs;rcases hs with rfl|rfl|rfl|rfl|rfl|rfl|rfl|rfl<;>exact fJ (by decide +kernel)
def qO:(mN::poolI).Nodup:=by decide
def yB:(poolR++poolS).Nodup:=by decide
structure RuW (n:Nat) (r:RuM):Prop where
 len:r.take.length≤3∧r.give.length≤3∧r.back.length≤3
 take:fS n r.take
 give:fS n r.give
 back:fS n r.back
 form:(r.back.length=0∨r.chance≠r.of_)∧(if r.spawn=true then r.take.length=0∧r.back.length=0∧r.level=0∧r.time=0∧r.chance=r.of_ else 0<r.take.length∨r.time≠0)
 cont:∀a∈r.back,ey r.back a.1≤ey r.take a.1
 num:(0≤r.level∧r.level≤100)∧(0≤r.time∧r.time≤1000000)∧(1≤r.of_∧r.of_≤1000000)∧1≤r.chance∧r.chance≤r.of_
def RuW.good{n:Nat}{r:RuM}(h:RuW n r)(hw:IsWord r.name):RuGood n r :=
 ⟨hw,by have:=h.len;omega,h.take,h.give,h.back,h.form,h.cont,h.num⟩
def RuG9.w{n:Nat}{r:RuM}(h:RuG9 n r):RuW n r :=
 ⟨⟨h.take.len,by have:=h.give.len;omega,h.back.2⟩,h.take.srt,h.give.srt,h.back.1,⟨h.form.1,by rw[h.sp];simpa using h.form.2⟩,h.cont,by have:=h.num;omega⟩
def RuW.spawn{n:Nat}{nm:ByteArray}{l:List (Int×Int)}(h:AmG n 3 l):RuW n ⟨nm,true,0,0,1,1,[],l,[]⟩ :=
 ⟨⟨az _,h.len,az _⟩,⟨(fun _ h=>absurd h aH),List.Pairwise.nil⟩,h.srt,⟨(fun _ h=>absurd h aH),List.Pairwise.nil⟩,by simp,(fun _ h=>absurd h aH),by dsimp only;decide⟩
abbrev ke:List ByteArray:=[⟨#[]⟩,⟨#[99,104,101,115,116]⟩,⟨#[104,101,114,98]⟩]
abbrev poolX:List ByteArray:=[⟨#[]⟩,⟨#[115,97,108,101]⟩,⟨#[115,116,97,108,108]⟩]
def sA{k:Nat}(h:1≤k∧k≤2):IsWord ke[k]!∧IsWord poolX[k]!:=by
 have:k=1∨k=2:=ab;rcases this with rfl|rfl
 ·exact⟨fJ (s:=⟨#[99,104,101,115,116]⟩) (by decide +kernel),fJ (s:=⟨#[115,97,108,101]⟩) (by decide +kernel)⟩
 ·exact⟨fJ (s:=⟨#[104,101,114,98]⟩) (by decide +kernel),fJ (s:=⟨#[115,116,97,108,108]⟩) (by decide +kernel)⟩
def wq{k j:Nat}(h:k≤2)(hj:j<k):ke[k]!≠ke[j]!∧poolX[k]!≠poolX[j]!:=by
 have h2:(k=1∧j=0)∨(k=2∧j=0)∨(k=2∧j=1):=ab;rcases h2 with⟨rfl,rfl⟩|⟨rfl,rfl⟩|⟨rfl,rfl⟩<;>decide
abbrev tTb9:Nat:=153
abbrev tRw9:Nat:=155
structure TbsG (N i:Nat) (l:List TbV):Prop where
 len:l.length+i≤2
 nm:∀t∈l,∃k,i<k∧k≤2∧t.name=ke[k]!
 nd:(l.map (·.name)).Nodup
 ok:∀t∈l,(0<t.rows.length∧t.rows.length≤3)∧∀r∈t.rows,RwGood N r.m∧r.give.l.length≤2
def TbsG.add{N i:Nat}{l:List TbV}(h:TbsG N (i+1) l)(rows:List RwV)(ad:OA)(c:Nat)(hr:(0<rows.length∧rows.length≤3)∧∀r∈rows,RwGood N r.m∧r.give.l.length≤2):TbsG N i (l++[⟨ke[i+1]!,rows,ad,c⟩]):=by
 have hl:=h.len;refine⟨by rw[ax,aG];omega,fun t ht=>?_,?_,fun t ht=>?_⟩
 ·rcases List.mem_append.1 ht with ht|ht
  ·obtain⟨k,h1,h2⟩:=h.nm t ht;exact⟨k,ab,h2⟩
  ·rw[List.mem_singleton.1 ht];exact⟨i+1,ab,ab,rfl⟩
 ·rw[aR];refine List.pairwise_append.2 ⟨h.nd,bq _ _,fun a ha b hb=>?_⟩;obtain⟨t,ht,rfl⟩:=List.mem_map.1 ha;rw[List.mem_singleton.1 hb];obtain⟨k,h1,h2,h3⟩:=h.nm t ht;rw[h3];exact(wq h2 h1).1
 ·rcases List.mem_append.1 ht with ht|ht
  ·exact h.ok t ht
  ·rw[List.mem_singleton.1 ht];exact hr
abbrev tTx9:Nat:=160
abbrev tBr9:Nat:=157
structure BrG (l:List (Int×Int)):Prop where
 len:1≤l.length∧l.length≤3
 first:l[0]!.1=0
 srt:∀i,i+1<l.length→l[i]!.1<l[i+1]!.1
 num:∀b∈l,(0≤b.1∧b.1≤600*l.length)∧0≤b.2∧b.2≤10000
def BrG.one{p:Int}(h:0≤p∧p<2000):BrG [(0,p)]:=⟨by simp,rfl,fun i hi=>absurd hi bH,fun b hb=>by
 rw[List.mem_singleton.1 hb];simp only[aG];omega⟩
def BrG.add{l:List (Int×Int)}(h:BrG l)(hl:l.length≤2){f q:Int}(hf:l[l.length - 1]!.1<f∧f≤l[l.length - 1]!.1+501)(hq:0≤q∧q≤10000):BrG (l++[(f,q)]):=by
 obtain⟨h1,h2⟩:=h.len;have a0:(l++[(f,q)]).length=l.length+1:=by simp
 obtain⟨⟨q1,q2⟩,_⟩:=h.num _ (aL (ab:l.length - 1<l.length));refine⟨ab,?_,fun i hi=>?_,fun b hb=>?_⟩
 ·rw[getElem!_of ab,dR ab,←getElem!_of ab];exact h.first
 ·rw[getElem!_of ab,getElem!_of hi,dR ab];by_cases hj:i+1<l.length
  ·rw[dR hj,←getElem!_of ab,←getElem!_of hj];exact h.srt i hj
  ·obtain rfl:i=l.length - 1:=ab;rw[fh ab,←getElem!_of ab];simpa using hf.1
 ·rw[a0];rcases List.mem_append.1 hb with hb|hb
  ·have:=h.num b hb
   omega
  ·rw[List.mem_singleton.1 hb];dsimp only;omega
structure TxsG (i:Nat) (l:List TxV):Prop where
 len:l.length+i≤2
 nm:∀t∈l,∃k,i<k∧k≤2∧t.name=poolX[k]!
 nd:(l.map (·.name)).Nodup
 ok:∀t∈l,BrG t.brs
def TxsG.add{i:Nat}{l:List TxV}(h:TxsG (i+1) l)(brs:List (Int×Int))(ad:OA)(c:Nat)(hr:BrG brs):TxsG i (l++[⟨poolX[i+1]!,brs,ad,c⟩]):=by
 have hl:=h.len;refine⟨by rw[ax,aG];omega,fun t ht=>?_,?_,fun t ht=>?_⟩
 ·rcases List.mem_append.1 ht with ht|ht
  ·obtain⟨k,h1,h2⟩:=h.nm t ht;exact⟨k,ab,h2⟩
  ·rw[List.mem_singleton.1 ht];exact⟨i+1,ab,ab,rfl⟩
 ·rw[aR];refine List.pairwise_append.2 ⟨h.nd,bq _ _,fun a ha b hb=>?_⟩;obtain⟨t,ht,rfl⟩:=List.mem_map.1 ha;rw[List.mem_singleton.1 hb];obtain⟨k,h1,h2,h3⟩:=h.nm t ht;rw[h3];exact(wq h2 h1).2
 ·rcases List.mem_append.1 ht with ht|ht
  ·exact h.ok t ht
  ·rw[List.mem_singleton.1 ht];exact hr
inductive TxC where
 | c0
 | c1 (p:Int)
 | c2 (p:Int) (b7:Nat)
def TxOk:TxC→Prop
 | .c0=>True
 | .c1 p=>0≤p∧p<2000
 | .c2 p _=>0≤p∧p<2000
structure TxI where
 a:Option Nat
 z:Option Nat
 s:TxC
 i:Int
 ok:TxOk s
abbrev txD(a z:Option Nat)(s:TxC):List Nat :=
 (match z with|some _=>[9]|none=>[])++(match a with|some _=>[3,2,0]|none=>[])++(match s with | .c0=>[] | .c1 _=>[6,5] | .c2 _ _=>[7,6,5])++(match a,s with|some _,.c2 _ _=>[8]|_,_=>[])++[1,4]
abbrev txPE(k:Nat)(a:Option Nat):List PE:=match a with
 | some b0=>[⟨3,Op.load 9 (Operand.tmp 136),9,[(136,.pointer (elP (some ⟨b0,0,none⟩) 1 (k:Int).toNat 0))],.string poolX[(k:Int).toNat]!⟩,⟨2,Op.indexAddr 144 (Operand.tmp 134) (Operand.tmp 135),0,[(134,.slice (some ⟨b0,0,none⟩) 3 3),(135,.int .i64 (k:Int))],.pointer (elP (some ⟨b0,0,none⟩) 1 (k:Int).toNat 0)⟩]
 | none=>[]
abbrev txE(E0:Env)(g k:Nat)(a z:Option Nat)(s:TxC):Env :=
 (match z with|some b17=>[(17,aq b17)]|none=>[])++(match a with|some b0=>[(134,ae (some ⟨b0,0,none⟩) 3 3),(137,.string poolX[(k:Int).toNat]!)]|none=>[]) ++
 (match s with | .c0=>[] | .c1 p=>[(140,.agg #[ac 0,ac p])] | .c2 p b7=>[(140,.agg #[ac 0,ac p]),(141,ae (some ⟨b7,0,none⟩) 1 1)]) ++
 (match a,s with|some _,.c2 _ b7=>[(142,.agg #[.string poolX[(k:Int).toNat]!,ae (some ⟨b7,0,none⟩) 1 1])]|_,_=>[])++(135,ac (k:Int))::(138,aq g)::E0
abbrev txL(g:Nat)(ad:OA)(n c:Nat)(L:LH)(a z:Option Nat)(s:TxC)(i:Int):LH :=
 gen9 g ad n c i::((match z with|some b17=>[obj b17 tTx9 [.string ⟨#[]⟩,ae none 0 0]]|none=>[])++(match a with|some b0=>[osl cx 1 tStr (some ⟨b0,0,none⟩) 3 poolX]|none=>[]) ++
 (match s with | .c2 p b7=>[osl aV 2 tBr9 (some ⟨b7,0,none⟩) 1 [(0,p)]]|_=>[])++L)
abbrev txR(x:TxI):Nat:=(match x.s with | .c0=>2 | .c1 _=>1 | .c2 _ _=>0)+(match x.a with|none=>1|some _=>0)+(match x.z with|none=>1|some _=>0)
def SpT(q:Nat)(l:List RuV):Prop:=∀k,q≤k→k<l.length→l[k]!.spawn=true
def SpT.snoc{q:Nat}{l:List RuV}(h:SpT q l){e:RuV}(he:e.spawn=true):SpT q (l++[e]):=by
 intro k hq hk;have hl:(l++[e]).length=l.length+1:=by simp
 by_cases hj:k<l.length
 ·rw[getElem!_of hk,dR hj,←getElem!_of hj];exact h k hq hj
 ·obtain rfl:k=l.length:=ab;rw[getElem!_of hk,fh (aI _)];simpa using he
abbrev cat9(b:Nat)(its:List ItG)(iad:OA)(ic:Nat)(rs:List RuV)(rad:OA)(rc:Nat)(tl:Nat)(tad:OA)(tc:Nat)(xl:Nat)(xad:OA)(xc:Nat):HP :=
 obj b tCat [ae iad its.length ic,ae rad rs.length rc,ae tad tl tc,ae xad xl xc]
structure Cat9 (c:CatV):Prop where
 it:c.items.length≤7
 ru:c.rules.length≤6∧∃q,q≤4∧SpT q c.rules
 rw:∀r∈c.rules,RuW c.items.length r.m
 tb:c.tables.length≤2∧∀t∈c.tables,t.rows.length≤3∧∀r∈t.rows,r.give.l.length≤2
 tx:c.taxes.length≤2∧∀t∈c.taxes,t.brs.length≤3
abbrev CC:=ar5 [.ef 8,.ef 9,.ef 10,.ev 11,.ef 12]
abbrev Ac:=ar5 [.ef 8,.ef 9,.ef 10,.ev 11,.ef 12]
abbrev Ab:=ar5 [.ef 8,.ev 9,.ef 10,.ef 11,.ev 12,.ef 13]
abbrev Aa:=ar3 [.ev 4,.ef 5,.ev 6,.ef 7,.ef 8,.ev 9,.ef 10]
abbrev zZ:=ar6 [.ev 10,.ef 11,.ev 12,.ev 13]
abbrev zY:=ar3 [.ef 4,.ev 5,.ef 6,.ef 7,.ev 8,.ef 9]
def aS{φ ψ:Prop}(k:ψ)(h:Hid ψ→φ:=by intro k;(with_reducible apply G.d7);first|refine G.dr 178 8 CC (Hid.out k)|refine G.dr 178 14 Ac (Hid.out k)|refine G.dr 178 19 Ab (Hid.out k)|refine G.dr 178 28 Aa (Hid.out k)|refine G.dr 178 37 zZ (Hid.out k)|refine G.dr 178 38 zY (Hid.out k)):φ:=h ⟨k⟩
def UT{φ ψ:Prop}(k:ψ)(h:Hid ψ→φ:=by intro k;(repeat (first|refine aa ?_|intro zzz|refine aS ?_));(repeat revert zzz);exact Hid.out k):φ:=h ⟨k⟩
def vl{L:LH}(ad:OA)(n c:Nat)(xs:List Int)[hrd:Rds L ad Int (encZ .i64) 1 xs](hn:n=xs.length)(hx:∀x∈xs,I64 x) :
  Tri ai 30 #[ae ad n c] L (fun v L'=>∃c:CatV,v=aN c.cells∧(CatGood c.m∧c.B∧Cat9 c)∧L' = catP c::L):=by
 subst hn;refine Tri.bd ?_;refine UT ?_;intros;rename_i b2 g b4 bl;refine GO.ent (L':=gen9 g ad xs.length c 0::isl cx 1 (some ⟨bl,0,none⟩) poolI::cat9 b4 [] none 0 [] none 0 0 none 0 0 none 0::obj b2 tCat [ae none 0 0,ae none 0 0,ae none 0 0,ae none 0 0]::L) ((Ent.l5 (b:=bl) (enc:=cx) (sz:=1) poolI rfl (fun _ _=>rfl) ag).trans ah) ?_;refine GO.ca (nZ g ad xs.length c 0 xs rfl hx (some ⟨bl,0,none⟩) 8 8 poolI rfl ag 6 ag) ?_;rintro _ _⟨t,m,o5,nc,i1,rfl,⟨f2,m4,n0⟩,rfl⟩;have j3:=lD poolI t m;refine UT ?_;intros;refine GO.ef (Ef.d7 (enc:=cx) (e:=mN) rfl rfl rfl rfl rfl aJ (kl _) ab ab) ag ?_;rintro _ _⟨b8,f6,rfl,rfl⟩
 have j5:∀s∈rotP poolI t m++[mN],IsWord s:=fun s hs=>BK s (by
  rcases List.mem_append.1 hs with h|h
  ·exact aw _ (om f2 ag s h)
  ·rw[List.mem_singleton.1 h];exact au)
 have j2:(rotP poolI t m++[mN]).Nodup:=List.pairwise_append.2 ⟨oh f2 (List.pairwise_cons.1 qO).2 (by have:poolI.length=8:=rfl;omega),bq _ _,fun a ha b hb=>by
  rw[List.mem_singleton.1 hb];exact((List.pairwise_cons.1 qO).1 a (om f2 ag a ha)).symm⟩
 have j4:(rotP poolI t m++[mN]).length=m+1:=by rw[ax,j3];rfl
 generalize rotP poolI t m++[mN]=nms at *;repeat first|refine G.sm 5 ?_|refine bF ?_|intro _|refine aS ?_
 refine G.d8 (α:=List ItG×OA×Nat×Int) (fun z=>z.1.map (·.name)=nms∧∀x∈z.1,ItG9 x)
  (fun _=>[(0,ae ad xs.length c),(2,aq b2),(3,aq g),(4,aq b4),(5,ae b8 nms.length f6)])
  (fun z=>gen9 g ad xs.length c z.2.2.2::cat9 b4 z.1 z.2.1 z.2.2.1 [] none 0 0 none 0 0 none 0::osl be 7 tIt9 z.2.1 z.2.2.1 z.1::obj b2 tCat [ae none 0 0,ae none 0 0,ae none 0 0,ae none 0 0]::L) ?_ ?_
 ·refine G.ent (Ent.d8 be 7 tIt9) ?_;refine UT ?_;intros
  refine G.loop (α:=Nat×List ItG×OA×Nat×Int) (fun z=>z.1≤nms.length∧z.2.1.map (·.name)=nms.take z.1∧∀x∈z.2.1,ItG9 x)
   (fun z=>[(0,ae ad xs.length c),(2,aq b2),(3,aq g),(4,aq b4),(5,ae b8 nms.length f6),(6,ac (z.1:Int))])
   (fun z=>gen9 g ad xs.length c z.2.2.2.2::cat9 b4 z.2.1 z.2.2.1 z.2.2.2.1 [] none 0 0 none 0 0 none 0::osl be 7 tIt9 z.2.2.1 z.2.2.2.1 z.2.1::osl cx 1 tStr b8 f6 nms::obj b2 tCat [ae none 0 0,ae none 0 0,ae none 0 0,ae none 0 0]::L) (fun z=>nms.length - z.1) (0,[],none,0,i1) ⟨az _,rfl,(fun _ h=>absurd h aH)⟩ an ah ?_
  rintro⟨j,a0,iad,ic,i2⟩ ⟨hj,a7,b5⟩;dsimp only at hj a7 b5 ⊢
  have h6:a0.length=j:=by
   have:=congrArg List.length a7
   rw[aA,bg] at this;omega
  by_cases a8:j<nms.length
  case neg =>
   obtain rfl:j=nms.length:=ab;refine UT ?_;intros;exact⟨(a0,iad,ic,i2),⟨by rw[a7,cd],b5⟩,an,by exact ah⟩
  have c7:(j:Int).toNat=j:=aD j;refine UT ?_;intros;refine GPW.ca (CR g ad xs.length c i2 xs rfl hx nms[(j:Int).toNat]! (j:Int) ab) ?_;rintro _ _⟨x,i3,rfl,⟨l1,k9⟩,rfl⟩;refine UT ?_;intros;refine GPW.ef (Ef.d7 (enc:=be) (e:=x) rfl rfl rfl rfl rfl aJ (kn _) ab ab) ag ?_;rintro _ _⟨f5,l3,rfl,rfl⟩;refine UT ?_;intros;refine⟨(j+1,a0++[x],f5,l3,i3),⟨by dsimp only;omega,?_,fun y hy=>?_⟩,by dsimp only;omega,an,by exact ah⟩
  ·rw[aR,a7,aC a8,bY,fk,l1,c7,getElem!_of a8]
  ·rcases List.mem_append.1 hy with h|h
   ·exact b5 y h
   ·rw[List.mem_singleton.1 h];exact k9
 rintro⟨a0,iad,ic,i2⟩ ⟨a7,b5⟩;dsimp only at a7 b5 ⊢;have h6:a0.length=nms.length:=by rw[←a7,aA]
 refine G.ent (L':=gen9 g ad xs.length c i2::cat9 b4 a0 iad ic [] none 0 0 none 0 0 none 0::obj b2 tCat [ae none 0 0,ae none 0 0,ae none 0 0,ae none 0 0]::isl be 7 iad a0::L) ((Ent.at (A:=osl be 7 tIt9 iad ic a0) Ent.freezeSl).trans ah) ?_;obtain⟨N,hN⟩:∃N,nms.length=N:=⟨_,rfl⟩;have m1:1≤N∧N≤7:=ab;refine UT ?_;intros;rename_i d6;rw[hN];refine GO.ent (L':=gen9 g ad xs.length c i2::isl cx 1 (some ⟨d6,0,none⟩) poolR::cat9 b4 a0 iad ic [] none 0 0 none 0 0 none 0::obj b2 tCat [ae none 0 0,ae none 0 0,ae none 0 0,ae none 0 0]::isl be 7 iad a0::L) ((Ent.l5 (b:=d6) (enc:=cx) (sz:=1) poolR rfl (fun _ _=>rfl) ag).trans ah) ?_;refine GO.ca (nZ g ad xs.length c i2 xs rfl hx (some ⟨d6,0,none⟩) 5 5 poolR rfl ag 4 ag) ?_;rintro _ _⟨t2,m2,d1,g6,i3,rfl,⟨c9,h8,h9⟩,rfl⟩;have n4:=lD poolR t2 m2;have b1:=om (t:=t2) (n:=m2) c9 (show 1≤poolR.length by decide);have f0:=oh (n:=m2) c9 (show poolR.Nodup by decide) (by have:poolR.length=5:=rfl;omega);generalize rotP poolR t2 m2=rn at *;repeat first|refine G.sm 11 ?_|refine bF ?_|intro _|refine aS ?_
 refine G.d8 (α:=List RuV×OA×Nat×Int) (fun z=>z.1.map (·.name)=rn∧∀r∈z.1,RuW N r.m) (fun _=>[(0,ae ad xs.length c),(2,aq b2),(3,aq g),(4,aq b4),(7,ac (N:Int))])
  (fun z=>gen9 g ad xs.length c z.2.2.2::cat9 b4 a0 iad ic z.1 z.2.1 z.2.2.1 0 none 0 0 none 0::osl bj 9 tRu9 z.2.1 z.2.2.1 z.1::allP ruP z.1::obj b2 tCat [ae none 0 0,ae none 0 0,ae none 0 0,ae none 0 0]::isl be 7 iad a0::L) ?_ ?_
 ·refine G.ent (Ent.d8 bj 9 tRu9) ?_;refine G.ent (Ent.e7 ruP) ?_;refine UT ?_;intros
  refine G.loop (α:=Nat×List RuV×OA×Nat×Int) (fun z=>z.1≤rn.length∧z.2.1.map (·.name)=rn.take z.1∧∀r∈z.2.1,RuW N r.m)
   (fun z=>[(0,ae ad xs.length c),(2,aq b2),(3,aq g),(4,aq b4),(7,ac (N:Int)),(8,ae d1 rn.length g6),(9,ac (z.1:Int))])
   (fun z=>gen9 g ad xs.length c z.2.2.2.2::cat9 b4 a0 iad ic z.2.1 z.2.2.1 z.2.2.2.1 0 none 0 0 none 0::osl bj 9 tRu9 z.2.2.1 z.2.2.2.1 z.2.1::allP ruP z.2.1::osl cx 1 tStr d1 g6 rn::obj b2 tCat [ae none 0 0,ae none 0 0,ae none 0 0,ae none 0 0]::isl be 7 iad a0::L) (fun z=>rn.length - z.1) (0,[],none,0,i3) ⟨az _,rfl,(fun _ h=>absurd h aH)⟩ an ah ?_
  rintro⟨j,rs,rad,rc,i4⟩ ⟨hj,a3,a4⟩;dsimp only at hj a3 a4 ⊢
  have k5:rs.length=j:=by
   have:=congrArg List.length a3
   rw[aA,bg] at this;omega
  by_cases a8:j<rn.length
  case neg =>
   obtain rfl:j=rn.length:=ab;refine UT ?_;intros;exact⟨(rs,rad,rc,i4),⟨by rw[a3,cd],a4⟩,an,by exact ah⟩
  have c7:(j:Int).toNat=j:=aD j;refine UT ?_;intros;refine GPW.ca (BE g ad xs.length c i4 xs rfl hx rn[(j:Int).toNat]! N ab) ?_;rintro _ _⟨r,i5,rfl,⟨e6,e5⟩,rfl⟩;refine UT ?_;intros;refine GPW.ef (Ef.d7 (enc:=bj) (e:=r) rfl rfl rfl rfl rfl aJ (jS _) ab ab) ag ?_;rintro _ _⟨b9,f7,rfl,rfl⟩;refine UT ?_;intros;refine⟨(j+1,rs++[r],b9,f7,i5),⟨by dsimp only;omega,?_,fun y hy=>?_⟩,by dsimp only;omega,an,?_⟩
  ·rw[aR,a3,aC a8,bY,fk,e6,c7,getElem!_of a8]
  ·rcases List.mem_append.1 hy with h|h
   ·exact a4 y h
   ·rw[List.mem_singleton.1 h];exact e5.w
  ·refine(Ent.at (A:=osl aV 2 tAm9 r.back.ad r.back.cap r.back.l) Ent.freezeSl).trans ?_;refine(Ent.at (A:=osl aV 2 tAm9 r.give.ad r.give.cap r.give.l) Ent.freezeSl).trans ?_;refine(Ent.at (A:=osl aV 2 tAm9 r.take.ad r.take.cap r.take.l) Ent.freezeSl).trans ?_;refine(iB (r:=r)).trans ?_;refine((Ent.at (A:=allP ruP rs) Ent.swap).trans (ix jp)).trans ?_;exact ah
 rintro⟨rs,rad,rc,i4⟩ ⟨a3,a4⟩;dsimp only at a3 a4 ⊢;have b6:rs.length=rn.length:=by rw[←a3,aA]
 refine UT ?_;intros;rename_i e0;refine GO.ent (L':=gen9 g ad xs.length c i4::isl cx 1 (some ⟨e0,0,none⟩) poolS::cat9 b4 a0 iad ic rs rad rc 0 none 0 0 none 0::osl bj 9 tRu9 rad rc rs::allP ruP rs::obj b2 tCat [ae none 0 0,ae none 0 0,ae none 0 0,ae none 0 0]::isl be 7 iad a0::L) ((Ent.l5 (b:=e0) (enc:=cx) (sz:=1) poolS rfl (fun _ _=>rfl) ag).trans ah) ?_;refine GO.ca (nZ g ad xs.length c i4 xs rfl hx (some ⟨e0,0,none⟩) 3 3 poolS rfl ag 2 ag) ?_;rintro _ _⟨t3,m3,sad,sc,i5,rfl,⟨d0,i0,j1⟩,rfl⟩;have k6:=lD poolS t3 m3;have b3:=om (t:=t3) (n:=m3) d0 (show 1≤poolS.length by decide);have f1:=oh (n:=m3) d0 (show poolS.Nodup by decide) (by have:poolS.length=3:=rfl;omega);generalize rotP poolS t3 m3=sn at *;repeat first|refine G.sm 16 ?_|refine bF ?_|intro _|refine aS ?_
 refine G.d8 (α:=List RuV×OA×Nat×Int) (fun z=>z.1.map (·.name)=rn++sn∧(∀r∈z.1,RuW N r.m)∧SpT rn.length z.1) (fun _=>[(0,ae ad xs.length c),(2,aq b2),(3,aq g),(4,aq b4),(7,ac (N:Int))])
  (fun z=>gen9 g ad xs.length c z.2.2.2::cat9 b4 a0 iad ic z.1 z.2.1 z.2.2.1 0 none 0 0 none 0::osl bj 9 tRu9 z.2.1 z.2.2.1 z.1::allP ruP z.1::obj b2 tCat [ae none 0 0,ae none 0 0,ae none 0 0,ae none 0 0]::isl be 7 iad a0::L) ?_ ?_
 ·refine UT ?_;intros
  refine G.loop (α:=Nat×List RuV×OA×Nat×Int) (fun z=>z.1≤sn.length∧z.2.1.map (·.name)=rn++sn.take z.1∧(∀r∈z.2.1,RuW N r.m)∧SpT rn.length z.2.1)
   (fun z=>[(0,ae ad xs.length c),(2,aq b2),(3,aq g),(4,aq b4),(7,ac (N:Int)),(10,ae sad sn.length sc),(11,ac (z.1:Int))])
   (fun z=>gen9 g ad xs.length c z.2.2.2.2::cat9 b4 a0 iad ic z.2.1 z.2.2.1 z.2.2.2.1 0 none 0 0 none 0::osl bj 9 tRu9 z.2.2.1 z.2.2.2.1 z.2.1::allP ruP z.2.1::osl cx 1 tStr sad sc sn::obj b2 tCat [ae none 0 0,ae none 0 0,ae none 0 0,ae none 0 0]::isl be 7 iad a0::L) (fun z=>sn.length - z.1) (0,rs,rad,rc,i5) ⟨az _,by rw[a3,bC,aO],a4,fun k h1 h2=>by dsimp only at h2;omega⟩ an ah ?_
  clear a3 a4 b6 rs rad rc i4 i5;rintro⟨j,rs,rad,rc,i4⟩ ⟨hj,a3,a4,c5⟩;dsimp only at hj a3 a4 c5 ⊢
  have k5:rs.length=rn.length+j:=by
   have:=congrArg List.length a3
   rw[aA,ax,bg] at this;omega
  by_cases a8:j<sn.length
  case neg =>
   obtain rfl:j=sn.length:=ab;refine UT ?_;intros;exact⟨(rs,rad,rc,i4),⟨by rw[a3,cd],a4,c5⟩,an,by exact ah⟩
  have c7:(j:Int).toNat=j:=aD j;refine UT ?_;intros;refine GPW.ca (gt g ad xs.length c i4 xs rfl hx N 3 ab ag) ?_;rintro _ _⟨l,a6,oc,i5,rfl,hl,rfl⟩;refine UT ?_;intros;refine GPW.ef (Ef.d7 (enc:=bj) (e:=⟨sn[(j:Int).toNat]!,true,0,0,1,1,⟨[],none,0⟩,⟨l,a6,oc⟩,⟨[],none,0⟩⟩) rfl rfl rfl rfl rfl aJ (jS _) ab ab) ag ?_;rintro _ _⟨b9,f7,rfl,rfl⟩;refine UT ?_;intros;refine⟨(j+1,rs++[⟨sn[(j:Int).toNat]!,true,0,0,1,1,⟨[],none,0⟩,⟨l,a6,oc⟩,⟨[],none,0⟩⟩],b9,f7,i5),⟨by dsimp only;omega,?_,fun y hy=>?_,c5.snoc rfl⟩,by dsimp only;omega,an,?_⟩
  ·rw[aR,a3,aC a8,bY,fk,c7,getElem!_of a8,aF]
  ·rcases List.mem_append.1 hy with h|h
   ·exact a4 y h
   ·rw[List.mem_singleton.1 h];exact RuW.spawn hl
  ·refine(Ent.f8 aV 2 none).trans ?_;refine(Ent.at (A:=osl aV 2 tAm9 a6 oc l) Ent.freezeSl).trans ?_;refine(Ent.f8 aV 2 none).trans ?_;refine(iB (r:=⟨sn[(j:Int).toNat]!,true,0,0,1,1,⟨[],none,0⟩,⟨l,a6,oc⟩,⟨[],none,0⟩⟩)).trans ?_;refine((Ent.at (A:=allP ruP rs) Ent.swap).trans (ix jp)).trans ?_;exact ah
 clear a3 a4 b6 rs rad rc i4 i5;rintro⟨rs,rad,rc,i4⟩ ⟨a3,a4,c5⟩;dsimp only at a3 a4 c5 ⊢;have b6:rs.length=rn.length+sn.length:=by rw[←ax,←a3,aA]
 have c8:(rs.map (·.name)).Nodup:=by
  rw[a3];exact List.pairwise_append.2 ⟨f0,f1,fun a ha b hb=>(List.pairwise_append.1 yB).2.2 a (b1 a ha) b (b3 b hb)⟩
 have k4:∀r∈rs,RuGood N r.m:=fun r hr=>(a4 r hr).good (BJ _ (by
  have:r.name∈rn++sn:=a3▸alStd0List_mem_map_of_mem hr;rcases List.mem_append.1 this with h|h
  ·exact bQ _ (b1 _ h)
  ·exact bD _ (b3 _ h)))
 refine G.ent (L':=gen9 g ad xs.length c i4::cat9 b4 a0 iad ic rs rad rc 0 none 0 0 none 0::isl bj 9 rad rs::allP ruP rs::obj b2 tCat [ae none 0 0,ae none 0 0,ae none 0 0,ae none 0 0]::isl be 7 iad a0::L) ((Ent.at (A:=osl bj 9 tRu9 rad rc rs) Ent.freezeSl).trans ah) ?_
 refine G.d8 (α:=List TbV×OA×Nat×Int) (fun z=>TbsG N 0 z.1) (fun _=>[(0,ae ad xs.length c),(2,aq b2),(3,aq g),(4,aq b4),(7,ac (N:Int))])
  (fun z=>gen9 g ad xs.length c z.2.2.2::cat9 b4 a0 iad ic rs rad rc z.1.length z.2.1 z.2.2.1 0 none 0::osl bK 2 tTb9 z.2.1 z.2.2.1 z.1::allP tbP z.1::isl bj 9 rad rs::allP ruP rs::obj b2 tCat [ae none 0 0,ae none 0 0,ae none 0 0,ae none 0 0]::isl be 7 iad a0::L) ?_ ?_
 ·refine G.ent (Ent.d8 bK 2 tTb9) ?_;refine G.ent (Ent.e7 tbP) ?_;refine UT ?_;intros;refine GO.ent (Ent.at (A:=gen9 g ad xs.length c i4) (Ent.refl _)) ?_;refine GO.ca (bL g ad xs.length c i4 xs rfl hx 3 ab) ?_;rintro _ _⟨p,i5,rfl,⟨d4,d5⟩,rfl⟩;obtain⟨P,rfl⟩:∃P:Nat,p=(P:Int):=⟨p.toNat,ab⟩;refine UT ?_;intros
  refine G.loop (α:=Nat×List TbV×OA×Nat×Int) (fun z=>TbsG N z.1 z.2.1)
   (fun z=>[(0,ae ad xs.length c),(2,aq b2),(3,aq g),(4,aq b4),(7,ac (N:Int)),(12,ac (z.1:Int))])
   (fun z=>gen9 g ad xs.length c z.2.2.2.2::cat9 b4 a0 iad ic rs rad rc z.2.1.length z.2.2.1 z.2.2.2.1 0 none 0::osl bK 2 tTb9 z.2.2.1 z.2.2.2.1 z.2.1::allP tbP z.2.1::isl bj 9 rad rs::allP ruP rs::obj b2 tCat [ae none 0 0,ae none 0 0,ae none 0 0,ae none 0 0]::isl be 7 iad a0::L) (fun z=>z.1) (P,[],none,0,i5) ⟨by simp;omega,(fun _ h=>absurd h aH),List.Pairwise.nil,(fun _ h=>absurd h aH)⟩ an ah ?_
  rintro⟨i,a1,tad,tc,i6⟩ hT;dsimp only at hT ⊢;have h3:=hT.len;rcases i with _|i
  ·refine UT ?_;intros;exact⟨(a1,tad,tc,i6),hT,an,by exact ah⟩
  have g4:((i+1:Nat):Int).toNat=i+1:=aD _;repeat first|refine G.sn 23 ?_|refine bF ?_|intro _|refine aS ?_
  refine G.d8 (α:=Nat) (fun _=>True) (fun a5=>[(0,ae ad xs.length c),(2,aq b2),(3,aq g),(4,aq b4),(7,ac (N:Int)),(12,ac ((i+1:Nat):Int)),(13,aq a5)])
   (fun a5=>obj a5 tTb9 [.string ke[i+1]!,ae none 0 0]::gen9 g ad xs.length c i6::cat9 b4 a0 iad ic rs rad rc a1.length tad tc 0 none 0::osl bK 2 tTb9 tad tc a1::allP tbP a1::isl bj 9 rad rs::allP ruP rs::obj b2 tCat [ae none 0 0,ae none 0 0,ae none 0 0,ae none 0 0]::isl be 7 iad a0::L) ?_ ?_
  ·have h5:i=0∨i=1:=ab;rcases h5 with rfl|rfl
   ·refine UT ?_;intros;rename_i a5;exact⟨a5,trivial,an,by rw[show ke[0+1]! = ⟨#[99,104,101,115,116]⟩ from rfl];exact ah⟩
   ·refine UT ?_;intros;rename_i a5;exact⟨a5,trivial,an,by rw[show ke[1+1]! = ⟨#[104,101,114,98]⟩ from rfl];exact ah⟩
  rintro a5 _;refine G.ent (Ent.d8 du 2 tRw9) ?_;refine G.ent (Ent.e7 rwP) ?_;refine G.ent (Ent.at (A:=gen9 g ad xs.length c i6) (Ent.refl _)) ?_;refine UT ?_;intros;refine GO.ca (bL g ad xs.length c i6 xs rfl hx 3 ab) ?_;rintro _ _⟨q,i7,rfl,⟨j6,j7⟩,rfl⟩;obtain⟨Q,rfl⟩:∃Q:Nat,q=(Q:Int):=⟨q.toNat,ab⟩;refine UT ?_;intros
  refine G.loop (α:=Nat×List RwV×OA×Nat×Int) (fun z=>z.2.1.length+z.1≤3∧1≤z.2.1.length+z.1∧∀r∈z.2.1,RwGood N r.m∧r.give.l.length≤2)
   (fun z=>[(0,ae ad xs.length c),(2,aq b2),(3,aq g),(4,aq b4),(7,ac (N:Int)),(12,ac ((i+1:Nat):Int)),(13,aq a5),(14,ac ((z.1:Int) - 1))])
   (fun z=>gen9 g ad xs.length c z.2.2.2.2::obj a5 tTb9 [.string ke[i+1]!,ae z.2.2.1 z.2.1.length z.2.2.2.1]::osl du 2 tRw9 z.2.2.1 z.2.2.2.1 z.2.1::allP rwP z.2.1::cat9 b4 a0 iad ic rs rad rc a1.length tad tc 0 none 0::osl bK 2 tTb9 tad tc a1::allP tbP a1::isl bj 9 rad rs::allP ruP rs::obj b2 tCat [ae none 0 0,ae none 0 0,ae none 0 0,ae none 0 0]::isl be 7 iad a0::L) (fun z=>z.1) (Q+1,[],none,0,i7) ⟨by simp only[cU];omega,by simp only[cU];omega,(fun _ h=>absurd h aH)⟩ (by rw[show(((Q+1:Nat):Int) - 1)=(Q:Int) by omega];exact an) ah ?_
  rintro⟨k,rows,c3,wc,i8⟩ ⟨g5,k7,f3⟩;dsimp only at g5 k7 f3 ⊢;rcases k with _|k
  ·refine UT ?_;intros;refine GO.ef (Ef.d7 (enc:=bK) (e:=⟨ke[i+1]!,rows,c3,wc⟩) rfl rfl rfl rfl rfl aJ (kZ _) ab ab) ag ?_;rintro _ _⟨d2,g7,rfl,rfl⟩;refine UT ?_;intros;refine⟨(i,a1++[⟨ke[i+1]!,rows,c3,wc⟩],d2,g7,i8),hT.add rows c3 wc ⟨ab,f3⟩,by dsimp only;omega,by rw[show(((i,a1++[(⟨ke[i+1]!,rows,c3,wc⟩:TbV)],d2,g7,i8).1:Nat):Int)=((i+1:Nat):Int) - 1 by dsimp only;omega];exact an,?_⟩;refine((Ent.at (A:=osl du 2 tRw9 c3 wc rows) Ent.freezeSl)).trans ?_;refine(Ent.at (A:=allP rwP rows) Ent.swap).trans ?_;refine(Ent.e8 (bI du 2 c3 rows) (cG kc)).trans ?_;refine(show Ent (tbP ⟨ke[i+1]!,rows,c3,wc⟩::_) _ from(Ent.at (A:=allP tbP a1) Ent.swap).trans (ix jn)).trans ?_;exact ah
  rw[show(((k+1:Nat):Int) - 1)=(k:Int) by omega];refine UT ?_;intros;refine GO.ca (bL g ad xs.length c i8 xs rfl hx 9 ab) ?_;rintro _ _⟨w,i9,rfl,⟨o3,o4⟩,rfl⟩;refine UT ?_;intros;refine GPW.ca (gt g ad xs.length c i9 xs rfl hx N 2 ab ag) ?_;rintro _ _⟨l,a6,oc,l2,rfl,hl,rfl⟩;refine UT ?_;intros;refine GPW.ef (Ef.d7 (enc:=du) (e:=⟨1+w,⟨l,a6,oc⟩⟩) rfl rfl rfl rfl rfl aJ (la _) ab ab) ag ?_;rintro _ _⟨f9,l4,rfl,rfl⟩;refine UT ?_;intros;have k8:(rows++[(⟨1+w,⟨l,a6,oc⟩⟩:RwV)]).length=rows.length+1:=by simp
  refine⟨(k,rows++[⟨1+w,⟨l,a6,oc⟩⟩],f9,l4,l2),⟨by dsimp only;omega,by dsimp only;omega,fun r hr=>?_⟩,by dsimp only;omega,an,?_⟩
  ·rcases List.mem_append.1 hr with h|h
   ·exact f3 r h
   ·rw[List.mem_singleton.1 h];exact⟨⟨by dsimp only[RwV.m];omega,hl.srt⟩,hl.len⟩
  ·refine((Ent.at (A:=osl aV 2 tAm9 a6 oc l) Ent.freezeSl)).trans ?_;refine(show Ent (rwP ⟨1+w,⟨l,a6,oc⟩⟩::_) _ from(Ent.at (A:=allP rwP rows) Ent.swap).trans (ix kc)).trans ?_;exact ah
 rintro⟨a1,tad,tc,i5⟩ hT;dsimp only at hT ⊢;have h3:=hT.len;refine G.ent (L':=gen9 g ad xs.length c i5::cat9 b4 a0 iad ic rs rad rc a1.length tad tc 0 none 0::isl bK 2 tad a1::allP tbP a1::isl bj 9 rad rs::allP ruP rs::obj b2 tCat [ae none 0 0,ae none 0 0,ae none 0 0,ae none 0 0]::isl be 7 iad a0::L) ((Ent.at (A:=osl bK 2 tTb9 tad tc a1) Ent.freezeSl).trans ah) ?_
 refine G.d8 (α:=List TxV×OA×Nat×Int) (fun z=>TxsG 0 z.1) (fun _=>[(0,ae ad xs.length c),(2,aq b2),(3,aq g),(4,aq b4),(7,ac (N:Int))])
  (fun z=>gen9 g ad xs.length c z.2.2.2::cat9 b4 a0 iad ic rs rad rc a1.length tad tc z.1.length z.2.1 z.2.2.1::osl bN 2 tTx9 z.2.1 z.2.2.1 z.1::allP txP z.1::isl bK 2 tad a1::allP tbP a1::isl bj 9 rad rs::allP ruP rs::obj b2 tCat [ae none 0 0,ae none 0 0,ae none 0 0,ae none 0 0]::isl be 7 iad a0::L) ?_ ?_
 ·refine G.ent (Ent.d8 bN 2 tTx9) ?_;refine G.ent (Ent.e7 txP) ?_;refine UT ?_;intros;refine GO.ent (Ent.at (A:=gen9 g ad xs.length c i5) (Ent.refl _)) ?_;refine GO.ca (bL g ad xs.length c i5 xs rfl hx 3 ab) ?_;rintro _ _⟨p,i6,rfl,⟨d4,d5⟩,rfl⟩;obtain⟨P,rfl⟩:∃P:Nat,p=(P:Int):=⟨p.toNat,ab⟩;refine UT ?_;intros
  refine G.loop (α:=Nat×List TxV×OA×Nat×Int) (fun z=>TxsG z.1 z.2.1)
   (fun z=>[(0,ae ad xs.length c),(2,aq b2),(3,aq g),(4,aq b4),(7,ac (N:Int)),(16,ac (z.1:Int))])
   (fun z=>gen9 g ad xs.length c z.2.2.2.2::cat9 b4 a0 iad ic rs rad rc a1.length tad tc z.2.1.length z.2.2.1 z.2.2.2.1::osl bN 2 tTx9 z.2.2.1 z.2.2.2.1 z.2.1::allP txP z.2.1::isl bK 2 tad a1::allP tbP a1::isl bj 9 rad rs::allP ruP rs::obj b2 tCat [ae none 0 0,ae none 0 0,ae none 0 0,ae none 0 0]::isl be 7 iad a0::L) (fun z=>z.1) (P,[],none,0,i6) ⟨by simp;omega,(fun _ h=>absurd h aH),List.Pairwise.nil,(fun _ h=>absurd h aH)⟩ an ah ?_
  rintro⟨i,xl,xad,xc,i6⟩ hX;dsimp only at hX ⊢;have h4:=hX.len;rcases i with _|i
  ·refine UT ?_;intros;exact⟨(xl,xad,xc,i6),hX,an,by exact ah⟩
  have g4:((i+1:Nat):Int).toNat=i+1:=aD _;repeat first|refine G.sn 33 ?_|refine bF ?_|intro _|refine aS ?_
  refine G.d8 (α:=Nat×Nat×Int×Int) (fun z=>0≤z.2.2.1∧z.2.2.1<2000) (fun z=>[(0,ae ad xs.length c),(2,aq b2),(3,aq g),(4,aq b4),(7,ac (N:Int)),(16,ac ((i+1:Nat):Int)),(17,.pointer (some ⟨z.1,0,none⟩))])
   (fun z=>gen9 g ad xs.length c z.2.2.2::obj z.1 tTx9 [.string poolX[i+1]!,ae (some ⟨z.2.1,0,none⟩) 1 1]::osl aV 2 tBr9 (some ⟨z.2.1,0,none⟩) 1 [(0,z.2.2.1)]::cat9 b4 a0 iad ic rs rad rc a1.length tad tc xl.length xad xc::osl bN 2 tTx9 xad xc xl::allP txP xl::isl bK 2 tad a1::allP tbP a1::isl bj 9 rad rs::allP ruP rs::obj b2 tCat [ae none 0 0,ae none 0 0,ae none 0 0,ae none 0 0]::isl be 7 iad a0::L) ?_ ?_
  ·have n1:poolX.length=3:=rfl;refine G.f8 mixed krStd0 ?_;refine GF.evP (i:=1) rfl krStd0 (Ev.move rfl) ag ?_;refine GF.evP (i:=4) rfl krStd0 (Ev.move rfl) ag ?_;refine GF.conseq (done':=txD none none .c0) (env':=txE [(0,ae ad xs.length c),(2,aq b2),(3,aq g),(4,aq b4),(7,ac (N:Int)),(16,ac ((i+1:Nat):Int))] g (i+1) none none .c0) (L':=txL g ad xs.length c (cat9 b4 a0 iad ic rs rad rc a1.length tad tc xl.length xad xc::osl bN 2 tTx9 xad xc xl::allP txP xl::isl bK 2 tad a1::allP tbP a1::isl bj 9 rad rs::allP ruP rs::obj b2 tCat [ae none 0 0,ae none 0 0,ae none 0 0,ae none 0 0]::isl be 7 iad a0::L) none none .c0 i6) krStd0 an (Ent.refl _) ?_;generalize hLL:cat9 b4 a0 iad ic rs rad rc a1.length tad tc xl.length xad xc::osl bN 2 tTx9 xad xc xl::allP txP xl::isl bK 2 tad a1::allP tbP a1::isl bj 9 rad rs::allP ruP rs::obj b2 tCat [ae none 0 0,ae none 0 0,ae none 0 0,ae none 0 0]::isl be 7 iad a0::L=LL;have j8 : Rds LL ad Int (encZ .i64) 1 xs:=by rw[←hLL];infer_instance
   refine GF.fam (ι:=TxI) (fun x=>txD x.a x.z x.s) (fun x=>11 - (txD x.a x.z x.s).length) (fun x=>txPE (i+1) x.a) (fun x=>txE [(0,ae ad xs.length c),(2,aq b2),(3,aq g),(4,aq b4),(7,ac (N:Int)),(16,ac ((i+1:Nat):Int))] g (i+1) x.a x.z x.s) (fun x=>txL g ad xs.length c LL x.a x.z x.s x.i) txR ?_ ⟨none,none,.c0,i6,trivial⟩;rintro⟨a,z,s,i3,a9⟩ ih;dsimp only;rcases a with _|b0<;>rcases z with _|a2
   ·rcases s with _|⟨p⟩|⟨p,b7⟩
    ·dsimp only[txL,txE,txPE,aj,ak];change GF _ _ _ _ 9 _ _ _ _;refine GF.d9 0 5 9 krStd0 ?_ ?_ ?_
     ·refine GE.ef rfl (Ef.lit rfl rfl ag rfl) ag ?_;rintro _ _⟨b0,rfl,rfl⟩;refine⟨dK,?_⟩;refine GF.ent (L':=gen9 g ad xs.length c i3::osl cx 1 tStr (some ⟨b0,0,none⟩) 3 poolX::LL) (Ent.trans (Ent.e9 (enc:=cx) (sz:=1) (xs:=poolX) rfl rfl (fun _ _=>rfl) ag) ah) ?_;refine GF.evS (env₀:=[(134,ae (some ⟨b0,0,none⟩) 3 3),(135,ac ((i+1:Nat):Int))]) (i:=2) (v:=.pointer (elP (some ⟨b0,0,none⟩) 1 ((i+1:Nat):Int).toNat 0)) (EnvSub.cons rfl (EnvSub.cons rfl (EnvSub.nil _))) rfl krStd0 (Ev.indexAddr (xs:=poolX) rfl rfl ab ab ab) ag ?_;refine GF.evS (env₀:=[(136,.pointer (elP (some ⟨b0,0,none⟩) 1 ((i+1:Nat):Int).toNat 0))]) (i:=3) (v:=.string poolX[((i+1:Nat):Int).toNat]!) (EnvSub.cons rfl (EnvSub.nil _)) rfl krStd0 (Ev.d7 (xs:=poolX) rfl ab ag rfl) ag ?_;exact GF.conseq krStd0 an (Ent.refl _) (ih ⟨some b0,none,.c0,i3,trivial⟩ (ao rfl))
     ·refine GE.ef rfl (Ef.d9 (bL g ad xs.length c i3 xs rfl hx 2000 ab) rfl) ag ?_;rintro _ _⟨p,i',rfl,h1,rfl⟩;refine⟨dK,?_⟩;refine GF.evP (i:=6) rfl krStd0 (Ev.build rfl rfl) ag ?_;exact GF.conseq krStd0 an (Ent.refl _) (ih ⟨none,none,(.c1 p),i',h1⟩ (ao rfl))
     ·refine GE.ef rfl Ef.alloc ag ?_;rintro _ _⟨a2,rfl,rfl⟩;refine⟨dK,?_⟩;exact GF.conseq krStd0 an ah (ih ⟨none,some a2,.c0,i3,trivial⟩ (ao rfl))
    ·dsimp only[txL,txE,txPE,aj,ak];have h1:0≤p∧p<2000:=a9;change GF _ _ _ _ 7 _ _ _ _;refine GF.d9 0 7 9 krStd0 ?_ ?_ ?_
     ·refine GE.ef rfl (Ef.lit rfl rfl ag rfl) ag ?_;rintro _ _⟨b0,rfl,rfl⟩;refine⟨dK,?_⟩;refine GF.ent (L':=gen9 g ad xs.length c i3::osl cx 1 tStr (some ⟨b0,0,none⟩) 3 poolX::LL) (Ent.trans (Ent.e9 (enc:=cx) (sz:=1) (xs:=poolX) rfl rfl (fun _ _=>rfl) ag) ah) ?_;refine GF.evS (env₀:=[(134,ae (some ⟨b0,0,none⟩) 3 3),(135,ac ((i+1:Nat):Int))]) (i:=2) (v:=.pointer (elP (some ⟨b0,0,none⟩) 1 ((i+1:Nat):Int).toNat 0)) (EnvSub.cons rfl (EnvSub.cons rfl (EnvSub.nil _))) rfl krStd0 (Ev.indexAddr (xs:=poolX) rfl rfl ab ab ab) ag ?_;refine GF.evS (env₀:=[(136,.pointer (elP (some ⟨b0,0,none⟩) 1 ((i+1:Nat):Int).toNat 0))]) (i:=3) (v:=.string poolX[((i+1:Nat):Int).toNat]!) (EnvSub.cons rfl (EnvSub.nil _)) rfl krStd0 (Ev.d7 (xs:=poolX) rfl ab ag rfl) ag ?_;exact GF.conseq krStd0 an (Ent.refl _) (ih ⟨some b0,none,(.c1 p),i3,h1⟩ (ao rfl))
     ·refine GE.ef rfl (Ef.lit rfl rfl ag rfl) ag ?_;rintro _ _⟨b7,rfl,rfl⟩;refine⟨dK,?_⟩;refine GF.ent (L':=gen9 g ad xs.length c i3::osl aV 2 tBr9 (some ⟨b7,0,none⟩) 1 [(0,p)]::LL) (Ent.trans (Ent.e9 (enc:=aV) (sz:=2) (xs:=[(0,p)]) rfl rfl (fun _ _=>rfl) (ao rfl)) ah) ?_;exact GF.conseq krStd0 an (Ent.refl _) (ih ⟨none,none,(.c2 p b7),i3,h1⟩ (ao rfl))
     ·refine GE.ef rfl Ef.alloc ag ?_;rintro _ _⟨a2,rfl,rfl⟩;refine⟨dK,?_⟩;exact GF.conseq krStd0 an ah (ih ⟨none,some a2,(.c1 p),i3,h1⟩ (ao rfl))
    ·dsimp only[txL,txE,txPE,aj,ak];have h1:0≤p∧p<2000:=a9;change GF _ _ _ _ 6 _ _ _ _;refine GF.d7 0 9 krStd0 ?_ ?_
     ·refine GE.ef rfl (Ef.lit rfl rfl ag rfl) ag ?_;rintro _ _⟨b0,rfl,rfl⟩;refine⟨dK,?_⟩;refine GF.ent (L':=gen9 g ad xs.length c i3::osl cx 1 tStr (some ⟨b0,0,none⟩) 3 poolX::osl aV 2 tBr9 (some ⟨b7,0,none⟩) 1 [(0,p)]::LL) (Ent.trans (Ent.e9 (enc:=cx) (sz:=1) (xs:=poolX) rfl rfl (fun _ _=>rfl) ag) ah) ?_;refine GF.evS (env₀:=[(134,ae (some ⟨b0,0,none⟩) 3 3),(135,ac ((i+1:Nat):Int))]) (i:=2) (v:=.pointer (elP (some ⟨b0,0,none⟩) 1 ((i+1:Nat):Int).toNat 0)) (EnvSub.cons rfl (EnvSub.cons rfl (EnvSub.nil _))) rfl krStd0 (Ev.indexAddr (xs:=poolX) rfl rfl ab ab ab) ag ?_;refine GF.evS (env₀:=[(136,.pointer (elP (some ⟨b0,0,none⟩) 1 ((i+1:Nat):Int).toNat 0))]) (i:=3) (v:=.string poolX[((i+1:Nat):Int).toNat]!) (EnvSub.cons rfl (EnvSub.nil _)) rfl krStd0 (Ev.d7 (xs:=poolX) rfl ab ag rfl) ag ?_;refine GF.evP (i:=8) rfl krStd0 (Ev.build rfl rfl) ag ?_;exact GF.conseq krStd0 an (Ent.refl _) (ih ⟨some b0,none,(.c2 p b7),i3,h1⟩ (ao rfl))
     ·refine GE.ef rfl Ef.alloc ag ?_;rintro _ _⟨a2,rfl,rfl⟩;refine⟨dK,?_⟩;exact GF.conseq krStd0 an ah (ih ⟨none,some a2,(.c2 p b7),i3,h1⟩ (ao rfl))
   ·rcases s with _|⟨p⟩|⟨p,b7⟩
    ·dsimp only[txL,txE,txPE,aj,ak];change GF _ _ _ _ 8 _ _ _ _;refine GF.d7 0 5 krStd0 ?_ ?_
     ·refine GE.ef rfl (Ef.lit rfl rfl ag rfl) ag ?_;rintro _ _⟨b0,rfl,rfl⟩;refine⟨dK,?_⟩;refine GF.ent (L':=gen9 g ad xs.length c i3::obj a2 tTx9 [.string ⟨#[]⟩,ae none 0 0]::osl cx 1 tStr (some ⟨b0,0,none⟩) 3 poolX::LL) (Ent.trans (Ent.e9 (enc:=cx) (sz:=1) (xs:=poolX) rfl rfl (fun _ _=>rfl) ag) ah) ?_;refine GF.evS (env₀:=[(134,ae (some ⟨b0,0,none⟩) 3 3),(135,ac ((i+1:Nat):Int))]) (i:=2) (v:=.pointer (elP (some ⟨b0,0,none⟩) 1 ((i+1:Nat):Int).toNat 0)) (EnvSub.cons rfl (EnvSub.cons rfl (EnvSub.nil _))) rfl krStd0 (Ev.indexAddr (xs:=poolX) rfl rfl ab ab ab) ag ?_;refine GF.evS (env₀:=[(136,.pointer (elP (some ⟨b0,0,none⟩) 1 ((i+1:Nat):Int).toNat 0))]) (i:=3) (v:=.string poolX[((i+1:Nat):Int).toNat]!) (EnvSub.cons rfl (EnvSub.nil _)) rfl krStd0 (Ev.d7 (xs:=poolX) rfl ab ag rfl) ag ?_;exact GF.conseq krStd0 an (Ent.refl _) (ih ⟨some b0,some a2,.c0,i3,trivial⟩ (ao rfl))
     ·refine GE.ef rfl (Ef.d9 (bL g ad xs.length c i3 xs rfl hx 2000 ab) rfl) ag ?_;rintro _ _⟨p,i',rfl,h1,rfl⟩;refine⟨dK,?_⟩;refine GF.evP (i:=6) rfl krStd0 (Ev.build rfl rfl) ag ?_;exact GF.conseq krStd0 an (Ent.refl _) (ih ⟨none,some a2,(.c1 p),i',h1⟩ (ao rfl))
    ·dsimp only[txL,txE,txPE,aj,ak];have h1:0≤p∧p<2000:=a9;change GF _ _ _ _ 6 _ _ _ _;refine GF.d7 0 7 krStd0 ?_ ?_
     ·refine GE.ef rfl (Ef.lit rfl rfl ag rfl) ag ?_;rintro _ _⟨b0,rfl,rfl⟩;refine⟨dK,?_⟩;refine GF.ent (L':=gen9 g ad xs.length c i3::obj a2 tTx9 [.string ⟨#[]⟩,ae none 0 0]::osl cx 1 tStr (some ⟨b0,0,none⟩) 3 poolX::LL) (Ent.trans (Ent.e9 (enc:=cx) (sz:=1) (xs:=poolX) rfl rfl (fun _ _=>rfl) ag) ah) ?_;refine GF.evS (env₀:=[(134,ae (some ⟨b0,0,none⟩) 3 3),(135,ac ((i+1:Nat):Int))]) (i:=2) (v:=.pointer (elP (some ⟨b0,0,none⟩) 1 ((i+1:Nat):Int).toNat 0)) (EnvSub.cons rfl (EnvSub.cons rfl (EnvSub.nil _))) rfl krStd0 (Ev.indexAddr (xs:=poolX) rfl rfl ab ab ab) ag ?_;refine GF.evS (env₀:=[(136,.pointer (elP (some ⟨b0,0,none⟩) 1 ((i+1:Nat):Int).toNat 0))]) (i:=3) (v:=.string poolX[((i+1:Nat):Int).toNat]!) (EnvSub.cons rfl (EnvSub.nil _)) rfl krStd0 (Ev.d7 (xs:=poolX) rfl ab ag rfl) ag ?_;exact GF.conseq krStd0 an (Ent.refl _) (ih ⟨some b0,some a2,(.c1 p),i3,h1⟩ (ao rfl))
     ·refine GE.ef rfl (Ef.lit rfl rfl ag rfl) ag ?_;rintro _ _⟨b7,rfl,rfl⟩;refine⟨dK,?_⟩;refine GF.ent (L':=gen9 g ad xs.length c i3::obj a2 tTx9 [.string ⟨#[]⟩,ae none 0 0]::osl aV 2 tBr9 (some ⟨b7,0,none⟩) 1 [(0,p)]::LL) (Ent.trans (Ent.e9 (enc:=aV) (sz:=2) (xs:=[(0,p)]) rfl rfl (fun _ _=>rfl) (ao rfl)) ah) ?_;exact GF.conseq krStd0 an (Ent.refl _) (ih ⟨none,some a2,(.c2 p b7),i3,h1⟩ (ao rfl))
    ·dsimp only[txL,txE,txPE,aj,ak];have h1:0≤p∧p<2000:=a9;change GF _ _ _ _ 5 _ _ _ _;refine GF.d8 [0] krStd0 rfl (fun r hr=>?_);obtain rfl:=List.mem_singleton.1 hr;refine GE.ef rfl (Ef.lit rfl rfl ag rfl) ag ?_;rintro _ _⟨b0,rfl,rfl⟩;refine⟨dK,?_⟩;refine GF.ent (L':=gen9 g ad xs.length c i3::obj a2 tTx9 [.string ⟨#[]⟩,ae none 0 0]::osl cx 1 tStr (some ⟨b0,0,none⟩) 3 poolX::osl aV 2 tBr9 (some ⟨b7,0,none⟩) 1 [(0,p)]::LL) (Ent.trans (Ent.e9 (enc:=cx) (sz:=1) (xs:=poolX) rfl rfl (fun _ _=>rfl) ag) ah) ?_;refine GF.evS (env₀:=[(134,ae (some ⟨b0,0,none⟩) 3 3),(135,ac ((i+1:Nat):Int))]) (i:=2) (v:=.pointer (elP (some ⟨b0,0,none⟩) 1 ((i+1:Nat):Int).toNat 0)) (EnvSub.cons rfl (EnvSub.cons rfl (EnvSub.nil _))) rfl krStd0 (Ev.indexAddr (xs:=poolX) rfl rfl ab ab ab) ag ?_;refine GF.evS (env₀:=[(136,.pointer (elP (some ⟨b0,0,none⟩) 1 ((i+1:Nat):Int).toNat 0))]) (i:=3) (v:=.string poolX[((i+1:Nat):Int).toNat]!) (EnvSub.cons rfl (EnvSub.nil _)) rfl krStd0 (Ev.d7 (xs:=poolX) rfl ab ag rfl) ag ?_;refine GF.evP (i:=8) rfl krStd0 (Ev.build rfl rfl) ag ?_;exact GF.conseq krStd0 an (Ent.refl _) (ih ⟨some b0,some a2,(.c2 p b7),i3,h1⟩ (ao rfl))
   ·rcases s with _|⟨p⟩|⟨p,b7⟩
    ·dsimp only[txL,txE,txPE,aj,ak];change GF _ _ _ _ 6 _ _ _ _;refine GF.d7 5 9 krStd0 ?_ ?_
     ·refine GE.ef rfl (Ef.d9 (bL g ad xs.length c i3 xs rfl hx 2000 ab) rfl) ag ?_;rintro _ _⟨p,i',rfl,h1,rfl⟩;refine⟨(by intro pe hp;simp only[bh,aH,or_false] at hp;rcases hp with rfl|rfl;exact Ev.d7 (xs:=poolX) rfl ab ag rfl;exact Ev.indexAddr (xs:=poolX) rfl rfl ab ab ab),?_⟩;refine GF.evP (i:=6) rfl krStd0 (Ev.build rfl rfl) ag ?_;exact GF.conseq krStd0 an (Ent.refl _) (ih ⟨some b0,none,(.c1 p),i',h1⟩ (ao rfl))
     ·refine GE.ef rfl Ef.alloc ag ?_;rintro _ _⟨a2,rfl,rfl⟩;refine⟨(by intro pe hp;simp only[bh,aH,or_false] at hp;rcases hp with rfl|rfl;exact Ev.d7 (xs:=poolX) rfl ab ag rfl;exact Ev.indexAddr (xs:=poolX) rfl rfl ab ab ab),?_⟩;exact GF.conseq krStd0 an ah (ih ⟨some b0,some a2,.c0,i3,trivial⟩ (ao rfl))
    ·dsimp only[txL,txE,txPE,aj,ak];have h1:0≤p∧p<2000:=a9;change GF _ _ _ _ 4 _ _ _ _;refine GF.d7 7 9 krStd0 ?_ ?_
     ·refine GE.ef rfl (Ef.lit rfl rfl ag rfl) ag ?_;rintro _ _⟨b7,rfl,rfl⟩;refine⟨(by intro pe hp;simp only[bh,aH,or_false] at hp;rcases hp with rfl|rfl;exact Ev.d7 (xs:=poolX) rfl ab ag rfl;exact Ev.indexAddr (xs:=poolX) rfl rfl ab ab ab),?_⟩;refine GF.ent (L':=gen9 g ad xs.length c i3::osl cx 1 tStr (some ⟨b0,0,none⟩) 3 poolX::osl aV 2 tBr9 (some ⟨b7,0,none⟩) 1 [(0,p)]::LL) (Ent.trans (Ent.e9 (enc:=aV) (sz:=2) (xs:=[(0,p)]) rfl rfl (fun _ _=>rfl) (ao rfl)) ah) ?_;refine GF.evP (i:=8) rfl krStd0 (Ev.build rfl rfl) ag ?_;exact GF.conseq krStd0 an (Ent.refl _) (ih ⟨some b0,none,(.c2 p b7),i3,h1⟩ (ao rfl))
     ·refine GE.ef rfl Ef.alloc ag ?_;rintro _ _⟨a2,rfl,rfl⟩;refine⟨(by intro pe hp;simp only[bh,aH,or_false] at hp;rcases hp with rfl|rfl;exact Ev.d7 (xs:=poolX) rfl ab ag rfl;exact Ev.indexAddr (xs:=poolX) rfl rfl ab ab ab),?_⟩;exact GF.conseq krStd0 an ah (ih ⟨some b0,some a2,(.c1 p),i3,h1⟩ (ao rfl))
    ·dsimp only[txL,txE,txPE,aj,ak];have h1:0≤p∧p<2000:=a9;change GF _ _ _ _ 2 _ _ _ _;refine GF.d8 [9] krStd0 rfl (fun r hr=>?_);obtain rfl:=List.mem_singleton.1 hr;refine GE.ef rfl Ef.alloc ag ?_;rintro _ _⟨a2,rfl,rfl⟩;refine⟨(by intro pe hp;simp only[bh,aH,or_false] at hp;rcases hp with rfl|rfl;exact Ev.d7 (xs:=poolX) rfl ab ag rfl;exact Ev.indexAddr (xs:=poolX) rfl rfl ab ab ab),?_⟩;exact GF.conseq krStd0 an ah (ih ⟨some b0,some a2,(.c2 p b7),i3,h1⟩ (ao rfl))
   ·rcases s with _|⟨p⟩|⟨p,b7⟩
    ·dsimp only[txL,txE,txPE,aj,ak];change GF _ _ _ _ 5 _ _ _ _;refine GF.d8 [5] krStd0 rfl (fun r hr=>?_);obtain rfl:=List.mem_singleton.1 hr;refine GE.ef rfl (Ef.d9 (bL g ad xs.length c i3 xs rfl hx 2000 ab) rfl) ag ?_;rintro _ _⟨p,i',rfl,h1,rfl⟩;refine⟨(by intro pe hp;simp only[bh,aH,or_false] at hp;rcases hp with rfl|rfl;exact Ev.d7 (xs:=poolX) rfl ab ag rfl;exact Ev.indexAddr (xs:=poolX) rfl rfl ab ab ab),?_⟩;refine GF.evP (i:=6) rfl krStd0 (Ev.build rfl rfl) ag ?_;exact GF.conseq krStd0 an (Ent.refl _) (ih ⟨some b0,some a2,(.c1 p),i',h1⟩ (ao rfl))
    ·dsimp only[txL,txE,txPE,aj,ak];have h1:0≤p∧p<2000:=a9;change GF _ _ _ _ 3 _ _ _ _;refine GF.d8 [7] krStd0 rfl (fun r hr=>?_);obtain rfl:=List.mem_singleton.1 hr;refine GE.ef rfl (Ef.lit rfl rfl ag rfl) ag ?_;rintro _ _⟨b7,rfl,rfl⟩;refine⟨(by intro pe hp;simp only[bh,aH,or_false] at hp;rcases hp with rfl|rfl;exact Ev.d7 (xs:=poolX) rfl ab ag rfl;exact Ev.indexAddr (xs:=poolX) rfl rfl ab ab ab),?_⟩;refine GF.ent (L':=gen9 g ad xs.length c i3::obj a2 tTx9 [.string ⟨#[]⟩,ae none 0 0]::osl cx 1 tStr (some ⟨b0,0,none⟩) 3 poolX::osl aV 2 tBr9 (some ⟨b7,0,none⟩) 1 [(0,p)]::LL) (Ent.trans (Ent.e9 (enc:=aV) (sz:=2) (xs:=[(0,p)]) rfl rfl (fun _ _=>rfl) (ao rfl)) ah) ?_;refine GF.evP (i:=8) rfl krStd0 (Ev.build rfl rfl) ag ?_;exact GF.conseq krStd0 an (Ent.refl _) (ih ⟨some b0,some a2,(.c2 p b7),i3,h1⟩ (ao rfl))
    ·dsimp only[txL,txE,txPE,aj,ak];have h1:0≤p∧p<2000:=a9;refine GF.plan [.ef 10] krStd0 rfl ?_;refine UT ?_;intros;exact⟨(a2,b7,p,i3),h1,an,by rw[←hLL,g4];exact ah⟩
  rintro⟨a2,b7,p,i3⟩ ⟨d4,d5⟩;dsimp only at d4 d5 ⊢;refine UT ?_;intros;refine GO.ca (bL g ad xs.length c i3 xs rfl hx 3 ab) ?_;rintro _ _⟨q,i4,rfl,⟨j6,j7⟩,rfl⟩;obtain⟨Q,rfl⟩:∃Q:Nat,q=(Q:Int):=⟨q.toNat,ab⟩;refine UT ?_;intros
  refine G.loop (α:=Nat×List (Int×Int)×OA×Nat×Int) (fun z=>BrG z.2.1∧z.2.1.length+z.1≤3)
   (fun z=>[(0,ae ad xs.length c),(2,aq b2),(3,aq g),(4,aq b4),(7,ac (N:Int)),(16,ac ((i+1:Nat):Int)),(17,aq a2),(18,ac (z.1:Int))])
   (fun z=>gen9 g ad xs.length c z.2.2.2.2::obj a2 tTx9 [.string poolX[i+1]!,ae z.2.2.1 z.2.1.length z.2.2.2.1]::osl aV 2 tBr9 z.2.2.1 z.2.2.2.1 z.2.1::cat9 b4 a0 iad ic rs rad rc a1.length tad tc xl.length xad xc::osl bN 2 tTx9 xad xc xl::allP txP xl::isl bK 2 tad a1::allP tbP a1::isl bj 9 rad rs::allP ruP rs::obj b2 tCat [ae none 0 0,ae none 0 0,ae none 0 0,ae none 0 0]::isl be 7 iad a0::L) (fun z=>z.1) (Q,[(0,p)],some ⟨b7,0,none⟩,1,i4) ⟨BrG.one ⟨d4,d5⟩,by simp only[aG];omega⟩ an ah ?_
  rintro⟨k,brs,c4,bc,i7⟩ ⟨hB,h0⟩;dsimp only at hB h0 ⊢;have m0:=hB.len;rcases k with _|k
  ·refine UT ?_;intros;refine GO.ef (Ef.d7 (enc:=bN) (e:=⟨poolX[i+1]!,brs,c4,bc⟩) rfl rfl rfl rfl rfl aJ (kY _) ab ab) ag ?_;rintro _ _⟨d3,g8,rfl,rfl⟩;refine UT ?_;intros;refine⟨(i,xl++[⟨poolX[i+1]!,brs,c4,bc⟩],d3,g8,i7),hX.add brs c4 bc hB,by dsimp only;omega,by rw[show(((i,xl++[(⟨poolX[i+1]!,brs,c4,bc⟩:TxV)],d3,g8,i7).1:Nat):Int)=((i+1:Nat):Int) - 1 by dsimp only;omega];exact an,?_⟩;refine((Ent.at (A:=osl aV 2 tBr9 c4 bc brs) Ent.freezeSl)).trans ?_;refine(show Ent (txP ⟨poolX[i+1]!,brs,c4,bc⟩::_) _ from(Ent.at (A:=allP txP xl) Ent.swap).trans (ix ka)).trans ?_;exact ah
  have h7:((brs.length:Int) - 1).toNat=brs.length - 1:=ab;obtain⟨⟨g1,g2⟩,_⟩:=hB.num _ (aL (ab:((brs.length:Int) - 1).toNat<brs.length));refine UT ?_;intros;refine GPW.ca (bL g ad xs.length c i7 xs rfl hx 500 ab) ?_;rintro _ _⟨r,i8,rfl,⟨n2,n3⟩,rfl⟩;refine UT ?_;intros;refine GPW.ca (bL g ad xs.length c i8 xs rfl hx 10001 ab) ?_;rintro _ _⟨w,i9,rfl,⟨n6,g5⟩,rfl⟩;refine UT ?_;intros;refine GPW.ef (Ef.d7 (enc:=aV) (e:=(brs[((brs.length:Int) - 1).toNat]!.1+1+r,w)) rfl rfl rfl rfl rfl aJ (gE _) ab ab) ag ?_;rintro _ _⟨c6,g0,rfl,rfl⟩;refine UT ?_;intros;have k8:(brs++[(brs[((brs.length:Int) - 1).toNat]!.1+1+r,w)]).length=brs.length+1:=by simp
  refine⟨(k,brs++[(brs[((brs.length:Int) - 1).toNat]!.1+1+r,w)],c6,g0,i9),⟨?_,by dsimp only;omega⟩,by dsimp only;omega,by rw[show(((k,brs++[(brs[((brs.length:Int) - 1).toNat]!.1+1+r,w)],c6,g0,i9).1:Nat):Int)=((k+1:Nat):Int) - 1 by dsimp only;omega];exact an,by exact ah⟩;rw[h7] at g1 g2 ⊢;exact hB.add ab ab ab
 rintro⟨xl,xad,xc,i6⟩ hX;dsimp only at hX ⊢;have h4:=hX.len;refine UT ?_;intros;refine KX.d7 (ResOk.cell rfl aJ ResOk.nil) ?_ ⟨⟨a0,iad,ic,rs,rad,rc,a1,tad,tc,xl,xad,xc⟩,rfl,⟨?_,?_,⟨by dsimp only;omega,⟨by dsimp only;omega,rn.length,ab,c5⟩,by dsimp only;rw[show a0.length=N by omega];exact a4,⟨by dsimp only;omega,fun t ht=>⟨(hT.ok t ht).1.2,fun r hr=>((hT.ok t ht).2 r hr).2⟩⟩,by dsimp only;omega,fun t ht=>(hX.ok t ht).len.2⟩⟩,rfl⟩
 ·refine(Ent.at (A:=osl bN 2 tTx9 xad xc xl) Ent.freezeSl).trans ?_;refine(Ent.at (A:=isl be 7 iad a0) (Ent.refl _)).trans ?_;refine(Ent.at (A:=allP ruP rs) (Ent.at (A:=isl bj 9 rad rs) (Ent.e8 (bI bj 9 rad rs) (cG jp)))).trans ?_;refine(Ent.at (A:=allP tbP a1) (Ent.at (A:=isl bK 2 tad a1) (Ent.e8 (bI bK 2 tad a1) (cG jn)))).trans ?_;refine(Ent.at (A:=allP txP xl) (Ent.at (A:=isl bN 2 xad xl) (Ent.e8 (bI bN 2 xad xl) (cG ka)))).trans ?_;generalize hc:(⟨a0,iad,ic,rs,rad,rc,a1,tad,tc,xl,xad,xc⟩:CatV)=C;have e1:isl be 7 iad a0=catI C:=by rw[←hc];rfl
  have e2:andP (isl bj 9 rad rs) (allP ruP rs)=catR C:=by rw[←hc];rfl
  have e3:andP (isl bK 2 tad a1) (allP tbP a1)=catT C:=by rw[←hc];rfl
  have e4:andP (isl bN 2 xad xl) (allP txP xl)=catX C:=by rw[←hc];rfl
  rw[e1,e2,e3,e4];refine(Ent.swap.trans (Ent.e8 (kw C) (ku C))).trans ?_;refine(Ent.swap.trans (Ent.e8 (mX C) ((kw C).and (ku C)))).trans ?_;refine(Ent.swap.trans (Ent.e8 (sY C) ((mX C).and ((kw C).and (ku C))))).trans ?_;show Ent (catP C::_) _;exact ah
 ·have g3:a0.length=N:=ab;have j9:rs.length≤6:=ab;have eN:∀{α β:Type} (f:α→β) (g:β→ByteArray) (h:α→ByteArray) (l:List α),(∀x,g (f x)=h x)→(l.map f).map g=l.map h:=fun f g h l e=>by rw[eM];exact dm fun x _=>e x
  refine⟨by dsimp only[CatV.m];omega,by dsimp only[CatV.m];rw[aA];omega,by dsimp only[CatV.m];rw[aA];omega,by dsimp only[CatV.m];rw[aA];omega,?_,?_,?_,?_,?_,?_,?_,?_⟩
  ·intro x f4;exact⟨j5 _ (a7▸alStd0List_mem_map_of_mem f4),(b5 x f4).form,(b5 x f4).num⟩
  ·intro r hr;obtain⟨v,hv,rfl⟩:=List.mem_map.1 hr;show RuGood a0.length v.m;rw[g3];exact k4 v hv
  ·intro t ht;obtain⟨v,hv,rfl⟩:=List.mem_map.1 ht;show TbGood a0.length v.m;rw[g3];obtain⟨k,k1,k2,k3⟩:=hT.nm v hv;obtain⟨o1,o2⟩:=hT.ok v hv;refine⟨by show IsWord v.name;rw[k3];exact(sA ⟨ab,k2⟩).1,by show 0<(v.rows.map RwV.m).length∧(v.rows.map RwV.m).length≤64;rw[aA];omega,fun r hr=>?_⟩;obtain⟨w,hw,rfl⟩:=List.mem_map.1 (show r∈v.rows.map RwV.m from hr);exact(o2 w hw).1
  ·intro t ht;obtain⟨v,hv,rfl⟩:=List.mem_map.1 ht;obtain⟨k,k1,k2,k3⟩:=hX.nm v hv;have o:=hX.ok v hv;have ol:=o.len;exact⟨by show IsWord v.name;rw[k3];exact(sA ⟨ab,k2⟩).2,by show 0<v.brs.length∧v.brs.length≤16;omega,o.first,o.srt,fun b hb=>by have:=o.num b hb;omega⟩
  ·show(a0.map (·.name)).Nodup;rw[a7];exact j2
  ·show((rs.map RuV.m).map (·.name)).Nodup;rw[eN RuV.m (·.name) (·.name) rs (fun _=>rfl)];exact c8
  ·show((a1.map TbV.m).map (·.name)).Nodup;rw[eN TbV.m (·.name) (·.name) a1 (fun _=>rfl)];exact hT.nd
  ·show((xl.map TxV.m).map (·.name)).Nodup;rw[eN TxV.m (·.name) (·.name) xl (fun _=>rfl)];exact hX.nd
 ·refine⟨by dsimp only;omega,by dsimp only;omega,by dsimp only;omega,by dsimp only;omega,fun r hr=>?_,fun t ht=>?_,fun t ht=>?_⟩
  ·obtain⟨q1,q2,q3⟩:=(a4 r hr).len;change r.take.l.length≤3 at q1;change r.give.l.length≤3 at q2;change r.back.l.length≤3 at q3;unfold RuV.B;omega
  ·obtain⟨o1,o2⟩:=hT.ok t ht;refine⟨ab,fun r hr=>?_⟩;have:=(o2 r hr).2
   unfold RwV.B;omega
  ·have:=(hX.ok t ht).len
   unfold TxV.B;omega
