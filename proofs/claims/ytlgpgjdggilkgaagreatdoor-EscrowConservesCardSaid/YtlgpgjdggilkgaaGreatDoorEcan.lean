/- Lemmas. -/
import Derived.Test.YtlgpgjdggilkgaaGreatDoorEcam
import Derived.Lib.Mul64
set_option linter.all false
namespace Go.Proofs.YtlgpgjdggilkgaaGreatDoor
section
open Go.V
attribute [local irreducible] G GO GP GPW GPK Ev Ef EfR Ent CB GB Enters
structure Wk where
 stk:Int→Int→LL
 tot:Int→Int
 flows:List FlM
 sunk:List Int
def upd2{α:Type}(f:Int→Int→α)(a i:Int)(v:α):Int→Int→α:=fun a' i'=>if a' = a∧i' = i then v else f a' i'
def ew(W:Wk)(m:MvM):Int:=W.tot m.item+(if m.frm=0 then m.n else 0) - (if m.to=0 then m.n else 0)
def eU(sh:Int)(nf:Nat)(W:Wk):Int:=sh*4294967296+nf+W.flows.length
def jr(s:StM)(W:Wk)(m:MvM):List Int:=if m.frm=0∧(s.kind=4∨s.kind=10) then W.sunk else[]
structure WkF (x:LedX) (z:ChX) (W:Wk):Prop where
 stk:∀a i,(curS x z (a,i)).lots=W.stk a i
 tot:∀i,(glk z.tot i).getD ((glk x.tot i).getD 0)=W.tot i
 flows:z.flows.map FlV.m=W.flows
 sunk:z.sunk=W.sunk
structure Wk.Ok (nf:Nat) (W:Wk):Prop where
 stk:∀a i,(W.stk a i).length≤4096∧∀l∈W.stk a i,LotOk l
 tot:∀i,-(((nf:Int)+W.flows.length)*1099511627776)≤W.tot i∧W.tot i≤1099511627776
 sunk:W.sunk.length≤W.flows.length
def mc{L:LH}(ad:OA)(n c:Nat)(xs:List Int)[Rds L ad Int (encZ .i64) 1 xs](hn:n=xs.length)(hb:n≤1000000) :
  Tri Tryz.prog 115 #[ag ad n c] L (fun v L'=>∃a1 a0,v=ag a1 xs.length a0∧L' = osl (encZ .i64) 1 tInt a1 a0 xs::L):=by
 refine Tri.bd ?_;repeat' first|refine aa ?_|intro _|with_reducible refine CB.dec (fun _=>?_) (fun _=>?_)|with_reducible refine GB.dec (fun _=>?_) (fun _=>?_)|with_reducible refine CB.bool (fun _=>?_) (fun _=>?_)|with_reducible refine GB.bool (fun _=>?_) (fun _=>?_)
 ·have h:ad=none:=by assumption
  subst h;refine KX.f7 (.inl rfl) (mI (L:=L) (xs:=xs)) ?_;intro hx;subst hx;refine KX.a8 aA (Ent.c8 (encZ .i64) 1 tInt) ⟨_,_,rfl,rfl⟩
 ·refine GO.ent (Ent.f7 (enc:=encZ .i64) (sz:=1) (xs:=[]) rfl rfl cc cc) ?_;refine GO.ef (Ef.d7 rfl rfl rfl rfl hn (fun e _=>by simp[encZ,Value.oneCell']) gJ gJ) ae ?_;rintro _ _⟨a1,a0,rfl,rfl⟩;refine Ks ?_;intros;refine KX.a8 aA (Ent.refl _) ⟨a1,a0,rfl,rfl⟩
structure MvFit (x:LedX) (m:MvM):Prop where
 item:0≤m.item∧m.item<x.cat.items.length
 n:1≤m.n∧m.n≤1099511627776
 frm:accP m.frm
 to:accP m.to
 ne:m.frm≠m.to
 parts:m.parts.length=0
def HH(m:List (Int×Int))(k d:Int):((@List.lookup _ _ instBEqOfDecidableEq k m).map encN).getD (ac d)=ac ((glk m k).getD d):=by
 unfold glk;cases @List.lookup _ _ instBEqOfDecidableEq k m<;>rfl
abbrev flV(f:FlM)(pad:OA)(pcap:Nat)(mad:OA)(mcap:Nat):FlV:=⟨f,pad,pcap,mad,mcap⟩
def StM.at(s:StM)(id:Int):StM:={ s with id:=id }
def StV.at(s:StV)(id:Int):StV:={ s with id:=id }
def wk0(S:LedM):Wk:=⟨S.stk,S.tot,[],[]⟩
structure StIn (s:StV):Prop where
 kind:JK s.kind
 len:s.moves.length≤1000000
 cap:s.moves.length≤s.mcap
 rule:I64 s.rule
 parts:∀m∈s.moves,m.m.parts.length≤1000000
def cV(S:LedM):Int:=S.shard*4294967296+(S.steps.length:Int)
def fJ(c:CatM)(i:Int):Bool:=c.items[i.toNat]!.mixed
section plain
variable {κ α:Type}[DecidableEq κ]
def so(p:κ×α)(l:List (κ×α))(k:κ):glk (p::l) k=if k=p.1 then some p.2 else glk l k:=by
 obtain⟨q,a⟩:=p;unfold glk;rw[cx];by_cases h:k=q
 ·subst h;simp
 ·have hb:(k == q)=false:=by simpa using h
  simp only[hb,if_neg h]
def ij(m:List (κ×α))(k q:κ)(a:α):glk (gins m k a) q=if q=k then some a else glk m q:=ja
def Hk(m:List (κ×α))(k q:κ):glk (gera m k) q=if q=k then none else glk m q:=AF
def ym{l:List (κ×α)}{k:κ}(h:k∉l.map (·.1)):glk l k=none:=by
 induction l with
 | nil=>rfl
 | cons p l ih =>
  simp only[aF,dJ,not_or] at h;rw[so,if_neg h.1,ih h.2]
def si{l l' : List (κ×α)}(hp:l.Perm l')(hn:(l'.map (·.1)).Nodup)(k:κ):glk l k=glk l' k:=by
 have a0:(l.map (·.1)).Nodup:=(hp.map _).nodup_iff.2 hn;cases h:glk l k with
 | some a=>exact(jW hn (hp.mem_iff.1 (cu h))).symm
 | none =>
  cases h2:glk l' k with
  | none=>rfl
  | some a =>
   have h3:glk l k=some a:=jW a0 (hp.mem_iff.2 (cu h2));rw[h] at h3;cases h3
def ir(m n:List (κ×α)):List (κ×α):=n.foldl (fun m p=>gins m p.1 p.2) m
def nU(k:κ):∀(n m:List (κ×α)),(n.map (·.1)).Nodup→glk (ir m n) k=(glk n k).or (glk m k)
 | [],m,_=>rfl
 | p::n,m,hn=>by
  simp only[aF,fm] at hn;have ih:=nU k n (gins m p.1 p.2) hn.2;have e:ir m (p::n)=ir (gins m p.1 p.2) n:=rfl;rw[e,ih,so,ij];by_cases h:k=p.1
  ·rw[if_pos h,if_pos h,ym (h▸hn.1)];rfl
  ·rw[if_neg h,if_neg h]
end plain
def putS(m:List ((Int×Int)×Stk))(p:(Int×Int)×Stk):List ((Int×Int)×Stk):=if p.2.lots.length=0 then gera m p.1 else gins m p.1 p.2
def iL(m n:List ((Int×Int)×Stk)):List ((Int×Int)×Stk):=n.foldl putS m
def tc(m:List ((Int×Int)×Stk))(p:(Int×Int)×Stk)(k:Int×Int):(gI (putS m p) k).lots=if k=p.1 then p.2.lots else(gI m k).lots:=by
 unfold gI putS;by_cases h0:p.2.lots.length=0
 ·rw[if_pos h0,Hk];by_cases h:k=p.1
  ·rw[if_pos h,if_pos h,aZ h0];rfl
  ·rw[if_neg h,if_neg h]
 ·rw[if_neg h0,ij];by_cases h:k=p.1
  ·rw[if_pos h,if_pos h];rfl
  ·rw[if_neg h,if_neg h]
def pO(k:Int×Int):∀(n m:List ((Int×Int)×Stk)),(n.map (·.1)).Nodup→(gI (iL m n) k).lots=((glk n k).getD (gI m k)).lots
 | [],m,_=>rfl
 | p::n,m,hn=>by
  simp only[aF,fm] at hn;have ih:=pO k n (putS m p) hn.2;have e:iL m (p::n)=iL (putS m p) n:=rfl;rw[e,ih,so];by_cases h:k=p.1
  ·rw[if_pos h,ym (h▸hn.1)];have h2:=tc m p k;rw[if_pos h] at h2;exact h2
  ·rw[if_neg h];cases glk n k with
   | some s=>rfl
   | none =>
    have h2:=tc m p k;rw[if_neg h] at h2;exact h2
def GJ{m:List ((Int×Int)×Stk)}{p q:(Int×Int)×Stk}(h:q∈putS m p):q∈m∨(q=p∧p.2.lots≠[]):=by
 unfold putS at h;split at h
 ·exact .inl (List.mem_filter.1 h).1
 ·rename_i h0;rcases List.mem_cons.1 (sq q h) with h1|h1
  ·exact .inr ⟨h1,fun h=>h0 (by rw[h];rfl)⟩
  ·exact .inl h1
def oK{q:(Int×Int)×Stk}:∀{n m:List ((Int×Int)×Stk)},q∈iL m n→q∈m∨(q∈n∧q.2.lots≠[])
 | [],m,h=>.inl h
 | p::n,m,h=>by
  rcases oK (n:=n) (m:=putS m p) h with h1|h1
  ·rcases GJ h1 with h2|h2
   ·exact .inl h2
   ·exact .inr ⟨by rw[h2.1];exact av ..,by rw[h2.1];exact h2.2⟩
  ·exact .inr ⟨au _ h1.1,h1.2⟩
def Ec(d s:Nat)(m n:List (Int×Int)) :
  Tri Tryz.prog 77 #[.map (some d),.map (some s)] [gmap kvI encN d m,gmap kvI encN s n] (fun _ L'=>∃m',(∀k,glk m' k=(glk n k).or (glk m k))∧L' = [gmap kvI encN d m']):=by
 refine Tri.bd ?_;refine G.ent Ent.swap ?_;refine G.c9 (fi (b:=s) (kv:=kvI) (enc:=encN) (m:=n)) ?_;intro hn;refine Ks ?_;intros;refine GO.ef (Ef.j7 rfl) ae ?_;rintro _ _⟨r,rfl,rfl⟩;refine Ks ?_;intros;refine G.loop (α:=List (Int×Int)) (fun z=>z.length≤n.length) (fun z=>[(0,.map (some d)),(7,ax r)]) (fun z=>[gE kvI encN s n r z,gmap kvI encN d (ir m z)]) (fun z=>n.length - z.length) [] (aw _) aC (Ent.refl _) ?_;intro z hz;refine Ks ?_;intros;refine GO.ef (Ef.k7 rfl) ae ?_;rintro _ _ (⟨rfl,rfl,hp⟩|⟨p,rfl,rfl,a0,a1,hl⟩)
 ·refine Ks ?_;intros;refine KX.c8 aA Ent.drop ⟨ir m z,fun k=>?_,rfl⟩;rw[nU k z m ((hp.map _).nodup_iff.2 hn),si hp hn]
 refine Ks ?_;intros;refine GO.ev (Ev.j9 (done:=z) rfl rfl) ae ?_;refine Ks ?_;intros;refine GO.efu (Ef.c9 (enc:=encN) (e:=p.2) rfl rfl rfl rfl) ?_;rintro _ _ rfl;refine Ks ?_;intros;refine⟨z++[p],by simp;omega,by simp;omega,aC,?_⟩;rw[show ir m (z++[p])=gins (ir m z) p.1 p.2 by simp[ir]];exact ah
end
section
open Go.V
attribute [local irreducible] G GO GP GPW GPK Ev Ef EfR Ent CB GB Enters
open Classical in
def IC{o p:Option Int}{d:Int}:(o.or p).getD d=o.getD (p.getD d):=by cases o<;>rfl
end
section
open Go.V
attribute [local irreducible] G GO GP GPW GPK Ev Ef EfR Ent CB GB Enters
def CatV.a8{c c' : CatV}(h:c'.m=c.m)(hB:c.B):c'.B:=by
 obtain⟨b1,b2,b3,b4,b5,b6,b7⟩:=hB;have h1:c'.items=c.items:=congrArg CatM.items h;have h2:c'.rules.map RuV.m=c.rules.map RuV.m:=congrArg CatM.rules h;have h3:c'.tables.map TbV.m=c.tables.map TbV.m:=congrArg CatM.tables h;have h4:c'.taxes.map TxV.m=c.taxes.map TxV.m:=congrArg CatM.taxes h;have l2:c'.rules.length=c.rules.length:=by simpa using congrArg List.length h2
 have l3:c'.tables.length=c.tables.length:=by simpa using congrArg List.length h3
 have l4:c'.taxes.length=c.taxes.length:=by simpa using congrArg List.length h4
 refine⟨by rw[h1];exact b1,ab,ab,ab,?_,?_,?_⟩
 ·intro r hr;have hm:r.m∈c.rules.map RuV.m:=by rw[←h2];exact alStd0List_mem_map_of_mem hr
  obtain⟨q,hq,a0⟩:=List.mem_map.1 hm;obtain⟨q1,q2,q3⟩:=b5 q hq;have t1:q.take.l=r.take.l:=congrArg RuM.take a0;have t2:q.give.l=r.give.l:=congrArg RuM.give a0;have t3:q.back.l=r.back.l:=congrArg RuM.back a0;exact⟨by rw[←t1];exact q1,by rw[←t2];exact q2,by rw[←t3];exact q3⟩
 ·intro r hr;have hm:r.m∈c.tables.map TbV.m:=by rw[←h3];exact alStd0List_mem_map_of_mem hr
  obtain⟨q,hq,a0⟩:=List.mem_map.1 hm;obtain⟨q1,q2⟩:=b6 q hq;have t1:q.rows.map RwV.m=r.rows.map RwV.m:=congrArg TbM.rows a0;have t2:q.rows.length=r.rows.length:=by simpa using congrArg List.length t1
  refine⟨by rw[←t2];exact q1,?_⟩;intro w hw;have a1:w.m∈q.rows.map RwV.m:=by rw[t1];exact alStd0List_mem_map_of_mem hw
  obtain⟨y,hy,a2⟩:=List.mem_map.1 a1;have t4:y.give.l=w.give.l:=congrArg RwM.give a2;have:=q2 y hy
  unfold RwV.B at this ⊢;rw[←t4];exact this
 ·intro r hr;have hm:r.m∈c.taxes.map TxV.m:=by rw[←h4];exact alStd0List_mem_map_of_mem hr
  obtain⟨q,hq,a0⟩:=List.mem_map.1 hm;have q1:=b7 q hq;have t1:q.brs=r.brs:=congrArg TxM.brs a0;unfold TxV.B at q1 ⊢;rw[←t1];exact q1
end
section
def Hf{u v y1 y0 B:Nat}(hv:v<B)(hy:0<y1)(h0:0<B):(u*B+v) / (y1*B+y0)≤u / y1:=by
 rw[Nat.le_div_iff_mul_le hy];have hd:(u*B+v) / (y1*B+y0)*(y1*B+y0)≤u*B+v:=Nat.div_mul_le_self _ _;generalize (u*B+v) / (y1*B+y0)=q at *;have h1:q*y1*B≤q*(y1*B+y0):=by rw[Nat.mul_add,Nat.mul_assoc];exact Nat.le_add_right _ _
 have h2:q*y1*B<(u+1)*B:=by rw[Nat.add_mul];omega
 have h3:=Nat.lt_of_mul_lt_mul_right h2;omega
def BD{u v y1 y0 B q r:Nat}(hr:u=q*y1+r)(h:q*y0≤B*r+v):q*(y1*B+y0)≤u*B+v:=by
 subst hr;rw[Nat.mul_add,Nat.add_mul,←Nat.mul_assoc,Nat.mul_comm r B];omega
def IL{u v y1 y0 B q r:Nat}(hr:u=q*y1+r)(h:B*r+v<q*y0)(hy:0<y1*B+y0):(u*B+v) / (y1*B+y0)<q:=by
 rw[Nat.div_lt_iff_lt_mul hy];subst hr;rw[Nat.mul_add,Nat.add_mul,←Nat.mul_assoc,Nat.mul_comm r B];omega
def rY{u v y B:Nat}(hu:u<y)(hv:v<B)(hy:0<y):(u*B+v) / y<B:=by
 rw[Nat.div_lt_iff_lt_mul hy];have h1:(u+1)*B≤y*B:=Nat.mul_le_mul_right _ hu;rw[Nat.add_mul] at h1;rw[Nat.mul_comm B y];omega
def Hg{u v y1 y0 B q r:Nat}(hr:u=q*y1+r)(hB:B≤r)(hq:q≤B)(hy:y0<B):q*(y1*B+y0)≤u*B+v:=by
 refine BD hr ?_;have h1:q*y0≤B*y0:=Nat.mul_le_mul_right _ hq;have h2:B*y0≤B*r:=Nat.mul_le_mul_left _ (by omega);omega
def HS{n y q:Nat}(hy:0<y)(h1:n / y≤q)(h2:q*y≤n):q=n / y:=by
 have h3:q≤n / y:=(Nat.le_div_iff_mul_le hy).2 h2;omega
end
section
open Go.V
def oJ(l:LL):∀i,i≤l.length→(List.range i).foldl (fun s k=>s+l[k]!.2.2) 0=lsum (l.take i):=by
 intro i;induction i with
 | zero=>intro _;simp[lsum]
 | succ i ih =>
  intro hi;rw[fP,cF,ih ab,ig l ab];rfl
def lv(l:LL):lsum (l.take l.length)=lsum l:=by rw[aD (aq _)]
def rk{f g:Nat→Int}:∀(n:Nat),(∀k,k<n→f k=g k)→(List.range n).foldl (fun s k=>s+f k) 0=(List.range n).foldl (fun s k=>s+g k) (0:Int):=by
 intro n;induction n with
 | zero=>intro _;rfl
 | succ n ih =>
  intro h;rw[fP,cF,cF,ih (fun k hk=>h k ab)];simp[h n ab]
def ky{l:LL}(h:∀x∈l,LotOk x){k:Nat}(hk:k<l.length):0<lsum l:=by
 have h1:=mJ h k ab;have h2:=ig l hk;have h3:=h _ (aV hk);unfold LotOk at h3
 have h4:∀j,k+1≤j→j≤l.length→lsum (l.take (k+1))≤lsum (l.take j):=by
  intro j;induction j with
  | zero=>intro h;omega
  | succ j ih =>
   intro hj a0;rcases fc k j with h5|h5
   ·have h6:=ih ab ab;have h7:=ig l (ab:j<l.length);have h8:=h _ (aV (ab:j<l.length));unfold LotOk at h8;omega
   ·obtain rfl:j=k:=ab;exact bq _
 have h5:=h4 l.length ab (aq _);rw[lv] at h5;omega
def EC{l:LL}{n:Int}(hl:∀x∈l,LotOk x)(h0:0≤n)(h1:n≤lsum l)(k:Nat)(hk:k<l.length):0≤shC l n k∧shC l n k≤l[k]!.2.2:=by
 have hs:=ky hl hk;have hw:=hl _ (aV hk);unfold LotOk at hw;have a4:0≤shQ l n k:=je (Int.mul_nonneg h0 ab) ab;unfold shC;rcases Int.lt_or_le n (lsum l) with a2|a3
 ·have a5:shQ l n k<l[k]!.2.2:=by
   unfold shQ;refine Int.ediv_lt_of_lt_mul hs ?_;rw[Int.mul_comm];exact Int.mul_lt_mul_of_pos_left a2 ab
  constructor
  ·split<;>omega
  ·split<;>omega
 ·have hn:n=lsum l:=ab
  have a1:∀j,shQ l n j=l[j]!.2.2:=by
   intro j;unfold shQ;rw[hn];exact Int.mul_ediv_cancel_left _ ab
  have a0:iS l n=0:=by
   unfold iS;rw[rk (g:=fun j=>l[j]!.2.2) l.length (fun j _=>a1 j),oJ l l.length (aq _),lv];omega
  rw[a0,a1 k];constructor
  ·split<;>omega
  ·rw[if_neg ab];omega
def wz(mixed:Bool)(l:LL)(n:Int)(hl:∀x∈l,LotOk x)(h0:0≤n)(h1:n≤lsum l)(k:Nat)(hk:k<l.length):0≤tkC mixed l n k∧tkC mixed l n k≤l[k]!.2.2:=by
 unfold tkC;split
 ·exact EC hl h0 h1 k hk
 ·exact qx h0 (fun x h=>(hl x h).w) k hk
def rkLt(R:Nat→Int)(i j:Nat):Prop:=R j<R i∨(R i=R j∧i<j)
def lG(R:Nat→Int)(n k:Nat):Nat:=((List.range n).filter (fun j=>decide (R k<R j∨(R j=R k∧j<k)))).length
def GA(l:LL)(n:Int)(k:Nat):HJ l n k=lG (shR l n) l.length k:=rfl
def od{R:Nat→Int}{n:Nat}{o:List Nat}(hp:o.Perm (List.range n))(hs:o.Pairwise (rkLt R)){p:Nat}(h:p<o.length):lG R n o[p]=p:=by
 unfold lG;rw[←(hp.filter _).length_eq];have a0:=List.pairwise_iff_getElem.1 hs
 have e:o=o.take p++o[p]::o.drop (p+1):=by
  conv=>lhs;rw[←cK p o,bV h]
 have h1:(o.take p).filter (fun j=>decide (R o[p]<R j∨(R j=R o[p]∧j<o[p])))=o.take p:=by
  rw[List.filter_eq_self];intro x hx;obtain⟨i,hi,rfl⟩:=List.mem_iff_getElem.1 hx;rw[aK] at hi;rw[List.getElem_take];have:=a0 i p ab h ab
  simpa [rkLt] using this
 have h2:(o.drop (p+1)).filter (fun j=>decide (R o[p]<R j∨(R j=R o[p]∧j<o[p])))=[]:=by
  rw[List.filter_eq_nil_iff];intro x hx;obtain⟨i,hi,rfl⟩:=List.mem_iff_getElem.1 hx;rw[bY] at hi;rw[fu];have:=a0 p (p+1+i) h ab ab
  unfold rkLt at this;simp only[decide_eq_true_eq];omega
 have h3:(o.filter (fun j=>decide (R o[p]<R j∨(R j=R o[p]∧j<o[p])))).length=((o.take p++o[p]::o.drop (p+1)).filter (fun j=>decide (R o[p]<R j∨(R j=R o[p]∧j<o[p])))).length:=by rw[←e]
 rw[h3,cI,h1,dD cc,h2];simp;omega
def EG(R:Nat→Int)(n:Nat):∃o:List Nat,o.Perm (List.range n)∧o.Pairwise (rkLt R):=by
 refine⟨(List.range n).mergeSort (fun i j=>decide (R j<R i∨(R i=R j∧i≤j))),List.mergeSort_perm _ _,?_⟩;have hp:=List.mergeSort_perm (List.range n) (fun i j=>decide (R j<R i∨(R i=R j∧i≤j)));have a1:=hp.nodup_iff.2 List.nodup_range;have hs:=List.pairwise_mergeSort (le:=fun i j=>decide (R j<R i∨(R i=R j∧i≤j))) (by intro a b c h1 h2;simp only[decide_eq_true_eq] at *;omega) (by intro a b;simp only[Bool.or_eq_true,decide_eq_true_eq];omega) (List.range n);rw[List.pairwise_iff_getElem] at hs ⊢;intro i j hi hj a0;have h1:=hs i j hi hj a0;have h2:=(List.pairwise_iff_getElem.1 a1) i j hi hj a0;simp only[decide_eq_true_eq] at h1;unfold rkLt;omega
def wW{R:Nat→Int}{n:Nat}{o:List Nat}(hp:o.Perm (List.range n))(hs:o.Pairwise (fun a b=>¬(R a<R b∨(R a=R b∧b<a)))):o.Pairwise (rkLt R):=by
 have a1:=hp.nodup_iff.2 List.nodup_range;rw[List.pairwise_iff_getElem] at hs ⊢;intro i j hi hj a0;have h1:=hs i j hi hj a0;have h2:=(List.pairwise_iff_getElem.1 a1) i j hi hj a0;unfold rkLt;omega
def lF{R:Nat→Int}{n:Nat}{o:List Nat}(hp:o.Perm (List.range n))(hs:o.Pairwise (rkLt R)){k m:Nat}(hk:k<n):k∈o.take m↔lG R n k<m:=by
 have hm:k∈o:=hp.mem_iff.2 (List.mem_range.2 hk);have a0:=hp.nodup_iff.2 List.nodup_range;obtain⟨p,a1,rfl⟩:=List.mem_iff_getElem.1 hm;rw[od hp hs a1];constructor
 ·intro h;obtain⟨i,hi,he⟩:=List.mem_iff_getElem.1 h;rw[aK] at hi;rw[List.getElem_take] at he;have:=(fh a0).1 he
  omega
 ·intro h;refine List.mem_iff_getElem.2 ⟨p,by rw[aK];omega,?_⟩;rw[List.getElem_take]
def Jt{R:Nat→Int}{n i j:Nat}(hi:i<n)(hj:j<n)(h:lG R n i=lG R n j):i=j:=by
 obtain⟨o,hp,hs⟩:=EG R n;have a0:i∈o:=hp.mem_iff.2 (List.mem_range.2 hi);have a1:j∈o:=hp.mem_iff.2 (List.mem_range.2 hj);obtain⟨p,a2,rfl⟩:=List.mem_iff_getElem.1 a0;obtain⟨q,a3,rfl⟩:=List.mem_iff_getElem.1 a1;rw[od hp hs a2,od hp hs a3] at h;subst h;rfl
def fx(n:Nat)(f:Nat→Int):Int:=(List.range n).foldl (fun s k=>s+f k) 0
def oA(f:Nat→Int):fx 0 f=0:=rfl
def gH(n:Nat)(f:Nat→Int):fx (n+1) f=fx n f+f n:=by
 unfold fx;rw[fP,cF];rfl
def zp{n:Nat}{f g:Nat→Int}(h:∀k,k<n→f k=g k):fx n f=fx n g:=by
 induction n with
 | zero=>rfl
 | succ n ih=>rw[gH,gH,ih (fun k hk=>h k ab),h n ab]
def Ey(n:Nat)(f g:Nat→Int):fx n (fun k=>f k+g k)=fx n f+fx n g:=by
 induction n with
 | zero=>rfl
 | succ n ih=>rw[gH,gH,gH,ih];omega
def uX(n:Nat)(c:Int)(f:Nat→Int):fx n (fun k=>c*f k)=c*fx n f:=by
 induction n with
 | zero=>simp[oA]
 | succ n ih=>rw[gH,gH,ih,Int.mul_add]
def oB{n:Nat}{f g:Nat→Int}(h:∀k,k<n→f k≤g k):fx n f≤fx n g:=by
 induction n with
 | zero=>exact bq _
 | succ n ih=>rw[gH,gH];have:=ih (fun k hk=>h k ab);have:=h n ab;omega
def rn(n:Nat)(c:Int):fx n (fun _=>c)=n*c:=by
 induction n with
 | zero=>simp[oA]
 | succ n ih=>rw[gH,ih,Int.natCast_succ,Int.add_mul,Int.one_mul]
def Dz(l:LL):lsum l=fx l.length (fun k=>l[k]!.2.2):=by
 unfold fx;rw[oJ l l.length (aq _),lv]
def vc(l:LL)(n:Int):iS l n=n - fx l.length (shQ l n):=rfl
def EA{l:LL}{n:Int}(hl:∀x∈l,LotOk x)(h0:l≠[]):0≤iS l n∧iS l n<l.length:=by
 have a0:0<l.length:=List.length_pos_iff.2 h0;have hs:=ky hl a0
 have h1:fx l.length (fun k=>lsum l*shQ l n k+shR l n k)=fx l.length (fun k=>n*l[k]!.2.2) :=
  zp (fun k _=>by unfold shQ shR;exact Int.mul_ediv_add_emod _ _)
 rw[Ey,uX,uX,←Dz] at h1
 have h2:fx l.length (shR l n)≤fx l.length (fun _=>lsum l - 1):=oB (fun k _=>by
  have:=dC (n*l[k]!.2.2) hs
  unfold shR;omega)
 have h3:fx l.length (fun _=>(0:Int))≤fx l.length (shR l n):=oB (fun k _=>ed _ ab);rw[rn] at h2 h3
 have h4:lsum l*iS l n=fx l.length (shR l n):=by
  rw[vc,Int.mul_sub];rw[Int.mul_comm (lsum l) n];omega
 have h5:0≤lsum l*iS l n:=by rw[h4];omega
 have h6:lsum l*iS l n<lsum l*l.length:=by
  rw[h4]
  have:(l.length:Int)*(lsum l - 1)<lsum l*l.length:=by
   rw[Int.mul_sub,Int.mul_one,Int.mul_comm];omega
  omega
 exact⟨Int.nonneg_of_mul_nonneg_right h5 hs,Int.lt_of_mul_lt_mul_left h6 ab⟩
def gG(a b:LL):lsum (a++b)=lsum a+lsum b:=by
 have h:∀(l:LL) (s:Int),l.foldl (fun s x=>s+x.2.2) s=s+l.foldl (fun s x=>s+x.2.2) 0:=by
  intro l;induction l with
  | nil=>intro s;simp
  | cons x l ih=>intro s;simp only[eO];rw[ih,ih (0+x.2.2)];omega
 unfold lsum;rw[cF,h]
def fI(x:Lot):lsum [x]=x.2.2:=by simp[lsum]
def DA(l:LL)(x:Lot):lsum (bN l x)=lsum l+x.2.2:=by
 unfold bN;split
 ·omega
 ·split
  ·rename_i h;obtain⟨h1,_⟩:=h
   have e:l=l.take (l.length - 1)++[l[l.length - 1]!]:=by
    conv=>lhs;rw[←cK (l.length - 1) l,bV ab,bQ ab]
    rw[getElem!_of ab]
   have e2:l.set (l.length - 1) (l[l.length - 1]!.1,l[l.length - 1]!.2.1,l[l.length - 1]!.2.2+x.2.2)=l.take (l.length - 1)++[(l[l.length - 1]!.1,l[l.length - 1]!.2.1,l[l.length - 1]!.2.2+x.2.2)]:=by
    rw[List.set_eq_take_append_cons_drop,if_pos ab,bQ ab]
   have e3:lsum l=lsum (l.take (l.length - 1))+l[l.length - 1]!.2.2:=by
    conv=>lhs;rw[e]
    rw[gG,fI]
   rw[e2,gG,fI,e3];dsimp only;omega
  ·rw[gG,fI]
end
end Go.Proofs.YtlgpgjdggilkgaaGreatDoor
namespace Go.V
def G.atB{P:Program}{N:Nat}{env:Env}{L:LH}{K:Post}(id:Nat){c y:Code}(h:G P N (.seq (.block id c) y) env L K):G P N (.seq (.block id c) y) env L K:=h
section
variable {P:Program}{env:Env}{L:LH}{ty:TypeId}{t yt:TypeId}{x y:Operand}{a b:Nat}
def Ev.q9(hx:evE env x=some (.int .u64 (a:Int)))(hy:evE env y=some (.int .u64 (b:Int))):Ev P L env (.binOp .add t x y yt) ty (.int .u64 (((a+b) % 18446744073709551616:Nat):Int)):=by
 have h:=Ev.A4 (P:=P) (L:=L) (ty:=ty) (t:=t) (yt:=yt) hx hy;rw[IntKind.wrap_u64,show((a:Int)+(b:Int)) % 18446744073709551616=(((a+b) % 18446744073709551616:Nat):Int) by omega] at h;exact h
def Ev.j0(hs:a+b<18446744073709551616)(hx:evE env x=some (.int .u64 (a:Int)))(hy:evE env y=some (.int .u64 (b:Int))):Ev P L env (.binOp .add t x y yt) ty (.int .u64 ((a+b:Nat):Int)):=by
 have h:=Ev.q9 (P:=P) (L:=L) (ty:=ty) (t:=t) (yt:=yt) hx hy;rw[ez hs] at h;exact h
def Ev.p9(hx:evE env x=some (.int .u64 (a:Int)))(hy:evE env y=some (.int .u64 (b:Int)))(hb:b≤18446744073709551616):Ev P L env (.binOp .sub t x y yt) ty (.int .u64 (((a+18446744073709551616 - b) % 18446744073709551616:Nat):Int)):=by
 have h:=Ev.A1 (P:=P) (L:=L) (ty:=ty) (t:=t) (yt:=yt) hx hy;rw[IntKind.wrap_u64,show((a:Int) - (b:Int)) % 18446744073709551616=(((a+18446744073709551616 - b) % 18446744073709551616:Nat):Int) by omega] at h;exact h
def Ev.j7(hs:b≤a)(ha:a<18446744073709551616)(hx:evE env x=some (.int .u64 (a:Int)))(hy:evE env y=some (.int .u64 (b:Int))):Ev P L env (.binOp .sub t x y yt) ty (.int .u64 ((a - b:Nat):Int)):=by
 have h:=Ev.p9 (P:=P) (L:=L) (ty:=ty) (t:=t) (yt:=yt) hx hy ab;rw[show(a+18446744073709551616 - b) % 18446744073709551616=a - b by omega] at h;exact h
def Ev.l5(hx:evE env x=some (.int .u64 (a:Int)))(hy:evE env y=some (.int .u64 (b:Int))):Ev P L env (.binOp .mul t x y yt) ty (.int .u64 ((a*b % 18446744073709551616:Nat):Int)):=by
 have h:=Ev.A2 (P:=P) (L:=L) (ty:=ty) (t:=t) (yt:=yt) hx hy;have e:((a:Int)*(b:Int)) % 18446744073709551616=((a*b % 18446744073709551616:Nat):Int):=by simp
 rw[IntKind.wrap_u64,e] at h;exact h
def Ev.g8(hs:a*b<18446744073709551616)(hx:evE env x=some (.int .u64 (a:Int)))(hy:evE env y=some (.int .u64 (b:Int))):Ev P L env (.binOp .mul t x y yt) ty (.int .u64 ((a*b:Nat):Int)):=by
 have h:=Ev.l5 (P:=P) (L:=L) (ty:=ty) (t:=t) (yt:=yt) hx hy;rw[ez hs] at h;exact h
def Ev.q8(hx:evE env x=some (.int .u64 (a:Int)))(hy:evE env y=some (.int .u64 (b:Int)))(ha:a<18446744073709551616)(hb:0<b):Ev P L env (.binOp .quo t x y yt) ty (.int .u64 ((a / b:Nat):Int)):=by
 have h:=Ev.A0 (P:=P) (L:=L) (ty:=ty) (t:=t) (yt:=yt) hx hy ab ab ab;rw[show((a:Int) / (b:Int))=((a / b:Nat):Int) from(Int.natCast_ediv a b).symm] at h;exact h
def Ev.m6(hx:evE env x=some (.int .u64 (a:Int)))(hy:evE env y=some (.int .u64 4294967295))(ha:a<18446744073709551616):Ev P L env (.binOp .and t x y yt) ty (.int .u64 ((a % 4294967296:Nat):Int)):=by
 have h:=Ev.w8 (P:=P) (L:=L) (ty:=ty) (t:=t) (yt:=yt) hx hy ab ab ab ab
 have e:((a:Int).toNat &&& (4294967295:Int).toNat)=a % 4294967296:=by
  rw[aY,show(4294967295:Int).toNat=2 ^ 32 - 1 by decide,Nat.and_two_pow_sub_one_eq_mod]
 rw[e] at h;exact h
def Ev.m5{k:IntKind}{c:Int}(n:Nat)(hn:c=n)(a0:n≤64)(hx:evE env x=some (.int .u64 (a:Int)))(hy:evE env y=some (.int k c)):Ev P L env (.binOp .shr t x y yt) ty (.int .u64 ((a / 2 ^ n:Nat):Int)):=by
 have h:=Ev.shr (P:=P) (L:=L) (ty:=ty) (t:=t) (yt:=yt) hx hy ab
 have e:((a:Nat):Int).fdiv (2 ^ min c.toNat IntKind.u64.bits)=((a / 2 ^ n:Nat):Int):=by
  have e2:min c.toNat IntKind.u64.bits=n:=by simp[IntKind.bits];omega
  rw[e2,dG _ (Int.le_of_lt (Int.pow_pos ae))];simp
 rw[e] at h;exact h
def Ev.j8(hx:evE env x=some (.int .u64 (a:Int)))(hy:evE env y=some (.int .u64 32)):Ev P L env (.binOp .shr t x y yt) ty (.int .u64 ((a / 4294967296:Nat):Int)):=by
 have h:=Ev.m5 (P:=P) (L:=L) (ty:=ty) (t:=t) (yt:=yt) 32 rfl ae hx hy;rw[show(2:Nat) ^ 32=4294967296 by decide] at h;exact h
def Ev.q7{k:IntKind}{c:Int}(n:Nat)(hn:c=n)(a0:n≤64)(hx:evE env x=some (.int .u64 (a:Int)))(hy:evE env y=some (.int k c)):Ev P L env (.binOp .shl t x y yt) ty (.int .u64 ((a*2 ^ n % 18446744073709551616:Nat):Int)):=by
 have h:=Ev.shl (P:=P) (L:=L) (ty:=ty) (t:=t) (yt:=yt) hx hy ab
 have e:IntKind.u64.wrap ((a:Int)*2 ^ min c.toNat IntKind.u64.bits)=((a*2 ^ n % 18446744073709551616:Nat):Int):=by
  have e2:min c.toNat IntKind.u64.bits=n:=by simp[IntKind.bits];omega
  rw[e2,IntKind.wrap_u64];simp
 rw[e] at h;exact h
def Ev.orN(hx:evE env x=some (.int .u64 (a:Int)))(hy:evE env y=some (.int .u64 (b:Int)))(ha:a<18446744073709551616)(hb:b<18446744073709551616):Ev P L env (.binOp .or t x y yt) ty (.int .u64 ((a ||| b:Nat):Int)):=by
 have h:=Ev.x7 (P:=P) (L:=L) (ty:=ty) (t:=t) (yt:=yt) hx hy ab ab ab ab;rw[aY,aY] at h;exact h
end
end Go.V
namespace Go.Proofs.YtlgpgjdggilkgaaGreatDoor
open Go.V
attribute [local irreducible] G GO GP GPW GPK Ev Ef EfR Ent CB GB Enters
def Dw{L:LH}(x y:Nat)(hx:x<18446744073709551616)(hy:y<18446744073709551616) :
  Tri Tryz.prog 328 #[.int .u64 (x:Int),.int .u64 (y:Int)] L (rtQ (.tuple #[.int .u64 ((x*y / 18446744073709551616:Nat):Int),.int .u64 ((x*y % 18446744073709551616:Nat):Int)]) L):=by
 obtain⟨m1,m2,m3,m4⟩:=Go.Lib.mul64_hi x y hx hy;refine Tri.bd ?_;refine Ks ?_;intros;refine GO.ev (Ev.m6 rfl rfl hx) ae ?_;refine Ks ?_;intros;refine GO.ev (Ev.j8 rfl rfl) ae ?_;refine Ks ?_;intros;refine GO.ev (Ev.m6 rfl rfl hy) ae ?_;refine Ks ?_;intros;refine GO.ev (Ev.j8 rfl rfl) ae ?_;have a0:=Go.Lib.half_mul_le (a:=x / 4294967296) (b:=y / 4294967296) ab ab;have a1:=Go.Lib.half_mul_le (a:=x / 4294967296) (b:=y % 4294967296) ab ab;have a2:=Go.Lib.half_mul_le (a:=x % 4294967296) (b:=y / 4294967296) ab ab;refine Ks ?_;intros;refine GO.ev (Ev.g8 m1 rfl rfl) ae ?_;refine Ks ?_;intros;refine GO.ev (Ev.g8 ab rfl rfl) ae ?_;refine Ks ?_;intros;refine GO.ev (Ev.j8 rfl rfl) ae ?_;refine GO.ev (Ev.j0 m2 rfl rfl) ae ?_;refine Ks ?_;intros;refine GO.ev (Ev.m6 rfl rfl m2) ae ?_;refine Ks ?_;intros;refine GO.ev (Ev.j8 rfl rfl) ae ?_;refine Ks ?_;intros;refine GO.ev (Ev.g8 ab rfl rfl) ae ?_;refine GO.ev (Ev.j0 m3 rfl rfl) ae ?_;refine Ks ?_;intros;refine GO.ev (Ev.g8 ab rfl rfl) ae ?_;refine Ks ?_;intros;refine GO.ev (Ev.j0 ab rfl rfl) ae ?_;refine Ks ?_;intros;refine GO.ev (Ev.j8 rfl rfl) ae ?_;refine GO.ev (Ev.j0 ab rfl rfl) ae ?_;rw[m4];refine Ks ?_;intros;refine GO.ev (Ev.l5 rfl rfl) ae ?_;refine Ks ?_;intros;exact KX.en ⟨rfl,rfl⟩
