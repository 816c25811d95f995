/- A part of the proof of TopSoundsDescribed (texts Zl Zm Zn Yq Zo): an executor of the program's code, proved sound, and its runs. No condition. -/
import Derived.Test.YtdflipbphcmpoaaGreatDoorP19
import Derived.Defers
import Derived.Recover
set_option linter.unusedSimpArgs false
set_option linter.unusedVariables false
set_option maxRecDepth 100000
namespace Go.Sx
theorem numCells_len {l:List Nat}:(numCells l).length=l.length:=by simp [numCells]
theorem numCells_pure {l:List Nat}:Pures (numCells l):=fun v hv=>by
 simp only [numCells,List.mem_map] at hv
 obtain ⟨k,_,rfl⟩:=hv
 trivial
theorem loop115 {l:List Nat} {p:AV} {c:Nat} {M:Mem} (hp:isS 1 l.length (numCells l) p) (hl:l.length < 1000000):∀ (r:List Nat) (j:Nat),l.drop j=r→j≤l.length →
  (c∈r→∃ x:Nat,ev ES (.c (.loop L115_0) [(0,p),(1,.int .i64 (c:Int)),(7,.int .i64 (l.length:Int)),(8,.int .i64 (j:Int))] M)=some (.code .ret [(4,.int .i64 (x:Int))] M)) ∧
  (c ∉ r→ev ES (.c (.loop L115_0) [(0,p),(1,.int .i64 (c:Int)),(7,.int .i64 (l.length:Int)),(8,.int .i64 (j:Int))] M)=some (.code (.exit 0) [(0,p),(1,.int .i64 (c:Int)),(7,.int .i64 (l.length:Int)),(8,.int .i64 (l.length:Int)),(9,.bool false)] M)):=by
 intro r
 induction r with
 | nil=>
  intro j hr hj
  have hj:j=l.length:=by
   have:=congrArg List.length hr
   simp at this; omega
  subst hj
  refine ⟨fun h=>(nomatch h),fun _=>?_⟩
  rw [ev_loop]
  simp (maxSteps:=1000000) (disch:=omega) only [L115_0,EVa,EVb,oi,ou,wants,evx,evxs,evo,evparts,fillA,put,keepT,argTm,result,resAll,resOf,vO,boxF,binF,nilF,unF,lenF,callF,appF,mkIF,readsOf,boxAt,Nat.reduceEqDiff,reduceCtorEq,Nat.reduceBEq,Int.reduceToNat,Nat.reduceAdd,Nat.reduceLeDiff,Nat.reduceMul,Int.lt_irrefl]
 | cons x r ih=>
  intro j hr hj
  have hlt:j < l.length:=by
   have:=congrArg List.length hr
   simp at this; omega
  have hr':l.drop (j + 1)=r:=by rw [← List.drop_drop,hr]; rfl
  have hia:=fun M=>hp.ia (M:=M) hlt
  rw [Nat.mul_one,numCells,drop_map_cons hr] at hia
  have hw2:IntKind.i64.wrap ((j:Int) + 1)=((j + 1:Nat):Int):=by rw [wrap_i64] <;> omega
  by_cases hx:c=x
  ·subst hx
   refine ⟨fun _=>⟨j,?_⟩,fun h=>absurd (List.mem_cons_self ..) h⟩
   rw [ev_loop]
   simp (maxSteps:=1000000) (disch:=omega) only [L115_0,EVa,EVb,oi,ou,wants,evx,evxs,evo,evparts,fillA,put,keepT,argTm,result,resAll,resOf,vO,boxF,binF,nilF,unF,lenF,callF,appF,mkIF,readsOf,boxAt,Nat.reduceEqDiff,reduceCtorEq,Nat.reduceBEq,Int.reduceToNat,Nat.reduceAdd,Nat.reduceLeDiff,Nat.reduceMul,hia]
  ·have hne:¬ (c:Int)=(x:Int):=by omega
   have hstep:ev ES (.c L115_0 [(0,p),(1,.int .i64 (c:Int)),(7,.int .i64 (l.length:Int)),(8,.int .i64 (j:Int))] M)=some (.code .normal [(0,p),(1,.int .i64 (c:Int)),(7,.int .i64 (l.length:Int)),(8,.int .i64 ((j + 1:Nat):Int))] M):=by
    simp (maxSteps:=1000000) (disch:=omega) only [L115_0,EVa,EVb,oi,ou,wants,evx,evxs,evo,evparts,fillA,put,keepT,argTm,result,resAll,resOf,vO,boxF,binF,nilF,unF,lenF,callF,appF,mkIF,readsOf,boxAt,Nat.reduceEqDiff,reduceCtorEq,Nat.reduceBEq,Int.reduceToNat,Nat.reduceAdd,Nat.reduceLeDiff,Nat.reduceMul,hia,hne,hw2]
   obtain ⟨i1,i2⟩:=ih (j + 1) hr' (by omega)
   refine ⟨fun h=>?_,fun h=>?_⟩
   ·obtain ⟨y,hy⟩:=i1 ((List.mem_cons.1 h).resolve_left hx)
    exact ⟨y,by rw [ev_loop,hstep]; exact hy⟩
   ·rw [ev_loop,hstep]
    exact i2 fun h'=>h (List.mem_cons_of_mem _ h')
theorem two_args {p:AV} {n:Int} (hp:pureC p):∀ v∈[p,AV.int .i64 n],pureV v:=fun v hv=>by
 simp only [List.mem_cons,List.not_mem_nil,or_false] at hv
 rcases hv with rfl | rfl
 ·exact hp.V
 ·trivial
theorem ev70 {l:List Nat} {p:AV} {c:Nat} (hp:isS 1 l.length (numCells l) p) (hl:l.length < 1000000) (M:Mem):ev ES (.f false 70 [p,.int .i64 (c:Int)] M)=some (.fn (.bool (decide (c∈l))) M):=by
 have hpu:=two_args (n:=(c:Int)) hp.pure
 have hpl:=hp.len
 obtain ⟨i1,i2⟩:=loop115 (c:=c) (M:=.zero) hp hl l 0 rfl (Nat.zero_le _)
 simp only [Int.natCast_zero] at i1 i2
 rw [f70 (frzVs_pure hpu),b70 rfl]
 have h115:∃ x:Int,(0≤x ↔ c∈l)∧ev ES (.f false 115 [p,.int .i64 (c:Int)] .zero)=some (.fn (.int .i64 x) .zero):=by
  rw [f115 (frzVs_pure hpu),b115 rfl]
  by_cases h:c∈l
  ·obtain ⟨x,hx⟩:=i1 h
   refine ⟨(x:Int),⟨fun _=>h,fun _=>by omega⟩,?_⟩
   have hc:retF ES [.t 4] (ev ES (.c code115 (argTm 0 [p,.int .i64 (c:Int)]) .zero))=some (.fn (.int .i64 (x:Int)) .zero):=by
    simp (maxSteps:=1000000) (disch:=omega) only [code115,EVa,EVb,oi,ou,wants,evx,evxs,evo,evparts,fillA,put,keepT,argTm,result,resAll,resOf,vO,boxF,binF,nilF,unF,lenF,callF,appF,mkIF,readsOf,boxAt,Nat.reduceEqDiff,reduceCtorEq,Nat.reduceBEq,Int.reduceToNat,Nat.reduceAdd,Nat.reduceLeDiff,Nat.reduceMul,hpl,hx]
   rw [hc]
   exact own_done hpu (adopt_frz rfl (by simp))
  ·have hx:=i2 h
   refine ⟨-1,⟨fun h'=>absurd h' (by omega),fun h'=>absurd h' h⟩,?_⟩
   have hc:retF ES [.t 4] (ev ES (.c code115 (argTm 0 [p,.int .i64 (c:Int)]) .zero))=some (.fn (.int .i64 (-1)) .zero):=by
    simp (maxSteps:=1000000) (disch:=omega) only [code115,EVa,EVb,oi,ou,wants,evx,evxs,evo,evparts,fillA,put,keepT,argTm,result,resAll,resOf,vO,boxF,binF,nilF,unF,lenF,callF,appF,mkIF,readsOf,boxAt,Nat.reduceEqDiff,reduceCtorEq,Nat.reduceBEq,Int.reduceToNat,Nat.reduceAdd,Nat.reduceLeDiff,Nat.reduceMul,hpl,hx]
   rw [hc]
   exact own_done hpu (adopt_frz rfl (by simp))
 obtain ⟨x,hx,h115⟩:=h115
 have hc:retF ES [.t 4] (ev ES (.c code70 (argTm 0 [p,.int .i64 (c:Int)]) .zero))=some (.fn (.bool (decide (c∈l))) .zero):=by
  have hdx:decide (0≤x)=decide (c∈l):=by
   by_cases h:c∈l
   ·rw [decide_eq_true (hx.2 h),decide_eq_true h]
   ·rw [decide_eq_false (fun h'=>h (hx.1 h')),decide_eq_false h]
  simp (maxSteps:=1000000) only [code70,EVa,EVb,oi,ou,wants,evx,evxs,evo,evparts,fillA,put,keepT,argTm,result,resAll,resOf,vO,boxF,binF,nilF,unF,lenF,callF,appF,mkIF,readsOf,boxAt,Nat.reduceEqDiff,reduceCtorEq,Nat.reduceBEq,Int.reduceToNat,Nat.reduceAdd,Nat.reduceLeDiff,Nat.reduceMul,h115,hdx,ge_iff_le]
 rw [hc]
 exact own_done hpu (adopt_frz rfl (by simp))
def FirstsAt (fs:AV) (F:Nat→List Nat) (n:Nat):Prop:=∀ k,k < n→(F k).length < 1000000∧∃ v rest,(∀ M,iaF M 1 fs k=some (.val (.cp (v :: rest)) M))∧isS 1 (F k).length (numCells (F k)) v
theorem ev69 {fm fs:AV} {F:Nat→List Nat} {n k c b n0 p9 i:Nat} {d:List Nat} {M:Mem} (hF:FirstsAt fs F n) (hk:k < n) (g0:M.get n0=some (.cells [.ptr b 0])) (gb:M.get b=some (.cells (rdC fm fs d i))) (g9:M.get p9=some (.cells [.int .i64 (c:Int)])) :
  ev ES (.f false 69 [.int .i64 (k:Int),.ptr n0 0,.ptr p9 0] M)=some (.fn (.bool (decide (c∈F k))) M):=by
 obtain ⟨hl,v,rest,hia,hv⟩:=hF k hk
 have h70:=ev70 (c:=c) hv hl
 rw [f69,b69 rfl]
 simp only [rdC] at gb
 simp (maxSteps:=1000000) (disch:=omega) only [code69,EVa,EVb,oi,ou,wants,evx,evxs,evo,evparts,fillA,put,keepT,argTm,result,resAll,resOf,vO,boxF,binF,nilF,unF,lenF,callF,appF,mkIF,readsOf,boxAt,Nat.reduceEqDiff,reduceCtorEq,Nat.reduceBEq,Int.reduceToNat,Nat.reduceAdd,Nat.reduceLeDiff,Nat.reduceMul,g0,gb,g9,hia,h70]
theorem loop68 {fm fs:AV} {F:Nat→List Nat} {n c b n0 p9 i:Nat} {d:List Nat} {M:Mem} {KS:List Nat} {p:AV} (hF:FirstsAt fs F n) (hK:∀ k∈KS,k < n) (hp:isS 1 KS.length (numCells KS) p) (hl:KS.length < 1000) (g0:M.get n0=some (.cells [.ptr b 0])) (gb:M.get b=some (.cells (rdC fm fs d i))) (g9:M.get p9=some (.cells [.int .i64 (c:Int)])):∀ (r:List Nat) (j x:Nat),KS.drop j=r→(∃ k,r[x]?=some k∧c∈F k)→(∀ y k,y < x→r[y]?=some k→c ∉ F k) →
  ev ES (.c (.loop L68_0) [(0,p),(1,.fn 69 [] [.ptr n0 0,.ptr p9 0]),(7,.int .i64 (KS.length:Int)),(8,.int .i64 (j:Int))] M)=some (.code .ret [(4,.int .i64 ((j + x:Nat):Int))] M):=by
 intro r
 induction r with
 | nil=>
  intro j x hr hx hy
  obtain ⟨k,h,_⟩:=hx
  cases h
 | cons q r ih=>
  intro j x hr hx hy
  have hlt:j < KS.length:=by
   have:=congrArg List.length hr
   simp at this; omega
  have hr':KS.drop (j + 1)=r:=by rw [← List.drop_drop,hr]; rfl
  have hia:=fun M=>hp.ia (M:=M) hlt
  rw [Nat.mul_one,numCells,drop_map_cons hr] at hia
  have hw2:IntKind.i64.wrap ((j:Int) + 1)=((j + 1:Nat):Int):=by rw [wrap_i64] <;> omega
  have hqm:q∈KS:=List.mem_of_mem_drop (i:=j) (by rw [hr]; exact List.mem_cons_self ..)
  have h69:=ev69 hF (hK q hqm) g0 gb g9
  cases x with
  | zero=>
   obtain ⟨k,hk,hc⟩:=hx
   simp only [List.getElem?_cons_zero,Option.some.injEq] at hk
   subst hk
   rw [decide_eq_true hc] at h69
   rw [ev_loop]
   simp (maxSteps:=1000000) (disch:=omega) only [L68_0,EVa,EVb,oi,ou,wants,evx,evxs,evo,evparts,fillA,put,keepT,argTm,result,resAll,resOf,vO,boxF,binF,nilF,unF,lenF,callF,appF,mkIF,readsOf,boxAt,Nat.reduceEqDiff,reduceCtorEq,Nat.reduceBEq,Int.reduceToNat,Nat.reduceAdd,Nat.reduceLeDiff,Nat.reduceMul,hia,h69]
  | succ x=>
   have hc:=hy 0 q (Nat.succ_pos _) rfl
   rw [decide_eq_false hc] at h69
   have hstep:ev ES (.c L68_0 [(0,p),(1,.fn 69 [] [.ptr n0 0,.ptr p9 0]),(7,.int .i64 (KS.length:Int)),(8,.int .i64 (j:Int))] M)=some (.code .normal [(0,p),(1,.fn 69 [] [.ptr n0 0,.ptr p9 0]),(7,.int .i64 (KS.length:Int)),(8,.int .i64 ((j + 1:Nat):Int))] M):=by
    simp (maxSteps:=1000000) (disch:=omega) only [L68_0,EVa,EVb,oi,ou,wants,evx,evxs,evo,evparts,fillA,put,keepT,argTm,result,resAll,resOf,vO,boxF,binF,nilF,unF,lenF,callF,appF,mkIF,readsOf,boxAt,Nat.reduceEqDiff,reduceCtorEq,Nat.reduceBEq,Int.reduceToNat,Nat.reduceAdd,Nat.reduceLeDiff,Nat.reduceMul,hia,h69,hw2]
   rw [ev_loop,hstep]
   show ev ES (.c (.loop L68_0) _ _)=_
   rw [ih (j + 1) x hr' (by simpa using hx) (fun y k hlt h=>hy (y + 1) k (by omega) (by simpa using h)),show j + 1 + x=j + (x + 1) by omega]
theorem ev68 {fm fs:AV} {F:Nat→List Nat} {n c b n0 p9 i x:Nat} {d:List Nat} {M:Mem} {KS:List Nat} {p:AV} (hF:FirstsAt fs F n) (hK:∀ k∈KS,k < n) (hp:isS 1 KS.length (numCells KS) p) (hl:KS.length < 1000) (g0:M.get n0=some (.cells [.ptr b 0])) (gb:M.get b=some (.cells (rdC fm fs d i))) (g9:M.get p9=some (.cells [.int .i64 (c:Int)])) (hx:∃ k,KS[x]?=some k∧c∈F k) (hy:∀ y k,y < x→KS[y]?=some k→c ∉ F k) :
  ev ES (.f false 68 [p,.fn 69 [] [.ptr n0 0,.ptr p9 0]] M)=some (.fn (.int .i64 (x:Int)) M):=by
 have h:=loop68 hF hK hp hl g0 gb g9 KS 0 x rfl hx hy
 rw [Nat.zero_add] at h
 simp only [Int.natCast_zero] at h
 have hpl:=hp.len
 rw [f68,b68 rfl]
 simp (maxSteps:=1000000) (disch:=omega) only [code68,EVa,EVb,oi,ou,wants,evx,evxs,evo,evparts,fillA,put,keepT,argTm,result,resAll,resOf,vO,boxF,binF,nilF,unF,lenF,callF,appF,mkIF,readsOf,boxAt,Nat.reduceEqDiff,reduceCtorEq,Nat.reduceBEq,Int.reduceToNat,Nat.reduceAdd,Nat.reduceLeDiff,Nat.reduceMul,hpl,h]
theorem purL0_append {a b a' b':List AV} (ha:purL0 a=some a') (hb:purL0 b=some b'):purL0 (a ++ b)=some (a' ++ b'):=by
 induction a generalizing a' with
 | nil=>cases ha; exact hb
 | cons x r ih=>
  simp only [purL0,Option.bind_eq_some_iff,Option.map_eq_some_iff] at ha
  obtain ⟨y,hy,r',hr,rfl⟩:=ha
  simp only [List.cons_append,purL0,hy,Option.bind_some,ih hr,Option.map_some]
def chR (nm ps:AV):List AV:=[nm,.int .i64 8,.nils,.int .i64 0,.bool false,.int .i64 0,.int .i64 0,.int .i64 0,.int .i64 0,.int .i64 0,.nils,ps]
theorem rd_choice {fm fs psv:AV} {F:Nat→List Nat} {n c i i' k k' x:Nat} {d s:List Nat} {KS:List Nat} {V:Val} (hr:RuleAt fm k (chR (.str s) psv)) (hd:d.length < 1000000) (hdb:Bytes d) (hF:FirstsAt fs F n) (hK:∀ k∈KS,k < n) (hp:isS 1 KS.length (numCells KS) psv) (hl:KS.length < 1000) (hc:d[i]?=some c) (hx:KS[x]?=some k') (hcx:c∈F k') (hy:∀ y k,y < x→KS[y]?=some k→c ∉ F k) (hR:Reads fm fs d k' i V i'):Reads fm fs d k i (.lst [.num x,V]) i':=by
 refine reads_of hr fun b M M1 hh=>?_
 have hbn:=hh.hb
 have hnb:=hh.nb
 have eb:=hh.gb
 have e0:=hh.g0
 have e2:=hh.g2
 have hcb:c < 256:=hdb c (List.mem_of_getElem? hc)
 have h67:=ev67 (ad:=false) eb hc hd
 have go:∀ j,j < M1.nb→((M1.new (.cells [.int .i64 0])).set M1.nb (.cells [.int .i64 (c:Int)])).get j=M1.get j:=fun j hj=>gns_lt hj
 have g9:((M1.new (.cells [.int .i64 0])).set M1.nb (.cells [.int .i64 (c:Int)])).get M1.nb=some (.cells [.int .i64 (c:Int)]):=gns_self
 have gnb:((M1.new (.cells [.int .i64 0])).set M1.nb (.cells [.int .i64 (c:Int)])).nb=M1.nb + 1:=rfl
 have hf2:Fr b M ((M1.new (.cells [.int .i64 0])).set M1.nb (.cells [.int .i64 (c:Int)])):=(hh.fr.new).set (.inr (by omega))
 have q0:((M1.new (.cells [.int .i64 0])).set M1.nb (.cells [.int .i64 (c:Int)])).get M.nb=some (.cells [.ptr b 0]):=by rw [go _ (by omega)]; exact e0
 have qb:((M1.new (.cells [.int .i64 0])).set M1.nb (.cells [.int .i64 (c:Int)])).get b=some (.cells (rdC fm fs d i)):=by rw [go _ (by omega)]; exact eb
 have q1:((M1.new (.cells [.int .i64 0])).set M1.nb (.cells [.int .i64 (c:Int)])).get (M.nb + 1)=some (.cells Z5v):=by rw [go _ (by omega)]; exact hh.g1
 have q2:((M1.new (.cells [.int .i64 0])).set M1.nb (.cells [.int .i64 (c:Int)])).get (M.nb + 2)=some (.cells (chR (.str s) psv)):=by rw [go _ (by omega)]; exact e2
 have q9:(M1.new (.cells [.int .i64 0])).get (M.nb + 3)=some (.cells [.int .i64 0]):=by rw [← hnb]; exact gn_self
 generalize hM2:(M1.new (.cells [.int .i64 0])).set M1.nb (.cells [.int .i64 (c:Int)])=M2 at *
 have h68:=ev68 hF hK hp hl q0 qb g9 ⟨k',hx,hcx⟩ hy
 have h62:=fun M=>ev62 (n:=(x:Int)) (M:=M)
 obtain ⟨cc,M3,e23,hvp,gb',fr'⟩:=hR b M2 (by omega) qb
 obtain ⟨c',hc1,hc2,hc3,hc4,hc5,hc6,hc7⟩:=hvp.two
 have hlt:x < KS.length:=(List.getElem?_eq_some_iff.1 hx).1
 have hia:=fun M=>hp.ia (M:=M) hlt
 have hxd:KS.drop x=k' :: KS.drop (x + 1):=by
  rw [← List.getElem_cons_drop hlt]
  congr 1
  exact (List.getElem?_eq_some_iff.1 hx).2
 rw [Nat.mul_one,numCells,drop_map_cons hxd] at hia
 have qp:purL0 ([.int .i64 1,.int .i64 (x:Int),.nils,.nils,.nils] ++ cc)=some ([.int .i64 1,.int .i64 (x:Int),.nils,.nils,.nils] ++ c'):=purL0_append rfl hc1
 simp only [List.cons_append,List.nil_append] at qp
 have h61:=fun M=>ev61 (M:=M) (p:=.sl 1 0 2 ([.int .i64 1,.int .i64 (x:Int),.nils,.nils,.nils] ++ c')) rfl (⟨.inr rfl,rfl⟩:pureC (.sl 1 0 2 ([.int .i64 1,.int .i64 (x:Int),.nils,.nils,.nils] ++ c')))
 simp only [List.cons_append,List.nil_append] at h61
 have g5:M3.get (M.nb + 1)=some (.cells Z5v):=by rw [fr'.get (by omega) (by omega)]; exact q1
 refine ⟨[.int .i64 3,.int .i64 0,.nils,.nils,.sl 1 0 2 ([.int .i64 1,.int .i64 (x:Int),.nils,.nils,.nils] ++ c')],M3.set (M.nb + 1) (.cells [.int .i64 3,.int .i64 0,.nils,.nils,.sl 1 0 2 ([.int .i64 1,.int .i64 (x:Int),.nils,.nils,.nils] ++ c')]),?_,gs_self g5,VC.vp ?_,by rw [gs_ne (by omega)]; exact gb',(hf2.trans fr').set (.inr (by omega))⟩
 ·have hw:IntKind.i64.wrap (c:Int)=(c:Int):=by rw [wrap_i64] <;> omega
  rw [hnb] at hM2 h68
  simp only [chR,Z5v] at e2 g5 q2 ⊢
  simp (maxSteps:=1000000) (disch:=omega) only [T23_2,tm23,EVa,EVb,oi,ou,wants,evx,evxs,evo,evparts,fillA,put,keepT,argTm,result,resAll,resOf,vO,boxF,binF,nilF,unF,lenF,callF,appF,mkIF,readsOf,boxAt,Nat.reduceEqDiff,reduceCtorEq,Nat.reduceBEq,Int.reduceToNat,Nat.reduceAdd,Nat.reduceLeDiff,Nat.reduceMul,e0,e2,h67,hw,hnb,q9,hM2,q0,q2,h68,h62,hia,e23,hc5,hc6,qp,h61,g5,cells_sl,oneA_sl,Int.reduceEq]
 ·simp only [VC]
  refine ⟨.nils,.nils,_,[.int .i64 1,.int .i64 (x:Int),.nils,.nils,.nils] ++ c',rfl,isS_nils,isS_nils,⟨by rw [List.length_append,hc4]; rfl,.inr ⟨1,.inr rfl,rfl⟩⟩,?_⟩
  simp only [VCs,VC]
  exact ⟨[.int .i64 1,.int .i64 (x:Int),.nils,.nils,.nils],c',rfl,⟨.nils,.nils,.nils,rfl,isS_nils,isS_nils,isS_nils⟩,c',[],by simp,hc2,rfl⟩
end Go.Sx
namespace Go.Sx
def sFm:AV:=.sl 0 0 17 sndCells
theorem sFm_is:isS 12 17 sndCells sFm:=⟨by kernel_rfl,.inr ⟨0,.inl rfl,rfl⟩⟩
def sNm:Nat→List Nat
 | 0=>[102,105,108,101] | 1=>[109,97,103,105,99] | 2=>[108,105,115,116] | 3=>[99,104,117,110,107] | 4=>[102,111,114,109]
 | 5=>[102,111,114,109,104,101,97,100] | 6=>[115,97,109,112,108,101,115] | 7=>[115,97,109,112,108,101,104,101,97,100] | 8=>[108,111,119] | 9=>[109,105,100,100,108,101]
 | 10=>[104,105,103,104] | 11=>[108,111,119,110,97,109,101] | 12=>[109,105,100,100,108,101,110,97,109,101] | 13=>[104,105,103,104,110,97,109,101] | 14=>[111,110,101] | 15=>[116,119,111] | _=>[98,108,111,98]
def litR (nm:AV) (by_:AV):List AV:=[nm,.int .i64 1,by_,.int .i64 0,.bool false,.int .i64 0,.int .i64 0,.int .i64 0,.int .i64 0,.int .i64 0,.nils,.nils]
def nData:List Nat:=[100,97,116,97]
def nName:List Nat:=[110,97,109,101]
def nRate:List Nat:=[114,97,116,101]
def nChan:List Nat:=[99,104,97,110,110,101,108,115]
def nCod:List Nat:=[99,111,100,105,110,103]
def nChunks:List Nat:=[99,104,117,110,107,115]
def slS (l:List (List Nat)):AV:=.sl 0 0 l.length (strCells l)
def slN (l:List Nat):AV:=.sl 0 0 l.length (numCells l)
theorem slS_is (l:List (List Nat)):isS 1 l.length (strCells l) (slS l):=⟨by simp [strCells],.inr ⟨0,.inl rfl,rfl⟩⟩
theorem slN_is (l:List Nat):isS 1 l.length (numCells l) (slN l):=⟨by simp [numCells],.inr ⟨0,.inl rfl,rfl⟩⟩
theorem rule_of {k:Nat} {ru:List AV} (hk:k < 17) (h:sndCells.drop (k * 12)=ru ++ sndCells.drop (k * 12 + 12)) (hl:ru.length=12) (ha:ru.all oneA=true):RuleAt sFm k ru:=⟨⟨17,sndCells,_,sFm_is,hk,h⟩,hl,ha⟩
theorem sR0:RuleAt sFm 0 (seqR (.str (sNm 0)) (slS [[],nChunks]) (slN [1,2])):=rule_of (by decide) (by kernel_rfl) rfl rfl
theorem sR1:RuleAt sFm 1 (litR (.str (sNm 1)) (bsl magicS)):=rule_of (by decide) (by kernel_rfl) rfl rfl
theorem sR2:RuleAt sFm 2 (repR (.str (sNm 2)) 0 3 (.sl 0 0 0 [])):=rule_of (by decide) (by kernel_rfl) rfl rfl
theorem sR3:RuleAt sFm 3 (chR (.str (sNm 3)) (slN [4,6,8,9,10])):=rule_of (by decide) (by kernel_rfl) rfl rfl
theorem sR4:RuleAt sFm 4 (seqR (.str (sNm 4)) (slS [[],nRate,nChan,nCod]) (slN [5,15,14,14])):=rule_of (by decide) (by kernel_rfl) rfl rfl
theorem sR5:RuleAt sFm 5 (litR (.str (sNm 5)) (bsl [70,0,4])):=rule_of (by decide) (by kernel_rfl) rfl rfl
theorem sR6:RuleAt sFm 6 (seqR (.str (sNm 6)) (slS [[],nData]) (slN [7,16])):=rule_of (by decide) (by kernel_rfl) rfl rfl
theorem sR7:RuleAt sFm 7 (litR (.str (sNm 7)) (bsl [68])):=rule_of (by decide) (by kernel_rfl) rfl rfl
theorem sR8:RuleAt sFm 8 (seqR (.str (sNm 8)) (slS [nName,nData]) (slN [11,16])):=rule_of (by decide) (by kernel_rfl) rfl rfl
theorem sR9:RuleAt sFm 9 (seqR (.str (sNm 9)) (slS [nName,nData]) (slN [12,16])):=rule_of (by decide) (by kernel_rfl) rfl rfl
theorem sR10:RuleAt sFm 10 (seqR (.str (sNm 10)) (slS [nName,nData]) (slN [13,16])):=rule_of (by decide) (by kernel_rfl) rfl rfl
theorem sR11:RuleAt sFm 11 (numR (.str (sNm 11)) 1 65 67):=rule_of (by decide) (by kernel_rfl) rfl rfl
theorem sR12:RuleAt sFm 12 (numR (.str (sNm 12)) 1 69 69):=rule_of (by decide) (by kernel_rfl) rfl rfl
theorem sR13:RuleAt sFm 13 (numR (.str (sNm 13)) 1 71 90):=rule_of (by decide) (by kernel_rfl) rfl rfl
theorem sR14:RuleAt sFm 14 (numR (.str (sNm 14)) 1 0 255):=rule_of (by decide) (by kernel_rfl) rfl rfl
theorem sR15:RuleAt sFm 15 (numR (.str (sNm 15)) 2 0 65535):=rule_of (by decide) (by kernel_rfl) rfl rfl
theorem sR16:RuleAt sFm 16 (blobR (.str (sNm 16)) 15 (.sl 0 0 0 [])):=rule_of (by decide) (by kernel_rfl) rfl rfl
def sF:Nat→List Nat
 | 0=>[83] | 1=>[83] | 2=>0 :: List.range' 65 26 | 3=>List.range' 65 26 | 4=>[70] | 5=>[70] | 6=>[68] | 7=>[68] | 8=>[65,66,67] | 9=>[69] | 10=>List.range' 71 20
 | 11=>[65,66,67] | 12=>[69] | 13=>List.range' 71 20 | _=>List.range' 0 256
theorem first_of {k:Nat} {rest:List AV} (hl:(sF k).length < 1000000) (h:∀ M,iaF M 1 sndFs k=some (.val (.cp (slN (sF k) :: rest)) M)):(sF k).length < 1000000∧∃ v rest,(∀ M,iaF M 1 sndFs k=some (.val (.cp (v :: rest)) M))∧isS 1 (sF k).length (numCells (sF k)) v:=⟨hl,_,rest,h,slN_is _⟩
theorem sndFirsts:FirstsAt sndFs sF 17:=fun k hk=>by
 have:k=0∨k=1∨k=2∨k=3∨k=4∨k=5∨k=6∨k=7∨k=8∨k=9∨k=10∨k=11∨k=12∨k=13∨k=14∨k=15∨k=16:=by omega
 rcases this with rfl | rfl | rfl | rfl | rfl | rfl | rfl | rfl | rfl | rfl | rfl | rfl | rfl | rfl | rfl | rfl | rfl
 ·exact first_of (rest:=[slN (sF 1),slN (sF 2),slN (sF 3),slN (sF 4),slN (sF 5),slN (sF 6),slN (sF 7),slN (sF 8),slN (sF 9),slN (sF 10),slN (sF 11),slN (sF 12),slN (sF 13),slN (sF 14),slN (sF 15),slN (sF 16)]) (by decide) (fun M=>by kernel_rfl)
 ·exact first_of (rest:=[slN (sF 2),slN (sF 3),slN (sF 4),slN (sF 5),slN (sF 6),slN (sF 7),slN (sF 8),slN (sF 9),slN (sF 10),slN (sF 11),slN (sF 12),slN (sF 13),slN (sF 14),slN (sF 15),slN (sF 16)]) (by decide) (fun M=>by kernel_rfl)
 ·exact first_of (rest:=[slN (sF 3),slN (sF 4),slN (sF 5),slN (sF 6),slN (sF 7),slN (sF 8),slN (sF 9),slN (sF 10),slN (sF 11),slN (sF 12),slN (sF 13),slN (sF 14),slN (sF 15),slN (sF 16)]) (by decide) (fun M=>by kernel_rfl)
 ·exact first_of (rest:=[slN (sF 4),slN (sF 5),slN (sF 6),slN (sF 7),slN (sF 8),slN (sF 9),slN (sF 10),slN (sF 11),slN (sF 12),slN (sF 13),slN (sF 14),slN (sF 15),slN (sF 16)]) (by decide) (fun M=>by kernel_rfl)
 ·exact first_of (rest:=[slN (sF 5),slN (sF 6),slN (sF 7),slN (sF 8),slN (sF 9),slN (sF 10),slN (sF 11),slN (sF 12),slN (sF 13),slN (sF 14),slN (sF 15),slN (sF 16)]) (by decide) (fun M=>by kernel_rfl)
 ·exact first_of (rest:=[slN (sF 6),slN (sF 7),slN (sF 8),slN (sF 9),slN (sF 10),slN (sF 11),slN (sF 12),slN (sF 13),slN (sF 14),slN (sF 15),slN (sF 16)]) (by decide) (fun M=>by kernel_rfl)
 ·exact first_of (rest:=[slN (sF 7),slN (sF 8),slN (sF 9),slN (sF 10),slN (sF 11),slN (sF 12),slN (sF 13),slN (sF 14),slN (sF 15),slN (sF 16)]) (by decide) (fun M=>by kernel_rfl)
 ·exact first_of (rest:=[slN (sF 8),slN (sF 9),slN (sF 10),slN (sF 11),slN (sF 12),slN (sF 13),slN (sF 14),slN (sF 15),slN (sF 16)]) (by decide) (fun M=>by kernel_rfl)
 ·exact first_of (rest:=[slN (sF 9),slN (sF 10),slN (sF 11),slN (sF 12),slN (sF 13),slN (sF 14),slN (sF 15),slN (sF 16)]) (by decide) (fun M=>by kernel_rfl)
 ·exact first_of (rest:=[slN (sF 10),slN (sF 11),slN (sF 12),slN (sF 13),slN (sF 14),slN (sF 15),slN (sF 16)]) (by decide) (fun M=>by kernel_rfl)
 ·exact first_of (rest:=[slN (sF 11),slN (sF 12),slN (sF 13),slN (sF 14),slN (sF 15),slN (sF 16)]) (by decide) (fun M=>by kernel_rfl)
 ·exact first_of (rest:=[slN (sF 12),slN (sF 13),slN (sF 14),slN (sF 15),slN (sF 16)]) (by decide) (fun M=>by kernel_rfl)
 ·exact first_of (rest:=[slN (sF 13),slN (sF 14),slN (sF 15),slN (sF 16)]) (by decide) (fun M=>by kernel_rfl)
 ·exact first_of (rest:=[slN (sF 14),slN (sF 15),slN (sF 16)]) (by decide) (fun M=>by kernel_rfl)
 ·exact first_of (rest:=[slN (sF 15),slN (sF 16)]) (by decide) (fun M=>by kernel_rfl)
 ·exact first_of (rest:=[slN (sF 16)]) (by decide) (fun M=>by kernel_rfl)
 ·exact first_of (rest:=[]) (by decide) (fun M=>by kernel_rfl)
def chunkV:Nat × List Nat→Val
 | (a,d)=>if a=70 then .lst [.num 0,.rcd [nRate,nChan,nCod] [.num (numB 0 (d.take 2)),.num (numB 0 ((d.drop 2).take 1)),.num (numB 0 ((d.drop 3).take 1))]]
  else if a=68 then .lst [.num 1,.rcd [nData] [.byt d]]
  else .lst [.num (if a≤67 then 2 else if a=69 then 3 else 4),.rcd [nName,nData] [.num a,.byt d]]
def sndV (cs:List (Nat × List Nat)):Val:=.rcd [nChunks] [.lst (cs.map chunkV)]
theorem nl_1:[nRate,nChan,nCod]∈nameLists:=by simp [nameLists,nRate,nChan,nCod]
theorem nl_2:[nData]∈nameLists:=by simp [nameLists,nData]
theorem nl_3:[nName,nData]∈nameLists:=by simp [nameLists,nData,nName]
theorem nl_4:[nChunks]∈nameLists:=by simp [nameLists,nChunks]
theorem Reads.cast {fm fs:AV} {d:List Nat} {k i j j':Nat} {V V':Val} (h:Reads fm fs d k i V j) (hv:V=V') (hj:j=j'):Reads fm fs d k i V' j':=by
 subst hv; subst hj; exact h
def FormOK (c:Nat × List Nat):Prop:=c.1=70→c.2.length=4
section
variable {d:List Nat}
theorem numB_one {b:Nat}:numB 0 [b]=b:=by simp [numB]
theorem numB_two {b c:Nat}:numB 0 [b,c]=b * 256 + c:=by simp [numB]
theorem rd_bl {i b c:Nat} {r:List Nat} (hl:Bytes d) (hd:d.length < 1000000) (h:d.drop i=b :: c :: r) (hn:b * 256 + c≤r.length):Reads sFm sndFs d 16 i (.byt (r.take (b * 256 + c))) (i + 2 + (b * 256 + c)):=by
 have hlen:d.length=i + 2 + r.length:=by
  have:=congrArg List.length h
  simp at this; omega
 have hbm:b∈d:=List.mem_of_mem_drop (i:=i) (by rw [h]; simp)
 have hcm:c∈d:=List.mem_of_mem_drop (i:=i) (by rw [h]; simp)
 have hb:=hl b hbm
 have hc:=hl c hcm
 have e:numB 0 ((d.drop i).take 2)=b * 256 + c:=by rw [h]; exact numB_two
 have h2:d.drop (i + 2)=r:=by rw [← List.drop_drop,h]; rfl
 have:=rd_blob (fs:=sndFs) sR16 sR15 hl (by omega) hd (i:=i) (n:=b * 256 + c) e.symm (by omega) (by omega) (by omega)
 rw [h2] at this
 exact this
theorem rd_byte {j x k:Nat} {rest s:List Nat} {mn mx:Nat} (hl:Bytes d) (hd:d.length < 1000000) (hj:d.drop j=x :: rest) (hr:RuleAt sFm k (numR (.str s) 1 mn mx)) (hm:mn≤x) (hx:x≤mx):Reads sFm sndFs d k j (.num x) (j + 1):=by
 have e:numB 0 ((d.drop j).take 1)=x:=by rw [hj]; exact numB_one
 have hlj:j + 1≤d.length:=by
  have:=congrArg List.length hj
  simp at this; omega
 have:=rd_num (fs:=sndFs) hr hl (by omega) hd (i:=j) hlj (by rw [e]; exact hm) (by rw [e]; exact hx)
 rw [e] at this
 exact this
theorem rd_ch {i a x k' i':Nat} {V:Val} (hl:Bytes d) (hd:d.length < 1000000) (hi:d[i]?=some a) (hx:[4,6,8,9,10][x]?=some k') (hc:a∈sF k') (hy:∀ y k,y < x→[4,6,8,9,10][y]?=some k→a ∉ sF k) (hR:Reads sFm sndFs d k' i V i'):Reads sFm sndFs d 3 i (.lst [.num x,V]) i':=
 rd_choice sR3 hd hl sndFirsts (by decide) (slN_is _) (by decide) hi hx hc hy hR
theorem rd_form {i p q u v:Nat} {r:List Nat} (hl:Bytes d) (hd:d.length < 1000000) (h:d.drop i=70 :: 0 :: 4 :: p :: q :: u :: v :: r):Reads sFm sndFs d 4 i (.rcd [nRate,nChan,nCod] [.num (numB 0 [p,q]),.num u,.num v]) (i + 7):=by
 have hlen:d.length=i + 7 + r.length:=by
  have:=congrArg List.length h
  simp at this; omega
 have hp:=hl p (List.mem_of_mem_drop (i:=i) (by rw [h]; simp))
 have hq:=hl q (List.mem_of_mem_drop (i:=i) (by rw [h]; simp))
 have hu:=hl u (List.mem_of_mem_drop (i:=i) (by rw [h]; simp))
 have hv:=hl v (List.mem_of_mem_drop (i:=i) (by rw [h]; simp))
 have d3:d.drop (i + 3)=p :: q :: u :: v :: r:=by rw [← List.drop_drop,h]; rfl
 have d5:d.drop (i + 5)=u :: v :: r:=by rw [← List.drop_drop,h]; rfl
 have d6:d.drop (i + 6)=v :: r:=by rw [← List.drop_drop,h]; rfl
 have l5:Reads sFm sndFs d 5 i (.lst []) (i + 3):=rd_lit (fs:=sndFs) (l:=[70,0,4]) sR5 isS_bsl (by intro x hx; simp at hx; omega) hd (by decide) (by rw [h]; rfl)
 have e15:numB 0 ((d.drop (i + 3)).take 2)=numB 0 [p,q]:=by rw [d3]; rfl
 have hb15:numB 0 [p,q]≤65535:=by rw [numB_two]; omega
 have l15:=rd_num (fs:=sndFs) sR15 hl (by decide) hd (i:=i + 3) (by omega) (Nat.zero_le _) (by rw [e15]; exact hb15)
 rw [e15] at l15
 have l14:=rd_byte hl hd d5 sR14 (Nat.zero_le _) (by omega)
 have l14':=rd_byte hl hd d6 sR14 (Nat.zero_le _) (by omega)
 have hS:RSeq sFm sndFs d [[],nRate,nChan,nCod] [5,15,14,14] i [nRate,nChan,nCod] [.num (numB 0 [p,q]),.num u,.num v] (i + 7):=
  .skip l5 (.keep (by decide) l15 (.keep (by decide) l14 (.keep (by decide) l14' .nil)))
 exact rd_seq sR4 (slS_is _) (slN_is _) (by decide) hS nl_1
theorem rd_oth {i a k kn i':Nat} {r l s s2:List Nat} {mn mx:Nat} (hl:Bytes d) (hd:d.length < 1000000) (h:d.drop i=a :: r) (hr:RuleAt sFm k (seqR (.str s) (slS [nName,nData]) (slN [kn,16]))) (hr2:RuleAt sFm kn (numR (.str s2) 1 mn mx)) (hm:mn≤a) (hx:a≤mx) (hbl:Reads sFm sndFs d 16 (i + 1) (.byt l) i'):Reads sFm sndFs d k i (.rcd [nName,nData] [.num a,.byt l]) i':=by
 have l1:=rd_byte hl hd h hr2 hm hx
 have hS:RSeq sFm sndFs d [nName,nData] [kn,16] i [nName,nData] [.num a,.byt l] i':=.keep (by decide) l1 (.keep (by decide) hbl .nil)
 exact rd_seq hr (slS_is _) (slN_is _) (by simp) hS nl_3
theorem rd_dat {i i':Nat} {r l:List Nat} (hl:Bytes d) (hd:d.length < 1000000) (h:d.drop i=68 :: r) (hbl:Reads sFm sndFs d 16 (i + 1) (.byt l) i'):Reads sFm sndFs d 6 i (.rcd [nData] [.byt l]) i':=by
 have l7:Reads sFm sndFs d 7 i (.lst []) (i + 1):=rd_lit (fs:=sndFs) (l:=[68]) sR7 isS_bsl (by intro x hx; simp at hx; omega) hd (by decide) (by rw [h]; rfl)
 have hS:RSeq sFm sndFs d [[],nData] [7,16] i [nData] [.byt l] i':=.skip l7 (.keep (by decide) hbl .nil)
 exact rd_seq sR6 (slS_is _) (slN_is _) (by decide) hS nl_2
theorem chunkV_oth {a:Nat} {l:List Nat} (h1:a≠70) (h2:a≠68):chunkV (a,l)=.lst [.num (if a≤67 then 2 else if a=69 then 3 else 4),.rcd [nName,nData] [.num a,.byt l]]:=by
 rw [chunkV,if_neg h1,if_neg h2]
theorem chunkV_dat {l:List Nat}:chunkV (68,l)=.lst [.num 1,.rcd [nData] [.byt l]]:=rfl
theorem chunkV_form {p q u v:Nat}:chunkV (70,[p,q,u,v])=.lst [.num 0,.rcd [nRate,nChan,nCod] [.num (numB 0 [p,q]),.num u,.num v]]:=by
 simp [chunkV,numB]
theorem rd_chunk {i a b c:Nat} {r:List Nat} (hl:Bytes d) (hd:d.length < 1000000) (h:d.drop i=a :: b :: c :: r) (hn:b * 256 + c≤r.length) (h1:65≤a) (h2:a≤90) (hf:FormOK (a,r.take (b * 256 + c))):Reads sFm sndFs d 3 i (chunkV (a,r.take (b * 256 + c))) (i + 3 + (b * 256 + c)):=by
 have hi:d[i]?=some a:=by
  have:=congrArg (·[0]?) h
  simpa using this
 have hdr1:d.drop (i + 1)=b :: c :: r:=by rw [← List.drop_drop,h]; rfl
 have hbl:Reads sFm sndFs d 16 (i + 1) (.byt (r.take (b * 256 + c))) (i + 3 + (b * 256 + c)):=(rd_bl hl hd hdr1 hn).cast rfl (by omega)
 by_cases ha:a=70
 ·subst ha
  have hl4:=hf rfl
  rw [List.length_take] at hl4
  have hn4:b * 256 + c=4:=by omega
  have hb0:b=0:=by omega
  have hc4:c=4:=by omega
  subst hb0; subst hc4
  match r,hn,h with
  | p :: q :: u :: v :: r',_,h=>exact (rd_ch (x:=0) hl hd hi rfl (by decide) (fun y k hy=>by omega) (rd_form hl hd h)).cast (chunkV_form (p:=p) (q:=q) (u:=u) (v:=v)).symm rfl
 ·by_cases ha2:a=68
  ·subst ha2
   refine (rd_ch (x:=1) hl hd hi rfl (by decide) (fun y k hy hk=>?_) (rd_dat hl hd h hbl)).cast chunkV_dat.symm rfl
   have:y=0:=by omega
   subst this
   cases hk
   decide
  ·rw [chunkV_oth ha ha2]
   by_cases h3:a≤67
   ·rw [if_pos h3]
    refine rd_ch (x:=2) hl hd hi rfl ?_ (fun y k hy hk=>?_) (rd_oth hl hd h sR8 sR11 h1 h3 hbl)
    ·simp only [sF,List.mem_cons,List.not_mem_nil,or_false]; omega
    ·have:y=0∨y=1:=by omega
     rcases this with rfl | rfl <;> (cases hk; simp only [sF,List.mem_cons,List.not_mem_nil,or_false]; omega)
   ·rw [if_neg h3]
    by_cases h4:a=69
    ·rw [if_pos h4]
     refine rd_ch (x:=3) hl hd hi rfl ?_ (fun y k hy hk=>?_) (rd_oth hl hd h sR9 sR12 (by omega) (by omega) hbl)
     ·subst h4; decide
     ·subst h4
      have:y=0∨y=1∨y=2:=by omega
      rcases this with rfl | rfl | rfl <;> (cases hk; decide)
    ·rw [if_neg h4]
     refine rd_ch (x:=4) hl hd hi rfl ?_ (fun y k hy hk=>?_) (rd_oth hl hd h sR10 sR13 (by omega) (by omega) hbl)
     ·simp only [sF,List.mem_range']; exact ⟨a - 71,by omega,by omega⟩
     ·have:y=0∨y=1∨y=2∨y=3:=by omega
      rcases this with rfl | rfl | rfl | rfl <;> (cases hk; simp only [sF,List.mem_cons,List.not_mem_nil,or_false]; omega)
theorem rd_chunks (hl:Bytes d) (hd:d.length < 1000000):∀ (k:Nat) (l:List Nat) (cs:List (Nat × List Nat)) (i:Nat),d.drop i=l→chunks k l=some cs→(∀ c∈cs,FormOK c)→∃ i',RRep sFm sndFs d 0 3 i (cs.map chunkV) i'∧i' + 1=d.length
 | 0,l,cs,i,_,h,_=>by cases h
 | k + 1,l,cs,i,hi,h,hf=>by
  simp only [chunks] at h
  split at h
  ·rename_i h0
   cases h
   subst h0
   refine ⟨i,.nil ?_,?_⟩
   ·have:=congrArg (·[0]?) hi
    simpa using this
   ·have:=congrArg List.length hi
    simp at this; omega
  ·split at h
   ·rename_i a b c r _
    split at h
    ·rename_i hab
     simp only [Option.map_eq_some_iff] at h
     obtain ⟨cs',h,rfl⟩:=h
     have h3:d.drop (i + 3)=r:=by rw [← List.drop_drop,hi]; rfl
     have hdr:d.drop (i + 3 + (b * 256 + c))=r.drop (b * 256 + c):=by rw [← h3,List.drop_drop]
     obtain ⟨i',hr,he⟩:=rd_chunks hl hd k _ cs' _ hdr h (fun x hx=>hf x (List.mem_cons_of_mem _ hx))
     refine ⟨i',?_,he⟩
     have hch:=rd_chunk hl hd hi hab.2.2 hab.1 hab.2.1 (hf _ (List.mem_cons_self ..))
     refine .cons (c:=a) ?_ (by omega) hch hr
     have:=congrArg (·[0]?) hi
     simpa using this
    ·cases h
   ·cases h
theorem rd_file (hl:Bytes d) (hd:d.length < 1000000) {cs:List (Nat × List Nat)} (h:fileChunks d=some cs) (hf:∀ c∈cs,FormOK c):Reads sFm sndFs d 0 0 (sndV cs) d.length:=by
 have hcl:=(fileChunks_ok hl h).2.1
 unfold fileChunks at h
 split at h
 ·rename_i hm
  obtain ⟨i',hr,he⟩:=rd_chunks hl hd _ _ cs 4 rfl h hf
  have l1:Reads sFm sndFs d 1 0 (.lst []) (0 + 4):=rd_lit (fs:=sndFs) (l:=magicS) sR1 isS_bsl (by intro x hx; simp [magicS] at hx; omega) hd (by decide) hm.2
  have l2:=rd_rep (fs:=sndFs) sR2 hd hl (by decide) hr (by omega) (by rw [List.length_map]; omega)
  have hS:RSeq sFm sndFs d [[],nChunks] [1,2] 0 [nChunks] [.lst (cs.map chunkV)] (i' + 1):=.skip l1 (.keep (by decide) l2 .nil)
  exact (rd_seq (fs:=sndFs) sR0 (slS_is _) (slN_is _) (by decide) hS nl_4).cast rfl he
 ·cases h
end
theorem rd_forms:∀ (cs:List (Nat × List Nat)) (i:Nat) (s s':RdSt),rd cs i s=some s'→∀ c∈cs,FormOK c
 | [],_,_,_,_=>fun c hc=>(nomatch hc)
 | (a,e) :: r,i,s,s',h=>by
  simp only [rd,Option.bind_eq_some_iff] at h
  obtain ⟨s1,h1,h2⟩:=h
  intro c hc
  rcases List.mem_cons.1 hc with rfl | hc
  ·intro ha
   simp only at ha
   simp only [rdStep,ha,if_true] at h1
   split at h1
   ·rfl
   ·cases h1
  ·exact rd_forms r _ _ _ h2 c hc
def chLen:List (Nat × List Nat)→Nat
 | []=>0
 | c :: r=>3 + c.2.length + chLen r
theorem chunks_len:∀ (k:Nat) (l:List Nat) (cs:List (Nat × List Nat)),chunks k l=some cs→l.length=1 + chLen cs
 | 0,l,cs,h=>by cases h
 | k + 1,l,cs,h=>by
  simp only [chunks] at h
  split at h
  ·rename_i h0; cases h; subst h0; rfl
  ·split at h
   ·rename_i a b c r _
    split at h
    ·rename_i hab
     simp only [Option.map_eq_some_iff] at h
     obtain ⟨cs',h,rfl⟩:=h
     have:=chunks_len k _ cs' h
     simp only [List.length_drop] at this
     simp only [List.length_cons,chLen,List.length_take]
     omega
    ·cases h
   ·cases h
theorem numB_lt1 {l:List Nat} (hl:Bytes l) (h:l.length≤1):numB 0 l < 256:=by
 match l,h with
 | [],_=>simp [numB]
 | [x],_=>rw [numB_one]; exact hl x (by simp)
theorem numB_lt2 {l:List Nat} (hl:Bytes l) (h:l.length≤2):numB 0 l < 65536:=by
 match l,h with
 | [],_=>simp [numB]
 | [x],_=>rw [numB_one]; have:=hl x (by simp); omega
 | [x,y],_=>rw [numB_two]; have:=hl x (by simp); have:=hl y (by simp); omega
theorem chunkV_ok {c:Nat × List Nat} (h1:c.1 < 256) (hb:Bytes c.2) (h2:c.2.length≤1000):(chunkV c).okN∧(chunkV c).size≤6∧(chunkV c).lev=3∧(chunkV c).elen≤37 + c.2.length:=by
 obtain ⟨a,e⟩:=c
 simp only at h1 hb h2 ⊢
 have n1:∀ {x:Nat},x < 64→nl (2 * x)=1:=fun h=>nl_kind h
 have n2:∀ {x:Nat},x < 8192→nl (2 * x)≤2:=fun h=>nl_le (f:=1) (by omega)
 have n3:∀ {x:Nat},x < 1000000→nl (2 * x)≤3:=fun h=>nl_le (f:=2) (by omega)
 by_cases ha:a=70
 ·have q1:=numB_lt2 (hb.take 2) (by rw [List.length_take]; omega)
  have q2:=numB_lt1 ((hb.drop 2).take 1) (by rw [List.length_take]; omega)
  have q3:=numB_lt1 ((hb.drop 3).take 1) (by rw [List.length_take]; omega)
  have m1:=n3 (x:=numB 0 (e.take 2)) (by omega)
  have m2:=n2 (x:=numB 0 ((e.drop 2).take 1)) (by omega)
  have m3:=n2 (x:=numB 0 ((e.drop 3).take 1)) (by omega)
  simp only [chunkV,ha,if_true,Val.okN,okNs,Val.size,sizes,Val.lev,levs,Val.elen,elens,rlens,nRate,nChan,nCod,List.length_cons,List.length_nil]
  have k0:=n1 (x:=0) (by omega)
  have k2:=n1 (x:=2) (by omega)
  have k3:=n1 (x:=3) (by omega)
  have k4:=n1 (x:=4) (by omega)
  have k8:=n1 (x:=8) (by omega)
  have k6:=n1 (x:=6) (by omega)
  simp only [Nat.zero_add,Nat.reduceAdd] at *
  refine ⟨⟨by omega,⟨⟨by omega,by omega,by omega,trivial⟩,trivial⟩⟩,by omega,by omega,by omega⟩
 ·have m1:=n2 (x:=e.length) (by omega)
  have m2:=n2 (x:=a) (by omega)
  have k0:=n1 (x:=0) (by omega)
  have k1:=n1 (x:=1) (by omega)
  have k2:=n1 (x:=2) (by omega)
  have k3:=n1 (x:=3) (by omega)
  have k4:=n1 (x:=4) (by omega)
  by_cases ha2:a=68
  ·simp only [chunkV,ha,ha2,if_true,if_false,Val.okN,okNs,Val.size,sizes,Val.lev,levs,Val.elen,elens,rlens,nData,List.length_cons,List.length_nil,show ¬ (68=70) by decide]
   simp only [Nat.zero_add,Nat.reduceAdd] at *
   refine ⟨⟨by omega,⟨⟨trivial,trivial⟩,trivial⟩⟩,by omega,by omega,by omega⟩
  ·have kk:∃ z,(if a≤67 then 2 else if a=69 then 3 else 4:Nat)=z∧z < 64:=⟨_,rfl,by split <;> (try split) <;> omega⟩
   obtain ⟨z,hz,hz2⟩:=kk
   have kz:=n1 hz2
   simp only [chunkV,ha,ha2,hz,if_false,Val.okN,okNs,Val.size,sizes,Val.lev,levs,Val.elen,elens,rlens,nData,nName,List.length_cons,List.length_nil]
   simp only [Nat.zero_add,Nat.reduceAdd] at *
   refine ⟨⟨by omega,⟨⟨by omega,trivial,trivial⟩,trivial⟩⟩,by omega,by omega,by omega⟩
theorem chunksV_ok:∀ (cs:List (Nat × List Nat)),OkChunks cs→(∀ c∈cs,c.2.length≤1000)→okNs (cs.map chunkV)∧sizes (cs.map chunkV)≤6 * cs.length∧levs (cs.map chunkV)≤3∧elens (cs.map chunkV) + 3 * cs.length≤37 * cs.length + chLen cs
 | [],_,_=>by simp [okNs,sizes,levs,elens,chLen]
 | c :: r,h1,h2=>by
  obtain ⟨a1,a2,a3,a4⟩:=chunkV_ok (h1 c (by simp)).1 (h1 c (by simp)).2 (h2 c (by simp))
  obtain ⟨b1,b2,b3,b4⟩:=chunksV_ok r (fun x hx=>h1 x (by simp [hx])) (fun x hx=>h2 x (by simp [hx]))
  simp only [List.map_cons,okNs,sizes,levs,elens,chLen,List.length_cons]
  exact ⟨⟨a1,b1⟩,by omega,by omega,by omega⟩
theorem chLen_ge:∀ (cs:List (Nat × List Nat)),3 * cs.length≤chLen cs
 | []=>by simp [chLen]
 | c :: r=>by have:=chLen_ge r; simp only [chLen,List.length_cons]; omega
theorem sndV_ok {d:List Nat} {cs:List (Nat × List Nat)} (hl:Bytes d) (hd:d.length≤300) (h:fileChunks d=some cs):(sndV cs).okN∧(sndV cs).size≤600∧(sndV cs).lev≤10∧(sndV cs).elen≤4000∧cs.length≤98∧d.length=5 + chLen cs:=by
 obtain ⟨h1,h2,h3⟩:=fileChunks_ok hl h
 obtain ⟨b1,b2,b3,b4⟩:=chunksV_ok cs h1 (fun c hc=>by have:=h3 c hc; omega)
 have h4:d.length=5 + chLen cs:=by
  unfold fileChunks at h
  split at h
  ·rename_i hm
   have:=chunks_len _ _ _ h
   rw [List.length_drop] at this
   omega
  ·cases h
 have h5:=chLen_ge cs
 have k1:=nl_kind (k:=1) (by omega)
 have k6:=nl_kind (k:=6) (by omega)
 have kl:nl (2 * cs.length)≤2:=nl_le (f:=1) (by omega)
 simp only [sndV,Val.okN,okNs,Val.size,sizes,Val.lev,levs,Val.elen,elens,rlens,nChunks,List.length_cons,List.length_nil,List.length_map]
 simp only [Nat.zero_add,Nat.reduceAdd] at *
 exact ⟨⟨b1,trivial⟩,by omega,by omega,by omega,by omega,h4⟩
end Go.Sx
namespace Go.Sx
theorem b21 {args:List AV} {M:Mem} (h:args.length=2):ev ES (.b 21 args M)=retF ES [] (ev ES (.c code21 (argTm 0 args) M)):=ev_body (show tab.get 21=some ⟨2,code21,[]⟩ by kernel_rfl) h
theorem f21 {ad:Bool} {args:List AV} {M:Mem}:ev ES (.f ad 21 args M)=ev ES (.b 21 args M):=ev_shared rfl rfl
theorem b32 {args:List AV} {M:Mem} (h:args.length=2):ev ES (.b 32 args M)=retF ES [] (ev ES (.c code32 (argTm 0 args) M)):=ev_body (show tab.get 32=some ⟨2,code32,[]⟩ by kernel_rfl) h
theorem f32 {ad:Bool} {args:List AV} {M:Mem}:ev ES (.f ad 32 args M)=ev ES (.b 32 args M):=ev_shared rfl rfl
theorem b7 {args:List AV} {M:Mem} (h:args.length=2):ev ES (.b 7 args M)=retF ES [.cA 4 5,.cA 5 2] (ev ES (.c code7 (argTm 0 args) M)):=ev_body (show tab.get 7=some ⟨2,code7,[.cA 4 5,.cA 5 2]⟩ by kernel_rfl) h
theorem f7 {ad:Bool} {args xs:List AV} {M:Mem} (h:frzVs M args=some xs):ev ES (.f ad 7 args M)=ownF ad args M (ev ES (.b 7 xs .zero)):=ev_own rfl rfl h
theorem b10 {args:List AV} {M:Mem} (h:args.length=2):ev ES (.b 10 args M)=retF ES [.c1 4,.cA 5 2] (ev ES (.c code10 (argTm 0 args) M)):=ev_body (show tab.get 10=some ⟨2,code10,[.c1 4,.cA 5 2]⟩ by kernel_rfl) h
theorem f10 {ad:Bool} {args xs:List AV} {M:Mem} (h:frzVs M args=some xs):ev ES (.f ad 10 args M)=ownF ad args M (ev ES (.b 10 xs .zero)):=ev_own rfl rfl h
theorem b33 {args:List AV} {M:Mem} (h:args.length=3):ev ES (.b 33 args M)=retF ES [] (ev ES (.c code33 (argTm 0 args) M)):=ev_body (show tab.get 33=some ⟨3,code33,[]⟩ by kernel_rfl) h
theorem f33 {ad:Bool} {args:List AV} {M:Mem}:ev ES (.f ad 33 args M)=ev ES (.b 33 args M):=ev_shared rfl rfl
theorem b84 {args:List AV} {M:Mem} (h:args.length=3):ev ES (.b 84 args M)=retF ES [.t 6] (ev ES (.c code84 (argTm 0 args) M)):=ev_body (show tab.get 84=some ⟨3,code84,[.t 6]⟩ by kernel_rfl) h
theorem f84 {ad:Bool} {args:List AV} {M:Mem}:ev ES (.f ad 84 args M)=ev ES (.b 84 args M):=ev_shared rfl rfl
theorem b85 {args:List AV} {M:Mem} (h:args.length=3):ev ES (.b 85 args M)=retF ES [] (ev ES (.c code85 (argTm 0 args) M)):=ev_body (show tab.get 85=some ⟨3,code85,[]⟩ by kernel_rfl) h
theorem f85 {ad:Bool} {args:List AV} {M:Mem}:ev ES (.f ad 85 args M)=ev ES (.b 85 args M):=ev_shared rfl rfl
theorem b86 {args:List AV} {M:Mem} (h:args.length=3):ev ES (.b 86 args M)=retF ES [] (ev ES (.c code86 (argTm 0 args) M)):=ev_body (show tab.get 86=some ⟨3,code86,[]⟩ by kernel_rfl) h
theorem f86 {ad:Bool} {args:List AV} {M:Mem}:ev ES (.f ad 86 args M)=ev ES (.b 86 args M):=ev_shared rfl rfl
theorem b119 {args:List AV} {M:Mem} (h:args.length=3):ev ES (.b 119 args M)=retF ES [.t 4] (ev ES (.c code119 (argTm 0 args) M)):=ev_body (show tab.get 119=some ⟨3,code119,[.t 4]⟩ by kernel_rfl) h
theorem f119 {ad:Bool} {args:List AV} {M:Mem}:ev ES (.f ad 119 args M)=ev ES (.b 119 args M):=ev_shared rfl rfl
theorem b120 {args:List AV} {M:Mem} (h:args.length=2):ev ES (.b 120 args M)=retF ES [.t 4] (ev ES (.c code120 (argTm 0 args) M)):=ev_body (show tab.get 120=some ⟨2,code120,[.t 4]⟩ by kernel_rfl) h
theorem f120 {ad:Bool} {args xs:List AV} {M:Mem} (h:frzVs M args=some xs):ev ES (.f ad 120 args M)=ownF ad args M (ev ES (.b 120 xs .zero)):=ev_own rfl rfl h
theorem b122 {args:List AV} {M:Mem} (h:args.length=2):ev ES (.b 122 args M)=retF ES [.t 4] (ev ES (.c code122 (argTm 0 args) M)):=ev_body (show tab.get 122=some ⟨2,code122,[.t 4]⟩ by kernel_rfl) h
theorem f122 {ad:Bool} {args:List AV} {M:Mem}:ev ES (.f ad 122 args M)=ev ES (.b 122 args M):=ev_shared rfl rfl
theorem b123 {args:List AV} {M:Mem} (h:args.length=1):ev ES (.b 123 args M)=retF ES [.t 2] (ev ES (.c code123 (argTm 0 args) M)):=ev_body (show tab.get 123=some ⟨1,code123,[.t 2]⟩ by kernel_rfl) h
theorem f123 {ad:Bool} {args:List AV} {M:Mem}:ev ES (.f ad 123 args M)=ev ES (.b 123 args M):=ev_shared rfl rfl
theorem b124 {args:List AV} {M:Mem} (h:args.length=2):ev ES (.b 124 args M)=retF ES [.t 4] (ev ES (.c code124 (argTm 0 args) M)):=ev_body (show tab.get 124=some ⟨2,code124,[.t 4]⟩ by kernel_rfl) h
theorem f124 {ad:Bool} {args xs:List AV} {M:Mem} (h:frzVs M args=some xs):ev ES (.f ad 124 args M)=ownF ad args M (ev ES (.b 124 xs .zero)):=ev_own rfl rfl h
theorem b73 {args:List AV} {M:Mem} (h:args.length=1):ev ES (.b 73 args M)=retF ES [.t 2] (ev ES (.c code73 (argTm 0 args) M)):=ev_body (show tab.get 73=some ⟨1,code73,[.t 2]⟩ by kernel_rfl) h
theorem f73 {ad:Bool} {args:List AV} {M:Mem}:ev ES (.f ad 73 args M)=ev ES (.b 73 args M):=ev_shared rfl rfl
theorem b27 {args:List AV} {M:Mem} (h:args.length=1):ev ES (.b 27 args M)=retF ES [.cA 2 5] (ev ES (.c code27 (argTm 0 args) M)):=ev_body (show tab.get 27=some ⟨1,code27,[.cA 2 5]⟩ by kernel_rfl) h
theorem f27 {ad:Bool} {args xs:List AV} {M:Mem} (h:frzVs M args=some xs):ev ES (.f ad 27 args M)=ownF ad args M (ev ES (.b 27 xs .zero)):=ev_own rfl rfl h
theorem b26 {args:List AV} {M:Mem} (h:args.length=2):ev ES (.b 26 args M)=retF ES [.t 4,.cA 5 2] (ev ES (.c code26 (argTm 0 args) M)):=ev_body (show tab.get 26=some ⟨2,code26,[.t 4,.cA 5 2]⟩ by kernel_rfl) h
theorem f26 {ad:Bool} {args:List AV} {M:Mem}:ev ES (.f ad 26 args M)=ev ES (.b 26 args M):=ev_shared rfl rfl
theorem b8 {args:List AV} {M:Mem} (h:args.length=2):ev ES (.b 8 args M)=retF ES [.cA 4 5,.cA 5 2] (ev ES (.c code8 (argTm 0 args) M)):=ev_body (show tab.get 8=some ⟨2,code8,[.cA 4 5,.cA 5 2]⟩ by kernel_rfl) h
theorem f8 {ad:Bool} {args xs:List AV} {M:Mem} (h:frzVs M args=some xs):ev ES (.f ad 8 args M)=ownF ad args M (ev ES (.b 8 xs .zero)):=ev_own rfl rfl h
theorem b12 {args:List AV} {M:Mem} (h:args.length=2):ev ES (.b 12 args M)=retF ES [.t 4] (ev ES (.c code12 (argTm 0 args) M)):=ev_body (show tab.get 12=some ⟨2,code12,[.t 4]⟩ by kernel_rfl) h
theorem f12 {ad:Bool} {args xs:List AV} {M:Mem} (h:frzVs M args=some xs):ev ES (.f ad 12 args M)=ownF ad args M (ev ES (.b 12 xs .zero)):=ev_own rfl rfl h
theorem b127 {args:List AV} {M:Mem} (h:args.length=1):ev ES (.b 127 args M)=retF ES [.t 2] (ev ES (.c code127 (argTm 0 args) M)):=ev_body (show tab.get 127=some ⟨1,code127,[.t 2]⟩ by kernel_rfl) h
theorem f127 {ad:Bool} {args xs:List AV} {M:Mem} (h:frzVs M args=some xs):ev ES (.f ad 127 args M)=ownF ad args M (ev ES (.b 127 xs .zero)):=ev_own rfl rfl h
end Go.Sx
namespace Go.Sx
variable {P:Program} {E:Env}
theorem results_ok {γ:Cx} {M:Mem} {w:World} {real:Func} {rs:List ARes} {tm:Tm} {t:Array Value} {v:AV} (hI:Inv E.gx γ M w) (ht:TmR γ tm t) (hrs:compR P real.results.toList=some rs) (hv:result tm M rs=some v):∃ r,(results real t).run P w=.ok r w∧VR γ false v r:=by
 simp only [result,Option.map_eq_some_iff] at hv
 obtain ⟨us,hus,hv⟩:=hv
 obtain ⟨xs,h1,h2⟩:=resAll_sound hI ht hrs hus
 have e:results real t=(do
   let vs ← (List.toArray <$> real.results.toList.mapM (resF t))
   pure (if h:vs.size=1 then vs[0] else .tuple vs)):=by
  unfold results
  rw [Array.mapM_eq_mapM_toList]
  rfl
 have hm:(results real t).run P w=.ok (if h:xs.toArray.size=1 then xs.toArray[0] else .tuple xs.toArray) w:=by
  rw [e]
  simp [h1]
 refine ⟨_,hm,?_⟩
 split at hv
 ·cases hv
  obtain ⟨y,r,rfl,hy,hr⟩:=h2.cons_inv
  rw [hr.nil_inv]
  simpa using hy
 ·rename_i hne
  cases hv
  have:¬ xs.toArray.size=1:=fun h=>by
   have hl:=h2.1
   rw [List.size_toArray] at h
   rw [h] at hl
   match us,hl,hne with
   | [x],_,hne=>exact hne x rfl
  rw [dif_neg this]
  exact VR.mktup (by simpa using h2)
theorem ble_t {t n:Nat} (h:t < n):dstOK n (some t)=true:=Nat.ble_eq_true_of_le h
structure SameW (w w':World):Prop where
 os:w'.os=w.os
 tape:w'.tape=w.tape
 output:w'.output=w.output
 size:w.heap.size≤w'.heap.size
 block:∀ g,g < w.heap.size→w'.heap[g]?=w.heap[g]?
theorem Nx.same {γ:Cx} {M:Mem} {w w':World} (h:Inv E.gx γ M w) (hb:SameW w w'):Nx E.gx γ M w γ M w':=
 Nx.foreign h γ.I (fun g hg=>hb.block g hg) hb.size (fun _ _ _=>rfl) (fun g o v hv=>by rw [World.cell?_of_block (w:=w) (hb.block g (h.lt hv))]; exact h.imm g o v hv) hb.os hb.tape hb.output
theorem defer_ok {id fd t r:Nat} {args:List AV} {M M1 M2 M3 M5:Mem} {tm1 tm2 tm3 tm5:Tm} {real frd:Func} {body cA cB cC cR cd:Code} {o1 o2:Oper} {caps:Array Operand} {c:Call} {gA gB gC gR aA aB aC aR:AC} {rs:List ARes} {v:AV}
  (hf:P.funcs[id]?=some real) (hname:(real.name == "runtime.NumGoroutine")=false) (hb:real.body=some (.seq cA (.seq cB (.seq cC (.seq (.region r #[o1,o2] false) cR)))))
  (h1:o1.op=.makeFunc (.func fd) #[] caps) (h1d:o1.dst=some t) (h1g:o1.guard=none) (h2:o2.op=.defer c) (h2c:c.callee=.value (.tmp t)) (h2a:c.args=#[]) (h2d:o2.dst=none) (h2g:o2.guard=none) (htn:t < real.ntmps)
  (hfd:P.funcs[fd]?=some frd) (hfn:(frd.name == "runtime.NumGoroutine")=false) (hfb:frd.body=some cd)
  (hD:∀ caps w,CallsD P fd caps .returning w fun e u' w'=>∃ v,e=.returned v∧u'=.returning∧SameW w w')
  (kA:compC P real.ntmps cA gA=some aA) (kB:compC P real.ntmps cB gB=some aB) (kC:compC P real.ntmps cC gC=some aC) (kR:compC P real.ntmps cR gR=some aR) (hrs:compR P real.results.toList=some rs)
  (hA:CodeOK P E aA (argTm 0 args) M .normal tm1 M1) (hB:CodeOK P E aB tm1 M1 .normal tm2 M2) (hC:CodeOK P E aC tm2 M2 .normal tm3 M3) (hR:CodeOK P E aR ((t,.any) :: tm3) M3 .ret tm5 M5) (hv:result tm5 M5 rs=some v):CallOK P E id args M v M5:=by
 refine ⟨hA.1.trans (hB.1.trans (hC.1.trans hR.1)),fun γ w vs hI hvs=>?_⟩
 have hname':real.name ≠ "runtime.NumGoroutine":=by simpa using hname
 have hcall:(callFunc id vs.toArray).run P w=.ok (.enter id vs.toArray) w:=by
  simp [callFunc,program,Sem.run,hf,hname',hb]
 unfold Upon
 rw [hcall]
 refine calls_of_wp_defers hf hb ?_
 refine wp_seq (wp_mono (wq_wp (hA.2 none [] real.ntmps _ _ kA γ w _ hI (TmR.args hvs real.ntmps) rfl (by simp; omega))) fun e a1 w1 hp=>?_)
 obtain ⟨rfl,γ1,hN1,ht1,hd1,hn1⟩:=hp
 refine wp_seq (wp_mono (wq_wp (hB.2 none [] real.ntmps _ _ kB γ1 w1 a1 hN1.inv ht1 hd1 hn1)) fun e a2 w2 hp=>?_)
 obtain ⟨rfl,γ2,hN2,ht2,hd2,hn2⟩:=hp
 refine wp_seq (wp_mono (wq_wp (hC.2 none [] real.ntmps _ _ kC γ2 w2 a2 hN2.inv ht2 hd2 hn2)) fun e a3 w3 hp=>?_)
 obtain ⟨rfl,γ3,hN3,ht3,hd3,hn3⟩:=hp
 refine wp_seq (wp_region ?_)
 have hx1:(execOp a3.eval o1).run P w3=.ok (.value (.func (.func fd) #[] (caps.map a3.eval))) w3:=by
  simp [execOp,h1,Instr.makeFunc]
 let a4:Act:=a3.put (some t) (.func (.func fd) #[] (caps.map a3.eval))
 have he4:a4.eval (.tmp t)=.func (.func fd) #[] (caps.map a3.eval):=by
  simp [a4,Act.eval,Act.put,Nat.lt_of_lt_of_le htn hn3]
 have hx2:(execOp a4.eval o2).run P w3=.ok (.defer { target:=.fn (.func fd) (caps.map a3.eval),args:=#[] }) w3:=by
  simp [execOp,h2,resolve,h2c,h2a,Deferred.ofValue,he4]
 have ht4:TmR γ3 ((t,.any) :: tm3) a4.tmps:=ht3.put (d:=some t) (n:=real.ntmps) (v:=.any) (ble_t htn) hn3 (.any _ _)
 have hn4:real.ntmps≤a4.tmps.size:=by
  have:a4.tmps.size=a3.tmps.size:=put_size
  omega
 have hd4:a4.defers=[]:=by
  have:a4.defers=a3.defers:=put_defers
  rw [this,hd3]
 let d:Deferred:={ target:=.fn (.func fd) (caps.map a3.eval),args:=#[] }
 let a5:Act:={ a4 with defers:=[d] }
 have main:Code.wp P cR (bodyPostD P real fun
   | .returned r,w''=>∃ γ',VR γ' false v r∧Nx E.gx γ M w γ' M5 w''
   | _,_=>False) a5 w3:=by
  refine wp_mono (wq_wp (hR.2 none [d] real.ntmps _ _ kR γ3 w3 a5 hN3.inv ht4 rfl hn4)) fun e a6 w6 hp=>?_
  obtain ⟨rfl,γ6,hN6,ht6,hd6,hn6⟩:=hp
  show Leaves P real a6.tmps _ a6.defers .returning w6
  rw [hd6]
  have hi:(invoke (.fn (.func fd) (caps.map a3.eval)) #[]).run P w6=.ok (.enter fd (caps.map a3.eval)) w6:=by
   have hfn':frd.name ≠ "runtime.NumGoroutine":=by simpa using hfn
   simp [invoke,callFunc,program,Sem.run,hfd,hfn',hfb]
  refine leaves_cons (by simp) hi ((hD (caps.map a3.eval) w6).mono fun e u' w' h=>?_)
  obtain ⟨x,rfl,rfl,hs⟩:=h
  have hN7:=Nx.same hN6.inv hs
  obtain ⟨y,hy,hyr⟩:=results_ok hN7.inv ht6 hrs hv
  exact ⟨y,hy,γ6,hyr,hN1.trans (hN2.trans (hN3.trans (hN6.trans hN7)))⟩
 have hw1:Region.wanted o1 (yielded #[o1,o2] a3.tmps)=true:=by simp [Region.wanted,h1g]
 have hw2:Region.wanted o2 (yielded #[o1,o2] a4.tmps)=true:=by simp [Region.wanted,h2g]
 generalize hQ:Exit.then (Code.wp P cR _) _=Q
 have m2:Q .normal a5 w3:=by rw [← hQ]; exact main
 have s2:wpOps P #[o1,o2] Q [1] a4 w3:=by
  rw [wpOps_cons]
  have hg:(#[o1,o2]:Array Oper)[1]?=some o2:=rfl
  simp only [wpOp,hg,hw2,if_true]
  refine .inl ?_
  unfold Oper.wp
  rw [hx2]
  show wpOps P #[o1,o2] Q [] ({ a4 with defers:=d :: a4.defers }.put o2.dst undef) w3
  rw [h2d,hd4]
  exact m2
 show wpOps P #[o1,o2] Q [0,1] a3 w3
 rw [wpOps_cons]
 have hg:(#[o1,o2]:Array Oper)[0]?=some o1:=rfl
 simp only [wpOp,hg,hw1,if_true]
 refine .inl ?_
 unfold Oper.wp
 rw [hx1]
 show wpOps P #[o1,o2] Q [1] (a3.put o1.dst (.func (.func fd) #[] (caps.map a3.eval))) w3
 rw [h1d]
 exact s2
def EN:Env:=⟨fun _=>none,fun _=>none,fun _ _=>none,fun _=>.own,fun _ _ _=>none,fun _=>none,fun _=>none,fun _ _=>False⟩
theorem EN_ok (hm:P.follows .mixedOrders=true):EnvOK P EN:={ mixed:=hm,fns:=fun _ _ h=>(nomatch h),acc:=fun _ _ _ _ _ _ _ h=>(nomatch h),orc:=fun _ _ _ _ h=>(nomatch h),yacc:=fun _ _ _ _ h=>(nomatch h),yfit:=fun _ _ h=>h.elim }
theorem recover_ok (hm:P.follows .mixedOrders=true) {fd r t:Nat} {frd:Func} {cR:Code} {o:Oper} {c:Call} {gR aR:AC} {tm':Tm} {M':Mem}
  (hf:P.funcs[fd]?=some frd) (hb:frd.body=some (.seq (.region r #[o] false) cR)) (h1:o.op=.call c) (h1c:c.callee=.builtin .recover) (h1d:o.dst=some t) (h1g:o.guard=none) (htn:t < frd.ntmps) (hres:frd.results=#[])
  (kR:compC P frd.ntmps cR gR=some aR) (hacc:AccOK EN.accs aR) (hR:ev EN (.c aR [(t,.nili)] .zero)=some (.code .normal tm' M')) (caps:Array Value) (w:World) :
  CallsD P fd caps .returning w fun e u' w'=>∃ v,e=.returned v∧u'=.returning∧SameW w w':=by
 refine callsD_of_wpS hf hb fun c₀ cs hu=>wpS_seq (wpS_region ?_)
 let a0:Act:={ tmps:=caps ++ Array.replicate (frd.ntmps - caps.size) undef,defers:=[] }
 show wpOpsS P #[o] _ [0] a0 (c₀ :: cs) w
 have hw1:Region.wanted o (yielded #[o] a0.tmps)=true:=by simp [Region.wanted,h1g]
 have hg:(#[o]:Array Oper)[0]?=some o:=rfl
 have hx:(execOp a0.eval o).run P w=.ok .recover w:=by
  simp [execOp,h1,resolve,h1c,invoke,builtin]
 have hrec:recoverD (c₀ :: cs)=none:=by simp [recoverD,hu]
 simp only [wpOpsS,hg,hw1,if_true,hx,hrec]
 rw [h1d]
 refine wpS_of_wp (wp_mono (c:=cR) (Q:=fun e a' w'=>bodyPostS P frd c₀ cs (fun e u' w'=>∃ v,e=.returned v∧u'=.returning∧SameW w w') e a' (c₀ :: cs) w') ?_ fun _ _ _ h=>h)
 let γ0:Cx:=⟨0,fun _=>none,fun _=>none,fun _ _=>none,fun _=>none,none⟩
 have hI:Inv (EN.gx) γ0 .zero w:=by
  exact { base:=Nat.zero_le _,imm:=fun _ _ _ h=>(nomatch h),box:=fun _ _ _ h=>(nomatch h),inj:=fun _ _ _ _ _ h=>(nomatch h),tok:=fun _ _ _ _ h=>(nomatch h),tokb:=fun _ _ _ _ _ _ _ h=>(nomatch h),tokt:=fun _ _ _ _ _ _ _ _ h=>(nomatch h),nb:=fun _ _=>rfl,nbM:=fun _ _ h=>(nomatch h),nt:=fun _ _=>rfl,ntM:=fun _ _ h=>(nomatch h),glo:=fun _ _ h=>(nomatch h),yok:=fun _ h=>(nomatch h) }
 have ht0:TmR γ0 [] a0.tmps:=fun i=>.any _ _
 have hn0:frd.ntmps≤a0.tmps.size:=by simp [a0]; omega
 have ht:TmR γ0 [(t,.nili)] (a0.put (some t) .nilIface).tmps:=ht0.put (d:=some t) (n:=frd.ntmps) (v:=.nili) (ble_t htn) hn0 (.nili _)
 have hok:CodeOK P EN aR [(t,.nili)] .zero .normal tm' M':=ev_sound (EN_ok hm) hR hacc
 refine wp_mono (wq_wp (hok.2 none [] frd.ntmps _ _ kR γ0 w _ hI ht (put_defers.trans rfl) (by rw [put_size]; exact hn0))) fun e a1 w1 hp=>?_
 obtain ⟨rfl,γ1,hN,ht1,hd1,hn1⟩:=hp
 have hv:(results frd a1.tmps).run P w1=.ok (.tuple #[]) w1:=by
  simp [results,hres]
 refine ⟨hd1,.returning,?_,.tuple #[],hv,_,rfl,rfl,hN.os,hN.tape,hN.output,hN.size,fun g hg=>hN.keep g hg ?_⟩
 ·have:c₀={ c₀ with mode:=.returning }:=by rw [← hu]
  rw [← this]
 ·rintro (⟨b,x,h,_⟩ | ⟨k,y,x,h,_⟩) <;> cases h
end Go.Sx
namespace Go.Sx
open Go.Proofs
theorem code_of {code:AC} {tm tm':Tm} {M M':Mem} {x:AX} (h:ev ES (.c code tm M)=some (.code x tm' M')) (ha:noAcc code=true):CodeOK Tryz.prog ES code tm M x tm' M':=ev_sound ES_ok h (noAcc_ok ha)
theorem hR21:ev EN (.c T21_1 [(5,.nili)] .zero)=some (.code .normal [] .zero):=by
 simp (maxSteps:=1000000) only [T21_1,EVa,EVb,oi,ou,wants,evx,evxs,evo,evparts,fillA,put,keepT,argTm,result,resAll,resOf,vO,boxF,binF,nilF,unF,lenF,callF,appF,mkIF,readsOf,boxAt,Nat.reduceEqDiff,reduceCtorEq,Nat.reduceBEq,Int.reduceToNat,Nat.reduceAdd,Nat.reduceLeDiff,Nat.reduceMul]
theorem hR32:ev EN (.c T32_1 [(5,.nili)] .zero)=some (.code .normal [] .zero):=by
 simp (maxSteps:=1000000) only [T32_1,EVa,EVb,oi,ou,wants,evx,evxs,evo,evparts,fillA,put,keepT,argTm,result,resAll,resOf,vO,boxF,binF,nilF,unF,lenF,callF,appF,mkIF,readsOf,boxAt,Nat.reduceEqDiff,reduceCtorEq,Nat.reduceBEq,Int.reduceToNat,Nat.reduceAdd,Nat.reduceLeDiff,Nat.reduceMul]
theorem hD21 (caps:Array Value) (w:World):CallsD Tryz.prog 21 caps .returning w fun e u' w'=>∃ v,e=.returned v∧u'=.returning∧SameW w w':=
 recover_ok ES_ok.mixed (frd:=Tryz.f21) (by kernel_rfl) rfl rfl rfl rfl rfl (by decide) rfl (gR:=T21_1) (aR:=T21_1) (by kernel_rfl) (noAcc_ok (by kernel_rfl)) hR21 caps w
theorem hD32 (caps:Array Value) (w:World):CallsD Tryz.prog 32 caps .returning w fun e u' w'=>∃ v,e=.returned v∧u'=.returning∧SameW w w':=
 recover_ok ES_ok.mixed (frd:=Tryz.f32) (by kernel_rfl) rfl rfl rfl rfl rfl (by decide) rfl (gR:=T32_1) (aR:=T32_1) (by kernel_rfl) (noAcc_ok (by kernel_rfl)) hR32 caps w
theorem ev19 (M:Mem):ev ES (.f false 19 [.agg [sFm]] M)=some (.fn (.agg [.int .i64 0,.int .i64 0]) M):=ev_orc (by kernel_rfl)
theorem ev22 (M:Mem):ev ES (.f false 22 [.agg [sFm]] M)=some (.fn sndFs M):=ev_orc (by kernel_rfl)
theorem sFm_c:sFm.cells=[sFm]:=rfl
theorem sFm_o:oneA sFm=true:=rfl
theorem sFs_c:sndFs.cells=[sndFs]:=rfl
theorem sFs_o:oneA sndFs=true:=rfl
def Z2:List AV:=[.int .i64 0,.int .i64 0]
theorem eqZ2:intsEq [.int .i64 0,.int .i64 0] [.int .i64 0,.int .i64 0]=some true:=by decide
theorem purL0_frz {M:Mem}:∀ {c c':List AV},purL0 c=some c'→frzL M c=some c'∧hasMs.hasMs1 c=false
 | [],c',h=>by cases h; exact ⟨rfl,rfl⟩
 | v :: r,c',h=>by
  simp only [purL0,Option.bind_eq_some_iff,Option.map_eq_some_iff] at h
  obtain ⟨a,ha,r',hr,rfl⟩:=h
  obtain ⟨h1,h2⟩:=purL0_frz (M:=M) hr
  have hv:frzC M v=some a∧hasMs.hasMs1 (v :: r)=hasMs.hasMs1 r:=by
   cases v with
   | ptr | ms | fn | agg | tup | any | yld=>cases ha
   | _=>exact ⟨ha,rfl⟩
  exact ⟨by simp only [frzL,hv.1,Option.bind_some,h1,Option.map_some],by rw [hv.2,h2]⟩
theorem agg_frz {M:Mem} {c c':List AV} (h:purL0 c=some c'):frzVs M [.agg c]=some [.agg c']∧hasMs [.agg c]=false:=by
 obtain ⟨h1,h2⟩:=purL0_frz (M:=M) h
 exact ⟨by simp only [frzVs,frzV,h1,Option.map_some,Option.bind_some],by simp only [hasMs,h2,Bool.or_self]⟩
theorem ev25p {V:Val} {c:List AV} (hV:VP V c) (hok:V.okN) (hs:V.size≤600) (hl:V.lev≤10) (he:V.elen≤4000) (ad:Bool) (M:Mem):ev ES (.f ad 25 [.agg c] M)=some (.fn okZ M):=by
 obtain ⟨c',h1,h2,_,_⟩:=hV
 have h:=ev25 h2 hok hs hl he ad M
 rw [f25 (frzVs_pure (agg_pure h2.pure))] at h
 rw [f25 (agg_frz h1).1]
 cases hb:ev ES (.b 25 [.agg c'] .zero) with
 | none=>rw [hb] at h; cases h
 | some r=>
  rw [hb] at h
  cases r with
  | code=>cases h
  | fn v M1=>
   simp only [ownF,(agg_frz (M:=M) h1).2,hasMs_pure (agg_pure h2.pure)] at h ⊢
   exact h
section
variable {l:List Nat}
theorem p7_0:ev ES (.c T7_0 (argTm 0 [.agg [sFm],bsl l]) .zero)=some (.code .normal [(1,bsl l),(2,.ptr 0 0),(4,.ptr 1 0),(5,.ptr 2 0)] (((Mem.zero.new (.cells [sFm])).new (.cells Z5v)).new (.cells Z2))):=by
 simp only [Z5v,Z2]
 simp (maxSteps:=1000000) only [T7_0,EVa,EVb,oi,ou,wants,evx,evxs,evo,evparts,fillA,put,keepT,argTm,result,resAll,resOf,vO,boxF,binF,nilF,unF,lenF,callF,appF,mkIF,readsOf,boxAt,Nat.reduceEqDiff,reduceCtorEq,Nat.reduceBEq,Int.reduceToNat,Nat.reduceAdd,Nat.reduceLeDiff,Nat.reduceMul,sFm_o]
theorem p7_1 {M:Mem} (hnb:M.nb=3) (h0:M.get 0=some (.cells [sFm])):ev ES (.c T7_1 [(1,bsl l),(2,.ptr 0 0),(4,.ptr 1 0),(5,.ptr 2 0)] M)=some (.code .normal [(1,bsl l),(2,.ptr 0 0),(4,.ptr 1 0),(5,.ptr 2 0),(6,.ptr 3 0),(12,.bool false)] ((M.new (.cells Z2)).set 3 (.cells Z2))):=by
 have g:=gs_new (M:=M) (x:=.cells Z2) (y:=.cells Z2) hnb.symm
 have g':(M.new (.cells Z2)).get 3=some (.cells Z2):=by rw [← hnb]; exact gn_self
 simp only [Z2] at g g' ⊢
 simp (maxSteps:=1000000) only [T7_1,EVa,EVb,oi,ou,wants,evx,evxs,evo,evparts,fillA,put,keepT,argTm,result,resAll,resOf,vO,boxF,binF,nilF,unF,lenF,callF,appF,mkIF,readsOf,boxAt,Nat.reduceEqDiff,reduceCtorEq,Nat.reduceBEq,Int.reduceToNat,Nat.reduceAdd,Nat.reduceLeDiff,Nat.reduceMul,h0,ev19,hnb,g,g',eqZ2]
theorem p7_2 {M:Mem} {X:Tm} (hn:l.length≤1000):ev ES (.c T7_2 ((1,bsl l) :: (2,.ptr 0 0) :: (4,.ptr 1 0) :: (5,.ptr 2 0) :: X) M)=some (.code .normal [(1,bsl l),(2,.ptr 0 0),(4,.ptr 1 0),(5,.ptr 2 0),(17,.bool false)] M):=by
 have hnn:¬ ((1000:Int) < (l.length:Int)):=by omega
 simp (maxSteps:=1000000) only [T7_2,EVa,EVb,oi,ou,wants,evx,evxs,evo,evparts,fillA,put,keepT,argTm,result,resAll,resOf,vO,boxF,binF,nilF,unF,lenF,callF,appF,mkIF,readsOf,boxAt,Nat.reduceEqDiff,reduceCtorEq,Nat.reduceBEq,Int.reduceToNat,Nat.reduceAdd,Nat.reduceLeDiff,Nat.reduceMul,hnn,gt_iff_lt]
theorem p7_4 {M:Mem} {X Y:Tm} (hnb:M.nb=4) (h0:M.get 0=some (.cells [sFm])):ev ES (.c T7_4 ((20,.any) :: (1,bsl l) :: (2,.ptr 0 0) :: (4,.ptr 1 0) :: (5,.ptr 2 0) :: X) M)=some (.code .normal [(1,bsl l),(4,.ptr 1 0),(5,.ptr 2 0),(7,.ptr 4 0)] (M.new (.cells (rdC sFm sndFs l 0)))):=by
 simp only [rdC,Int.natCast_zero]
 simp (maxSteps:=1000000) only [T7_4,EVa,EVb,oi,ou,wants,evx,evxs,evo,evparts,fillA,put,keepT,argTm,result,resAll,resOf,vO,boxF,binF,nilF,unF,lenF,callF,appF,mkIF,readsOf,boxAt,Nat.reduceEqDiff,reduceCtorEq,Nat.reduceBEq,Int.reduceToNat,Nat.reduceAdd,Nat.reduceLeDiff,Nat.reduceMul,h0,ev22,hnb,sFm_o,sFm_c,sFs_o,sFs_c]
theorem p7_5 {M M':Mem} {c:List AV} (e23:ev ES (.f false 23 [.ptr 4 0,.int .i64 0] M)=some (.fn (.agg c) M')) (h1:M'.get 1=some (.cells Z5v)) (hl:c.length=5) (ha:c.all oneA=true):ev ES (.c T7_5 [(1,bsl l),(4,.ptr 1 0),(5,.ptr 2 0),(7,.ptr 4 0)] M)=some (.code .normal [(1,bsl l),(4,.ptr 1 0),(5,.ptr 2 0),(7,.ptr 4 0)] (M'.set 1 (.cells c))):=by
 simp only [Z5v] at h1
 simp (maxSteps:=1000000) only [T7_5,EVa,EVb,oi,ou,wants,evx,evxs,evo,evparts,fillA,put,keepT,argTm,result,resAll,resOf,vO,boxF,binF,nilF,unF,lenF,callF,appF,mkIF,readsOf,boxAt,Nat.reduceEqDiff,reduceCtorEq,Nat.reduceBEq,Int.reduceToNat,Nat.reduceAdd,Nat.reduceLeDiff,Nat.reduceMul,e23,h1,hl,ha]
theorem p7_6 {M:Mem} (h4:M.get 4=some (.cells (rdC sFm sndFs l l.length))):ev ES (.c T7_6 [(1,bsl l),(4,.ptr 1 0),(5,.ptr 2 0),(7,.ptr 4 0)] M)=some (.code .normal [(4,.ptr 1 0),(5,.ptr 2 0),(7,.ptr 4 0),(35,.bool false)] M):=by
 simp only [rdC] at h4
 simp (maxSteps:=1000000) only [T7_6,EVa,EVb,oi,ou,wants,evx,evxs,evo,evparts,fillA,put,keepT,argTm,result,resAll,resOf,vO,boxF,binF,nilF,unF,lenF,callF,appF,mkIF,readsOf,boxAt,Nat.reduceEqDiff,reduceCtorEq,Nat.reduceBEq,Int.reduceToNat,Nat.reduceAdd,Nat.reduceLeDiff,Nat.reduceMul,h4,Int.lt_irrefl]
theorem p7_7 {M:Mem} {c:List AV} (h1:M.get 1=some (.cells c)) (hl:c.length=5) (h25:∀ M,ev ES (.f false 25 [.agg c] M)=some (.fn okZ M)):ev ES (.c T7_7 [(4,.ptr 1 0),(5,.ptr 2 0),(7,.ptr 4 0),(35,.bool false)] M)=some (.code .normal [(4,.ptr 1 0),(5,.ptr 2 0),(44,.bool false)] M):=by
 have ht:c.take 5=c:=List.take_of_length_le (by omega)
 have hb5:Nat.ble 5 c.length=true:=ble_true (by omega)
 simp only [okZ] at h25
 simp (maxSteps:=1000000) only [T7_7,EVa,EVb,oi,ou,wants,evx,evxs,evo,evparts,fillA,put,keepT,argTm,result,resAll,resOf,vO,boxF,binF,nilF,unF,lenF,callF,appF,mkIF,readsOf,boxAt,Nat.reduceEqDiff,reduceCtorEq,Nat.reduceBEq,Int.reduceToNat,Nat.reduceAdd,Nat.reduceLeDiff,Nat.reduceMul,h1,h25,ht,hb5,hl,eqZ2]
theorem p7_8 {M:Mem} {c:List AV} (h1:M.get 1=some (.cells c)) (h2:M.get 2=some (.cells Z2)) (hl:c.length=5) (ha:c.all oneA=true):ev ES (.c (.seq T7_8 T7_9) [(4,.ptr 1 0),(5,.ptr 2 0),(44,.bool false)] M)=some (.code .ret [(4,.ptr 1 0),(5,.ptr 2 0)] ((M.set 1 (.cells c)).set 2 (.cells Z2))):=by
 have ht:c.take 5=c:=List.take_of_length_le (by omega)
 have hd:c.drop 5=[]:=List.drop_of_length_le (by omega)
 have hb5:Nat.ble 5 c.length=true:=ble_true (by omega)
 have g2:(M.set 1 (.cells c)).get 2=some (.cells Z2):=by rw [gs_ne (by decide)]; exact h2
 simp only [Z2] at g2 ⊢
 simp (maxSteps:=1000000) only [T7_8,T7_9,EVa,EVb,oi,ou,wants,evx,evxs,evo,evparts,fillA,put,keepT,argTm,result,resAll,resOf,vO,boxF,binF,nilF,unF,lenF,callF,appF,mkIF,readsOf,boxAt,Nat.reduceEqDiff,reduceCtorEq,Nat.reduceBEq,Int.reduceToNat,Nat.reduceAdd,Nat.reduceLeDiff,Nat.reduceMul,h1,g2,ht,hd,hb5,hl,ha]
theorem kn7 {cs:List (Nat × List Nat)} (hl:Bytes l) (hn:l.length≤300) (hc:fileChunks l=some cs) (hf:∀ c∈cs,FormOK c):∃ c,VC (sndV cs) c∧Known 7 [sndF,bsl l] (.tup [.agg c,okZ]):=by
 obtain ⟨u1,u2,u3,u4,_,_⟩:=sndV_ok hl hn hc
 have hR:=rd_file hl (by omega) hc hf
 have hA:=p7_0 (l:=l)
 obtain ⟨MA,hMA⟩:∃ MA,MA=(((Mem.zero.new (.cells [sFm])).new (.cells Z5v)).new (.cells Z2)):=⟨_,rfl⟩
 have a0:MA.get 0=some (.cells [sFm]):=by rw [hMA]; rfl
 have a1:MA.get 1=some (.cells Z5v):=by rw [hMA]; rfl
 have a2:MA.get 2=some (.cells Z2):=by rw [hMA]; rfl
 have an:MA.nb=3:=by rw [hMA]; rfl
 rw [← hMA] at hA
 have hB:=p7_1 (l:=l) an a0
 obtain ⟨MB,hMB⟩:∃ MB,MB=(MA.new (.cells Z2)).set 3 (.cells Z2):=⟨_,rfl⟩
 have bk:∀ j,j < 3→MB.get j=MA.get j:=fun j hj=>by rw [hMB,gs_ne (by omega),gn_lt (by omega)]
 have bn:MB.nb=4:=by rw [hMB,nbn_set,nbn_new,an]
 rw [← hMB] at hB
 have hC:=p7_2 (l:=l) (M:=MB) (X:=[(6,.ptr 3 0),(12,.bool false)]) (by omega)
 have h4:=p7_4 (l:=l) (M:=MB) (X:=[(17,.bool false)]) (Y:=[]) bn (by rw [bk 0 (by omega)]; exact a0)
 obtain ⟨MR,hMR⟩:∃ MR,MR=MB.new (.cells (rdC sFm sndFs l 0)):=⟨_,rfl⟩
 have rk:∀ j,j < 4→MR.get j=MB.get j:=fun j hj=>by rw [hMR,gn_lt (by omega)]
 have rn:MR.nb=5:=by rw [hMR,nbn_new,bn]
 have r4:MR.get 4=some (.cells (rdC sFm sndFs l 0)):=by rw [hMR,← bn]; exact gn_self
 rw [← hMR] at h4
 obtain ⟨c,M',e23,hvp,gb',fr⟩:=hR 4 MR (by omega) r4
 obtain ⟨c',hc1,hc2,hc3,hc4,hc5,hc6,hc7⟩:=hvp.two
 have m1:M'.get 1=some (.cells Z5v):=by rw [fr.get (by omega) (by omega),rk 1 (by omega),bk 1 (by omega)]; exact a1
 have m2:M'.get 2=some (.cells Z2):=by rw [fr.get (by omega) (by omega),rk 2 (by omega),bk 2 (by omega)]; exact a2
 have h5:=p7_5 (l:=l) e23 m1 hc5 hc6
 have s1:(M'.set 1 (.cells c)).get 1=some (.cells c):=gs_self m1
 have s2:(M'.set 1 (.cells c)).get 2=some (.cells Z2):=by rw [gs_ne (by decide)]; exact m2
 have s4:(M'.set 1 (.cells c)).get 4=some (.cells (rdC sFm sndFs l l.length)):=by rw [gs_ne (by decide)]; exact gb'
 have h6:=p7_6 s4
 have h7:=p7_7 s1 hc5 (fun M=>ev25p hvp u1 u2 u3 u4 false M)
 have h8:=p7_8 s1 s2 hc5 hc6
 refine ⟨c',hc2,fun orc M=>?_⟩
 have hRR:ev ES (.c (.seq T7_4 (.seq T7_5 (.seq T7_6 (.seq T7_7 (.seq T7_8 T7_9))))) ((20,.any) :: [(1,bsl l),(2,.ptr 0 0),(4,.ptr 1 0),(5,.ptr 2 0),(17,.bool false)]) MB)=some (.code .ret [(4,.ptr 1 0),(5,.ptr 2 0)] (((M'.set 1 (.cells c)).set 1 (.cells c)).set 2 (.cells Z2))):=by
  rw [ev_seq,h4,seqF.eq_1,ev_seq,h5,seqF.eq_1,ev_seq,h6,seqF.eq_1,ev_seq,h7,seqF.eq_1,h8]
 have t1:(((M'.set 1 (.cells c)).set 1 (.cells c)).set 2 (.cells Z2)).get 1=some (.cells c):=by rw [gs_ne (by decide)]; exact gs_self s1
 have t2:(((M'.set 1 (.cells c)).set 1 (.cells c)).set 2 (.cells Z2)).get 2=some (.cells Z2):=gs_self (by rw [gs_ne (by decide)]; exact s2)
 have hres:result [(4,.ptr 1 0),(5,.ptr 2 0)] (((M'.set 1 (.cells c)).set 1 (.cells c)).set 2 (.cells Z2)) [.cA 4 5,.cA 5 2]=some (.tup [.agg c,okZ]):=by
  have hb5:Nat.ble 5 c.length=true:=ble_true (by omega)
  simp only [Z2] at t1 t2 ⊢
  simp (maxSteps:=1000000) only [EVa,EVb,oi,ou,wants,evx,evxs,evo,evparts,fillA,put,keepT,argTm,result,resAll,resOf,vO,boxF,binF,nilF,unF,lenF,callF,appF,mkIF,readsOf,boxAt,Nat.reduceEqDiff,reduceCtorEq,Nat.reduceBEq,Int.reduceToNat,Nat.reduceAdd,Nat.reduceLeDiff,Nat.reduceMul,t1,t2,hc7,hb5,hc5,okZ]
 have hcall:CallOK Tryz.prog ES 7 [.agg [sFm],bsl l] .zero (.tup [.agg c,okZ]) (((M'.set 1 (.cells c)).set 1 (.cells c)).set 2 (.cells Z2)):=
  defer_ok (body:=.skip) (real:=Tryz.f7) (frd:=Tryz.f21) (fd:=21) (t:=20) (gA:=T7_0) (gB:=T7_1) (gC:=T7_2) (gR:=.seq T7_4 (.seq T7_5 (.seq T7_6 (.seq T7_7 (.seq T7_8 T7_9))))) (aA:=T7_0) (aB:=T7_1) (aC:=T7_2) (aR:=.seq T7_4 (.seq T7_5 (.seq T7_6 (.seq T7_7 (.seq T7_8 T7_9))))) (rs:=[.cA 4 5,.cA 5 2])
   (by kernel_rfl) (by kernel_rfl) rfl rfl rfl rfl rfl rfl rfl rfl rfl (by decide) (by kernel_rfl) (by kernel_rfl) rfl hD21 (by kernel_rfl) (by kernel_rfl) (by kernel_rfl) (by kernel_rfl) (by kernel_rfl)
   (code_of hA (by kernel_rfl)) (code_of hB (by kernel_rfl)) (code_of hC (by kernel_rfl)) (code_of hRR (by kernel_rfl)) hres
 have ha:adopt false (((M'.set 1 (.cells c)).set 1 (.cells c)).set 2 (.cells Z2)) M (.tup [.agg c,okZ])=some (.tup [.agg c',okZ],M):=by
  refine adopt_frz ?_ (by simp)
  have f1:=(purL0_frz (M:=(((M'.set 1 (.cells c)).set 1 (.cells c)).set 2 (.cells Z2))) hc1).1
  show (frzVs _ [.agg c,okZ]).map AV.tup=_
  simp only [frzVs,frzV,f1,Option.map_some,Option.bind_some,okZ,frzL,frzC,purC,purC0]
 exact own_ok (E:=ES) (args':=[.agg [sFm],bsl l]) (by kernel_rfl) hcall ha rfl
end
end Go.Sx
