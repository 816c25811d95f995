/- A part of the proof of TopSoundsDescribed (texts Zx Yq1 Zy Zz Wa Wb Wc): an executor of the program's code, proved sound, and its runs. No condition. -/
import Derived.Test.YtdflipbphcmpoaaGreatDoorP22
import Derived.RangeFuncRecord
set_option linter.unusedSimpArgs false
set_option linter.unusedVariables false
set_option maxRecDepth 100000
namespace Go.Sx
mutual
def hits:Val→Bool→List Nat→List (List Nat)
 | .num _,h,P=>if h then [P] else []
 | .byt _,h,P=>if h then [P] else []
 | .lst ps,h,P=>(if h then [P] else []) ++ hitsL ps [] P 0
 | .rcd ns ps,h,P=>(if h then [P] else []) ++ hitsL ps ns P 0
def hitsL:List Val→List (List Nat)→List Nat→Nat→List (List Nat)
 | [],_,_,_=>[]
 | v :: r,ns,P,k=>hits v (decide (ns[k]?=some nRate)) (P ++ [k]) ++ hitsL r ns P (k + 1)
end
theorem hits_eq (V:Val) (h:Bool) (P:List Nat):hits V h P=(if h then [P] else []) ++ hitsL V.parts V.names P 0:=by
 cases V <;> simp [hits,hitsL,Val.parts,Val.names]
theorem ev127 {P:List Nat} {pth:AV} {M:Mem} (hp:PathV P pth) (hn:P.length < 1000):∃ v M2 tk2,ev ES (.f true 127 [pth] M)=some (.fn v M2)∧GroK 1 M2 v P.length (numCells P) tk2∧SameB M M2∧M.nt≤M2.nt∧(∀ k,k < M.nt→lookT M2.toks k=lookT M.toks k)∧(∀ k,tk2=some k→M.nt≤k)∧PathV P v:=by
 have q0:purL0 []=some []:=rfl
 rcases hp with ⟨rfl,rfl⟩ | ⟨hne,k,rfl⟩
 ·refine ⟨.nils,M,none,?_,GroK.nil,SameB.refl M,Nat.le_refl _,fun _ _=>rfl,fun k h=>(nomatch h),.inl ⟨rfl,rfl⟩⟩
  have hp:∀ v∈[AV.nils],pureV v:=fun v hv=>by rw [List.mem_singleton.1 hv]; trivial
  rw [f127 (frzVs_pure hp),b127 rfl]
  have hN:isNilA 0 .nils=some true:=rfl
  have hc:retF ES [.t 2] (ev ES (.c code127 (argTm 0 [.nils]) .zero))=some (.fn .nils .zero):=by
   simp (maxSteps:=1000000) (disch:=omega) only [code127,EVa,EVb,oi,ou,wants,evx,evxs,evo,evparts,fillA,put,keepT,argTm,result,resAll,resOf,vO,boxF,binF,nilF,unF,lenF,callF,appF,mkIF,readsOf,boxAt,Nat.reduceEqDiff,reduceCtorEq,Nat.reduceBEq,Int.reduceToNat,Nat.reduceAdd,Nat.reduceLeDiff,Nat.reduceMul,hN]
  rw [hc]
  exact own_done hp (adopt_frz rfl (by simp))
 ·have h0:P.length≠0:=fun h=>hne (List.eq_nil_of_length_eq_zero h)
  have hf:frzVs M [.sl (k + 2) P.length P.length (numCells P)]=some [.sl 0 0 P.length (numCells P)]:=by
   simp only [frzVs,frzV,frzC,purC,purC0_pth,Option.bind_some,Option.map_some]
  rw [f127 hf,b127 rfl]
  have hE:∀ M,elems M 1 (.sl 0 0 P.length (numCells P))=some (numCells P):=fun M=>(slN_is P).elems
  have ha:appV false .zero 1 8 (.sl 1 0 0 []) P.length (numCells P)=some (.sl 2 P.length P.length (numCells P),Mem.zero.tok P.length 1):=by
   unfold appV
   rw [if_neg h0]
   simp only [List.length_nil,Nat.zero_mul,Nat.beq_refl,Bool.not_true,Bool.false_eq_true,if_false,Nat.zero_add,purL0_pure numCells_pure,Option.map_some,List.nil_append]
   rw [if_pos ⟨by omega,by omega⟩]
   rfl
  have hc:retF ES [.t 2] (ev ES (.c code127 (argTm 0 [.sl 0 0 P.length (numCells P)]) .zero))=some (.fn (.sl 2 P.length P.length (numCells P)) (Mem.zero.tok P.length 1)):=by
   simp (maxSteps:=1000000) (disch:=omega) only [code127,EVa,EVb,oi,ou,wants,evx,evxs,evo,evparts,fillA,put,keepT,argTm,result,resAll,resOf,vO,boxF,binF,nilF,unF,lenF,callF,appF,mkIF,readsOf,boxAt,Nat.reduceEqDiff,reduceCtorEq,Nat.reduceBEq,Int.reduceToNat,Nat.reduceAdd,Nat.reduceLeDiff,Nat.reduceMul,lenA_sl,hE,isNil_sl,ha,q0]
  rw [hc]
  have hk:lookT (Mem.zero.tok P.length 1).toks 0=some (P.length,1):=rfl
  refine ⟨_,_,some M.nt,by simp only [ownF,adopt,if_true,hk,Nat.beq_refl,Option.bind_some,hasMs,Bool.false_and,Bool.false_eq_true,if_false],GroK.tok (by rw [numCells_len,Nat.mul_one]) (by omega),⟨rfl,rfl,rfl,rfl⟩,Nat.le_succ _,fun j hj=>?_,fun j hj=>?_,.inr ⟨hne,M.nt,rfl⟩⟩
  ·show lookT ((M.nt,_,_) :: M.toks) j=_
   simp only [lookT,beq_ne (show ¬ M.nt=j by omega),Bool.false_eq_true,if_false]
  ·cases hj; exact Nat.le_refl _
theorem WS.app {c0:List AV} {M M':Mem} {outv:AV} {hs:List (List Nat)} {tk:Option Nat} (h:WS c0 M outv hs tk) (hs':SameB M M') (hn:M.nt≤M'.nt) (ht:∀ k,k < M.nt→lookT M'.toks k=lookT M.toks k):WS c0 M' outv hs tk:=by
 refine ⟨by rw [hs'.get]; exact h.g0,by rw [hs'.get]; exact h.g1,by rw [hs'.get]; exact h.g4,by rw [hs'.nb]; exact h.nb,?_⟩
 refine h.gro.oth (tk:=none) hn (fun k hk _=>ht k hk) ?_
 cases tk with
 | none=>exact .inl rfl
 | some k=>exact .inr (by simp)
theorem WS.box {c0:List AV} {M M':Mem} {outv:AV} {hs:List (List Nat)} {tk:Option Nat} (h:WS c0 M outv hs tk) (k:KeepM M M'):WS c0 M' outv hs tk:=h.keep k
def WalkOK (c0:List AV) (V0 V:Val):Prop:=∀ (a:List AV) (P:List Nat) (h:Bool) (pth outv:AV) (tk:Option Nat) (hs:List (List Nat)) (M:Mem),VC V a→V0.at P=some V→HitAt V0 P h→V.elen < 100000→V.size≤600→P.length + V.lev≤100→PathV P pth→WS c0 M outv hs tk→hs.length + V.size≤5000 →
 ∃ M' outv' tk',ev ES (.f false 91 [.agg a,pth,yv] M)=some (.fn (.bool true) M')∧WS c0 M' outv' (hs ++ hits V h P) tk'∧FrW 4 M M'
theorem hitsL_len:∀ {ps:List Val},(∀ v∈ps,∀ h P,(hits v h P).length≤v.size)→∀ ns P k,(hitsL ps ns P k).length≤sizes ps
 | [],_,_,_,_=>Nat.zero_le _
 | v :: r,hh,ns,P,k=>by
  have h1:=hh v (List.mem_cons_self ..) (decide (ns[k]?=some nRate)) (P ++ [k])
  have h2:=hitsL_len (fun w hw=>hh w (List.mem_cons_of_mem _ hw)) ns P (k + 1)
  simp only [hitsL,List.length_append,sizes]; omega
theorem hits_len (V:Val):∀ h P,(hits V h P).length≤V.size:=Val.ind (p:=fun V=>∀ h P,(hits V h P).length≤V.size) (fun V ih h P=>by
 rw [hits_eq,V.size_parts,List.length_append]
 have h1:=hitsL_len ih V.names P 0
 have h2:(if h=true then [P] else []).length≤1:=by cases h <;> simp
 omega) _ V (Nat.lt_succ_self _)
theorem levs_le:∀ {ps:List Val} {v:Val},v∈ps→v.lev≤levs ps
 | a :: r,v,h=>by
  simp only [levs]
  rcases List.mem_cons.1 h with rfl | h
  ·exact Nat.le_max_left _ _
  ·exact Nat.le_trans (levs_le h) (Nat.le_max_right _ _)
theorem loop91 {c0:List AV} {V0 V:Val} {cs:List AV} {p pth:AV} {P:List Nat} (hn:V.parts.length < 1000000) (hp:isS 5 V.parts.length cs p) (hv:VCs V.parts cs) (hat:V0.at P=some V) (hpv:PathV P pth) (hP:P.length + V.lev≤100):∀ (r:List Val) (i:Nat) (outv:AV) (tk:Option Nat) (hs:List (List Nat)) (M:Mem),V.parts.drop i=r→i≤V.parts.length→(∀ v∈r,WalkOK c0 V0 v∧v.elen < 100000∧v.size≤600)→WS c0 M outv hs tk→hs.length + sizes r≤5000 →
  ∃ M' outv' tk',ev ES (.c (.loop L91_0) [(1,pth),(2,yv),(17,p),(18,.int .i64 (V.parts.length:Int)),(19,.int .i64 (i:Int))] M)=some (.code (.exit 0) [(1,pth),(2,yv),(17,p),(18,.int .i64 (V.parts.length:Int)),(19,.int .i64 (V.parts.length:Int)),(20,.bool false)] M')∧WS c0 M' outv' (hs ++ hitsL r V.names P i) tk'∧FrW 4 M M':=by
 intro r
 induction r with
 | nil=>
  intro i outv tk hs M hd hi hc hw hl
  have hi:i=V.parts.length:=by
   have:=congrArg List.length hd
   simp at this; omega
  subst hi
  refine ⟨M,outv,tk,?_,by simpa [hitsL] using hw,FrW.refl 4 M⟩
  rw [ev_loop]
  simp (maxSteps:=1000000) (disch:=omega) only [L91_0,EVa,EVb,oi,ou,wants,evx,evxs,evo,evparts,fillA,put,keepT,argTm,result,resAll,resOf,vO,boxF,binF,nilF,unF,lenF,callF,appF,mkIF,readsOf,boxAt,Nat.reduceEqDiff,reduceCtorEq,Nat.reduceBEq,Int.reduceToNat,Nat.reduceAdd,Nat.reduceLeDiff,Nat.reduceMul,Int.lt_irrefl]
 | cons v r ih=>
  intro i outv tk hs M hd hi hc hw hl
  have hlt:i < V.parts.length:=by
   have:=congrArg List.length hd
   simp at this; omega
  have hd':V.parts.drop (i + 1)=r:=by rw [← List.drop_drop,hd]; rfl
  have hiv:V.parts[i]?=some v:=by
   have:=congrArg (·[0]?) hd
   simpa using this
  have hmem:v∈V.parts:=List.mem_of_getElem? hiv
  obtain ⟨a,rest,hdr,hva⟩:=hv.at hd
  have hia:=fun M=>hp.ia (M:=M) hlt
  rw [hdr] at hia
  have ht5:=take5 (rest:=rest) hva.len
  have hb5:=ble5 (rest:=rest) hva.len
  have hal:=hva.len
  have hall:=hva.all
  have ht:a.take 5=a:=List.take_of_length_le (by omega)
  obtain ⟨k1,k2,k3⟩:=hc v (List.mem_cons_self ..)
  have hw2:IntKind.i64.wrap ((i:Int) + 1)=((i + 1:Nat):Int):=by rw [wrap_i64] <;> omega
  have hlev:=V.lev_parts
  have hlv:=levs_le hmem
  have hnb:=hw.nb
  generalize hM1:((M.new (.cells [.int .i64 0,.int .i64 0,.nils,.nils,.nils])).set M.nb (.cells a))=M1
  have gA:M1.get M.nb=some (.cells a):=by rw [← hM1]; exact gns_self
  have kA:KeepM M M1:=by rw [← hM1]; exact (KeepM.new M _).set (Nat.le_refl _)
  have wA:=hw.keep kA
  obtain ⟨u,M2,tk2,e127,c1,c2,c3,c4,c5,c6⟩:=ev127 (M:=M1) hpv (by omega)
  obtain ⟨u2,M3,tk3,a1,a2,a3,a4,a5,a6⟩:=c1.appF (bytes:=8) (j:=1) (ys:=[.int .i64 (i:Int)]) rfl (by simp) (by omega) (by omega) (by omega)
  have hne2:∀ k,k < M1.nt→some k≠tk2:=fun k hk e=>by have:=c5 k e.symm; omega
  have wB:=wA.app (c2.trans a3) (Nat.le_trans c3 a4) fun k hk=>(a5 k (Nat.lt_of_lt_of_le hk c3) (hne2 k hk)).trans (c4 k hk)
  have pB:PathV (P ++ [i]) u2:=by
   obtain ⟨k,rfl,_⟩:=a2.end (Nat.succ_pos _)
   have e1:(P ++ [i]).length=P.length + 1:=by simp
   have e2:numCells (P ++ [i])=numCells P ++ [.int .i64 (i:Int)]:=by simp [numCells]
   exact .inr ⟨by simp,k,by rw [e1,e2]⟩
  have hsz:sizes (v :: r)=v.size + sizes r:=rfl
  obtain ⟨M4,outv2,tk4,e91,w4,f4⟩:=k1 a (P ++ [i]) (decide (V.names[i]?=some nRate)) u2 outv tk hs M3 hva (at_snoc hat hiv) (.inr ⟨P,i,V,rfl,hat,hlt,rfl⟩) k2 k3 (by simp only [List.length_append,List.length_cons,List.length_nil]; omega) pB wB (by omega)
  have hhl:=hits_len v (decide (V.names[i]?=some nRate)) (P ++ [i])
  obtain ⟨M',outv',tk',he,w',f'⟩:=ih (i + 1) outv2 tk4 _ M4 hd' (by omega) (fun x hx=>hc x (List.mem_cons_of_mem _ hx)) w4 (by rw [List.length_append]; omega)
  refine ⟨M',outv',tk',?_,by rw [hitsL,← List.append_assoc]; exact w',((((FrW.refl 4 M).keep kA).same (c2.trans a3)).trans f4).trans f'⟩
  have hwr1:=c2.wr
  have hwr2:=a3.wr
  have hbu:boxOf u=[]:=by rcases c6 with ⟨_,rfl⟩ | ⟨_,_,rfl⟩ <;> rfl
  have hstep:ev ES (.c L91_0 [(1,pth),(2,yv),(17,p),(18,.int .i64 (V.parts.length:Int)),(19,.int .i64 (i:Int))] M)=some (.code .normal [(1,pth),(2,yv),(17,p),(18,.int .i64 (V.parts.length:Int)),(19,.int .i64 ((i + 1:Nat):Int))] M4):=by
   simp (maxSteps:=1000000) (disch:=omega) only [L91_0,EVa,EVb,oi,ou,wants,evx,evxs,evo,evparts,fillA,put,keepT,argTm,result,resAll,resOf,vO,boxF,binF,nilF,unF,lenF,callF,appF,mkIF,readsOf,boxAt,Nat.reduceEqDiff,reduceCtorEq,Nat.reduceBEq,Int.reduceToNat,Nat.reduceAdd,Nat.reduceLeDiff,Nat.reduceMul,hia,ht5,hb5,hal,hall,ht,hw2,hM1,gA,e127,hwr1,hwr2,hbu,a1,e91,purL0,show ∀ a b,purC0 (.int a b)=some (.int a b) from fun _ _=>rfl]
  rw [ev_loop,hstep]
  exact he
theorem walk_step {c0:List AV} {V0 V:Val} (hV0:VC V0 c0) (ih:∀ v∈V.parts,WalkOK c0 V0 v):WalkOK c0 V0 V:=by
 intro a P h pth outv tk hs M hV hat hh he hs6 hP hpv hw hl
 rw [f91,b91 rfl]
 have hal:=hV.len
 have hall:=hV.all
 have ht:a.take 5=a:=List.take_of_length_le (by omega)
 have hnb:=hw.nb
 generalize hM1:M.new (.cells a)=M1
 have gA:M1.get M.nb=some (.cells a):=by rw [← hM1]; exact gn_self
 have kA:KeepM M M1:=by rw [← hM1]; exact KeepM.new M _
 have nb1:M1.nb=M.nb + 1:=by rw [← hM1]; rfl
 have wA:=hw.keep kA
 obtain ⟨u,M2,tk2,e127,c1,c2,c3,c4,c5,c6⟩:=ev127 (M:=M1) hpv (by omega)
 have wB:=wA.app c2 c3 c4
 have gB:M2.get M.nb=some (.cells a):=by rw [c2.get]; exact gA
 obtain ⟨c',hVc',e27⟩:=clone_ok V a hV he hs6 M2
 have hny:noY (.agg c')=true:=hVc'.all
 obtain ⟨M3,outv2,tk3,ey,w3,f3⟩:=roundF hV0 wB c6 (by omega) hh hny (by omega)
 have gC:M3.get M.nb=some (.cells a):=by rw [f3.get (by rw [c2.nb]; omega) (by omega)]; exact gB
 obtain ⟨k,n,b,nm,p,cs,rfl,hps,hvs⟩:=hV.parts
 have hsp:=V.size_parts
 have hsl:=sizes_len V.parts
 have hpl:=hps.len
 have hone:=hps.oneA
 obtain ⟨M',outv',tk',hlp,w',f'⟩:=loop91 (pth:=pth) (by omega) hps hvs hat hpv hP V.parts 0 outv2 tk3 _ M3 rfl (Nat.zero_le _) (fun v hv=>⟨ih v hv,by have:=elen_parts hV hv; omega,by have:=sizes_le hv; omega⟩) w3 (by
  rw [List.length_append]
  have:(if h=true then [P] else []).length≤1:=by cases h <;> simp
  omega)
 refine ⟨M',outv',tk',?_,by rw [hits_eq,← List.append_assoc]; exact w',((((FrW.refl 4 M).keep kA).same c2).trans f3).trans f'⟩
 have hwr1:=c2.wr
 have hyv:yv=.yld 0 [2,3,7] [.ptr 0 0,.ptr 1 0,.ptr 4 0]:=rfl
 simp only [Int.natCast_zero] at hlp
 rw [hyv] at hlp ⊢
 simp (maxSteps:=1000000) (disch:=omega) only [code91,T91_0,T91_1,T91_2,T91_3,T91_4,EVa,EVb,oi,ou,wants,evx,evxs,evo,evparts,fillA,put,keepT,argTm,result,resAll,resOf,vO,boxF,binF,nilF,unF,lenF,callF,appF,mkIF,readsOf,boxAt,Nat.reduceEqDiff,reduceCtorEq,Nat.reduceBEq,Int.reduceToNat,Nat.reduceAdd,Nat.reduceLeDiff,Nat.reduceMul,hM1,gA,gB,gC,e127,hwr1,e27,ey,hpl,hlp,ht,hall,hal]
theorem walk_ok {c0:List AV} {V0:Val} (hV0:VC V0 c0) (V:Val):WalkOK c0 V0 V:=Val.ind (fun _=>walk_step hV0) _ V (Nat.lt_succ_self _)
theorem ev90 {c0 c1:List AV} {V0:Val} {M:Mem} {outv:AV} {tk:Option Nat} {x:Nat} (hV0:VC V0 c0) (hV1:VC V0 c1) (hok:V0.okN) (he:V0.elen≤4000) (hs:V0.size≤600) (hl:V0.lev≤10) (hw:WS c0 M outv [] tk) (hx:M.get x=some (.cells c1)) :
  ∃ M' outv' tk' v,ev ES (.f false 90 [yv,.ptr x 0] M)=some (.fn v M')∧WS c0 M' outv' (hits V0 false []) tk'∧FrW 4 M M':=by
 obtain ⟨M',outv',tk',e91,w',f'⟩:=walk_ok hV0 V0 c1 [] false .nils outv tk [] M hV1 rfl (.inl ⟨rfl,rfl⟩) (by omega) hs (by simp only [List.length_nil]; omega) (.inl ⟨rfl,rfl⟩) hw (by simp only [List.length_nil]; omega)
 rw [f90,b90 rfl]
 have hcl:=hV1.len
 have hca:=hV1.all
 have hct:c1.take 5=c1:=List.take_of_length_le (by omega)
 have h25:=ev25 hV1 hok hs hl he false
 refine ⟨M',outv',tk',.tup [],?_,by simpa using w',f'⟩
 have hyv:yv=.yld 0 [2,3,7] [.ptr 0 0,.ptr 1 0,.ptr 4 0]:=rfl
 rw [hyv] at e91 ⊢
 simp (maxSteps:=1000000) (disch:=omega) only [code90,EVa,EVb,oi,ou,wants,evx,evxs,evo,evparts,fillA,put,keepT,argTm,result,resAll,resOf,vO,boxF,binF,nilF,unF,lenF,callF,appF,mkIF,readsOf,boxAt,Nat.reduceEqDiff,reduceCtorEq,Nat.reduceBEq,Int.reduceToNat,Nat.reduceAdd,Nat.reduceLeDiff,Nat.reduceMul,hx,hcl,hca,hct,h25,okZ,okZ_eq,e91]
end Go.Sx
namespace Go.Sx
variable {P:Program} {E:Env}
theorem Nx.putNew {γ γ':Cx} {M M':Mem} {w w':World} (hI:Inv E.gx γ M w) (h:Nx E.gx γ M w γ' M' w') {D:Nat} {o o':Obj} (hD:w.heap.size≤D) (ho:w'.heap[D]?=some o) (hc:∀ arr el fz,o≠.cells arr el fz) (hs:∀ s p,o≠.stringIter s p):Nx E.gx γ M w γ' M' (w'.putObj D o'):=by
 have hne:∀ g,g < w.heap.size→g≠D:=fun g hg=>by omega
 have hy:Inv E.gx γ' M' (w'.putObj D o'):=by
  have h1:=((h.inv.withY none fun y h=>nomatch h).putObj (o':=o') rfl ho hc hs).withY γ'.Y fun y hy=>by
   rw [h.le.Y] at hy
   obtain ⟨a1,a2,a3,a4,a5⟩:=hI.yok y hy
   obtain ⟨b1,b2,b3,b4,b5⟩:=h.inv.yok y (by rw [h.le.Y]; exact hy)
   exact ⟨b1,b2,by rw [World.putObj_heap_other (hne _ (Array.getElem?_eq_some_iff.1 a3).1)]; exact b3,by rw [World.putObj_heap_other (hne _ (Array.getElem?_eq_some_iff.1 a4).1)]; exact b4,b5⟩
  exact h1
 exact ⟨h.le,hy,h.os,h.tape,h.output,by rw [World.putObj_size]; exact h.size,fun g hg hf=>by rw [World.putObj_heap_other (hne g hg)]; exact h.keep g hg hf,h.foot,h.fresh,h.dead,h.nb,h.nt⟩
theorem Nx.other {γ γ':Cx} {M M':Mem} {w w':World} (hI:Inv E.gx γ M w) (h:Nx E.gx γ M w γ' M' w') {D:Nat} {o:Obj} (ho:w.heap[D]?=some o) (hc:∀ arr el fz,o≠.cells arr el fz) (hs:∀ s p,o≠.stringIter s p):w'.heap[D]?=some o:=by
 rw [h.keep D (Array.getElem?_eq_some_iff.1 ho).1 (hI.apart ho hc hs)]; exact ho
theorem range_wp {γ:Cx} {M M':Mem} {w:World} {tm:Tm} {a:Act} {tx gf id n:Nat} {ps:Array Nat} {psl ks:List Nat} {assign body:Code} {asC bdC g1 g2:AC} {cap:List AV} {v:AV}
  (hI:Inv E.gx γ M w) (ht:TmR γ tm a.tmps) (hx:lk tm tx=.fn gf [] cap) (hcap:cap.all noY=true) (hyb:E.yb id=some (psl,asC,bdC)) (hfit:∀ lp,FitOK P E id lp→E.fit id lp) (hps:ps.toList=psl) (hpl:∀ p∈psl,p < a.tmps.size)
  (hn:n≤a.tmps.size) (k1:compC P n assign g1=some asC) (k2:compC P n body g2=some bdC) (hks:(ks.map (lk tm)).all noY=true) (hent:∀ args w,(callFunc gf args).run P w=.ok (.enter gf args) w)
  (hcall:CallOK P E gf (.yld id ks (ks.map (lk tm)) :: cap) M v M') :
  (Code.rangeFunc (.tmp tx) ps assign body).wpIn (FR none) 0 P (fun e a' w'=>e=.normal∧a'.tmps=a.tmps∧∃ γ' D,Nx E.gx γ M w γ' M' w'∧a'.defers={ target:=.collected D,args:=#[] } :: a.defers∧w.heap.size≤D∧w'.heap[D]?=some (.deferred (some []))) a w:=by
 refine wpIn_rangeFunc ?_
 intro fn hfn
 have hv:=ht tx
 rw [hx] at hv
 obtain ⟨vb,hev,hvb⟩:∃ vb:Array Value,a.eval (.tmp tx)=.func (.func gf) #[] vb∧VRs γ false cap vb.toList:=by
  have e:a.eval (.tmp tx)=a.tmps.getD tx undef:=rfl
  rw [e]
  generalize a.tmps.getD tx undef=z at hv
  cases hv with
  | fn _ _ _ _ va vb hla hlb ha hb=>
   have:va=#[]:=by
    have h0:va.toList=[]:=List.eq_nil_of_length_eq_zero (by simpa using hla.symm)
    exact Array.toList_eq_nil_iff.1 h0
   subst this
   exact ⟨vb,rfl,hlb,hb⟩
 obtain ⟨rec,hrec⟩:∃ rec:Loop,rec={ state:=.ready,pending:=none,fn,tmps:=a.tmps,params:=ps,assign,body,defers:=w.heap.size }:=⟨_,rfl⟩
 obtain ⟨w1,hw1⟩:∃ w1,(w.alloc (.deferred (some []))).alloc (.loop rec)=w1:=⟨_,rfl⟩
 have sz1:w1.heap.size=w.heap.size + 2:=by rw [← hw1]; simp
 have hL1:w1.heap[w.heap.size + 1]?=some (.loop rec):=by
  rw [← hw1]; have:=World.alloc_heap_new (w.alloc (.deferred (some []))) (.loop rec); rwa [World.size_alloc] at this
 have old:∀ g,g < w.heap.size→w1.heap[g]?=w.heap[g]?:=fun g hg=>by
  rw [← hw1]
  show ((w.heap.push _).push _)[g]?=_
  rw [Array.getElem?_push,if_neg (by simp; omega),Array.getElem?_push,if_neg (by omega)]
 have hK1:w1.heap[w.heap.size]?=some (.deferred (some [])):=by
  rw [← hw1]
  show ((w.heap.push _).push _)[w.heap.size]?=_
  rw [Array.getElem?_push,if_neg (by simp),Array.getElem?_push,if_pos rfl]
 have hN1:Nx E.gx γ M w γ M w1:=Nx.foreign hI γ.I old (by omega) (fun _ _ _=>rfl) (fun g o v hv=>by rw [World.cell?_of_block (w:=w) (old g (hI.lt hv))]; exact hI.imm g o v hv) (by rw [← hw1]; rfl) (by rw [← hw1]; rfl) (by rw [← hw1]; rfl)
 let y:YI:=⟨w.heap.size + 1,id,rec⟩
 have hfitr:E.fit id rec:=hfit rec ⟨psl,asC,bdC,g1,g2,n,hyb,by rw [hrec]; exact hps,by rw [hrec]; exact hpl,by rw [hrec]; exact hn,by rw [hrec]; exact k1,by rw [hrec]; exact k2⟩
 have hI1:Inv E.gx (γ.withY (some y)) M w1:=hN1.inv.withY (some y) fun y' hy'=>by
  cases hy'
  exact ⟨by show rec.state=.ready; rw [hrec],by show rec.pending=none; rw [hrec],hL1,by show w1.heap[rec.defers]?=_; rw [hrec]; exact hK1,hfitr⟩
 have hargs:VRs (γ.withY (some y)) false (.yld id ks (ks.map (lk tm)) :: cap) (.func (.yield (w.heap.size + 1)) #[] #[] :: vb.toList):=by
  refine VRs.cons (.yld id ks _ y rfl rfl (by simp) fun i t b h1 h2=>?_) (hvb.noY_Y hcap)
  rw [List.getElem?_map,h1] at h2
  cases h2
  have:=(ht t).noY_Y (Y:=some y) (all_get (i:=i) hks (by rw [List.getElem?_map,h1]; rfl))
  show VR _ false _ (rec.tmps.getD t undef)
  rw [hrec]
  exact this
 have hup:=hcall.2 (γ.withY (some y)) w1 _ hI1 hargs
 have hvs:(Value.func (.yield (w.heap.size + 1)) #[] #[] :: vb.toList).toArray=#[.func (.yield (w.heap.size + 1)) #[] #[]] ++ vb:=by
  apply Array.ext'
  simp
 rw [hvs] at hup
 unfold Upon at hup
 rw [hent] at hup
 refine ⟨w.heap.size + 1,[{ target:=.collected w.heap.size,args:=#[] }],w1,{ target:=.fn (.func gf) vb,args:=#[.func (.yield (w.heap.size + 1)) #[] #[]] },w1,gf,
  #[.func (.yield (w.heap.size + 1)) #[] #[]] ++ vb,w1,?_,?_,fun _ _=>trivial,?_,fun hd=>by simp [Fence.wide] at hd,?_⟩
 ·rw [← hw1,hrec]; exact run_enterLoop_outer _ _ _ _ _
 ·simp only [resolve,hev]
  simp [Deferred.ofValue,Act.eval]
 ·simp [invoke,hent]
 ·refine FR_calls (Calls.mono hup fun e w3 he=>?_)
  cases e with
  | panicked ch=>exact he.elim
  | outgrown=>exact he.elim
  | returned r=>
   obtain ⟨γ2,hr,hN⟩:=he
   have hY2:γ2.Y=some y:=hN.le.Y
   obtain ⟨s1,s2,s3,s4,s5⟩:=hN.inv.yok y hY2
   have hdef:y.lp.defers=w.heap.size:=by show rec.defers=_; rw [hrec]
   have hst:y.lp.state≠.busy:=by rw [s1]; simp
   rw [hdef] at s4
   refine ⟨none,_,by rw [run_endLoop s3 hst,s2],?_⟩
   have hNN:Nx E.gx γ M w (γ2.withY γ.Y) M' w3:=by
    refine ⟨⟨hN.le.B,hN.le.ρ,hN.le.τ,hN.le.I,hN.le.σ,rfl⟩,hN.inv.withY γ.Y fun y' hy'=>?_,?_,?_,?_,?_,fun g hg hf=>?_,fun g hg hf=>?_,fun g o hg hf=>?_,hN.dead,hN.nb,hN.nt⟩
    ·obtain ⟨a1,a2,a3,a4,a5⟩:=hN1.inv.yok y' hy'
     exact ⟨a1,a2,Nx.other hI1 hN a3 (by simp) (by simp),Nx.other hI1 hN a4 (by simp) (by simp),a5⟩
    ·exact hN.os.trans hN1.os
    ·exact hN.tape.trans hN1.tape
    ·exact hN.output.trans hN1.output
    ·have:=hN.size; omega
    ·rw [hN.keep g (by omega) hf]; exact old g hg
    ·exact hN.foot g (by omega) hf
    ·exact hN.fresh g o (by omega) hf
   refine ⟨rfl,rfl,γ2.withY γ.Y,w.heap.size,hNN.putNew hI (show w.heap.size≤w.heap.size + 1 by omega) s3 (by simp) (by simp),rfl,Nat.le_refl _,?_⟩
   rw [World.putObj_heap_other (show w.heap.size≠w.heap.size + 1 by omega)]
   exact s4
theorem enters_of {f:Nat} {fn:Func} (hf:P.funcs[f]?=some fn) (hname:(fn.name == "runtime.NumGoroutine")=false) (hb:fn.body.isSome=true) (args:Array Value) (w:World):(callFunc f args).run P w=.ok (.enter f args) w:=by
 have hname':fn.name ≠ "runtime.NumGoroutine":=by simpa using hname
 obtain ⟨c,hc⟩:=Option.isSome_iff_exists.1 hb
 simp [callFunc,program,Sem.run,hf,hname',hc]
theorem range_ok {fid tx gf id bid:Nat} {args:List AV} {M M1 M2 M3 M4 M5 M6 M7:Mem} {tm1 tm2 tm3 tm4 tm5 tm7:Tm} {real:Func} {cA cB cC cD cE cZ assign body:Code} {ps:Array Nat} {psl ks:List Nat} {gA gB gC gD gE gZ aA aB aC aD aE aZ asC bdC g1 g2:AC} {rs:List ARes} {cap:List AV} {u v:AV}
  (hf:P.funcs[fid]?=some real) (hname:(real.name == "runtime.NumGoroutine")=false) (hb:real.body=some (.seq cA (.seq cB (.seq cC (.seq cD (.seq (.seq cE (.block bid (.rangeFunc (.tmp tx) ps assign body))) cZ))))))
  (kA:compC P real.ntmps cA gA=some aA) (kB:compC P real.ntmps cB gB=some aB) (kC:compC P real.ntmps cC gC=some aC) (kD:compC P real.ntmps cD gD=some aD) (kE:compC P real.ntmps cE gE=some aE) (kZ:compC P real.ntmps cZ gZ=some aZ) (hrs:compR P real.results.toList=some rs)
  (k1:compC P real.ntmps assign g1=some asC) (k2:compC P real.ntmps body g2=some bdC) (hyb:E.yb id=some (psl,asC,bdC)) (hfit:∀ lp,FitOK P E id lp→E.fit id lp) (hps:ps.toList=psl) (hpl:∀ p∈psl,p < real.ntmps) (hent:∀ args w,(callFunc gf args).run P w=.ok (.enter gf args) w)
  (hA:CodeOK P E aA (argTm 0 args) M .normal tm1 M1) (hB:CodeOK P E aB tm1 M1 .normal tm2 M2) (hC:CodeOK P E aC tm2 M2 .normal tm3 M3) (hD:CodeOK P E aD tm3 M3 .normal tm4 M4) (hE:CodeOK P E aE tm4 M4 .normal tm5 M5)
  (hx:lk tm5 tx=.fn gf [] cap) (hcap:cap.all noY=true) (hks:(ks.map (lk tm5)).all noY=true) (hcall:CallOK P E gf (.yld id ks (ks.map (lk tm5)) :: cap) M5 u M6)
  (hZ:CodeOK P E aZ tm5 M6 .ret tm7 M7) (hv:result tm7 M7 rs=some v):CallOK P E fid args M v M7:=by
 refine ⟨hA.1.trans (hB.1.trans (hC.1.trans (hD.1.trans (hE.1.trans (hcall.1.trans hZ.1))))),fun γ w vs hI hvs=>?_⟩
 unfold Upon
 rw [enters_of hf hname (by rw [hb]; rfl)]
 refine callsIn_wide (n:=0) |>.1 (callsIn_of_wp_marks (n:=0) hf hb trivial ?_)
 show Code.wpIn (FR none) 0 P _ _ _ _
 refine wpIn_seq (wpIn_mono (wq_in (hA.2 none [] real.ntmps _ _ kA γ w _ hI (TmR.args hvs real.ntmps) rfl (by simp; omega))) fun e a1 w1 hp=>?_)
 obtain ⟨rfl,γ1,hN1,ht1,hd1,hn1⟩:=hp
 refine wpIn_seq (wpIn_mono (wq_in (hB.2 none [] real.ntmps _ _ kB γ1 w1 a1 hN1.inv ht1 hd1 hn1)) fun e a2 w2 hp=>?_)
 obtain ⟨rfl,γ2,hN2,ht2,hd2,hn2⟩:=hp
 refine wpIn_seq (wpIn_mono (wq_in (hC.2 none [] real.ntmps _ _ kC γ2 w2 a2 hN2.inv ht2 hd2 hn2)) fun e a3 w3 hp=>?_)
 obtain ⟨rfl,γ3,hN3,ht3,hd3,hn3⟩:=hp
 refine wpIn_seq (wpIn_mono (wq_in (hD.2 none [] real.ntmps _ _ kD γ3 w3 a3 hN3.inv ht3 hd3 hn3)) fun e a4 w4 hp=>?_)
 obtain ⟨rfl,γ4,hN4,ht4,hd4,hn4⟩:=hp
 refine wpIn_seq (wpIn_seq (wpIn_mono (wq_in (hE.2 none [] real.ntmps _ _ kE γ4 w4 a4 hN4.inv ht4 hd4 hn4)) fun e a5 w5 hp=>?_))
 obtain ⟨rfl,γ5,hN5,ht5,hd5,hn5⟩:=hp
 refine wpIn_block (wpIn_mono (range_wp hN5.inv ht5 hx hcap hyb hfit hps (fun p hp=>Nat.lt_of_lt_of_le (hpl p hp) hn5) hn5 k1 k2 hks hent hcall) fun e a6 w6 hp=>?_)
 obtain ⟨rfl,htm,γ6,D,hN6,hd6,hDn,hDo⟩:=hp
 have ht6:TmR γ6 tm5 a6.tmps:=by rw [htm]; exact ht5.mono hN6.le
 have hn6:real.ntmps≤a6.tmps.size:=by rw [htm]; exact hn5
 rw [hd5] at hd6
 show Code.wpIn (FR none) 0 P cZ _ a6 w6
 refine wpIn_mono (wq_in (hZ.2 none _ real.ntmps _ _ kZ γ6 w6 a6 hN6.inv ht6 hd6 hn6)) fun e a7 w7 hp=>?_
 obtain ⟨rfl,γ7,hN7,ht7,hd7,hn7⟩:=hp
 show LeavesInM _ _ P real a7.tmps _ a7.defers .returning w7
 rw [hd7]
 have hD7:=Nx.other hN6.inv hN7 hDo (by simp) (by simp)
 have hall:=hN1.trans (hN2.trans (hN3.trans (hN4.trans (hN5.trans (hN6.trans hN7)))))
 have h5:=hN1.trans (hN2.trans (hN3.trans (hN4.trans hN5)))
 have hfin:=hall.putNew (o':=.deferred none) hI (Nat.le_trans h5.size hDn) hD7 (by simp) (by simp)
 refine ⟨by simp,.inl ⟨D,_,rfl,run_takeDeferred hD7,?_⟩⟩
 obtain ⟨r,h1,h2⟩:=results_ok hfin.inv ht7 hrs hv
 exact ⟨r,h1,γ7,h2,hfin⟩
end Go.Sx
namespace Go.Sx
open Go.Proofs
theorem ev34 (M:Mem):ev ES (.f false 34 [.str nRate] M)=some (.fn (.bool true) M):=kev (n:=10000) (args':=[.str nRate]) rfl rfl (by kernel_rfl) (fun M=>rfl) rfl M
theorem ev36 {V:Val} {c:List AV} (hV:VC V c) (he:V.elen≤4000) (hs:V.size≤600) (M:Mem):∃ c' M',ev ES (.f false 36 [.agg c] M)=some (.fn (.fn 90 [] [.ptr M.nb 0]) M')∧VC V c'∧KeepM M M'∧M'.nb=M.nb + 1∧M'.get M.nb=some (.cells c'):=by
 obtain ⟨c',hV',e27⟩:=clone_ok V c hV (by omega) hs (M.new (.cells c))
 have hcl:=hV.len
 have hca:=hV.all
 have hct:c.take 5=c:=List.take_of_length_le (by omega)
 have hcl':=hV'.len
 have hca':=hV'.all
 have hct':c'.take 5=c':=List.take_of_length_le (by omega)
 have hd:c.drop 5=[]:=List.drop_of_length_le (by omega)
 have hg:((M.new (.cells c)).set M.nb (.cells c')).get M.nb=some (.cells c'):=gns_self
 refine ⟨c',(M.new (.cells c)).set M.nb (.cells c'),?_,hV',(KeepM.new M _).set (Nat.le_refl _),rfl,hg⟩
 rw [f36,b36 rfl]
 simp (maxSteps:=1000000) (disch:=omega) only [code36,EVa,EVb,oi,ou,wants,evx,evxs,evo,evparts,fillA,put,keepT,argTm,result,resAll,resOf,vO,boxF,binF,nilF,unF,lenF,callF,appF,mkIF,readsOf,boxAt,Nat.reduceEqDiff,reduceCtorEq,Nat.reduceBEq,Int.reduceToNat,Nat.reduceAdd,Nat.reduceLeDiff,Nat.reduceMul,hcl,hca,hct,e27,hcl',hca',hct',hd]
section
variable {V:Val} {c:List AV}
theorem p11_0 (hl:c.length=5) (ha:c.all oneA=true):ev ES (.c T11_0 (argTm 0 [.agg c,.str nRate]) .zero)=some (.code .normal [(2,.ptr 0 0),(3,.ptr 1 0),(5,.ptr 2 0)] (((Mem.zero.new (.cells c)).new (.cells [.str nRate])).new (.cells Z2))):=by
 simp only [Z2]
 simp (maxSteps:=1000000) only [T11_0,EVa,EVb,oi,ou,wants,evx,evxs,evo,evparts,fillA,put,keepT,argTm,result,resAll,resOf,vO,boxF,binF,nilF,unF,lenF,callF,appF,mkIF,readsOf,boxAt,Nat.reduceEqDiff,reduceCtorEq,Nat.reduceBEq,Int.reduceToNat,Nat.reduceAdd,Nat.reduceLeDiff,Nat.reduceMul,hl,ha]
theorem p11_1 {M:Mem} (hnb:M.nb=3) (h0:M.get 0=some (.cells c)) (hl:c.length=5) (h25:∀ M,ev ES (.f false 25 [.agg c] M)=some (.fn okZ M)):∃ tm,ev ES (.c T11_1 [(2,.ptr 0 0),(3,.ptr 1 0),(5,.ptr 2 0)] M)=some (.code .normal ((2,.ptr 0 0) :: (3,.ptr 1 0) :: (5,.ptr 2 0) :: tm) ((M.new (.cells Z2)).set 3 (.cells Z2))):=by
 have g:=gs_new (M:=M) (x:=.cells Z2) (y:=.cells Z2) hnb.symm
 have g':(M.new (.cells Z2)).get 3=some (.cells Z2):=by rw [← hnb]; exact gn_self
 have ht:c.take 5=c:=List.take_of_length_le (by omega)
 have hb5:Nat.ble 5 c.length=true:=ble_true (by omega)
 simp only [Z2] at g g' ⊢
 simp only [okZ] at h25
 refine ⟨[(6,.ptr 3 0),(16,.bool false)],?_⟩
 simp (maxSteps:=1000000) only [T11_1,EVa,EVb,oi,ou,wants,evx,evxs,evo,evparts,fillA,put,keepT,argTm,result,resAll,resOf,vO,boxF,binF,nilF,unF,lenF,callF,appF,mkIF,readsOf,boxAt,Nat.reduceEqDiff,reduceCtorEq,Nat.reduceBEq,Int.reduceToNat,Nat.reduceAdd,Nat.reduceLeDiff,Nat.reduceMul,h0,h25,hnb,g,g',eqZ2,ht,hb5,hl]
theorem p11_2 {M:Mem} {X:Tm} (h1:M.get 1=some (.cells [.str nRate])):ev ES (.c T11_2 ((2,.ptr 0 0) :: (3,.ptr 1 0) :: (5,.ptr 2 0) :: X) M)=some (.code .normal [(2,.ptr 0 0),(3,.ptr 1 0),(5,.ptr 2 0),(20,.bool false)] M):=by
 have h34:=ev34
 simp (maxSteps:=1000000) only [T11_2,EVa,EVb,oi,ou,wants,evx,evxs,evo,evparts,fillA,put,keepT,argTm,result,resAll,resOf,vO,boxF,binF,nilF,unF,lenF,callF,appF,mkIF,readsOf,boxAt,Nat.reduceEqDiff,reduceCtorEq,Nat.reduceBEq,Int.reduceToNat,Nat.reduceAdd,Nat.reduceLeDiff,Nat.reduceMul,h1,h34]
theorem p11_3 {M:Mem} {X:Tm} (hnb:M.nb=4):ev ES (.c T11_3 ((2,.ptr 0 0) :: (3,.ptr 1 0) :: (5,.ptr 2 0) :: X) M)=some (.code .normal [(2,.ptr 0 0),(3,.ptr 1 0),(5,.ptr 2 0),(7,.ptr 4 0)] (M.new (.cells [.nils]))):=by
 simp (maxSteps:=1000000) only [T11_3,EVa,EVb,oi,ou,wants,evx,evxs,evo,evparts,fillA,put,keepT,argTm,result,resAll,resOf,vO,boxF,binF,nilF,unF,lenF,callF,appF,mkIF,readsOf,boxAt,Nat.reduceEqDiff,reduceCtorEq,Nat.reduceBEq,Int.reduceToNat,Nat.reduceAdd,Nat.reduceLeDiff,Nat.reduceMul,hnb]
def E11:AC:=.ops false [⟨0,some 22,.ldA 5 (.t 2),none,[]⟩,⟨1,some 23,.call false 36 [(.t 22)],none,[]⟩] (some [2,3,5,7,23])
theorem p11_4 {M M':Mem} {b:Nat} (h0:M.get 0=some (.cells c)) (hl:c.length=5) (h36:ev ES (.f false 36 [.agg c] M)=some (.fn (.fn 90 [] [.ptr b 0]) M')):ev ES (.c E11 [(2,.ptr 0 0),(3,.ptr 1 0),(5,.ptr 2 0),(7,.ptr 4 0)] M)=some (.code .normal [(2,.ptr 0 0),(3,.ptr 1 0),(5,.ptr 2 0),(7,.ptr 4 0),(23,.fn 90 [] [.ptr b 0])] M'):=by
 have ht:c.take 5=c:=List.take_of_length_le (by omega)
 have hb5:Nat.ble 5 c.length=true:=ble_true (by omega)
 simp (maxSteps:=1000000) only [E11,EVa,EVb,oi,ou,wants,evx,evxs,evo,evparts,fillA,put,keepT,argTm,result,resAll,resOf,vO,boxF,binF,nilF,unF,lenF,callF,appF,mkIF,readsOf,boxAt,Nat.reduceEqDiff,reduceCtorEq,Nat.reduceBEq,Int.reduceToNat,Nat.reduceAdd,Nat.reduceLeDiff,Nat.reduceMul,h0,h36,ht,hb5,hl]
theorem p11_5 {M:Mem} {X:AV} {v:AV} (h4:M.get 4=some (.cells [v])) (h2:M.get 2=some (.cells Z2)):ev ES (.c (.seq T11_5 T11_6) [(2,.ptr 0 0),(3,.ptr 1 0),(5,.ptr 2 0),(7,.ptr 4 0),(23,X)] M)=some (.code .ret [(4,v),(5,.ptr 2 0)] (M.set 2 (.cells Z2))):=by
 have g2:(M.set 2 (.cells Z2)).get 2=some (.cells Z2):=gs_self h2
 simp only [Z2] at h2 g2 ⊢
 simp (maxSteps:=1000000) only [T11_5,T11_6,EVa,EVb,oi,ou,wants,evx,evxs,evo,evparts,fillA,put,keepT,argTm,result,resAll,resOf,vO,boxF,binF,nilF,unF,lenF,callF,appF,mkIF,readsOf,boxAt,Nat.reduceEqDiff,reduceCtorEq,Nat.reduceBEq,Int.reduceToNat,Nat.reduceAdd,Nat.reduceLeDiff,Nat.reduceMul,h4,h2,g2]
theorem kn11 (hV:VC V c) (hok:V.okN) (hs:V.size≤600) (hlv:V.lev≤10) (he:V.elen≤4000):Known 11 [.agg c,.str nRate] (.tup [if (hits V false []).length=0 then .nils else .sl 0 0 (hits V false []).length ((hits V false []).map pathC),okZ]):=by
 have hl:=hV.len
 have ha:=hV.all
 have hA:=p11_0 hl ha
 obtain ⟨MA,hMA⟩:∃ MA,MA=(((Mem.zero.new (.cells c)).new (.cells [.str nRate])).new (.cells Z2)):=⟨_,rfl⟩
 have a0:MA.get 0=some (.cells c):=by rw [hMA]; rfl
 have a1:MA.get 1=some (.cells [.str nRate]):=by rw [hMA]; rfl
 have a2:MA.get 2=some (.cells Z2):=by rw [hMA]; rfl
 have an:MA.nb=3:=by rw [hMA]; rfl
 rw [← hMA] at hA
 obtain ⟨tmB,hB⟩:=p11_1 an a0 hl (ev25 hV hok hs hlv he false)
 obtain ⟨MB,hMB⟩:∃ MB,MB=(MA.new (.cells Z2)).set 3 (.cells Z2):=⟨_,rfl⟩
 have bk:∀ j,j < 3→MB.get j=MA.get j:=fun j hj=>by rw [hMB,gs_ne (by omega),gn_lt (by omega)]
 have bn:MB.nb=4:=by rw [hMB,nbn_set,nbn_new,an]
 rw [← hMB] at hB
 have hC:=p11_2 (X:=tmB) (M:=MB) (by rw [bk 1 (by omega)]; exact a1)
 have hD:=p11_3 (X:=[(20,.bool false)]) bn
 obtain ⟨MD,hMD⟩:∃ MD,MD=MB.new (.cells [.nils]):=⟨_,rfl⟩
 have dk:∀ j,j < 4→MD.get j=MB.get j:=fun j hj=>by rw [hMD,gn_lt (by omega)]
 have dn:MD.nb=5:=by rw [hMD,nbn_new,bn]
 have d4:MD.get 4=some (.cells [.nils]):=by rw [hMD,← bn]; exact gn_self
 have d0:MD.get 0=some (.cells c):=by rw [dk 0 (by omega),bk 0 (by omega)]; exact a0
 have d1:MD.get 1=some (.cells [.str nRate]):=by rw [dk 1 (by omega),bk 1 (by omega)]; exact a1
 have d2:MD.get 2=some (.cells Z2):=by rw [dk 2 (by omega),bk 2 (by omega)]; exact a2
 rw [← hMD] at hD
 obtain ⟨c1,ME,h36,hV1,kE,nE,gE⟩:=ev36 hV he hs MD
 rw [dn] at h36 gE
 have hE:=p11_4 d0 hl h36
 have wE:WS c ME .nils [] none:=by
  refine ⟨?_,?_,?_,by omega,GroK.nil⟩
  ·rw [kE.2.1 0 (by omega)]; exact d0
  ·rw [kE.2.1 1 (by omega)]; exact d1
  ·rw [kE.2.1 4 (by omega)]; exact d4
 obtain ⟨MF,outv,tk,u,e90,wF,fF⟩:=ev90 hV hV1 hok he hs hlv wE gE
 have f2:MF.get 2=some (.cells Z2):=by rw [fF.get (by omega) (by omega),kE.2.1 2 (by omega)]; exact d2
 have hZ:=p11_5 (X:=.fn 90 [] [.ptr 5 0]) wF.g4 f2
 refine fun orc M=>?_
 have hres:result [(4,outv),(5,.ptr 2 0)] (MF.set 2 (.cells Z2)) [.t 4,.cA 5 2]=some (.tup [outv,okZ]):=by
  have g2:(MF.set 2 (.cells Z2)).get 2=some (.cells Z2):=gs_self f2
  simp only [Z2] at g2 ⊢
  simp (maxSteps:=1000000) only [EVa,EVb,oi,ou,wants,evx,evxs,evo,evparts,fillA,put,keepT,argTm,result,resAll,resOf,vO,boxF,binF,nilF,unF,lenF,callF,appF,mkIF,readsOf,boxAt,Nat.reduceEqDiff,reduceCtorEq,Nat.reduceBEq,Int.reduceToNat,Nat.reduceAdd,Nat.reduceLeDiff,Nat.reduceMul,g2,okZ]
 have hcall:CallOK Tryz.prog ES 11 [.agg c,.str nRate] .zero (.tup [outv,okZ]) (MF.set 2 (.cells Z2)):=
  range_ok (real:=Tryz.f11) (tx:=23) (gf:=90) (id:=0) (bid:=0) (ks:=[2,3,7]) (gA:=T11_0) (gB:=T11_1) (gC:=T11_2) (gD:=T11_3) (gE:=E11) (gZ:=.seq T11_5 T11_6) (aA:=T11_0) (aB:=T11_1) (aC:=T11_2) (aD:=T11_3) (aE:=E11) (aZ:=.seq T11_5 T11_6) (g1:=yas0) (g2:=ybd0) (asC:=yas0) (bdC:=ybd0) (psl:=[24,25]) (rs:=[.t 4,.cA 5 2])
   (by kernel_rfl) (by kernel_rfl) rfl (by kernel_rfl) (by kernel_rfl) (by kernel_rfl) (by kernel_rfl) (by kernel_rfl) (by kernel_rfl) (by kernel_rfl) (by kernel_rfl) (by kernel_rfl) rfl (fun _ h=>h) rfl (by decide) (fun args w=>enters_of (fn:=Tryz.f90) (by kernel_rfl) (by kernel_rfl) (by kernel_rfl) args w)
   (code_of hA (by kernel_rfl)) (code_of hB (by kernel_rfl)) (code_of hC (by kernel_rfl)) (code_of hD (by kernel_rfl)) (code_of hE (by kernel_rfl)) rfl rfl rfl (ev_sound ES_ok e90) (code_of hZ (by kernel_rfl)) hres
 have hadopt:adopt false (MF.set 2 (.cells Z2)) M (.tup [outv,okZ])=some (.tup [if (hits V false []).length=0 then .nils else .sl 0 0 (hits V false []).length ((hits V false []).map pathC),okZ],M):=by
  refine adopt_frz ?_ (by simp)
  have f1:frzV (MF.set 2 (.cells Z2)) outv=some (if (hits V false []).length=0 then .nils else .sl 0 0 (hits V false []).length ((hits V false []).map pathC)):=by
   have hg:=wF.gro
   have hf:=hg.frz (M1:=MF.set 2 (.cells Z2))
   rw [← hf]
   obtain ⟨_,hg⟩:=hg
   rcases hg with ⟨_,rfl,_⟩ | ⟨_,k,_,_,rfl,_⟩ <;> rfl
  show (frzVs _ [outv,okZ]).map AV.tup=_
  have f2:frzV (MF.set 2 (.cells Z2)) okZ=some okZ:=rfl
  simp only [frzVs,f1,f2,Option.map_some,Option.bind_some]
 have hfr:frzVs M [.agg c,.str nRate]=some [.agg c,.str nRate]:=frzVs_pure fun x hx=>by
  simp only [List.mem_cons,List.not_mem_nil,or_false] at hx
  rcases hx with rfl | rfl
  ·exact hV.pure
  ·trivial
 exact own_ok (E:=ES) (args':=[.agg c,.str nRate]) hfr hcall hadopt (by
  rw [hasMs_pure fun x hx=>by
   simp only [List.mem_cons,List.not_mem_nil,or_false] at hx
   rcases hx with rfl | rfl
   ·exact hV.pure
   ·trivial]
  rfl)
end
end Go.Sx
namespace Go.Sx
theorem b3 {args:List AV} {M:Mem} (h:args.length=1):ev ES (.b 3 args M)=retF ES [.t 2] (ev ES (.c code3 (argTm 0 args) M)):=ev_body (show tab.get 3=some ⟨1,code3,[.t 2]⟩ by kernel_rfl) h
theorem f3 {ad:Bool} {args xs:List AV} {M:Mem} (h:frzVs M args=some xs):ev ES (.f ad 3 args M)=ownF ad args M (ev ES (.b 3 xs .zero)):=ev_own rfl rfl h
end Go.Sx
namespace Go.Sx
theorem hits_chunk {c:Nat × List Nat} {P:List Nat}:hits (chunkV c) false P=if c.1=70 then [P ++ [1,0]] else []:=by
 obtain ⟨a,d⟩:=c
 simp only [chunkV]
 by_cases h:a=70
 ·simp [h,hits,hitsL,nRate,nChan,nCod]
 ·simp only [h,if_false]
  by_cases h2:a=68
  ·simp [h2,hits,hitsL,nRate,nData]
  ·simp [h2,hits,hitsL,nRate,nData,nName]
theorem hits_chunks (P:List Nat) (r:List Val) (c:Nat × List Nat) (i:Nat):hitsL (chunkV c :: r) [] P i=(if c.1=70 then [P ++ [i,1,0]] else []) ++ hitsL r [] P (i + 1):=by
 simp only [hitsL]
 rw [show decide (([]:List (List Nat))[i]?=some nRate)=false from rfl,hits_chunk]
 by_cases h:c.1=70 <;> simp [h]
theorem rd_none:∀ (cs:List (Nat × List Nat)) (P:List Nat) (i j:Nat) (s s':RdSt),rd cs j s=some s'→s.seen.count 70≤s'.seen.count 70∧(s'.seen.count 70=s.seen.count 70→hitsL (cs.map chunkV) [] P i=[]∧s'.rate=s.rate)
 | [],P,i,j,s,s',h=>by
  simp only [rd,Option.some.injEq] at h
  subst h
  exact ⟨Nat.le_refl _,fun _=>⟨by simp [hitsL],rfl⟩⟩
 | (a,d) :: r,P,i,j,s,s',h=>by
  simp only [rd,Option.bind_eq_some_iff] at h
  obtain ⟨s1,h1,h2⟩:=h
  obtain ⟨g1,g2⟩:=rd_none r P (i + 1) (j + 1) s1 s' h2
  simp only [rdStep] at h1
  rw [List.map_cons,hits_chunks]
  split at h1
  ·rename_i ha
   split at h1
   ·rename_i p q c k
    cases h1
    simp only [List.count_append,List.count_cons_self,List.count_nil] at g1 g2
    exact ⟨by omega,fun hh=>by omega⟩
   ·cases h1
  ·rename_i ha
   split at h1
   ·cases h1
    have:(s.seen ++ [68]).count 70=s.seen.count 70:=by simp [List.count_append]
    rw [this] at g1 g2
    refine ⟨g1,fun hh=>?_⟩
    obtain ⟨e1,e2⟩:=g2 hh
    exact ⟨by simp [ha,e1],e2⟩
   ·cases h1
    refine ⟨g1,fun hh=>?_⟩
    obtain ⟨e1,e2⟩:=g2 hh
    exact ⟨by simp [ha,e1],e2⟩
theorem rd_one:∀ (cs:List (Nat × List Nat)) (P:List Nat) (i j:Nat) (s s':RdSt),rd cs j s=some s'→s'.seen.count 70=s.seen.count 70 + 1→∃ k v,hitsL (cs.map chunkV) [] P i=[P ++ [i + k,1,0]]∧k < cs.length∧(cs.map chunkV)[k]?=some v∧v.at [1,0]=some (.num s'.rate)
 | [],P,i,j,s,s',h,hc=>by
  simp only [rd,Option.some.injEq] at h
  subst h
  omega
 | (a,d) :: r,P,i,j,s,s',h,hc=>by
  simp only [rd,Option.bind_eq_some_iff] at h
  obtain ⟨s1,h1,h2⟩:=h
  have ih:=rd_one r P (i + 1) (j + 1) s1 s' h2
  have ih0:=rd_none r P (i + 1) (j + 1) s1 s' h2
  simp only [rdStep] at h1
  rw [List.map_cons,hits_chunks]
  split at h1
  ·rename_i ha
   split at h1
   ·rename_i p q c k
    cases h1
    subst ha
    simp only [List.count_append,List.count_cons_self,List.count_nil] at ih0
    obtain ⟨e1,e2⟩:=ih0.2 (by omega)
    refine ⟨0,chunkV (70,[p,q,c,k]),by simp [e1],Nat.succ_pos _,rfl,?_⟩
    rw [chunkV_form,e2]
    simp only [Val.at,Val.parts,List.getElem?_cons_succ,List.getElem?_cons_zero,Option.bind_some,numB_two]
   ·cases h1
  ·rename_i ha
   have next:s1.seen.count 70=s.seen.count 70→∃ k v,((if a=70 then [P ++ [i,1,0]] else []) ++ hitsL (r.map chunkV) [] P (i + 1)=[P ++ [i + k,1,0]])∧k < ((a,d) :: r).length∧(chunkV (a,d) :: r.map chunkV)[k]?=some v∧v.at [1,0]=some (.num s'.rate):=fun hs=>by
    obtain ⟨k,v,e1,e2,e3,e4⟩:=ih (by omega)
    exact ⟨k + 1,v,by rw [e1,if_neg ha,List.nil_append,show i + 1 + k=i + (k + 1) by omega],by simp only [List.length_cons]; omega,e3,e4⟩
   split at h1
   ·cases h1
    exact next (by simp [List.count_append])
   ·cases h1
    exact next rfl
theorem snd_rate {l:List Nat} {cs:List (Nat × List Nat)} {s:RdSt} (h:fileRd l=some (cs,s)):fileChunks l=some cs∧(∀ c∈cs,FormOK c)∧∃ k,k < cs.length∧hits (sndV cs) false []=[[0,k,1,0]]∧(sndV cs).at [0,k,1,0]=some (.num s.rate):=by
 simp only [fileRd,Option.bind_eq_some_iff] at h
 obtain ⟨cs1,h1,s1,h2,h3⟩:=h
 split at h3
 ·rename_i hg
  cases h3
  have hseen:s.seen=[70,68]:=hg.1.1
  refine ⟨h1,rd_forms cs 0 s0 s h2,?_⟩
  obtain ⟨k,v,e1,e2,e3,e4⟩:=rd_one cs [0] 0 0 s0 s h2 (by rw [hseen]; rfl)
  refine ⟨k,e2,?_,?_⟩
  ·rw [sndV,hits_eq]
   simp only [Val.parts,Val.names,hitsL,Bool.false_eq_true,if_false,List.nil_append,List.append_nil]
   rw [hits_eq,show decide (([nChunks]:List (List Nat))[0]?=some nRate)=false from by decide]
   simp only [Val.parts,Val.names,Bool.false_eq_true,if_false,List.nil_append,e1,Nat.zero_add,List.cons_append]
  ·rw [sndV]
   simp only [Val.at,Val.parts,List.getElem?_cons_zero,Option.bind_some,e3]
   exact e4
 ·cases h3
end Go.Sx
namespace Go.Sx
open Go.Proofs
theorem two_new {M:Mem} {n:Nat} (hn:M.nb=n) (x y x' y':Box):((M.new x).new y).get n=some x∧(((M.new x).new y).set n x').get (n + 1)=some y∧((((M.new x).new y).set n x').set (n + 1) y').nb=n + 2∧((((M.new x).new y).set n x').set (n + 1) y').get n=some x'∧((((M.new x).new y).set n x').set (n + 1) y').get (n + 1)=some y'∧∀ j,j < n→((((M.new x).new y).set n x').set (n + 1) y').get j=M.get j:=by
 subst hn
 have h1:((M.new x).new y).get M.nb=some x:=by rw [gn_lt (by rw [nbn_new]; omega)]; exact gn_self
 have h2:(((M.new x).new y).set M.nb x').get (M.nb + 1)=some y:=by rw [gs_ne (by omega)]; exact gn_self (M:=M.new x)
 refine ⟨h1,h2,rfl,by rw [gs_ne (by omega)]; exact gs_self h1,gs_self h2,fun j hj=>?_⟩
 rw [gs_ne (by omega),gs_ne (by omega),gn_lt (by rw [nbn_new]; omega),gn_lt hj]
theorem one_new {M:Mem} {n:Nat} (hn:M.nb=n) (x x':Box):(M.new x).get n=some x∧((M.new x).set n x').nb=n + 1∧((M.new x).set n x').get n=some x'∧∀ j,j < n→((M.new x).set n x').get j=M.get j:=by
 subst hn
 exact ⟨gn_self,rfl,gns_self,fun j hj=>gns_lt hj⟩
def oneL:List Nat:=[83,78,68,49,70,0,4,0,8,1,0,68,0,1,129,0]
def oneS:AV:=.sl 1 0 16 (byteCells oneL)
def pthS:AV:=.sl 1 0 4 [.int .i64 0,.int .i64 0,.int .i64 1,.int .i64 0]
section
variable {E:Env} {d:AV} {c1 c2:List AV}
theorem p3_1 (h6:∀ M,ev E (.f false 6 [] M)=some (.fn sndTxt M)) (h5:∀ M,ev E (.f false 5 [sndTxt] M)=some (.fn (.tup [.agg [sFm],okZ]) M)) :
  ∃ M1,ev E (.c T3_1 [(0,d)] .zero)=some (.code .normal [(0,d),(3,.ptr 0 0),(4,.ptr 1 0)] M1)∧M1.nb=2∧M1.get 0=some (.cells [sFm])∧M1.get 1=some (.cells Z2):=by
 obtain ⟨q1,q2,q3,q4,q5,_⟩:=two_new (M:=.zero) (n:=0) rfl (.cells [.nils]) (.cells Z2) (.cells [sFm]) (.cells Z2)
 refine ⟨_,?_,q3,q4,q5⟩
 simp only [okZ] at h5
 simp only [Z2] at q1 q2 ⊢
 simp (maxSteps:=1000000) only [T3_1,EVa,EVb,oi,ou,wants,evx,evxs,evo,evparts,fillA,put,keepT,argTm,result,resAll,resOf,vO,boxF,binF,nilF,unF,lenF,callF,appF,mkIF,readsOf,boxAt,Nat.reduceEqDiff,reduceCtorEq,Nat.reduceBEq,Int.reduceToNat,Nat.reduceAdd,Nat.reduceLeDiff,Nat.reduceMul,h6,h5,q1,q2,sFm_o]
theorem p3_2 {M:Mem}:ev E (.c T3_2 [(0,d),(3,.ptr 0 0),(4,.ptr 1 0)] M)=some (.code .normal [(0,d),(3,.ptr 0 0),(4,.ptr 1 0),(5,oneS)] M):=by
 have hs:oneS=.sl 1 0 16 [.int .u8 83,.int .u8 78,.int .u8 68,.int .u8 49,.int .u8 70,.int .u8 0,.int .u8 4,.int .u8 0,.int .u8 8,.int .u8 1,.int .u8 0,.int .u8 68,.int .u8 0,.int .u8 1,.int .u8 129,.int .u8 0]:=rfl
 rw [hs]
 simp (maxSteps:=1000000) only [T3_2,EVa,EVb,oi,ou,wants,evx,evxs,evo,evparts,fillA,put,keepT,argTm,result,resAll,resOf,vO,boxF,binF,nilF,unF,lenF,callF,appF,mkIF,readsOf,boxAt,Nat.reduceEqDiff,reduceCtorEq,Nat.reduceBEq,Int.reduceToNat,Nat.reduceAdd,Nat.reduceLeDiff,Nat.reduceMul,purL0,show ∀ a b,purC0 (.int a b)=some (.int a b) from fun _ _=>rfl]
theorem p3_3 {M:Mem} (hnb:M.nb=2) (h0:M.get 0=some (.cells [sFm])) (h7:∀ M,ev E (.f false 7 [.agg [sFm],oneS] M)=some (.fn (.tup [.agg c1,okZ]) M)) (hl:c1.length=5) (ha:c1.all oneA=true) :
  ∃ M1,ev E (.c T3_3 [(0,d),(3,.ptr 0 0),(4,.ptr 1 0),(5,oneS)] M)=some (.code .normal [(0,d),(3,.ptr 0 0),(4,.ptr 1 0),(6,.ptr 2 0),(7,.ptr 3 0)] M1)∧M1.nb=4∧M1.get 2=some (.cells c1)∧M1.get 3=some (.cells Z2)∧∀ j,j < 2→M1.get j=M.get j:=by
 obtain ⟨q1,q2,q3,q4,q5,q6⟩:=two_new hnb (.cells Z5v) (.cells Z2) (.cells c1) (.cells Z2)
 refine ⟨_,?_,q3,q4,q5,q6⟩
 have hd:c1.drop 5=[]:=List.drop_of_length_le (by omega)
 simp only [okZ] at h7
 simp only [Z2,Z5v,Nat.reduceAdd] at q1 q2 ⊢
 simp (maxSteps:=1000000) only [T3_3,EVa,EVb,oi,ou,wants,evx,evxs,evo,evparts,fillA,put,keepT,argTm,result,resAll,resOf,vO,boxF,binF,nilF,unF,lenF,callF,appF,mkIF,readsOf,boxAt,Nat.reduceEqDiff,reduceCtorEq,Nat.reduceBEq,Int.reduceToNat,Nat.reduceAdd,Nat.reduceLeDiff,Nat.reduceMul,h0,h7,hnb,q1,q2,hl,ha,hd]
theorem p3_4 {M:Mem} (hnb:M.nb=4) (h2:M.get 2=some (.cells c1)) (h8:∀ M,ev E (.f false 8 [.agg c1,pthS] M)=some (.fn (.tup [.agg c2,okZ]) M)) (hl1:c1.length=5) (hl:c2.length=5) (ha:c2.all oneA=true) :
  ∃ M1,ev E (.c T3_4 [(0,d),(3,.ptr 0 0),(4,.ptr 1 0),(6,.ptr 2 0),(7,.ptr 3 0)] M)=some (.code .normal [(0,d),(3,.ptr 0 0),(4,.ptr 1 0),(6,.ptr 2 0),(7,.ptr 3 0),(8,.ptr 4 0),(9,.ptr 5 0)] M1)∧M1.nb=6∧M1.get 4=some (.cells c2)∧M1.get 5=some (.cells Z2)∧∀ j,j < 4→M1.get j=M.get j:=by
 obtain ⟨q1,q2,q3,q4,q5,q6⟩:=two_new hnb (.cells Z5v) (.cells Z2) (.cells c2) (.cells Z2)
 refine ⟨_,?_,q3,q4,q5,q6⟩
 have hd:c2.drop 5=[]:=List.drop_of_length_le (by omega)
 have ht:c1.take 5=c1:=List.take_of_length_le (by omega)
 have hb5:Nat.ble 5 c1.length=true:=ble_true (by omega)
 simp only [okZ,pthS] at h8
 simp only [Z2,Z5v,Nat.reduceAdd] at q1 q2 ⊢
 simp (maxSteps:=1000000) only [T3_4,EVa,EVb,oi,ou,wants,evx,evxs,evo,evparts,fillA,put,keepT,argTm,result,resAll,resOf,vO,boxF,binF,nilF,unF,lenF,callF,appF,mkIF,readsOf,boxAt,Nat.reduceEqDiff,reduceCtorEq,Nat.reduceBEq,Int.reduceToNat,Nat.reduceAdd,Nat.reduceLeDiff,Nat.reduceMul,h2,h8,hnb,q1,q2,hl,ha,hd,ht,hb5,hl1,purL0,show ∀ a b,purC0 (.int a b)=some (.int a b) from fun _ _=>rfl]
theorem p3_5 {M:Mem} {b nm p:AV} (h1:M.get 1=some (.cells Z2)) (h3:M.get 3=some (.cells Z2)) (h5:M.get 5=some (.cells Z2)) (h4:M.get 4=some (.cells [.int .i64 1,.int .i64 8,b,nm,p])) :
  ev E (.c T3_5 [(0,d),(3,.ptr 0 0),(4,.ptr 1 0),(6,.ptr 2 0),(7,.ptr 3 0),(8,.ptr 4 0),(9,.ptr 5 0)] M)=some (.code .normal [(0,d),(3,.ptr 0 0),(6,.ptr 2 0),(7,.ptr 3 0),(54,.bool false)] M):=by
 simp only [Z2] at h1 h3 h5
 simp (maxSteps:=1000000) only [T3_5,EVa,EVb,oi,ou,wants,evx,evxs,evo,evparts,fillA,put,keepT,argTm,result,resAll,resOf,vO,boxF,binF,nilF,unF,lenF,callF,appF,mkIF,readsOf,boxAt,Nat.reduceEqDiff,reduceCtorEq,Nat.reduceBEq,Int.reduceToNat,Nat.reduceAdd,Nat.reduceLeDiff,Nat.reduceMul,h1,h3,h5,h4,ne_eq,not_true_eq_false]
end
section
variable {E:Env} {l:List Nat} {c c2 v5:List AV} {sl:AV}
theorem p3_6 {d:AV} {M:Mem} {res:AV} {k x:Int} (hnb:M.nb=6) (h9:∀ M,ev E (.f false 9 [d] M)=some (.fn (.tup [.agg v5,res,.agg [.int .i64 k,.int .i64 x]]) M)) (hl:v5.length=5) (ha:v5.all oneA=true) {X:Tm} :
  ∃ M1,ev E (.c T3_6 ((0,d) :: (3,.ptr 0 0) :: (6,.ptr 2 0) :: (7,.ptr 3 0) :: X) M)=some (.code .normal [(0,d),(3,.ptr 0 0),(6,.ptr 2 0),(7,.ptr 3 0),(10,.ptr 6 0),(12,.ptr 7 0)] M1)∧M1.nb=8∧M1.get 6=some (.cells v5)∧M1.get 7=some (.cells [.int .i64 k,.int .i64 x])∧∀ j,j < 6→M1.get j=M.get j:=by
 obtain ⟨q1,q2,q3,q4,q5,q6⟩:=two_new hnb (.cells Z5v) (.cells Z2) (.cells v5) (.cells [.int .i64 k,.int .i64 x])
 refine ⟨_,?_,q3,q4,q5,q6⟩
 have hd:v5.drop 5=[]:=List.drop_of_length_le (by omega)
 simp only [Z2,Z5v,Nat.reduceAdd] at q1 q2 ⊢
 simp (maxSteps:=1000000) only [T3_6,EVa,EVb,oi,ou,wants,evx,evxs,evo,evparts,fillA,put,keepT,argTm,result,resAll,resOf,vO,boxF,binF,nilF,unF,lenF,callF,appF,mkIF,readsOf,boxAt,Nat.reduceEqDiff,reduceCtorEq,Nat.reduceBEq,Int.reduceToNat,Nat.reduceAdd,Nat.reduceLeDiff,Nat.reduceMul,h9,hnb,q1,q2,hl,ha,hd]
theorem p3_7a {d:AV} {M:Mem} {k x:Int} (h7:M.get 7=some (.cells [.int .i64 k,.int .i64 x])) (hk:k≠0):ev E (.c T3_7 [(0,d),(3,.ptr 0 0),(6,.ptr 2 0),(7,.ptr 3 0),(10,.ptr 6 0),(12,.ptr 7 0)] M)=some (.code .ret [(2,.bool true)] M):=by
 simp (maxSteps:=1000000) only [T3_7,EVa,EVb,oi,ou,wants,evx,evxs,evo,evparts,fillA,put,keepT,argTm,result,resAll,resOf,vO,boxF,binF,nilF,unF,lenF,callF,appF,mkIF,readsOf,boxAt,Nat.reduceEqDiff,reduceCtorEq,Nat.reduceBEq,Int.reduceToNat,Nat.reduceAdd,Nat.reduceLeDiff,Nat.reduceMul,h7,hk,ne_eq,not_false_eq_true]
theorem p3_7b {M:Mem} {x:Int} (h7:M.get 7=some (.cells [.int .i64 0,.int .i64 x])) (hk:300 < l.length):ev E (.c T3_7 [(0,bsl l),(3,.ptr 0 0),(6,.ptr 2 0),(7,.ptr 3 0),(10,.ptr 6 0),(12,.ptr 7 0)] M)=some (.code .ret [(2,.bool true)] M):=by
 have hh:(300:Int) < (l.length:Int):=by omega
 simp (maxSteps:=1000000) only [T3_7,EVa,EVb,oi,ou,wants,evx,evxs,evo,evparts,fillA,put,keepT,argTm,result,resAll,resOf,vO,boxF,binF,nilF,unF,lenF,callF,appF,mkIF,readsOf,boxAt,Nat.reduceEqDiff,reduceCtorEq,Nat.reduceBEq,Int.reduceToNat,Nat.reduceAdd,Nat.reduceLeDiff,Nat.reduceMul,h7,hh,ne_eq,not_true_eq_false,gt_iff_lt]
theorem p3_7c {M:Mem} {x:Int} (h7:M.get 7=some (.cells [.int .i64 0,.int .i64 x])) (hk:l.length≤300):ev E (.c T3_7 [(0,bsl l),(3,.ptr 0 0),(6,.ptr 2 0),(7,.ptr 3 0),(10,.ptr 6 0),(12,.ptr 7 0)] M)=some (.code .normal [(0,bsl l),(3,.ptr 0 0),(6,.ptr 2 0),(7,.ptr 3 0),(10,.ptr 6 0),(68,.bool false)] M):=by
 have hh:¬ (300:Int) < (l.length:Int):=by omega
 simp (maxSteps:=1000000) only [T3_7,EVa,EVb,oi,ou,wants,evx,evxs,evo,evparts,fillA,put,keepT,argTm,result,resAll,resOf,vO,boxF,binF,nilF,unF,lenF,callF,appF,mkIF,readsOf,boxAt,Nat.reduceEqDiff,reduceCtorEq,Nat.reduceBEq,Int.reduceToNat,Nat.reduceAdd,Nat.reduceLeDiff,Nat.reduceMul,h7,hh,ne_eq,not_true_eq_false,gt_iff_lt]
theorem p3_8 {M:Mem} {X:Tm} {c1:List AV} (h0:M.get 0=some (.cells [sFm])) (h2:M.get 2=some (.cells c1)) (hl1:c1.length=5) (h3:M.get 3=some (.cells Z2)) (h7:∀ M,ev E (.f false 7 [.agg [sFm],bsl l] M)=some (.fn (.tup [.agg c,okZ]) M)) (hl:c.length=5) (ha:c.all oneA=true) :
  ∃ M1,ev E (.c T3_8 ((0,bsl l) :: (3,.ptr 0 0) :: (6,.ptr 2 0) :: (7,.ptr 3 0) :: (10,.ptr 6 0) :: X) M)=some (.code .normal [(0,bsl l),(3,.ptr 0 0),(6,.ptr 2 0),(7,.ptr 3 0),(10,.ptr 6 0)] M1)∧M1.nb=M.nb∧M1.get 2=some (.cells c)∧M1.get 3=some (.cells Z2)∧∀ j,j≠2→j≠3→M1.get j=M.get j:=by
 have g3:(M.set 2 (.cells c)).get 3=some (.cells Z2):=by rw [gs_ne (by omega)]; exact h3
 refine ⟨(M.set 2 (.cells c)).set 3 (.cells Z2),?_,rfl,by rw [gs_ne (by omega)]; exact gs_self h2,gs_self g3,fun j hj hj'=>by rw [gs_ne (fun e=>hj' e.symm),gs_ne (fun e=>hj e.symm)]⟩
 have hb5:Nat.ble 5 c1.length=true:=ble_true (by omega)
 have hd:c1.drop 5=[]:=List.drop_of_length_le (by omega)
 simp only [okZ] at h7
 simp only [Z2] at g3 ⊢
 simp (maxSteps:=1000000) only [T3_8,EVa,EVb,oi,ou,wants,evx,evxs,evo,evparts,fillA,put,keepT,argTm,result,resAll,resOf,vO,boxF,binF,nilF,unF,lenF,callF,appF,mkIF,readsOf,boxAt,Nat.reduceEqDiff,reduceCtorEq,Nat.reduceBEq,Int.reduceToNat,Nat.reduceAdd,Nat.reduceLeDiff,Nat.reduceMul,h0,h2,h7,g3,hl,ha,hb5,hd,hl1]
theorem p3_9 {M:Mem} (hnb:M.nb=8) (h0:M.get 0=some (.cells [sFm])) (h2:M.get 2=some (.cells c)) (hl:c.length=5) (h10:∀ M,ev E (.f false 10 [.agg [sFm],.agg c] M)=some (.fn (.tup [bsl l,okZ]) M)) :
  ∃ M1,ev E (.c T3_9 [(0,bsl l),(3,.ptr 0 0),(6,.ptr 2 0),(7,.ptr 3 0),(10,.ptr 6 0)] M)=some (.code .normal [(0,bsl l),(6,.ptr 2 0),(7,.ptr 3 0),(10,.ptr 6 0),(13,bsl l),(14,.ptr 8 0)] M1)∧M1.nb=9∧M1.get 8=some (.cells Z2)∧∀ j,j < 8→M1.get j=M.get j:=by
 obtain ⟨q1,q3,q4,q6⟩:=one_new hnb (.cells Z2) (.cells Z2)
 refine ⟨_,?_,q3,q4,q6⟩
 have ht:c.take 5=c:=List.take_of_length_le (by omega)
 have hb5:Nat.ble 5 c.length=true:=ble_true (by omega)
 simp only [okZ] at h10
 simp only [Z2] at q1 ⊢
 simp (maxSteps:=1000000) only [T3_9,EVa,EVb,oi,ou,wants,evx,evxs,evo,evparts,fillA,put,keepT,argTm,result,resAll,resOf,vO,boxF,binF,nilF,unF,lenF,callF,appF,mkIF,readsOf,boxAt,Nat.reduceEqDiff,reduceCtorEq,Nat.reduceBEq,Int.reduceToNat,Nat.reduceAdd,Nat.reduceLeDiff,Nat.reduceMul,h0,h2,h10,hnb,q1,ht,hb5,hl]
theorem p3_10 {M:Mem} (hnb:M.nb=9) (h2:M.get 2=some (.cells c)) (hl:c.length=5) (h11:∀ M,ev E (.f false 11 [.agg c,.str nRate] M)=some (.fn (.tup [sl,okZ]) M)) :
  ∃ M1,ev E (.c T3_10 [(0,bsl l),(6,.ptr 2 0),(7,.ptr 3 0),(10,.ptr 6 0),(13,bsl l),(14,.ptr 8 0)] M)=some (.code .normal [(0,bsl l),(6,.ptr 2 0),(7,.ptr 3 0),(10,.ptr 6 0),(13,bsl l),(14,.ptr 8 0),(15,sl),(16,.ptr 9 0)] M1)∧M1.nb=10∧M1.get 9=some (.cells Z2)∧∀ j,j < 9→M1.get j=M.get j:=by
 obtain ⟨q1,q3,q4,q6⟩:=one_new hnb (.cells Z2) (.cells Z2)
 refine ⟨_,?_,q3,q4,q6⟩
 have ht:c.take 5=c:=List.take_of_length_le (by omega)
 have hb5:Nat.ble 5 c.length=true:=ble_true (by omega)
 simp only [okZ,nRate] at h11
 simp only [Z2] at q1 ⊢
 simp (maxSteps:=1000000) only [T3_10,EVa,EVb,oi,ou,wants,evx,evxs,evo,evparts,fillA,put,keepT,argTm,result,resAll,resOf,vO,boxF,binF,nilF,unF,lenF,callF,appF,mkIF,readsOf,boxAt,Nat.reduceEqDiff,reduceCtorEq,Nat.reduceBEq,Int.reduceToNat,Nat.reduceAdd,Nat.reduceLeDiff,Nat.reduceMul,h2,h11,hnb,q1,ht,hb5,hl]
theorem p3_11 {M:Mem} {n b nm w0 k0:AV} {cs:List AV} {pc:AV} (h3:M.get 3=some (.cells Z2)) (h8:M.get 8=some (.cells Z2)) (h9:M.get 9=some (.cells Z2)) (h6:M.get 6=some (.cells [k0,n,b,nm,.sl 1 0 3 cs])) :
  ev E (.c T3_11 [(0,bsl l),(6,.ptr 2 0),(7,.ptr 3 0),(10,.ptr 6 0),(13,bsl l),(14,.ptr 8 0),(15,.sl 0 0 1 [pc]),(16,.ptr 9 0)] M)=some (.code .normal [(0,bsl l),(6,.ptr 2 0),(10,.ptr 6 0),(13,bsl l),(15,.sl 0 0 1 [pc]),(109,.bool false)] M):=by
 have e1:lenK false (.sl 0 0 1 [pc])=some 1:=rfl
 have e2:lenK false (.sl 1 0 3 cs)=some 3:=rfl
 simp only [Z2] at h3 h8 h9
 simp (maxSteps:=1000000) only [T3_11,EVa,EVb,oi,ou,wants,evx,evxs,evo,evparts,fillA,put,keepT,argTm,result,resAll,resOf,vO,boxF,binF,nilF,unF,lenF,callF,appF,mkIF,readsOf,boxAt,Nat.reduceEqDiff,reduceCtorEq,Nat.reduceBEq,Int.reduceToNat,Nat.reduceAdd,Nat.reduceLeDiff,Nat.reduceMul,h3,h8,h9,h6,e1,e2,ne_eq,not_true_eq_false,Int.cast_ofNat_Int]
theorem p3_12 {M:Mem} {X:Tm} {P:List Nat} (hnb:M.nb=10) (h2:M.get 2=some (.cells c)) (hl:c.length=5) (h8:∀ M,ev E (.f false 8 [.agg c,pathC P] M)=some (.fn (.tup [.agg c2,okZ]) M)) (hl2:c2.length=5) (ha2:c2.all oneA=true) :
  ∃ M1,ev E (.c T3_12 ((0,bsl l) :: (6,.ptr 2 0) :: (10,.ptr 6 0) :: (13,bsl l) :: (15,.sl 0 0 1 [pathC P]) :: X) M)=some (.code .normal [(0,bsl l),(10,.ptr 6 0),(13,bsl l),(17,.ptr 10 0),(18,.ptr 11 0)] M1)∧M1.get 10=some (.cells c2)∧M1.get 11=some (.cells Z2)∧∀ j,j < 10→M1.get j=M.get j:=by
 obtain ⟨q1,q2,q3,q4,q5,q6⟩:=two_new hnb (.cells Z5v) (.cells Z2) (.cells c2) (.cells Z2)
 refine ⟨_,?_,q4,q5,q6⟩
 have ht:c.take 5=c:=List.take_of_length_le (by omega)
 have hb5:Nat.ble 5 c.length=true:=ble_true (by omega)
 have hd:c2.drop 5=[]:=List.drop_of_length_le (by omega)
 have hia:∀ M,iaF M 1 (.sl 0 0 1 [pathC P]) 0=some (.val (.cp [pathC P]) M):=fun M=>rfl
 have h22:((M.new (.cells Z5v)).new (.cells Z2)).get 2=some (.cells c):=by rw [gn_lt (by rw [nbn_new]; omega),gn_lt (by omega)]; exact h2
 simp only [okZ] at h8
 simp only [Z2,Z5v,Nat.reduceAdd] at q1 q2 h22 ⊢
 simp (maxSteps:=1000000) only [T3_12,EVa,EVb,oi,ou,wants,evx,evxs,evo,evparts,fillA,put,keepT,argTm,result,resAll,resOf,vO,boxF,binF,nilF,unF,lenF,callF,appF,mkIF,readsOf,boxAt,Nat.reduceEqDiff,reduceCtorEq,Nat.reduceBEq,Int.reduceToNat,Nat.reduceAdd,Nat.reduceLeDiff,Nat.reduceMul,h22,h8,hnb,q1,q2,ht,hb5,hd,hl,hl2,ha2,hia,natOf_zero,bne_self_eq_false,Nat.reduceBNe,nbn_new]
theorem p3_13 {M:Mem} {rate:Int} {n b nm b2 nm2 p2 k0:AV} {cs:List AV} (h11:M.get 11=some (.cells Z2)) (h10:M.get 10=some (.cells [.int .i64 1,.int .i64 rate,b2,nm2,p2])) (h6:M.get 6=some (.cells [k0,n,b,nm,.sl 1 0 3 (.int .i64 1 :: .int .i64 rate :: cs)])) (hcs:cs.length=13) (h12:∀ M,ev E (.f false 12 [bsl l,bsl l] M)=some (.fn (.bool true) M)) :
  ev E (.c (.seq T3_13 T3_14) [(0,bsl l),(10,.ptr 6 0),(13,bsl l),(17,.ptr 10 0),(18,.ptr 11 0)] M)=some (.code .ret [(2,.bool true)] M):=by
 have hia:∀ M,iaF M 5 (.sl 1 0 3 (.int .i64 1 :: .int .i64 rate :: cs)) 0=some (.val (.cp (.int .i64 1 :: .int .i64 rate :: cs)) M):=fun M=>by
  have:=(show isS 5 3 (.int .i64 1 :: .int .i64 rate :: cs) (.sl 1 0 3 (.int .i64 1 :: .int .i64 rate :: cs)) from ⟨by simp [hcs],.inr ⟨1,.inr rfl,rfl⟩⟩).ia (M:=M) (i:=0) (by omega)
  simpa using this
 simp only [Z2] at h11
 simp (maxSteps:=1000000) only [T3_13,T3_14,EVa,EVb,oi,ou,wants,evx,evxs,evo,evparts,fillA,put,keepT,argTm,result,resAll,resOf,vO,boxF,binF,nilF,unF,lenF,callF,appF,mkIF,readsOf,boxAt,Nat.reduceEqDiff,reduceCtorEq,Nat.reduceBEq,Int.reduceToNat,Nat.reduceAdd,Nat.reduceLeDiff,Nat.reduceMul,h11,h10,h6,h12,hia,natOf_zero]
end
end Go.Sx
namespace Go.Sx
open Go.Proofs
section
open Classical
noncomputable def orcX:List (Nat × List AV × AV)→Nat→List AV→Option AV
 | [],_,_=>none
 | (f,xs,v) :: r,id,args=>if f=id∧xs=args then some v else orcX r id args
theorem orcX_ok:∀ {t:List (Nat × List AV × AV)},AllKnown t→∀ {id:Nat} {args:List AV} {v:AV},orcX t id args=some v→Known id args v
 | [],_,id,args,v,h=>by cases h
 | (f,xs,u) :: r,ht,id,args,v,h=>by
  simp only [orcX] at h
  split at h
  ·rename_i e
   obtain ⟨rfl,rfl⟩:=e
   cases h
   exact ht.1
  ·exact orcX_ok ht.2 h
theorem orcX_hit {f:Nat} {xs:List AV} {v:AV} {r:List (Nat × List AV × AV)}:orcX ((f,xs,v) :: r) f xs=some v:=by
 simp only [orcX,and_self,if_true]
theorem orcX_miss {f id:Nat} {xs args:List AV} {v:AV} {r:List (Nat × List AV × AV)} (h:f≠id):orcX ((f,xs,v) :: r) id args=orcX r id args:=by
 simp only [orcX,h,false_and,if_false]
end
noncomputable def EX (t:List (Nat × List AV × AV)):Env:=env gloS (orcX t) noacc
theorem EX_ok {t:List (Nat × List AV × AV)} (ht:AllKnown t):EnvOK Tryz.prog (EX t):=envA_ok fun id args v M h=>orcX_ok ht h (orcX t) M
theorem ex_ev {t:List (Nat × List AV × AV)} {id:Nat} {args:List AV} {v:AV} (h:orcX t id args=some v) (M:Mem):ev (EX t) (.f false id args M)=some (.fn v M):=ev_orc (show (EX t).orc id args=some v from h)
theorem ex_code {t:List (Nat × List AV × AV)} (ht:EnvOK Tryz.prog (EX t)) {code:AC} {tm tm':Tm} {M M':Mem} {x:AX} (h:ev (EX t) (.c code tm M)=some (.code x tm' M')) (ha:noAcc code=true):CodeOK Tryz.prog (EX t) code tm M x tm' M':=ev_sound ht h (noAcc_ok ha)
theorem ex_cast {t u:List (Nat × List AV × AV)} {code:AC} {tm tm':Tm} {M M':Mem} {x:AX} (h:CodeOK Tryz.prog (EX t) code tm M x tm' M'):CodeOK Tryz.prog (EX u) code tm M x tm' M':=h
theorem ownF_any {args:List AV} {M M2:Mem} {v:AV} {r:Option Res} (h:ownF false args M r=some (.fn v M2)) (M':Mem):ownF false args M' r=some (.fn v M'):=by
 cases r with
 | none=>cases h
 | some r=>
  cases r with
  | code=>cases h
  | fn u M1=>
   simp only [ownF,Option.bind_eq_some_iff] at h
   obtain ⟨⟨v1,M3⟩,h1,h2⟩:=h
   simp only at h2
   split at h2
   ·cases h2
   ·rename_i hc
    cases h2
    have ha:adopt false M1 M' u=some (v,M'):=adopt_any (M0:=M) (by rw [h1]; rfl)
    simp only [ownF,ha,Option.bind_some,hc,if_false]
    rfl
theorem known_own {id:Nat} {args:List AV} {v:AV} {r:Option Res} (hf:∀ M,ev ES (.f false id args M)=ownF false args M r) (h:ev ES (.f false id args .zero)=some (.fn v .zero)):Known id args v:=fun orc M=>by
 have h2:=ownF_any (by rw [← hf]; exact h) M
 rw [← hf] at h2
 exact ev_sound ES_ok h2
theorem kn9 {l:List Nat} (hl:Bytes l):∃ v,Known 9 [bsl l] v∧((l.length > 1000→v=noTo 3)∧(l.length≤1000→match fileRd l with
   | none=>v=noTo 21
   | some (cs,s)=>∃ w res,pureC w∧v=.tup [.agg (toV (s.rate:Int) (s.ch:Int) w),res,okZ])):=by
 obtain ⟨v,h1,h2⟩:=ev9 hl .zero
 have hp:∀ v∈[bsl l],pureV v:=fun v hv=>by rw [List.mem_singleton.1 hv]; exact bsl_pure l
 exact ⟨v,known_own (fun M=>f9 (frzVs_pure hp)) h1,h2⟩
theorem kn8 {P:List Nat} {pth:AV} {c:List AV} {V W:Val} (hV:VC V c) (hok:V.okN) (hs:V.size≤600) (hl:V.lev≤10) (he:V.elen≤4000) (hP:isS 1 P.length (numCells P) pth) (hn:P.length < 1000000) (hW:V.at P=some W):∃ c',VC W c'∧Known 8 [.agg c,pth] (.tup [.agg c',okZ]):=by
 obtain ⟨c',h1,h2⟩:=ev8 hV hok hs hl he hP hn hW .zero
 have hp:∀ x∈[AV.agg c,pth],pureV x:=by
  intro x hx
  simp only [List.mem_cons,List.not_mem_nil,or_false] at hx
  rcases hx with rfl | rfl
  ·exact hV.pure
  ·exact hP.pure.V
 exact ⟨c',h1,known_own (fun M=>f8 (frzVs_pure hp)) h2⟩
theorem kn12 {l:List Nat} (hl:Bytes l):Known 12 [bsl l,bsl l] (.bool true):=by
 have hp:=two_pure l l
 refine known_own (fun M=>f12 (frzVs_pure hp)) ?_
 have hb:=fun M=>b2sF_bsl (M:=M) hl
 rw [f12 (frzVs_pure hp),b12 rfl]
 have hc:retF ES [.t 4] (ev ES (.c code12 (argTm 0 [bsl l,bsl l]) .zero))=some (.fn (.bool true) .zero):=by
  simp (maxSteps:=1000000) (disch:=omega) only [code12,EVa,EVb,oi,ou,wants,evx,evxs,evo,evparts,fillA,put,keepT,argTm,result,resAll,resOf,vO,boxF,binF,nilF,unF,lenF,callF,appF,mkIF,readsOf,boxAt,Nat.reduceEqDiff,reduceCtorEq,Nat.reduceBEq,Int.reduceToNat,Nat.reduceAdd,Nat.reduceLeDiff,Nat.reduceMul,hb]
 rw [hc]
 exact own_done hp (adopt_frz rfl (by simp))
def oneCs:List (Nat × List Nat):=[(70,[0,8,1,0]),(68,[129])]
theorem one_bytes:Bytes oneL:=by unfold Bytes; decide
theorem one_chunks:fileChunks oneL=some oneCs:=by decide
theorem one_forms:∀ c∈oneCs,FormOK c:=fun c hc=>by
 simp only [oneCs,List.mem_cons,List.not_mem_nil,or_false] at hc
 rcases hc with rfl | rfl
 ·exact fun _=>rfl
 ·exact fun h=>absurd h (by decide)
theorem one_at:(sndV oneCs).at [0,0,1,0]=some (.num 8):=by
 have e:sndV oneCs=.rcd [nChunks] [.lst [chunkV (70,[0,8,1,0]),chunkV (68,[129])]]:=rfl
 rw [e,chunkV_form]
 rfl
def B3:AC:=.seq T3_6 (.seq T3_7 (.seq T3_8 (.seq T3_9 (.seq T3_10 (.seq T3_11 (.seq T3_12 (.seq T3_13 T3_14)))))))
theorem half1 (d:AV):∃ (M4:Mem) (c1:List AV),M4.nb=6∧M4.get 0=some (.cells [sFm])∧M4.get 2=some (.cells c1)∧c1.length=5∧M4.get 3=some (.cells Z2) ∧
  ∀ M',CodeOK Tryz.prog (EX []) B3 [(0,d),(3,.ptr 0 0),(6,.ptr 2 0),(7,.ptr 3 0),(54,.bool false)] M4 .ret [(2,.bool true)] M'→CallOK Tryz.prog (EX []) 3 [d] .zero (.bool true) M':=by
 obtain ⟨c1,hV1,k7⟩:=kn7 one_bytes (by decide) one_chunks one_forms
 obtain ⟨a1,a2,a3,a4,_,_⟩:=sndV_ok one_bytes (by decide) one_chunks
 obtain ⟨c2,hV2,k8⟩:=kn8 hV1 a1 a2 a3 a4 (P:=[0,0,1,0]) (pth:=pthS) ⟨rfl,.inr ⟨1,.inr rfl,rfl⟩⟩ (by decide) one_at
 have k7':Known 7 [.agg [sFm],oneS] (.tup [.agg c1,okZ]):=Known.sim k7 (by kernel_rfl)
 have t1:AllKnown [(6,[],sndTxt),(5,[sndTxt],.tup [.agg [sFm],okZ]),(7,[.agg [sFm],oneS],.tup [.agg c1,okZ]),(8,[.agg c1,pthS],.tup [.agg c2,okZ])]:=⟨kn6,kn5,k7',k8,trivial⟩
 have hE1:=EX_ok t1
 generalize hT1:[(6,[],sndTxt),(5,[sndTxt],.tup [.agg [sFm],okZ]),(7,[.agg [sFm],oneS],.tup [.agg c1,okZ]),(8,[.agg c1,pthS],.tup [.agg c2,okZ])]=T1 at hE1
 have e6:∀ M,ev (EX T1) (.f false 6 [] M)=some (.fn sndTxt M):=fun M=>ex_ev (by rw [← hT1,orcX_hit] <;> decide) M
 have e5:∀ M,ev (EX T1) (.f false 5 [sndTxt] M)=some (.fn (.tup [.agg [sFm],okZ]) M):=fun M=>ex_ev (by rw [← hT1,orcX_miss,orcX_hit] <;> decide) M
 have e7:∀ M,ev (EX T1) (.f false 7 [.agg [sFm],oneS] M)=some (.fn (.tup [.agg c1,okZ]) M):=fun M=>ex_ev (by rw [← hT1,orcX_miss,orcX_miss,orcX_hit] <;> decide) M
 have e8:∀ M,ev (EX T1) (.f false 8 [.agg c1,pthS] M)=some (.fn (.tup [.agg c2,okZ]) M):=fun M=>ex_ev (by rw [← hT1,orcX_miss,orcX_miss,orcX_miss,orcX_hit] <;> decide) M
 have s0:ev (EX T1) (.c T3_0 [(0,d)] .zero)=some (.code .normal [(0,d)] .zero):=by
  simp (maxSteps:=1000000) only [T3_0,EVa,EVb,oi,ou,wants,evx,evxs,evo,evparts,fillA,put,keepT,argTm,result,resAll,resOf,vO,boxF,binF,nilF,unF,lenF,callF,appF,mkIF,readsOf,boxAt,Nat.reduceEqDiff,reduceCtorEq,Nat.reduceBEq,Int.reduceToNat,Nat.reduceAdd,Nat.reduceLeDiff,Nat.reduceMul]
 obtain ⟨M1,s1,n1,g10,g11⟩:=p3_1 (d:=d) e6 e5
 have s2:=p3_2 (E:=EX T1) (d:=d) (M:=M1)
 obtain ⟨M3,s3,n3,g32,g33,k3⟩:=p3_3 (d:=d) n1 g10 e7 hV1.len hV1.all
 obtain ⟨M4,s4,n4,g44,g45,k4⟩:=p3_4 (d:=d) n3 g32 e8 hV1.len hV2.len hV2.all
 simp only [VC] at hV2
 obtain ⟨b,nm,p,hc2,_,_,_⟩:=hV2
 have s5:=p3_5 (E:=EX T1) (d:=d) (M:=M4) (b:=b) (nm:=nm) (p:=p) (by rw [k4 1 (by omega),k3 1 (by omega)]; exact g11) (by rw [k4 3 (by omega)]; exact g33) g45 (by rw [g44,hc2]; rfl)
 have m0:M4.get 0=some (.cells [sFm]):=by rw [k4 0 (by omega),k3 0 (by omega)]; exact g10
 have m2:M4.get 2=some (.cells c1):=by rw [k4 2 (by omega)]; exact g32
 have m3:M4.get 3=some (.cells Z2):=by rw [k4 3 (by omega)]; exact g33
 refine ⟨M4,c1,n4,m0,m2,hV1.len,m3,fun M' hB=>?_⟩
 have hcode:CodeOK Tryz.prog (EX []) code3 [(0,d)] .zero .ret [(2,.bool true)] M':=
  code_seq1 (ex_cast (ex_code hE1 s0 (by kernel_rfl))) (code_seq1 (ex_cast (ex_code hE1 s1 (by kernel_rfl))) (code_seq1 (ex_cast (ex_code hE1 s2 (by kernel_rfl))) (code_seq1 (ex_cast (ex_code hE1 s3 (by kernel_rfl))) (code_seq1 (ex_cast (ex_code hE1 s4 (by kernel_rfl))) (code_seq1 (ex_cast (ex_code hE1 s5 (by kernel_rfl))) hB)))))
 exact body_ok (fn:=YtdflipbphcmpoaaGreatDoor.Cd.c3) (real:=Tryz.f3) (by kernel_rfl) YtdflipbphcmpoaaGreatDoor.Cd.k3 (.inr rfl) hcode rfl
theorem half2 {d:AV} {M4:Mem} (n4:M4.nb=6) {k:Int} (hk:k≠0) (k9:Known 9 [d] (noTo k)):∃ M',CodeOK Tryz.prog (EX []) B3 [(0,d),(3,.ptr 0 0),(6,.ptr 2 0),(7,.ptr 3 0),(54,.bool false)] M4 .ret [(2,.bool true)] M':=by
 have t2:AllKnown [(9,[d],noTo k)]:=⟨k9,trivial⟩
 have e9:∀ M,ev (EX [(9,[d],noTo k)]) (.f false 9 [d] M)=some (.fn (.tup [.agg Z5v,.nils,.agg [.int .i64 k,.int .i64 (-1)]]) M):=fun M=>ex_ev orcX_hit M
 obtain ⟨M6,s6,_,_,g67,_⟩:=p3_6 (X:=[(54,.bool false)]) n4 e9 rfl rfl
 have s7:=p3_7a (E:=EX [(9,[d],noTo k)]) (d:=d) g67 hk
 have hh:CodeOK Tryz.prog (EX [(9,[d],noTo k)]) B3 [(0,d),(3,.ptr 0 0),(6,.ptr 2 0),(7,.ptr 3 0),(54,.bool false)] M4 .ret [(2,.bool true)] M6:=by
  refine ex_code (EX_ok t2) ?_ (by kernel_rfl)
  rw [B3,ev_seq,s6,seqF.eq_1,ev_seq,s7,seqF_ret]
 exact ⟨M6,hh⟩
theorem run3n:∃ M',CallOK Tryz.prog (EX []) 3 [.nils] .zero (.bool true) M':=by
 obtain ⟨M4,c1,n4,_,_,_,_,hfin⟩:=half1 .nils
 have k9:Known 9 [.nils] (noTo 21):=known (t:=[]) trivial (args':=[.nils]) (n:=10000) (by kernel_rfl) (fun M=>by kernel_rfl) rfl
 obtain ⟨M',hB⟩:=half2 n4 (by decide) k9
 exact ⟨M',hfin M' hB⟩
theorem run3 {l:List Nat} (hl:Bytes l):∃ M',CallOK Tryz.prog (EX []) 3 [bsl l] .zero (.bool true) M':=by
 obtain ⟨M4,c1,n4,m0,m2,hl1,m3,hfin⟩:=half1 (bsl l)
 -- the second half
 have hB:∃ M',CodeOK Tryz.prog (EX []) B3 [(0,bsl l),(3,.ptr 0 0),(6,.ptr 2 0),(7,.ptr 3 0),(54,.bool false)] M4 .ret [(2,.bool true)] M':=by
  obtain ⟨v,k9,hv1,hv2⟩:=kn9 hl
  have bad:∀ k:Int,k≠0→v=noTo k→∃ M',CodeOK Tryz.prog (EX []) B3 [(0,bsl l),(3,.ptr 0 0),(6,.ptr 2 0),(7,.ptr 3 0),(54,.bool false)] M4 .ret [(2,.bool true)] M':=fun k hk hv=>by
   subst hv
   exact half2 n4 hk k9
  by_cases hlen:l.length > 1000
  ·exact bad 3 (by decide) (hv1 hlen)
  have hv:=hv2 (by omega)
  cases hr:fileRd l with
  | none=>
   rw [hr] at hv
   exact bad 21 (by decide) hv
  | some r=>
   obtain ⟨cs,s⟩:=r
   rw [hr] at hv
   obtain ⟨w,res,hw,rfl⟩:=hv
   have hto:toV (s.rate:Int) (s.ch:Int) w=[.int .i64 4,.int .i64 0,.nils,sndNames,.sl 1 0 3 [.int .i64 1,.int .i64 (s.rate:Int),.nils,.nils,.nils,.int .i64 1,.int .i64 (s.ch:Int),.nils,.nils,.nils,.int .i64 2,.int .i64 0,w,.nils,.nils]]:=rfl
   have hta:(toV (s.rate:Int) (s.ch:Int) w).all oneA=true:=by rw [hto]; rfl
   by_cases h300:300 < l.length
   ·have t2:AllKnown [(9,[bsl l],.tup [.agg (toV (s.rate:Int) (s.ch:Int) w),res,okZ])]:=⟨k9,trivial⟩
    have hE2:=EX_ok t2
    generalize hT2:[(9,[bsl l],AV.tup [.agg (toV (s.rate:Int) (s.ch:Int) w),res,okZ])]=T2 at hE2
    have e9:∀ M,ev (EX T2) (.f false 9 [bsl l] M)=some (.fn (.tup [.agg (toV (s.rate:Int) (s.ch:Int) w),res,.agg [.int .i64 0,.int .i64 0]]) M):=fun M=>ex_ev (show orcX T2 9 [bsl l]=some (.tup [.agg (toV (s.rate:Int) (s.ch:Int) w),res,okZ]) from by rw [← hT2,orcX_hit]) M
    obtain ⟨M6,s6,_,_,g67,_⟩:=p3_6 (X:=[(54,.bool false)]) n4 e9 rfl hta
    have s7:=p3_7b (E:=EX T2) g67 h300
    have hh:CodeOK Tryz.prog (EX T2) B3 [(0,bsl l),(3,.ptr 0 0),(6,.ptr 2 0),(7,.ptr 3 0),(54,.bool false)] M4 .ret [(2,.bool true)] M6:=by
     refine ex_code hE2 ?_ (by kernel_rfl)
     rw [B3,ev_seq,s6,seqF.eq_1,ev_seq,s7,seqF_ret]
    exact ⟨M6,hh⟩
   obtain ⟨hch,hfm,j,hj,hhits,hat⟩:=snd_rate hr
   obtain ⟨c,hV,k7b⟩:=kn7 hl (by omega) hch hfm
   obtain ⟨b1,b2,b3,b4,_,_⟩:=sndV_ok hl (by omega) hch
   have k10:=kn10 hl (by omega) hch hfm hV
   have k11:=kn11 hV b1 b2 b3 b4
   rw [hhits] at k11
   obtain ⟨c3,hV3,k8b⟩:=kn8 hV b1 b2 b3 b4 (P:=[0,j,1,0]) (pth:=pathC [0,j,1,0]) (slN_is _) (by simp) hat
   have k12:=kn12 hl
   have t2:AllKnown [(9,[bsl l],.tup [.agg (toV (s.rate:Int) (s.ch:Int) w),res,okZ]),(7,[.agg [sFm],bsl l],.tup [.agg c,okZ]),(10,[.agg [sFm],.agg c],.tup [bsl l,okZ]),(11,[.agg c,.str nRate],.tup [.sl 0 0 1 [pathC [0,j,1,0]],okZ]),(8,[.agg c,pathC [0,j,1,0]],.tup [.agg c3,okZ]),(12,[bsl l,bsl l],.bool true)]:=⟨k9,k7b,k10,k11,k8b,k12,trivial⟩
   have hE2:=EX_ok t2
   generalize hT2:[(9,[bsl l],AV.tup [.agg (toV (s.rate:Int) (s.ch:Int) w),res,okZ]),(7,[.agg [sFm],bsl l],.tup [.agg c,okZ]),(10,[.agg [sFm],.agg c],.tup [bsl l,okZ]),(11,[.agg c,.str nRate],.tup [.sl 0 0 1 [pathC [0,j,1,0]],okZ]),(8,[.agg c,pathC [0,j,1,0]],.tup [.agg c3,okZ]),(12,[bsl l,bsl l],.bool true)]=T2 at hE2
   have e9:∀ M,ev (EX T2) (.f false 9 [bsl l] M)=some (.fn (.tup [.agg (toV (s.rate:Int) (s.ch:Int) w),res,.agg [.int .i64 0,.int .i64 0]]) M):=fun M=>ex_ev (show orcX T2 9 [bsl l]=some (.tup [.agg (toV (s.rate:Int) (s.ch:Int) w),res,okZ]) from by rw [← hT2,orcX_hit]) M
   have e7:∀ M,ev (EX T2) (.f false 7 [.agg [sFm],bsl l] M)=some (.fn (.tup [.agg c,okZ]) M):=fun M=>ex_ev (by rw [← hT2,orcX_miss,orcX_hit] <;> decide) M
   have e10:∀ M,ev (EX T2) (.f false 10 [.agg [sFm],.agg c] M)=some (.fn (.tup [bsl l,okZ]) M):=fun M=>ex_ev (by rw [← hT2,orcX_miss,orcX_miss,orcX_hit] <;> decide) M
   have e11:∀ M,ev (EX T2) (.f false 11 [.agg c,.str nRate] M)=some (.fn (.tup [.sl 0 0 1 [pathC [0,j,1,0]],okZ]) M):=fun M=>ex_ev (by rw [← hT2,orcX_miss,orcX_miss,orcX_miss,orcX_hit] <;> decide) M
   have e8:∀ M,ev (EX T2) (.f false 8 [.agg c,pathC [0,j,1,0]] M)=some (.fn (.tup [.agg c3,okZ]) M):=fun M=>ex_ev (by rw [← hT2,orcX_miss,orcX_miss,orcX_miss,orcX_miss,orcX_hit] <;> decide) M
   have e12:∀ M,ev (EX T2) (.f false 12 [bsl l,bsl l] M)=some (.fn (.bool true) M):=fun M=>ex_ev (by rw [← hT2,orcX_miss,orcX_miss,orcX_miss,orcX_miss,orcX_miss,orcX_hit] <;> decide) M
   obtain ⟨M6,s6,n6,g66,g67,k6⟩:=p3_6 (X:=[(54,.bool false)]) n4 e9 rfl hta
   have s7:=p3_7c (E:=EX T2) (l:=l) g67 (by omega)
   obtain ⟨M8,s8,n8,g82,g83,k8'⟩:=p3_8 (X:=[(68,.bool false)]) (M:=M6) (c1:=c1) (by rw [k6 0 (by omega)]; exact m0) (by rw [k6 2 (by omega)]; exact m2) hl1 (by rw [k6 3 (by omega)]; exact m3) e7 hV.len hV.all
   obtain ⟨M9,s9,n9,g98,k9'⟩:=p3_9 (M:=M8) (by rw [n8]; exact n6) (by rw [k8' 0 (by omega) (by omega),k6 0 (by omega)]; exact m0) g82 hV.len e10
   obtain ⟨M10,s10,n10,g109,k10'⟩:=p3_10 (l:=l) (M:=M9) n9 (by rw [k9' 2 (by omega)]; exact g82) hV.len e11
   have h6':M10.get 6=some (.cells (toV (s.rate:Int) (s.ch:Int) w)):=by rw [k10' 6 (by omega),k9' 6 (by omega),k8' 6 (by omega) (by omega)]; exact g66
   have s11:=p3_11 (E:=EX T2) (l:=l) (M:=M10) (w0:=w) (pc:=pathC [0,j,1,0]) (by rw [k10' 3 (by omega),k9' 3 (by omega)]; exact g83) (by rw [k10' 8 (by omega)]; exact g98) g109 (by rw [h6',hto])
   obtain ⟨M12,s12,g12a,g12b,k12'⟩:=p3_12 (l:=l) (M:=M10) (X:=[(109,.bool false)]) n10 (by rw [k10' 2 (by omega),k9' 2 (by omega)]; exact g82) hV.len e8 hV3.len hV3.all
   have hV3':=hV3
   simp only [VC] at hV3'
   obtain ⟨b',nm',p',hc3,_,_,_⟩:=hV3'
   have s13:=p3_13 (E:=EX T2) (l:=l) (M:=M12) (rate:=(s.rate:Int)) g12b (by rw [g12a,hc3]) (by rw [k12' 6 (by omega),h6',hto]) rfl e12
   have hh:CodeOK Tryz.prog (EX T2) B3 [(0,bsl l),(3,.ptr 0 0),(6,.ptr 2 0),(7,.ptr 3 0),(54,.bool false)] M4 .ret [(2,.bool true)] M12:=by
    refine ex_code hE2 ?_ (by kernel_rfl)
    rw [B3,ev_seq,s6,seqF.eq_1,ev_seq,s7,seqF.eq_1,ev_seq,s8,seqF.eq_1,ev_seq,s9,seqF.eq_1,ev_seq,s10,seqF.eq_1,ev_seq,s11,seqF.eq_1,ev_seq,s12,seqF.eq_1,s13]
   exact ⟨M12,hh⟩
 obtain ⟨M',hB⟩:=hB
 exact ⟨M',hfin M' hB⟩
end Go.Sx
