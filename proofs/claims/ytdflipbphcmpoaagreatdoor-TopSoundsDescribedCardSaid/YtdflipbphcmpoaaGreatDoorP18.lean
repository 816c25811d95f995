/- A part of the proof of TopSoundsDescribed (texts Zd Ze Zf): an executor of the program's code, proved sound, and its runs. No condition. -/
import Derived.Test.YtdflipbphcmpoaaGreatDoorP17
set_option linter.unusedSimpArgs false
set_option linter.unusedVariables false
set_option maxRecDepth 100000
namespace Go.Sx
def EncOK (V:Val):Prop:=∀ (c:List AV),VC V c→V.okN→V.elen < 100000→∀ M,∃ out,out.length=V.elen∧Pures out∧ev ES (.f false 117 [.agg c] M)=some (.fn (.sl 0 0 V.elen out) M)
theorem nl_kind {k:Nat} (h:k < 64):nl (2 * k)=1:=nl_lt (by omega)
theorem isS_sl {n:Nat} {cells:List AV} (h:cells.length=n):isS 1 n cells (.sl 0 0 n cells):=⟨by rw [h,Nat.mul_one],.inr ⟨0,.inl rfl,rfl⟩⟩
theorem nl_le {u f:Nat} (h:u < 128 ^ (f + 1)):nl u≤f + 1:=by
 induction f generalizing u with
 | zero=>rw [nl_lt (by simpa using h)]; exact Nat.le_refl _
 | succ f ih=>
  by_cases hu:u < 128
  ·rw [nl_lt hu]; omega
  ·rw [nl_ge hu]
   have:=ih (u:=u / 128) (Nat.div_lt_of_lt_mul (by rw [Nat.pow_succ,Nat.mul_comm] at h; exact h))
   omega
theorem GroK.gro {z:Nat} {M:Mem} {v:AV} {m:Nat} {cells:List AV} {tk:Option Nat} (h:GroK z M v m cells tk):Gro z M v m cells:=by
 obtain ⟨hc,h⟩:=h
 rcases h with ⟨h1,h2,_⟩ | ⟨hm,k,_,_,h2,hk⟩
 ·exact ⟨hc,.inl ⟨h1,h2⟩⟩
 ·exact ⟨hc,.inr ⟨hm,k,h2,hk⟩⟩
theorem GroK.tokO {z z2 n:Nat} {M:Mem} {v:AV} {m:Nat} {cells:List AV} {tk:Option Nat} (h:GroK z M v m cells tk):GroK z (M.tok n z2) v m cells tk:=by
 obtain ⟨hc,h⟩:=h
 rcases h with h | ⟨hm,k,hk,hkn,h2,hl⟩
 ·exact ⟨hc,.inl h⟩
 ·refine ⟨hc,.inr ⟨hm,k,hk,Nat.lt_succ_of_lt hkn,h2,?_⟩⟩
  show lookT ((M.nt,n,z2) :: M.toks) k=_
  simp only [lookT,beq_ne (show ¬ M.nt=k by omega),Bool.false_eq_true,if_false]
  exact hl
theorem GroK.app' {z bytes:Nat} {M:Mem} {v:AV} {m j:Nat} {cells ys:List AV} {tk:Option Nat} (h:GroK z M v m cells tk) (hy:Pures ys) (hl:ys.length=j * z) (hb:(m + j) * bytes≤140737488355328) (hb2:m + j≤140737488355328) :
  ∃ v' M' tk',appV false M z bytes v j ys=Option.some (v',M')∧GroK z M' v' (m + j) (cells ++ ys) tk'∧SameB M M':=by
 by_cases hj:j=0
 ·subst hj
  have:ys=[]:=List.eq_nil_of_length_eq_zero (by rw [hl,Nat.zero_mul])
  subst this
  refine ⟨v,M,tk,?_,by simpa using h,SameB.refl M⟩
  unfold appV
  rw [if_pos rfl]
  obtain ⟨_,h⟩:=h
  rcases h with ⟨_,rfl,_⟩ | ⟨_,k,_,_,rfl,_⟩ <;> rfl
 ·obtain ⟨v',M',tk',h1,h2,h3,_⟩:=h.app (bytes:=bytes) (purL0_pure hy) hl (by omega) hb hb2
  exact ⟨v',M',tk',h1,h2,h3⟩
theorem SameB.nb {M M':Mem} (h:SameB M M'):M'.nb=M.nb:=h.2.1
theorem purL0_of {l:List AV} (h:Pures l):purL0 l=some l:=purL0_pure h
theorem head117 {k:Nat} {n b nm p:AV} (hk:k < 64):∃ k1:List AV,k1.length=1∧Pures k1∧∀ M0,M0=Mem.zero.new (.cells [.int .i64 (k:Int),n,b,nm,p])→ev ES (.f true 79 [.int .i64 (k:Int)] M0)=some (.fn (.sl (M0.nt + 2) 1 1 k1) (M0.tok 1 1))∧GroK 1 (M0.tok 1 1) (.sl (M0.nt + 2) 1 1 k1) 1 k1 (some M0.nt):=by
 obtain ⟨k1,kl1,kp1,_,he1⟩:=ev79 (n:=k) (by omega) (Mem.zero.new (.cells [.int .i64 (k:Int),n,b,nm,p]))
 rw [nl_kind hk] at kl1 he1
 refine ⟨k1,kl1,kp1,fun M0 hM=>?_⟩
 subst hM
 exact ⟨he1,GroK.tok (by omega) (by omega)⟩
theorem enc_num {n:Nat}:EncOK (.num n):=by
 intro c hV hok hl M
 have hp:=agg_pure hV.pure
 simp only [VC] at hV
 simp only [Val.okN] at hok
 simp only [Val.elen] at hl ⊢
 obtain ⟨b,nm,p,rfl,hb,hn,hps⟩:=hV
 obtain ⟨k1,kl1,kp1,hh⟩:=head117 (k:=1) (n:=.int .i64 (n:Int)) (b:=b) (nm:=nm) (p:=p) (by omega)
 obtain ⟨he1,hg⟩:=hh _ rfl
 simp only [Int.natCast_one] at he1 hg
 have hg0:(Mem.zero.new (.cells [.int .i64 1,.int .i64 (n:Int),b,nm,p])).get 0=some (.cells [.int .i64 1,.int .i64 (n:Int),b,nm,p]):=rfl
 generalize hM0:Mem.zero.new (.cells [.int .i64 1,.int .i64 (n:Int),b,nm,p])=M0 at he1 hg hg0
 have hg1:(M0.tok 1 1).get 0=some (.cells [.int .i64 1,.int .i64 (n:Int),b,nm,p]):=hg0
 obtain ⟨k2,kl2,kp2,_,he2⟩:=ev79 (n:=n) hok (M0.tok 1 1)
 obtain ⟨v',M2,tk',ha,hg2,_⟩:=(hg.tokO (n:=nl (2 * n)) (z2:=1)).app' (bytes:=1) (j:=nl (2 * n)) kp2 (by omega) (by omega) (by omega)
 refine ⟨k1 ++ k2,by rw [List.length_append,kl1,kl2],kp1.append kp2,?_⟩
 rw [f117 (frzVs_pure hp),b117 rfl]
 have hc:retF ES [.t 2] (ev ES (.c code117 (argTm 0 [.agg [.int .i64 1,.int .i64 (n:Int),b,nm,p]]) .zero))=some (.fn v' M2):=by
  simp (maxSteps:=1000000) (disch:=omega) only [code117,EVa,EVb,oi,ou,wants,evx,evxs,evo,evparts,fillA,put,keepT,argTm,result,resAll,resOf,vO,boxF,binF,nilF,unF,lenF,callF,appF,mkIF,readsOf,boxAt,Nat.reduceEqDiff,reduceCtorEq,Nat.reduceBEq,Int.reduceToNat,Nat.reduceAdd,Nat.reduceLeDiff,Nat.reduceMul,hb.oneA,hn.oneA,hps.oneA,hM0,hg0,hg1,he1,he2,kl2,ha,Int.reduceEq]
 rw [hc]
 exact (own_grown hp hg2.gro (by omega)).1
theorem enc_byt {l:List Nat}:EncOK (.byt l):=by
 intro c hV hok hl M
 have hp:=agg_pure hV.pure
 simp only [VC] at hV
 simp only [Val.elen] at hl ⊢
 obtain ⟨b,nm,p,rfl,hb,hn,hps⟩:=hV
 obtain ⟨k1,kl1,kp1,hh⟩:=head117 (k:=2) (n:=.int .i64 0) (b:=b) (nm:=nm) (p:=p) (by omega)
 obtain ⟨he1,hg⟩:=hh _ rfl
 simp only [show ((2:Nat):Int)=2 from rfl] at he1 hg
 have hg0:(Mem.zero.new (.cells [.int .i64 2,.int .i64 0,b,nm,p])).get 0=some (.cells [.int .i64 2,.int .i64 0,b,nm,p]):=rfl
 generalize hM0:Mem.zero.new (.cells [.int .i64 2,.int .i64 0,b,nm,p])=M0 at he1 hg hg0
 have hg1:(M0.tok 1 1).get 0=some (.cells [.int .i64 2,.int .i64 0,b,nm,p]):=hg0
 obtain ⟨k2,kl2,kp2,he2⟩:=ev83 hb Pures.bytes (by omega) (M0.tok 1 1)
 obtain ⟨v',M2,tk',ha,hg2,_⟩:=hg.app' (bytes:=1) (j:=nl (2 * l.length) + l.length) kp2 (by omega) (by omega) (by omega)
 refine ⟨k1 ++ k2,by rw [List.length_append,kl1,kl2],kp1.append kp2,?_⟩
 rw [f117 (frzVs_pure hp),b117 rfl]
 have hc:retF ES [.t 2] (ev ES (.c code117 (argTm 0 [.agg [.int .i64 2,.int .i64 0,b,nm,p]]) .zero))=some (.fn v' M2):=by
  simp (maxSteps:=1000000) (disch:=omega) only [code117,EVa,EVb,oi,ou,wants,evx,evxs,evo,evparts,fillA,put,keepT,argTm,result,resAll,resOf,vO,boxF,binF,nilF,unF,lenF,callF,appF,mkIF,readsOf,boxAt,Nat.reduceEqDiff,reduceCtorEq,Nat.reduceBEq,Int.reduceToNat,Nat.reduceAdd,Nat.reduceLeDiff,Nat.reduceMul,hb.oneA,hn.oneA,hps.oneA,hM0,hg0,hg1,he1,he2,kl2,ha,Int.reduceEq]
 rw [hc]
 exact (own_grown hp hg2.gro (by omega)).1
theorem loop117L {ps:List Val} {cs:List AV} {p:AV} {n b nm:AV} (hn:ps.length < 1000000) (hp:isS 5 ps.length cs p) (hv:VCs ps cs):∀ (r:List Val) (i m:Nat) (out:AV) (cells:List AV) (tk:Option Nat) (M:Mem),ps.drop i=r→i≤ps.length→(∀ v∈r,EncOK v∧v.okN∧v.elen < 100000)→m + elens r < 100000→M.get 0=some (.cells [.int .i64 3,n,b,nm,p])→1≤M.nb→GroK 1 M out m cells tk→Pures cells →
  ∃ out' cells' M' tk',ev ES (.c (.loop L117_1) [(1,.ptr 0 0),(3,out),(32,p),(33,.int .i64 (ps.length:Int)),(34,.int .i64 (i:Int))] M)=some (.code (.exit 1) [(1,.ptr 0 0),(3,out'),(32,p),(33,.int .i64 (ps.length:Int)),(34,.int .i64 (ps.length:Int)),(35,.bool false)] M')∧GroK 1 M' out' (m + elens r) cells' tk'∧Pures cells':=by
 intro r
 induction r with
 | nil=>
  intro i m out cells tk M hd hi hc hs h0 hnb hg hpu
  have hi:i=ps.length:=by
   have:=congrArg List.length hd
   simp at this; omega
  subst hi
  refine ⟨out,cells,M,tk,?_,hg,hpu⟩
  rw [ev_loop]
  simp (maxSteps:=1000000) (disch:=omega) only [L117_1,EVa,EVb,oi,ou,wants,evx,evxs,evo,evparts,fillA,put,keepT,argTm,result,resAll,resOf,vO,boxF,binF,nilF,unF,lenF,callF,appF,mkIF,readsOf,boxAt,Nat.reduceEqDiff,reduceCtorEq,Nat.reduceBEq,Int.reduceToNat,Nat.reduceAdd,Nat.reduceLeDiff,Nat.reduceMul,Int.lt_irrefl]
 | cons v r ih=>
  intro i m out cells tk M hd hi hc hs h0 hnb hg hpu
  have hlt:i < ps.length:=by
   have:=congrArg List.length hd
   simp at this; omega
  have hd':ps.drop (i + 1)=r:=by rw [← List.drop_drop,hd]; rfl
  obtain ⟨a,rest,hdr,hva⟩:=hv.at hd
  have hia:=fun M=>hp.ia (M:=M) hlt
  rw [hdr] at hia
  have ht5:=take5 (rest:=rest) hva.len
  have hb5:=ble5 (rest:=rest) hva.len
  have hal:=hva.len
  have hall:=hva.all
  have ht:a.take 5=a:=List.take_of_length_le (by omega)
  simp only [elens] at hs ⊢
  obtain ⟨hE,hN,hL⟩:=hc v (List.mem_cons_self ..)
  have hw2:IntKind.i64.wrap ((i:Int) + 1)=((i + 1:Nat):Int):=by rw [wrap_i64] <;> omega
  have hg1:((M.new (.cells [.int .i64 0,.int .i64 0,.nils,.nils,.nils])).set M.nb (.cells a)).get M.nb=some (.cells a):=gns_self
  have hg2:((M.new (.cells [.int .i64 0,.int .i64 0,.nils,.nils,.nils])).set M.nb (.cells a)).get 0=some (.cells [.int .i64 3,n,b,nm,p]):=by rw [gns_lt (by omega)]; exact h0
  have hg3:GroK 1 ((M.new (.cells [.int .i64 0,.int .i64 0,.nils,.nils,.nils])).set M.nb (.cells a)) out m cells tk:=hg.mem rfl rfl
  have hg4:1≤((M.new (.cells [.int .i64 0,.int .i64 0,.nils,.nils,.nils])).set M.nb (.cells a)).nb:=by rw [nbn_set,nbn_new]; omega
  generalize hM1:((M.new (.cells [.int .i64 0,.int .i64 0,.nils,.nils,.nils])).set M.nb (.cells a))=M1 at hg1 hg2 hg3 hg4
  obtain ⟨o,oln,op,he⟩:=hE a hva hN hL M1
  obtain ⟨v',M2,tk',ha,hg5,hsb⟩:=hg3.app' (bytes:=1) (j:=v.elen) op (by omega) (by omega) (by omega)
  obtain ⟨out',cells',M',tk2,hl,hgo,hpo⟩:=ih (i + 1) (m + v.elen) v' _ tk' M2 hd' (by omega) (fun x hx=>hc x (List.mem_cons_of_mem _ hx)) (by omega) (by rw [hsb.get]; exact hg2) (by rw [hsb.nb]; exact hg4) hg5 (hpu.append op)
  refine ⟨out',cells',M',tk2,?_,by rw [← Nat.add_assoc]; exact hgo,hpo⟩
  have hstep:ev ES (.c L117_1 [(1,.ptr 0 0),(3,out),(32,p),(33,.int .i64 (ps.length:Int)),(34,.int .i64 (i:Int))] M)=some (.code .normal [(1,.ptr 0 0),(3,v'),(32,p),(33,.int .i64 (ps.length:Int)),(34,.int .i64 ((i + 1:Nat):Int))] M2):=by
   simp (maxSteps:=1000000) (disch:=omega) only [L117_1,EVa,EVb,oi,ou,wants,evx,evxs,evo,evparts,fillA,put,keepT,argTm,result,resAll,resOf,vO,boxF,binF,nilF,unF,lenF,callF,appF,mkIF,readsOf,boxAt,Nat.reduceEqDiff,reduceCtorEq,Nat.reduceBEq,Int.reduceToNat,Nat.reduceAdd,Nat.reduceLeDiff,Nat.reduceMul,hia,ht5,hb5,hal,hall,ht,hw2,hM1,hg1,hg2,he,oln,ha,Int.reduceEq]
  rw [ev_loop,hstep]
  exact hl
def s2bF (M:Mem):AV→Option Out
 | .str l=>some (.val (.sl 0 0 l.length (byteCells l)) M)
 | _=>none
theorem so_s2b_ {E:Env} {tm:Tm} {M:Mem} {x:Opd}:stepOp E tm M (.s2b x)=o1 (s2bF M) (evx E tm x):=by
 simp only [stepOp]
 cases evx E tm x with
 | none=>rfl
 | some v=>cases v <;> rfl
theorem loop117R {ns:List (List Nat)} {ps:List Val} {cs:List AV} {p:AV} {n b nm:AV} (hn:ps.length < 1000000) (hp:isS 5 ps.length cs p) (hv:VCs ps cs) (hnm:isS 1 ns.length (strCells ns) nm) (hnl:ns.length=ps.length) (hnb2:∀ s∈ns,s.length < 100000):∀ (r:List Val) (i m:Nat) (out:AV) (cells:List AV) (tk:Option Nat) (M:Mem),ps.drop i=r→i≤ps.length→(∀ v∈r,EncOK v∧v.okN∧v.elen < 100000)→m + rlens (ns.drop i) r < 100000→M.get 0=some (.cells [.int .i64 4,n,b,nm,p])→1≤M.nb→GroK 1 M out m cells tk→Pures cells →
  ∃ out' cells' M' tk',ev ES (.c (.loop L117_1) [(1,.ptr 0 0),(3,out),(32,p),(33,.int .i64 (ps.length:Int)),(34,.int .i64 (i:Int))] M)=some (.code (.exit 1) [(1,.ptr 0 0),(3,out'),(32,p),(33,.int .i64 (ps.length:Int)),(34,.int .i64 (ps.length:Int)),(35,.bool false)] M')∧GroK 1 M' out' (m + rlens (ns.drop i) r) cells' tk'∧Pures cells':=by
 intro r
 induction r with
 | nil=>
  intro i m out cells tk M hd hi hc hs h0 hnb hg hpu
  have hi:i=ps.length:=by
   have:=congrArg List.length hd
   simp at this; omega
  subst hi
  refine ⟨out,cells,M,tk,?_,by cases ns.drop ps.length <;> simpa [rlens] using hg,hpu⟩
  rw [ev_loop]
  simp (maxSteps:=1000000) (disch:=omega) only [L117_1,EVa,EVb,oi,ou,wants,evx,evxs,evo,evparts,fillA,put,keepT,argTm,result,resAll,resOf,vO,boxF,binF,nilF,unF,lenF,callF,appF,mkIF,readsOf,boxAt,Nat.reduceEqDiff,reduceCtorEq,Nat.reduceBEq,Int.reduceToNat,Nat.reduceAdd,Nat.reduceLeDiff,Nat.reduceMul,Int.lt_irrefl]
 | cons v r ih=>
  intro i m out cells tk M hd hi hc hs h0 hnb hg hpu
  have hlt:i < ps.length:=by
   have:=congrArg List.length hd
   simp at this; omega
  have hd':ps.drop (i + 1)=r:=by rw [← List.drop_drop,hd]; rfl
  obtain ⟨a,rest,hdr,hva⟩:=hv.at hd
  have hia:=fun M=>hp.ia (M:=M) hlt
  rw [hdr] at hia
  have ht5:=take5 (rest:=rest) hva.len
  have hb5:=ble5 (rest:=rest) hva.len
  have hal:=hva.len
  have hall:=hva.all
  have ht:a.take 5=a:=List.take_of_length_le (by omega)
  have hltn:i < ns.length:=by omega
  have hdn:ns.drop i=ns[i] :: ns.drop (i + 1):=(List.getElem_cons_drop hltn).symm
  rw [hdn] at hs ⊢
  simp only [rlens] at hs ⊢
  have hian:=fun M=>hnm.ia (M:=M) hltn
  have hsd:(strCells ns).drop (i * 1)=.str ns[i] :: strCells (ns.drop (i + 1)):=by
   rw [Nat.mul_one,strCells,← List.map_drop,hdn]; rfl
  rw [hsd] at hian
  have hs2b:AV.sl 0 0 ns[i].length (byteCells ns[i])=bsl ns[i]:=rfl
  have hsl:=hnb2 _ (List.getElem_mem hltn)
  obtain ⟨hE,hN,hL⟩:=hc v (List.mem_cons_self ..)
  have hw2:IntKind.i64.wrap ((i:Int) + 1)=((i + 1:Nat):Int):=by rw [wrap_i64] <;> omega
  have hg1:((M.new (.cells [.int .i64 0,.int .i64 0,.nils,.nils,.nils])).set M.nb (.cells a)).get M.nb=some (.cells a):=gns_self
  have hg2:((M.new (.cells [.int .i64 0,.int .i64 0,.nils,.nils,.nils])).set M.nb (.cells a)).get 0=some (.cells [.int .i64 4,n,b,nm,p]):=by rw [gns_lt (by omega)]; exact h0
  have hg3:GroK 1 ((M.new (.cells [.int .i64 0,.int .i64 0,.nils,.nils,.nils])).set M.nb (.cells a)) out m cells tk:=hg.mem rfl rfl
  have hg4:1≤((M.new (.cells [.int .i64 0,.int .i64 0,.nils,.nils,.nils])).set M.nb (.cells a)).nb:=by rw [nbn_set,nbn_new]; omega
  generalize hM1:((M.new (.cells [.int .i64 0,.int .i64 0,.nils,.nils,.nils])).set M.nb (.cells a))=M1 at hg1 hg2 hg3 hg4
  obtain ⟨on,onl,onp,hen⟩:=ev83 (isS_bsl (l:=ns[i])) Pures.bytes (by omega) M1
  obtain ⟨w',Mn,tkn,han,hgn,hsbn⟩:=hg3.app' (bytes:=1) (j:=nl (2 * ns[i].length) + ns[i].length) onp (by omega) (by omega) (by omega)
  have hgn1:Mn.get M.nb=some (.cells a):=by rw [hsbn.get]; exact hg1
  obtain ⟨o,oln,op,he⟩:=hE a hva hN hL Mn
  obtain ⟨v',M2,tk',ha,hg5,hsb⟩:=hgn.app' (bytes:=1) (j:=v.elen) op (by omega) (by omega) (by omega)
  obtain ⟨out',cells',M',tk2,hl,hgo,hpo⟩:=ih (i + 1) (m + (nl (2 * ns[i].length) + ns[i].length) + v.elen) v' _ tk' M2 hd' (by omega) (fun x hx=>hc x (List.mem_cons_of_mem _ hx)) (by omega) (by rw [hsb.get,hsbn.get]; exact hg2) (by rw [hsb.nb,hsbn.nb]; exact hg4) hg5 ((hpu.append onp).append op)
  refine ⟨out',cells',M',tk2,?_,by rw [show m + (nl (2 * ns[i].length) + ns[i].length + v.elen + rlens (ns.drop (i + 1)) r)=m + (nl (2 * ns[i].length) + ns[i].length) + v.elen + rlens (ns.drop (i + 1)) r by omega]; exact hgo,hpo⟩
  have hstep:ev ES (.c L117_1 [(1,.ptr 0 0),(3,out),(32,p),(33,.int .i64 (ps.length:Int)),(34,.int .i64 (i:Int))] M)=some (.code .normal [(1,.ptr 0 0),(3,v'),(32,p),(33,.int .i64 (ps.length:Int)),(34,.int .i64 ((i + 1:Nat):Int))] M2):=by
   simp (maxSteps:=1000000) (disch:=omega) only [L117_1,EVa,EVb,oi,ou,wants,evx,evxs,evo,evparts,fillA,put,keepT,argTm,result,resAll,resOf,vO,boxF,binF,nilF,unF,lenF,callF,appF,mkIF,readsOf,boxAt,Nat.reduceEqDiff,reduceCtorEq,Nat.reduceBEq,Int.reduceToNat,Nat.reduceAdd,Nat.reduceLeDiff,Nat.reduceMul,hia,ht5,hb5,hal,hall,ht,hw2,hM1,hg1,hg2,hian,so_s2b_,s2bF.eq_1,hs2b,hen,onl,han,hgn1,he,oln,ha,Int.reduceEq]
  rw [ev_loop,hstep]
  exact hl
theorem elens_le:∀ {ps:List Val} {v:Val},v∈ps→v.elen≤elens ps
 | a :: r,v,h=>by
  simp only [elens]
  rcases List.mem_cons.1 h with rfl | h
  ·omega
  ·have:=elens_le h; omega
theorem enc_lst {ps:List Val} (ih:∀ v∈ps,EncOK v):EncOK (.lst ps):=by
 intro c hV hok hl M
 have hp:=agg_pure hV.pure
 simp only [VC] at hV
 simp only [Val.okN] at hok
 simp only [Val.elen] at hl ⊢
 obtain ⟨b,nm,p,cs,rfl,hb,hn,hps,hvs⟩:=hV
 have hpn:ps.length < 1000000:=by
  have:∀ (qs:List Val),qs.length≤elens qs:=by
   intro qs
   induction qs with
   | nil=>exact Nat.le_refl _
   | cons v r ih=>
    have:1≤v.elen:=by cases v <;> simp only [Val.elen] <;> omega
    simp only [List.length_cons,elens]; omega
  have:=this ps
  omega
 obtain ⟨k1,kl1,kp1,hh⟩:=head117 (k:=3) (n:=.int .i64 0) (b:=b) (nm:=nm) (p:=p) (by omega)
 obtain ⟨he1,hg⟩:=hh _ rfl
 simp only [show ((3:Nat):Int)=3 from rfl] at he1 hg
 have hg0:(Mem.zero.new (.cells [.int .i64 3,.int .i64 0,b,nm,p])).get 0=some (.cells [.int .i64 3,.int .i64 0,b,nm,p]):=rfl
 have hnb:(Mem.zero.new (.cells [.int .i64 3,.int .i64 0,b,nm,p])).nb=1:=rfl
 generalize hM0:Mem.zero.new (.cells [.int .i64 3,.int .i64 0,b,nm,p])=M0 at he1 hg hg0 hnb
 have hg1:(M0.tok 1 1).get 0=some (.cells [.int .i64 3,.int .i64 0,b,nm,p]):=hg0
 obtain ⟨k2,kl2,kp2,_,he2⟩:=ev79 (n:=ps.length) (by omega) (M0.tok 1 1)
 obtain ⟨v',M2,tk',ha,hg2,hsb⟩:=(hg.tokO (n:=nl (2 * ps.length)) (z2:=1)).app' (bytes:=1) (j:=nl (2 * ps.length)) kp2 (by omega) (by omega) (by omega)
 have hg3:M2.get 0=some (.cells [.int .i64 3,.int .i64 0,b,nm,p]):=by rw [hsb.get]; exact hg0
 obtain ⟨out',cells',M',tk2,he,hgo,hpo⟩:=loop117L hpn hps hvs ps 0 _ v' _ tk' M2 rfl (Nat.zero_le _) (fun v hv=>⟨ih v hv,okNs_mem hok v hv,by have:=elens_le hv; omega⟩) (by omega) hg3 (by rw [hsb.nb]; exact Nat.le_of_eq hnb.symm) hg2 (kp1.append kp2)
 have hpl:=hps.len
 simp only [Int.natCast_zero] at he
 refine ⟨cells',by rw [hgo.1,Nat.mul_one],hpo,?_⟩
 rw [f117 (frzVs_pure hp),b117 rfl]
 have hc:retF ES [.t 2] (ev ES (.c code117 (argTm 0 [.agg [.int .i64 3,.int .i64 0,b,nm,p]]) .zero))=some (.fn out' M'):=by
  simp (maxSteps:=1000000) (disch:=omega) only [code117,EVa,EVb,oi,ou,wants,evx,evxs,evo,evparts,fillA,put,keepT,argTm,result,resAll,resOf,vO,boxF,binF,nilF,unF,lenF,callF,appF,mkIF,readsOf,boxAt,Nat.reduceEqDiff,reduceCtorEq,Nat.reduceBEq,Int.reduceToNat,Nat.reduceAdd,Nat.reduceLeDiff,Nat.reduceMul,hb.oneA,hn.oneA,hps.oneA,hM0,hg0,hg1,he1,he2,kl2,ha,hg3,hpl,he,Int.reduceEq]
 rw [hc]
 exact (own_grown hp hgo.gro (by have:=nl_pos (2 * ps.length); omega)).1
theorem rlens_le:∀ {ns:List (List Nat)} {ps:List Val} {v:Val},ns.length=ps.length→v∈ps→v.elen≤rlens ns ps
 | [],_ :: _,v,h,_=>by cases h
 | n :: ns,a :: r,v,hl,h=>by
  simp only [rlens]
  rcases List.mem_cons.1 h with rfl | h
  ·omega
  ·have:=rlens_le (by simpa using hl) h; omega
theorem enc_rcd {ns:List (List Nat)} {ps:List Val} (ih:∀ v∈ps,EncOK v):EncOK (.rcd ns ps):=by
 intro c hV hok hl M
 have hp:=agg_pure hV.pure
 simp only [VC] at hV
 simp only [Val.okN] at hok
 simp only [Val.elen] at hl ⊢
 obtain ⟨b,nm,p,cs,rfl,hb,hn,hps,hvs,hns,hnl⟩:=hV
 have hpn:ps.length < 1000000:=by
  rw [← hnl]
  simp only [nameLists,List.mem_cons,List.not_mem_nil,or_false] at hns
  rcases hns with rfl | rfl | rfl | rfl | rfl <;> (simp only [List.length_cons,List.length_nil]; omega)
 have hnb2:∀ s∈ns,s.length < 100000:=by
  simp only [nameLists,List.mem_cons,List.not_mem_nil,or_false] at hns
  rcases hns with rfl | rfl | rfl | rfl | rfl <;> (intro s hs; simp only [List.mem_cons,List.not_mem_nil,or_false] at hs; rcases hs with rfl | rfl | rfl) <;> simp
 obtain ⟨k1,kl1,kp1,hh⟩:=head117 (k:=4) (n:=.int .i64 0) (b:=b) (nm:=nm) (p:=p) (by omega)
 obtain ⟨he1,hg⟩:=hh _ rfl
 simp only [show ((4:Nat):Int)=4 from rfl] at he1 hg
 have hg0:(Mem.zero.new (.cells [.int .i64 4,.int .i64 0,b,nm,p])).get 0=some (.cells [.int .i64 4,.int .i64 0,b,nm,p]):=rfl
 have hnb:(Mem.zero.new (.cells [.int .i64 4,.int .i64 0,b,nm,p])).nb=1:=rfl
 generalize hM0:Mem.zero.new (.cells [.int .i64 4,.int .i64 0,b,nm,p])=M0 at he1 hg hg0 hnb
 have hg1:(M0.tok 1 1).get 0=some (.cells [.int .i64 4,.int .i64 0,b,nm,p]):=hg0
 obtain ⟨k2,kl2,kp2,_,he2⟩:=ev79 (n:=ps.length) (by omega) (M0.tok 1 1)
 obtain ⟨v',M2,tk',ha,hg2,hsb⟩:=(hg.tokO (n:=nl (2 * ps.length)) (z2:=1)).app' (bytes:=1) (j:=nl (2 * ps.length)) kp2 (by omega) (by omega) (by omega)
 have hg3:M2.get 0=some (.cells [.int .i64 4,.int .i64 0,b,nm,p]):=by rw [hsb.get]; exact hg0
 obtain ⟨out',cells',M',tk2,he,hgo,hpo⟩:=loop117R hpn hps hvs hn hnl hnb2 ps 0 _ v' _ tk' M2 rfl (Nat.zero_le _) (fun v hv=>⟨ih v hv,okNs_mem hok v hv,by have:=rlens_le hnl hv; omega⟩) (by rw [List.drop_zero]; omega) hg3 (by rw [hsb.nb]; exact Nat.le_of_eq hnb.symm) hg2 (kp1.append kp2)
 rw [List.drop_zero] at hgo
 have hpl:=hps.len
 simp only [Int.natCast_zero] at he
 refine ⟨cells',by rw [hgo.1,Nat.mul_one],hpo,?_⟩
 rw [f117 (frzVs_pure hp),b117 rfl]
 have hc:retF ES [.t 2] (ev ES (.c code117 (argTm 0 [.agg [.int .i64 4,.int .i64 0,b,nm,p]]) .zero))=some (.fn out' M'):=by
  simp (maxSteps:=1000000) (disch:=omega) only [code117,EVa,EVb,oi,ou,wants,evx,evxs,evo,evparts,fillA,put,keepT,argTm,result,resAll,resOf,vO,boxF,binF,nilF,unF,lenF,callF,appF,mkIF,readsOf,boxAt,Nat.reduceEqDiff,reduceCtorEq,Nat.reduceBEq,Int.reduceToNat,Nat.reduceAdd,Nat.reduceLeDiff,Nat.reduceMul,hb.oneA,hn.oneA,hps.oneA,hM0,hg0,hg1,he1,he2,kl2,ha,hg3,hpl,he,Int.reduceEq]
 rw [hc]
 exact (own_grown hp hgo.gro (by have:=nl_pos (2 * ps.length); omega)).1
theorem enc_ok (V:Val):EncOK V:=by
 refine Val.ind (p:=EncOK) (fun V ih=>?_) _ V (Nat.lt_succ_self _)
 cases V with
 | num n=>exact enc_num
 | byt l=>exact enc_byt
 | lst ps=>exact enc_lst ih
 | rcd ns ps=>exact enc_rcd ih
theorem ev25 {V:Val} {c:List AV} (hV:VC V c) (hok:V.okN) (hs:V.size≤600) (hl:V.lev≤10) (he:V.elen≤4000) (ad:Bool) (M:Mem):ev ES (.f ad 25 [.agg c] M)=some (.fn okZ M):=by
 have hp:=agg_pure hV.pure
 have h116:=fun M=>check_ok V c hV 0 1 (by omega) (by omega) M
 simp only [Int.natCast_zero,Int.natCast_one] at h116
 obtain ⟨F,hF⟩:=Classical.axiomOfChoice fun M=>enc_ok V c hV hok (by omega) M
 have h117:=fun M=>(hF M).2.2
 have hfl:=fun M=>(hF M).1
 have hlen:=hV.len
 have hall:=hV.all
 have ht:c.take 5=c:=List.take_of_length_le (by omega)
 have hb5:Nat.ble 5 c.length=true:=ble_true (by omega)
 have h71:∀ M,∃ w,ev ES (.f false 71 [.agg c] M)=some (.fn (.tup [w,okZ]) M):=by
  intro M
  obtain ⟨w,M1,hw⟩:∃ w M1,retF ES [.t 2,.cA 3 2] (ev ES (.c code71 (argTm 0 [.agg c]) .zero))=some (.fn (.tup [.sl 0 0 V.elen w,okZ]) M1):=by
   have g0:(((Mem.zero.new (.cells c)).new (.cells [.int .i64 0,.int .i64 0])).new (.cells [.int .i64 0,.int .i64 0])).get 0=some (.cells c):=rfl
   have g0':((((Mem.zero.new (.cells c)).new (.cells [.int .i64 0,.int .i64 0])).new (.cells [.int .i64 0,.int .i64 0])).set 2 (.cells [.int .i64 0,.int .i64 0])).get 0=some (.cells c):=rfl
   have g1:((Mem.zero.new (.cells c)).new (.cells [.int .i64 0,.int .i64 0])).get 0=some (.cells c):=rfl
   have g2:((((Mem.zero.new (.cells c)).new (.cells [.int .i64 0,.int .i64 0])).new (.cells [.int .i64 0,.int .i64 0])).set 2 (.cells [.int .i64 0,.int .i64 0])).get 1=some (.cells [.int .i64 0,.int .i64 0]):=rfl
   have g2':((((Mem.zero.new (.cells c)).new (.cells [.int .i64 0,.int .i64 0])).new (.cells [.int .i64 0,.int .i64 0])).set 2 (.cells [.int .i64 0,.int .i64 0])).get 2=some (.cells [.int .i64 0,.int .i64 0]):=rfl
   have g3:(((Mem.zero.new (.cells c)).new (.cells [.int .i64 0,.int .i64 0])).new (.cells [.int .i64 0,.int .i64 0])).get 2=some (.cells [.int .i64 0,.int .i64 0]):=rfl
   have g4:=gs_self (y:=.cells [.int .i64 0,.int .i64 0]) g2
   have n1:((Mem.zero.new (.cells c)).new (.cells [.int .i64 0,.int .i64 0])).nb=2:=rfl
   have n0:(Mem.zero.new (.cells c)).nb=1:=rfl
   refine ⟨F ((((Mem.zero.new (.cells c)).new (.cells [.int .i64 0,.int .i64 0])).new (.cells [.int .i64 0,.int .i64 0])).set 2 (.cells [.int .i64 0,.int .i64 0])),((((Mem.zero.new (.cells c)).new (.cells [.int .i64 0,.int .i64 0])).new (.cells [.int .i64 0,.int .i64 0])).set 2 (.cells [.int .i64 0,.int .i64 0])).set 1 (.cells [.int .i64 0,.int .i64 0]),?_⟩
   simp (maxSteps:=1000000) (disch:=omega) only [code71,EVa,EVb,oi,ou,wants,evx,evxs,evo,evparts,fillA,put,keepT,argTm,result,resAll,resOf,vO,boxF,binF,nilF,unF,lenF,callF,appF,mkIF,readsOf,boxAt,Nat.reduceEqDiff,reduceCtorEq,Nat.reduceBEq,Int.reduceToNat,Nat.reduceAdd,Nat.reduceLeDiff,Nat.reduceMul,hall,n0,n1,g0,g0',g1,g2,g2',g3,g4,ht,hb5,hlen,h116,okZ,okZ_eq,h117,hfl,ne_eq,not_true_eq_false]
  exact ⟨_,by rw [f71 (frzVs_pure hp),b71 rfl,hw]; exact own_done hp (adopt_frz rfl (by simp))⟩
 obtain ⟨W,hW⟩:=Classical.axiomOfChoice h71
 have g0:((Mem.zero.new (.cells c)).new (.cells [.int .i64 0,.int .i64 0])).get 0=some (.cells c):=rfl
 have n1:((Mem.zero.new (.cells c)).new (.cells [.int .i64 0,.int .i64 0])).nb=2:=rfl
 have n0:(Mem.zero.new (.cells c)).nb=1:=rfl
 have g1:((((Mem.zero.new (.cells c)).new (.cells [.int .i64 0,.int .i64 0])).new (.cells [.int .i64 0,.int .i64 0])).set 2 (.cells [.int .i64 0,.int .i64 0])).get 2=some (.cells [.int .i64 0,.int .i64 0]):=rfl
 have g1':(((Mem.zero.new (.cells c)).new (.cells [.int .i64 0,.int .i64 0])).new (.cells [.int .i64 0,.int .i64 0])).get 2=some (.cells [.int .i64 0,.int .i64 0]):=rfl
 have g2:((((Mem.zero.new (.cells c)).new (.cells [.int .i64 0,.int .i64 0])).new (.cells [.int .i64 0,.int .i64 0])).set 2 (.cells [.int .i64 0,.int .i64 0])).get 1=some (.cells [.int .i64 0,.int .i64 0]):=rfl
 have g3:=gs_self (y:=.cells [.int .i64 0,.int .i64 0]) g2
 have hb:retF ES [.cA 2 2] (ev ES (.c code25 (argTm 0 [.agg c]) .zero))=some (.fn okZ (((((Mem.zero.new (.cells c)).new (.cells [.int .i64 0,.int .i64 0])).new (.cells [.int .i64 0,.int .i64 0])).set 2 (.cells [.int .i64 0,.int .i64 0])).set 1 (.cells [.int .i64 0,.int .i64 0]))):=by
  simp (maxSteps:=1000000) (disch:=omega) only [code25,EVa,EVb,oi,ou,wants,evx,evxs,evo,evparts,fillA,put,keepT,argTm,result,resAll,resOf,vO,boxF,binF,nilF,unF,lenF,callF,appF,mkIF,readsOf,boxAt,Nat.reduceEqDiff,reduceCtorEq,Nat.reduceBEq,Int.reduceToNat,Nat.reduceAdd,Nat.reduceLeDiff,Nat.reduceMul,hall,n0,n1,g0,g1,g1',g2,g3,ht,hb5,hlen,hW,okZ]
 rw [f25 (frzVs_pure hp),b25 rfl,hb]
 exact own_done hp (adopt_frz rfl (by simp [okZ]))
end Go.Sx
namespace Go.Sx
def capF (M:Mem):AV→Option Out
 | .nils=>some (.val (.int .i64 0) M)
 | .sl 1 _ n _=>some (.val (.int .i64 n) M)
 | _=>none
theorem so_cap {E:Env} {tm:Tm} {M:Mem} {x:Opd}:stepOp E tm M (.cap x)=o1 (capF M) (evx E tm x):=by
 simp only [stepOp]
 cases evx E tm x with
 | none=>rfl
 | some v=>
  simp only [Option.bind_some,o1]
  cases v with
  | sl t e n cs=>
   match t with
   | 0=>rfl
   | 1=>rfl
   | t + 2=>rfl
  | _=>rfl
def appZF (M:Mem) (esz bytes:Nat) (z:List AV):AV→Nat→Option Out
 | .nils,n=>if n=0 then some (.val .nils M) else if n * bytes≤140737488355328∧n≤140737488355328∧z.length=esz then
    some (.val (.ms M.nb 0 n n) (M.new (.cells ((List.replicate n z).flatten)))) else none
 | _,_=>none
theorem so_appZ {E:Env} {tm:Tm} {M:Mem} {esz bytes:Nat} {z:List AV} {x n:Opd}:stepOp E tm M (.appZ esz bytes z x n)=oN (appZF M esz bytes z) (evx E tm x) (natO (evx E tm n)):=by
 simp only [stepOp]
 cases evx E tm x with
 | none=>rfl
 | some v=>
  cases evx E tm n with
  | none=>rfl
  | some u=>
   simp only [Option.bind_some,natO]
   cases natOf u with
   | none=>rfl
   | some j=>cases v <;> rfl
def zs (n:Nat):List AV:=(List.replicate n [AV.int .u8 0]).flatten
theorem zs_len (n:Nat):(zs n).length=n:=by simp [zs]
theorem slc_nils0:slcV 1 .nils none (some (.int .i64 0)) none=some .nils:=rfl
theorem slc_ms0 {b n:Nat}:slcV 1 (.ms b 0 n n) none (some (.int .i64 0)) none=some (.ms b 0 0 n):=by
 have hb:bounds n n none (some (.int .i64 0)) none=some (0,0,n):=by
  simp only [bounds,natOf,Int.le_refl,if_true,Option.bind_some]
  rw [if_pos (by simp)]
  simp
 simp only [slcV,hb,Option.isSome_none,Bool.false_eq_true,if_false,Option.bind_some]
 rfl
theorem ev118 {ad:Bool} {n:Nat} {M:Mem} (hn:0 < n) (hn2:n < 1000000):ev ES (.f ad 118 [.nils,.int .i64 (n:Int)] M)=some (.fn (.ms M.nb 0 0 n) (M.new (.cells (zs n)))):=by
 rw [f118,b118 rfl]
 have hz:appZF M 1 1 [.int .u8 0] .nils n=some (.val (.ms M.nb 0 n n) (M.new (.cells (zs n)))):=by
  simp only [appZF]
  rw [if_neg (by omega),if_pos ⟨by omega,by omega,rfl⟩]
  rfl
 have hw:IntKind.i64.wrap ((n:Int) - 0)=(n:Int):=by rw [Int.sub_zero,wrap_i64] <;> omega
 have hw0:IntKind.i64.wrap (0 - 0)=0:=by decide
 simp (maxSteps:=1000000) (disch:=omega) only [code118,EVa,EVb,oi,ou,wants,evx,evxs,evo,evparts,fillA,put,keepT,argTm,result,resAll,resOf,vO,boxF,binF,nilF,unF,lenF,callF,appF,mkIF,readsOf,boxAt,Nat.reduceEqDiff,reduceCtorEq,Nat.reduceBEq,Int.reduceToNat,Nat.reduceAdd,Nat.reduceLeDiff,Nat.reduceMul,so_cap,capF.eq_1,so_appZ,hz,slc_nils0,slc_ms0,hw,hw0,Int.natCast_zero]
inductive Parts:List (Nat × List AV)→List AV→Prop
 | nil:Parts [] []
 | cons {n:Nat} {ys:List AV} {w:AV} {r:List (Nat × List AV)} {ws:List AV} (h:isS 1 n ys w) (hp:Pures ys) (hr:Parts r ws):Parts ((n,ys) :: r) (w :: ws)
def total (l:List (Nat × List AV)):Nat:=(l.map (·.1)).sum
def joined (l:List (Nat × List AV)):List AV:=l.flatMap (·.2)
theorem Parts.len:∀ {l:List (Nat × List AV)} {ws:List AV},Parts l ws→ws.length=l.length
 | _,_,.nil=>rfl
 | _,_,.cons _ _ hr=>by simp [hr.len]
theorem Parts.pure:∀ {l:List (Nat × List AV)} {ws:List AV},Parts l ws→Pures ws
 | _,_,.nil=>fun v h=>nomatch h
 | _,_,.cons h _ hr=>fun v hv=>by
  rcases List.mem_cons.1 hv with rfl | hv
  ·exact h.pure
  ·exact hr.pure v hv
theorem Parts.drop:∀ {i:Nat} {l:List (Nat × List AV)} {ws:List AV},Parts l ws→Parts (l.drop i) (ws.drop i)
 | 0,_,_,h=>h
 | i + 1,_,_,.nil=>.nil
 | i + 1,_,_,.cons _ _ hr=>hr.drop (i:=i)
theorem loop82a {l:List (Nat × List AV)} {ws:List AV} {x:AV} (hx:isS 1 l.length ws x) (hP:Parts l ws) (hn:l.length < 1000):∀ (r:List (Nat × List AV)) (i s:Nat) (M:Mem),l.drop i=r→i≤l.length→s + total r < 1000000 →
  ev ES (.c (.loop L82_0) [(0,x),(3,.int .i64 (s:Int)),(9,x),(10,.int .i64 (l.length:Int)),(11,.int .i64 (i:Int))] M)=some (.code (.exit 0) [(0,x),(3,.int .i64 ((s + total r:Nat):Int)),(9,x),(10,.int .i64 (l.length:Int)),(11,.int .i64 (l.length:Int)),(12,.bool false)] M):=by
 intro r
 induction r with
 | nil=>
  intro i s M hd hi hs
  have hi:i=l.length:=by
   have:=congrArg List.length hd
   simp at this; omega
  subst hi
  rw [ev_loop]
  simp (maxSteps:=1000000) (disch:=omega) only [L82_0,EVa,EVb,oi,ou,wants,evx,evxs,evo,evparts,fillA,put,keepT,argTm,result,resAll,resOf,vO,boxF,binF,nilF,unF,lenF,callF,appF,mkIF,readsOf,boxAt,Nat.reduceEqDiff,reduceCtorEq,Nat.reduceBEq,Int.reduceToNat,Nat.reduceAdd,Nat.reduceLeDiff,Nat.reduceMul,Int.lt_irrefl]
  rfl
 | cons p r ih=>
  obtain ⟨n,ys⟩:=p
  intro i s M hd hi hs
  have hlt:i < l.length:=by
   have:=congrArg List.length hd
   simp at this; omega
  have hd':l.drop (i + 1)=r:=by rw [← List.drop_drop,hd]; rfl
  have hPd:=hP.drop (i:=i)
  rw [hd] at hPd
  have hia:=fun M=>hx.ia (M:=M) hlt
  generalize hwd:ws.drop i=wd at hPd
  cases hPd with
  | cons h hp hr=>
   rename_i w ws'
   rw [Nat.mul_one,hwd] at hia
   have e:total ((n,ys) :: r)=n + total r:=by simp [total]
   rw [e] at hs ⊢
   have hw:IntKind.i64.wrap ((s:Int) + (n:Int))=((s + n:Nat):Int):=by rw [wrap_i64] <;> omega
   have hw2:IntKind.i64.wrap ((i:Int) + 1)=((i + 1:Nat):Int):=by rw [wrap_i64] <;> omega
   have hwl:=h.len
   have hstep:ev ES (.c L82_0 [(0,x),(3,.int .i64 (s:Int)),(9,x),(10,.int .i64 (l.length:Int)),(11,.int .i64 (i:Int))] M)=some (.code .normal [(0,x),(3,.int .i64 ((s + n:Nat):Int)),(9,x),(10,.int .i64 (l.length:Int)),(11,.int .i64 ((i + 1:Nat):Int))] M):=by
    simp (maxSteps:=1000000) (disch:=omega) only [L82_0,EVa,EVb,oi,ou,wants,evx,evxs,evo,evparts,fillA,put,keepT,argTm,result,resAll,resOf,vO,boxF,binF,nilF,unF,lenF,callF,appF,mkIF,readsOf,boxAt,Nat.reduceEqDiff,reduceCtorEq,Nat.reduceBEq,Int.reduceToNat,Nat.reduceAdd,Nat.reduceLeDiff,Nat.reduceMul,hia,hwl,hw,hw2]
   rw [ev_loop,hstep]
   show ev ES (.c (.loop L82_0) _ _)=_
   rw [ih (i + 1) (s + n) M hd' (by omega) (by omega),Nat.add_assoc]
theorem app_msE {b n c:Nat} {M:Mem} {done rest ys:List AV} {m:Nat} (hg:M.get b=some (.cells (done ++ rest))) (hd:done.length=n) (hc:(done ++ rest).length=c) (hy:ys.length=m) (hm:n + m≤c) (hp:Pures ys):∃ M',appV false M 1 1 (.ms b 0 n c) m ys=some (.ms b 0 (n + m) c,M')∧M'.get b=some (.cells ((done ++ ys) ++ rest.drop m)):=by
 by_cases h0:m=0
 ·subst h0
  have:ys=[]:=List.eq_nil_of_length_eq_zero hy
  subst this
  refine ⟨M,?_,by simpa using hg⟩
  unfold appV
  rw [if_pos rfl]
  rfl
 ·refine ⟨M.set b (.cells ((done ++ ys) ++ rest.drop m)),?_,gs_self hg⟩
  have hall:ys.all oneA=true:=by
   rw [List.all_eq_true]
   intro x hx
   have:=hp x hx
   cases x <;> first | rfl | cases this
  unfold appV
  rw [if_neg h0]
  simp only [hall,Bool.not_true,Bool.false_eq_true,if_false,hg,Nat.zero_add,Nat.mul_one]
  rw [if_pos hm,if_pos (by omega)]
  congr 5
  ·rw [← hd,List.take_left]
  ·rw [← hd,← List.drop_drop,List.drop_left]
theorem loop82b {l:List (Nat × List AV)} {ws:List AV} {x:AV} {b c:Nat} (hx:isS 1 l.length ws x) (hP:Parts l ws) (hn:l.length < 1000):∀ (r:List (Nat × List AV)) (i m:Nat) (done rest:List AV) (M:Mem),l.drop i=r→i≤l.length→m + total r=c→M.get b=some (.cells (done ++ rest))→done.length=m→(done ++ rest).length=c→Pures done →
  ∃ out M',out.length=c∧Pures out∧ev ES (.c (.loop L82_2) [(6,.ms b 0 m c),(25,x),(26,.int .i64 (l.length:Int)),(27,.int .i64 (i:Int))] M)=some (.code (.exit 2) [(6,.ms b 0 c c),(25,x),(26,.int .i64 (l.length:Int)),(27,.int .i64 (l.length:Int)),(28,.bool false)] M')∧M'.get b=some (.cells out):=by
 intro r
 induction r with
 | nil=>
  intro i m done rest M hd hi hs hg hdl hc hp
  have hi:i=l.length:=by
   have:=congrArg List.length hd
   simp at this; omega
  subst hi
  have hs:m=c:=by simpa [total] using hs
  subst hs
  have:rest=[]:=List.eq_nil_of_length_eq_zero (by rw [List.length_append] at hc; omega)
  subst this
  rw [List.append_nil] at hg
  refine ⟨done,M,hdl,hp,?_,hg⟩
  rw [ev_loop]
  simp (maxSteps:=1000000) (disch:=omega) only [L82_2,EVa,EVb,oi,ou,wants,evx,evxs,evo,evparts,fillA,put,keepT,argTm,result,resAll,resOf,vO,boxF,binF,nilF,unF,lenF,callF,appF,mkIF,readsOf,boxAt,Nat.reduceEqDiff,reduceCtorEq,Nat.reduceBEq,Int.reduceToNat,Nat.reduceAdd,Nat.reduceLeDiff,Nat.reduceMul,Int.lt_irrefl]
 | cons p r ih=>
  obtain ⟨n,ys⟩:=p
  intro i m done rest M hd hi hs hg hdl hc hp
  have hlt:i < l.length:=by
   have:=congrArg List.length hd
   simp at this; omega
  have hd':l.drop (i + 1)=r:=by rw [← List.drop_drop,hd]; rfl
  have hPd:=hP.drop (i:=i)
  rw [hd] at hPd
  have hia:=fun M=>hx.ia (M:=M) hlt
  generalize hwd:ws.drop i=wd at hPd
  cases hPd with
  | cons h hpy hr=>
   rename_i w ws'
   rw [Nat.mul_one,hwd] at hia
   have e:total ((n,ys) :: r)=n + total r:=by simp [total]
   rw [e] at hs
   have hyl:ys.length=n:=by have:=h.1; omega
   obtain ⟨M1,ha,hg1⟩:=app_msE (m:=n) hg hdl hc hyl (by omega) hpy
   have hw2:IntKind.i64.wrap ((i:Int) + 1)=((i + 1:Nat):Int):=by rw [wrap_i64] <;> omega
   have hwA:=h.lenA
   have hwE:=fun M=>h.elems (M:=M)
   have hstep:ev ES (.c L82_2 [(6,.ms b 0 m c),(25,x),(26,.int .i64 (l.length:Int)),(27,.int .i64 (i:Int))] M)=some (.code .normal [(6,.ms b 0 (m + n) c),(25,x),(26,.int .i64 (l.length:Int)),(27,.int .i64 ((i + 1:Nat):Int))] M1):=by
    simp (maxSteps:=1000000) (disch:=omega) only [L82_2,EVa,EVb,oi,ou,wants,evx,evxs,evo,evparts,fillA,put,keepT,argTm,result,resAll,resOf,vO,boxF,binF,nilF,unF,lenF,callF,appF,mkIF,readsOf,boxAt,Nat.reduceEqDiff,reduceCtorEq,Nat.reduceBEq,Int.reduceToNat,Nat.reduceAdd,Nat.reduceLeDiff,Nat.reduceMul,hia,hwA,hwE,ha,hw2]
   obtain ⟨out,M',ho,hpo,he,hgo⟩:=ih (i + 1) (m + n) (done ++ ys) (rest.drop n) M1 hd' (by omega) (by omega) hg1 (by rw [List.length_append]; omega) (by simp only [List.length_append,List.length_drop] at hc ⊢; omega) (hp.append hpy)
   refine ⟨out,M',ho,hpo,?_,hgo⟩
   rw [ev_loop,hstep]
   exact he
theorem ev82 {l:List (Nat × List AV)} {ws:List AV} {x:AV} (hx:isS 1 l.length ws x) (hP:Parts l ws) (hn:l.length < 1000) (ht:0 < total l) (ht2:total l < 1000000) (M:Mem) :
  ∃ out,out.length=total l∧Pures out∧ev ES (.f false 82 [x] M)=some (.fn (.sl 0 0 (total l) out) M):=by
 have hp:∀ v∈[x],pureV v:=fun v hv=>by rw [List.mem_singleton.1 hv]; exact hx.pure.V
 have h1:=fun M=>loop82a hx hP hn l 0 0 M rfl (Nat.zero_le _) (by omega)
 have h118:=ev118 (ad:=true) (M:=.zero) ht ht2
 obtain ⟨out,M',ho,hpo,he,hgo⟩:=loop82b (b:=0) (c:=total l) hx hP hn l 0 0 [] (zs (total l)) (Mem.zero.new (.cells (zs (total l)))) rfl (Nat.zero_le _) (by omega) rfl rfl (zs_len _) (fun v h=>nomatch h)
 simp only [Int.natCast_zero,Nat.zero_add] at h1 he
 have hxl:=hx.len
 refine ⟨out,ho,hpo,?_⟩
 have hc:retF ES [.t 2] (ev ES (.c code82 (argTm 0 [x]) .zero))=some (.fn (.ms 0 0 (total l) (total l)) M'):=by
  simp (maxSteps:=1000000) (disch:=omega) only [code82,EVa,EVb,oi,ou,wants,evx,evxs,evo,evparts,fillA,put,keepT,argTm,result,resAll,resOf,vO,boxF,binF,nilF,unF,lenF,callF,appF,mkIF,readsOf,boxAt,Nat.reduceEqDiff,reduceCtorEq,Nat.reduceBEq,Int.reduceToNat,Nat.reduceAdd,Nat.reduceLeDiff,Nat.reduceMul,hxl,h1,h118,he]
 rw [f82 (frzVs_pure hp),b82 rfl,hc]
 refine own_done hp ?_
 have hf:frz M' (.ms 0 0 (total l) (total l))=some (.sl 0 0 (total l) out):=by
  show frzC M' (.ms 0 0 (total l) (total l))=_
  simp only [frzC,hgo]
  have hb:Nat.beq (total l) 0=false:=beq_ne (by omega)
  rw [hb]
  simp only [Bool.false_eq_true,if_false,ho,Nat.sub_zero,List.drop_zero,Nat.div_self ht,Nat.mul_one,Nat.zero_add,Nat.le_refl,if_true]
  rw [List.take_of_length_le (by omega),purL0_pure hpo]
  rfl
 simp only [adopt,hf,Option.map_some]
def noteC (n:Nat × List Nat × Nat):List AV:=[.int .u8 (n.1:Int),bsl n.2.1,.int .i64 (n.2.2:Int)]
theorem ev81 {ad:Bool} {a i:Nat} {d:List Nat} {M:Mem} (hd:d.length < 100000) (hi:i < 100000) :
  ∃ out M',out.length=nl (2 * i) + (1 + (nl (2 * d.length) + d.length))∧Pures out∧KeepM M M'∧ev ES (.f ad 81 [.agg [.int .u8 (a:Int),bsl d,.int .i64 (i:Int)]] M)=some (.fn (.sl 0 0 (nl (2 * i) + (1 + (nl (2 * d.length) + d.length))) out) M'):=by
 have b1:=nl_le (u:=2 * i) (f:=9) (by omega)
 have b2:=nl_le (u:=2 * d.length) (f:=9) (by omega)
 obtain ⟨c1,l1,p1,e1,_⟩:=ev79 (n:=i) (by omega) (M.new (.cells [.int .u8 (a:Int),bsl d,.int .i64 (i:Int)]))
 obtain ⟨c3,l3,p3,e3⟩:=ev83 (isS_bsl (l:=d)) Pures.bytes (by omega) (M.new (.cells [.int .u8 (a:Int),bsl d,.int .i64 (i:Int)]))
 have hP:Parts [(nl (2 * i),c1),(1,[.int .u8 (a:Int)]),(nl (2 * d.length) + d.length,c3)] [.sl 0 0 (nl (2 * i)) c1,.sl 1 0 1 [.int .u8 (a:Int)],.sl 0 0 (nl (2 * d.length) + d.length) c3]:=
  .cons (isS_sl l1) p1 (.cons ⟨rfl,.inr ⟨1,.inr rfl,rfl⟩⟩ Pures.one (.cons (isS_sl l3) p3 .nil))
 have ht:total [(nl (2 * i),c1),(1,[.int .u8 (a:Int)]),(nl (2 * d.length) + d.length,c3)]=nl (2 * i) + (1 + (nl (2 * d.length) + d.length)):=by simp [total]
 have hx:isS 1 3 [.sl 0 0 (nl (2 * i)) c1,.sl 1 0 1 [.int .u8 (a:Int)],.sl 0 0 (nl (2 * d.length) + d.length) c3] (.sl 1 0 3 [.sl 0 0 (nl (2 * i)) c1,.sl 1 0 1 [.int .u8 (a:Int)],.sl 0 0 (nl (2 * d.length) + d.length) c3]):=⟨rfl,.inr ⟨1,.inr rfl,rfl⟩⟩
 obtain ⟨out,ho,hpo,e82⟩:=ev82 (l:=[(nl (2 * i),c1),(1,[.int .u8 (a:Int)]),(nl (2 * d.length) + d.length,c3)]) hx hP (by simp) (by rw [ht]; omega) (by rw [ht]; omega) (M.new (.cells [.int .u8 (a:Int),bsl d,.int .i64 (i:Int)]))
 rw [ht] at ho e82
 refine ⟨out,M.new (.cells [.int .u8 (a:Int),bsl d,.int .i64 (i:Int)]),ho,hpo,KeepM.new _ _,?_⟩
 rw [f81,b81 rfl]
 have q1:purL0 [.int .u8 (a:Int)]=some [.int .u8 (a:Int)]:=rfl
 have q2:purL0 [.sl 0 0 (nl (2 * i)) c1,.sl 1 0 1 [.int .u8 (a:Int)],.sl 0 0 (nl (2 * d.length) + d.length) c3]=some [.sl 0 0 (nl (2 * i)) c1,.sl 1 0 1 [.int .u8 (a:Int)],.sl 0 0 (nl (2 * d.length) + d.length) c3]:=rfl
 have oq1:∀ t e n cs,oneA (.sl t e n cs)=true:=fun _ _ _ _=>rfl
 have oq2:∀ t e n cs,(AV.sl t e n cs).cells=[.sl t e n cs]:=fun _ _ _ _=>rfl
 simp (maxSteps:=1000000) (disch:=omega) only [code81,EVa,EVb,oi,ou,wants,evx,evxs,evo,evparts,fillA,put,keepT,argTm,result,resAll,resOf,vO,boxF,binF,nilF,unF,lenF,callF,appF,mkIF,readsOf,boxAt,Nat.reduceEqDiff,reduceCtorEq,Nat.reduceBEq,Int.reduceToNat,Nat.reduceAdd,Nat.reduceLeDiff,Nat.reduceMul,e1,e3,q1,q2,oq1,oq2,e82]
theorem noteCells_drop:∀ {l:List (Nat × List Nat × Nat)} {i:Nat} {a k:Nat} {d:List Nat} {r:List (Nat × List Nat × Nat)},l.drop i=(a,d,k) :: r→(noteCells l).drop (i * 3)=noteC (a,d,k) ++ noteCells r
 | l,0,a,k,d,r,h=>by
  simp only [List.drop_zero] at h
  subst h
  rfl
 | [],i + 1,a,k,d,r,h=>by simp at h
 | (x,y,z) :: l,i + 1,a,k,d,r,h=>by
  have:=noteCells_drop (l:=l) (i:=i) (by simpa using h)
  rw [show (i + 1) * 3=i * 3 + 3 by omega]
  exact this
def noteLen:List (Nat × List Nat × Nat)→Nat
 | []=>0
 | (_,d,i) :: r=>nl (2 * i) + (1 + (nl (2 * d.length) + d.length)) + noteLen r
theorem noteCells_len:∀ (l:List (Nat × List Nat × Nat)),(noteCells l).length=l.length * 3
 | []=>rfl
 | (a,d,i) :: r=>by simp only [noteCells,List.length_cons,noteCells_len r]; omega
theorem loop80 {ns:List (Nat × List Nat × Nat)} {p v2:AV} {m2:Nat} {cells2:List AV} {tk2:Option Nat} (hp:isS 3 ns.length (noteCells ns) p) (hn:ns.length < 100000) (hb:∀ x∈ns,x.2.1.length < 100000∧x.2.2 < 100000):∀ (r:List (Nat × List Nat × Nat)) (i m:Nat) (out:AV) (cells:List AV) (tk:Option Nat) (M:Mem),ns.drop i=r→i≤ns.length→m + noteLen r < 1000000000→GroK 1 M out m cells tk→Pures cells→GroK 1 M v2 m2 cells2 tk2→(tk2=none∨tk2≠tk) →
  ∃ out' cells' M' tk',ev ES (.c (.loop L80_0) [(1,.fn 81 [] []),(5,out),(11,p),(12,.int .i64 (ns.length:Int)),(13,.int .i64 (i:Int))] M)=some (.code (.exit 0) [(1,.fn 81 [] []),(5,out'),(11,p),(12,.int .i64 (ns.length:Int)),(13,.int .i64 (ns.length:Int)),(14,.bool false)] M')∧GroK 1 M' out' (m + noteLen r) cells' tk'∧Pures cells'∧GroK 1 M' v2 m2 cells2 tk2:=by
 intro r
 induction r with
 | nil=>
  intro i m out cells tk M hd hi hs hg hpu h2 hne
  have hi:i=ns.length:=by
   have:=congrArg List.length hd
   simp at this; omega
  subst hi
  refine ⟨out,cells,M,tk,?_,hg,hpu,h2⟩
  rw [ev_loop]
  simp (maxSteps:=1000000) (disch:=omega) only [L80_0,EVa,EVb,oi,ou,wants,evx,evxs,evo,evparts,fillA,put,keepT,argTm,result,resAll,resOf,vO,boxF,binF,nilF,unF,lenF,callF,appF,mkIF,readsOf,boxAt,Nat.reduceEqDiff,reduceCtorEq,Nat.reduceBEq,Int.reduceToNat,Nat.reduceAdd,Nat.reduceLeDiff,Nat.reduceMul,Int.lt_irrefl]
 | cons x r ih=>
  obtain ⟨a,d,k⟩:=x
  intro i m out cells tk M hd hi hs hg hpu h2 hne
  have hlt:i < ns.length:=by
   have:=congrArg List.length hd
   simp at this; omega
  have hd':ns.drop (i + 1)=r:=by rw [← List.drop_drop,hd]; rfl
  have hmem:(a,d,k)∈ns:=List.mem_of_mem_drop (i:=i) (by rw [hd]; exact List.mem_cons_self ..)
  obtain ⟨hdl,hkl⟩:=hb _ hmem
  simp only at hdl hkl
  have hia:=fun M=>hp.ia (M:=M) hlt
  rw [noteCells_drop hd] at hia
  simp only [noteLen] at hs ⊢
  have hw2:IntKind.i64.wrap ((i:Int) + 1)=((i + 1:Nat):Int):=by rw [wrap_i64] <;> omega
  have hg1:((M.new (.cells [.int .u8 0,.nils,.int .i64 0])).set M.nb (.cells (noteC (a,d,k)))).get M.nb=some (.cells (noteC (a,d,k))):=gns_self
  have hg3:GroK 1 ((M.new (.cells [.int .u8 0,.nils,.int .i64 0])).set M.nb (.cells (noteC (a,d,k)))) out m cells tk:=hg.mem rfl rfl
  have h3:GroK 1 ((M.new (.cells [.int .u8 0,.nils,.int .i64 0])).set M.nb (.cells (noteC (a,d,k)))) v2 m2 cells2 tk2:=h2.mem rfl rfl
  simp only [noteC] at hg1 hg3 h3 hia
  generalize hM1:((M.new (.cells [.int .u8 0,.nils,.int .i64 0])).set M.nb (.cells [.int .u8 (a:Int),bsl d,.int .i64 (k:Int)]))=M1 at hg1 hg3 h3
  obtain ⟨o,M2,oln,op,hk,he⟩:=ev81 (ad:=false) (a:=a) (M:=M1) hdl hkl
  obtain ⟨v',M3,tk',ha,hg5,hsb,hoth⟩:=(hg3.mem hk.2.2.1 hk.2.2.2).app (bytes:=1) (j:=nl (2 * k) + (1 + (nl (2 * d.length) + d.length))) (purL0_pure op) (by omega) (by omega) (by omega) (by omega)
  obtain ⟨h4,hne4⟩:=hoth _ _ _ _ _ (h3.mem hk.2.2.1 hk.2.2.2) hne
  obtain ⟨out',cells',M',tk3,hl,hgo,hpo,hgo2⟩:=ih (i + 1) (m + (nl (2 * k) + (1 + (nl (2 * d.length) + d.length)))) v' _ tk' M3 hd' (by omega) (by omega) hg5 (hpu.append op) h4 hne4
  refine ⟨out',cells',M',tk3,?_,by rw [← Nat.add_assoc]; exact hgo,hpo,hgo2⟩
  have hstep:ev ES (.c L80_0 [(1,.fn 81 [] []),(5,out),(11,p),(12,.int .i64 (ns.length:Int)),(13,.int .i64 (i:Int))] M)=some (.code .normal [(1,.fn 81 [] []),(5,v'),(11,p),(12,.int .i64 (ns.length:Int)),(13,.int .i64 ((i + 1:Nat):Int))] M3):=by
   simp (maxSteps:=1000000) (disch:=omega) only [L80_0,EVa,EVb,oi,ou,wants,evx,evxs,evo,evparts,fillA,put,keepT,argTm,result,resAll,resOf,vO,boxF,binF,nilF,unF,lenF,callF,appF,mkIF,readsOf,boxAt,Nat.reduceEqDiff,reduceCtorEq,Nat.reduceBEq,Int.reduceToNat,Nat.reduceAdd,Nat.reduceLeDiff,Nat.reduceMul,hia,hw2,hM1,hg1,he,oln,purL0_pure op,ha]
  rw [ev_loop,hstep]
  exact hl
theorem ev31 {cod:Nat} {ns:List (Nat × List Nat × Nat)} {p:AV} (hc:cod < 4) (hp:isS 3 ns.length (noteCells ns) p) (hn:ns.length < 100000) (hb:∀ x∈ns,x.2.1.length < 100000∧x.2.2 < 100000) (hl:noteLen ns < 100000000) (M:Mem):∃ v,pureC v∧ev ES (.f false 31 [.int .i64 (cod:Int),p] M)=some (.fn v M):=by
 have hpu:∀ v∈[AV.int .i64 (cod:Int),p],pureV v:=fun v hv=>by
  simp only [List.mem_cons,List.not_mem_nil,or_false] at hv
  rcases hv with rfl | rfl
  ·trivial
  ·exact hp.pure.V
 have hpl:=hp.len
 rw [f31 (frzVs_pure hpu),b31 rfl]
 by_cases h:cod=1∧ns.length=0
 ·refine ⟨.nils,trivial,?_⟩
  obtain ⟨rfl,h0⟩:=h
  have hcode:retF ES [.t 4] (ev ES (.c code31 (argTm 0 [.int .i64 ((1:Nat):Int),p]) .zero))=some (.fn .nils .zero):=by
   simp (maxSteps:=1000000) (disch:=omega) only [code31,EVa,EVb,oi,ou,wants,evx,evxs,evo,evparts,fillA,put,keepT,argTm,result,resAll,resOf,vO,boxF,binF,nilF,unF,lenF,callF,appF,mkIF,readsOf,boxAt,Nat.reduceEqDiff,reduceCtorEq,Nat.reduceBEq,Int.reduceToNat,Nat.reduceAdd,Nat.reduceLeDiff,Nat.reduceMul,hpl,h0,Int.natCast_one,Int.natCast_zero]
  rw [hcode]
  exact own_done hpu (adopt_frz rfl (by simp))
 ·obtain ⟨c1,l1,p1,_,e1⟩:=ev79 (n:=cod) (by omega) .zero
  have b1:=nl_le (u:=2 * cod) (f:=9) (by omega)
  have b2:=nl_le (u:=2 * ns.length) (f:=9) (by omega)
  obtain ⟨c2,l2,p2,_,e2⟩:=ev79 (n:=ns.length) (by omega) (Mem.zero.tok (nl (2 * cod)) 1)
  have hg:=GroK.tok (z:=1) (L:=nl (2 * cod)) (M:=.zero) (cells:=c1) (by omega) (nl_pos _)
  have hg2:=GroK.tok (z:=1) (L:=nl (2 * ns.length)) (M:=Mem.zero.tok (nl (2 * cod)) 1) (cells:=c2) (by omega) (nl_pos _)
  obtain ⟨out',cells',M',tk3,he,hgo,hpo,hgo2⟩:=loop80 hp hn hb ns 0 _ _ c2 _ _ rfl (Nat.zero_le _) (by omega) hg2 p2 (hg.tokO (n:=nl (2 * ns.length)) (z2:=1)) (.inr (by simp [Mem.tok,Mem.zero]))
  simp only [Int.natCast_zero] at he
  have e80:ev ES (.f false 80 [p,.fn 81 [] []] (Mem.zero.tok (nl (2 * cod)) 1))=some (.fn out' M'):=by
   rw [f80,b80 rfl]
   simp (maxSteps:=1000000) (disch:=omega) only [code80,EVa,EVb,oi,ou,wants,evx,evxs,evo,evparts,fillA,put,keepT,argTm,result,resAll,resOf,vO,boxF,binF,nilF,unF,lenF,callF,appF,mkIF,readsOf,boxAt,Nat.reduceEqDiff,reduceCtorEq,Nat.reduceBEq,Int.reduceToNat,Nat.reduceAdd,Nat.reduceLeDiff,Nat.reduceMul,hpl,e2,he]
  have hpos:=nl_pos (2 * ns.length)
  obtain ⟨k,rfl,hk⟩:=hgo.end (by omega)
  obtain ⟨v',M3,tk4,ha,hg5,hsb⟩:=hgo2.app' (bytes:=1) (j:=nl (2 * ns.length) + noteLen ns) (ys:=cells') hpo hgo.1 (by omega) (by omega)
  have hcl:cells'.length=nl (2 * ns.length) + noteLen ns:=by rw [hgo.1,Nat.mul_one]
  have hcode:retF ES [.t 4] (ev ES (.c code31 (argTm 0 [.int .i64 (cod:Int),p]) .zero))=some (.fn v' M3):=by
   by_cases h1:cod=1
   ·subst h1
    have h0:¬ ns.length=0:=fun h0=>h ⟨rfl,h0⟩
    have h0':¬ (ns.length:Int)=0:=by omega
    simp only [Int.natCast_one] at e1 ⊢
    simp (maxSteps:=1000000) (disch:=omega) only [code31,EVa,EVb,oi,ou,wants,evx,evxs,evo,evparts,fillA,put,keepT,argTm,result,resAll,resOf,vO,boxF,binF,nilF,unF,lenF,callF,appF,mkIF,readsOf,boxAt,Nat.reduceEqDiff,reduceCtorEq,Nat.reduceBEq,Int.reduceToNat,Nat.reduceAdd,Nat.reduceLeDiff,Nat.reduceMul,hpl,h0',e1,e80,hcl,ha]
   ·have h1':¬ (cod:Int)=1:=by omega
    simp (maxSteps:=1000000) (disch:=omega) only [code31,EVa,EVb,oi,ou,wants,evx,evxs,evo,evparts,fillA,put,keepT,argTm,result,resAll,resOf,vO,boxF,binF,nilF,unF,lenF,callF,appF,mkIF,readsOf,boxAt,Nat.reduceEqDiff,reduceCtorEq,Nat.reduceBEq,Int.reduceToNat,Nat.reduceAdd,Nat.reduceLeDiff,Nat.reduceMul,hpl,h1',e1,e80,hcl,ha]
  rw [hcode]
  have hpos2:=nl_pos (2 * cod)
  exact ⟨.sl 0 0 _ _,⟨.inl rfl,rfl⟩,(own_grown hpu hg5.gro (by omega)).1⟩
end Go.Sx
namespace Go.Sx
theorem ev28 {a b:Int} {M:Mem}:ev ES (.f false 28 [.int .i64 a,.int .i64 b] M)=some (.fn (.agg [.int .i64 a,.int .i64 b]) M):=by
 have hp:∀ x∈[AV.int .i64 a,.int .i64 b],pureV x:=by
  intro x hx
  simp only [List.mem_cons,List.not_mem_nil,or_false] at hx
  rcases hx with rfl | rfl <;> trivial
 rw [f28 (frzVs_pure hp),b28 rfl]
 have hc:retF ES [.cA 4 2] (ev ES (.c code28 (argTm 0 [.int .i64 a,.int .i64 b]) .zero))=some (.fn (.agg [.int .i64 a,.int .i64 b]) ((Mem.zero.new (.cells [.int .i64 0,.int .i64 0])).set 0 (.cells [.int .i64 a,.int .i64 b]))):=by
  have g:((Mem.zero.new (.cells [.int .i64 0,.int .i64 0])).set 0 (.cells [.int .i64 a,.int .i64 b])).get 0=some (.cells [.int .i64 a,.int .i64 b]):=rfl
  simp (maxSteps:=1000000) (disch:=omega) only [code28,EVa,EVb,oi,ou,wants,evx,evxs,evo,evparts,fillA,put,keepT,argTm,result,resAll,resOf,vO,boxF,binF,nilF,unF,lenF,callF,appF,mkIF,readsOf,boxAt,Nat.reduceEqDiff,reduceCtorEq,Nat.reduceBEq,Int.reduceToNat,Nat.reduceAdd,Nat.reduceLeDiff,Nat.reduceMul,g]
 rw [hc]
 exact own_done hp (adopt_frz rfl (by simp))
def Z5v:List AV:=[.int .i64 0,.int .i64 0,.nils,.nils,.nils]
theorem ev30 {ad:Bool} {n:Int} {M:Mem}:ev ES (.f ad 30 [.int .i64 n] M)=some (.fn (.agg [.int .i64 1,.int .i64 n,.nils,.nils,.nils]) ((M.new (.cells [.int .i64 0,.int .i64 0,.nils,.nils,.nils])).set M.nb (.cells [.int .i64 1,.int .i64 n,.nils,.nils,.nils]))):=by
 rw [f30,b30 rfl]
 simp (maxSteps:=1000000) (disch:=omega) only [code30,EVa,EVb,oi,ou,wants,evx,evxs,evo,evparts,fillA,put,keepT,argTm,result,resAll,resOf,vO,boxF,binF,nilF,unF,lenF,callF,appF,mkIF,readsOf,boxAt,Nat.reduceEqDiff,reduceCtorEq,Nat.reduceBEq,Int.reduceToNat,Nat.reduceAdd,Nat.reduceLeDiff,Nat.reduceMul]
theorem u8wrap (n:Int):∃ b:Nat,b < 256∧IntKind.u8.wrap n=(b:Int):=by
 refine ⟨(n % 256).toNat,by omega,?_⟩
 rw [wrap_u8]; omega
theorem loop9 {m:Nat} {sc:List AV} {p:AV} (hp:isS 1 m sc p) (hi:isInts sc) (hm:m < 100000):∀ (q i:Nat) (out:AV) (bl:List Nat) (M:Mem),i + q=m→Gro 1 M out bl.length (byteCells bl)→Bytes bl→bl.length=2 * i →
  ∃ out' bl' M',ev ES (.c (.loop L9_0) [(2,.ptr 0 0),(4,.ptr 1 0),(5,.ptr 2 0),(7,out),(27,p),(28,.int .i64 (m:Int)),(29,.int .i64 (i:Int))] M)=some (.code (.exit 0) [(2,.ptr 0 0),(4,.ptr 1 0),(5,.ptr 2 0),(7,out'),(27,p),(28,.int .i64 (m:Int)),(29,.int .i64 (m:Int)),(30,.bool false)] M')∧Gro 1 M' out' bl'.length (byteCells bl')∧Bytes bl'∧bl'.length=2 * m∧SameB M M':=by
 intro q
 induction q with
 | zero=>
  intro i out bl M hq hg hb hl
  have:i=m:=by omega
  subst this
  refine ⟨out,bl,M,?_,hg,hb,hl,SameB.refl M⟩
  rw [ev_loop]
  simp (maxSteps:=1000000) (disch:=omega) only [L9_0,EVa,EVb,oi,ou,wants,evx,evxs,evo,evparts,fillA,put,keepT,argTm,result,resAll,resOf,vO,boxF,binF,nilF,unF,lenF,callF,appF,mkIF,readsOf,boxAt,Nat.reduceEqDiff,reduceCtorEq,Nat.reduceBEq,Int.reduceToNat,Nat.reduceAdd,Nat.reduceLeDiff,Nat.reduceMul,Int.lt_irrefl]
 | succ q ih=>
  intro i out bl M hq hg hb hl
  have hlt:i < m:=by omega
  have hcl:sc.length=m:=by have:=hp.1; omega
  have hia:=fun M=>hp.ia (M:=M) hlt
  obtain ⟨n,hn⟩:=hi sc[i] (List.getElem_mem _)
  rw [Nat.mul_one,← List.getElem_cons_drop (by omega:i < sc.length),hn] at hia
  obtain ⟨b1,hb1,hw1⟩:=u8wrap n
  obtain ⟨x,hx⟩:∃ x,binA .shr (.int .i64 n) (.int .u64 8)=some (.int .i64 x):=⟨_,rfl⟩
  obtain ⟨b2,hb2,hw2⟩:=u8wrap x
  have hw3:IntKind.i64.wrap ((i:Int) + 1)=((i + 1:Nat):Int):=by rw [wrap_i64] <;> omega
  have hpu:purL0 [.int .u8 (b1:Int),.int .u8 (b2:Int)]=some [.int .u8 (b1:Int),.int .u8 (b2:Int)]:=rfl
  obtain ⟨v',M1,ha,hg1,hsb⟩:=hg.app (bytes:=1) (j:=2) hpu rfl (by omega) (by omega) (by omega)
  have e:byteCells bl ++ [.int .u8 (b1:Int),.int .u8 (b2:Int)]=byteCells (bl ++ [b1,b2]):=by rw [byteCells_append]; rfl
  rw [e,show bl.length + 2=(bl ++ [b1,b2]).length by simp] at hg1
  obtain ⟨out',bl',M',he,hg2,hb',hl',hs'⟩:=ih (i + 1) v' (bl ++ [b1,b2]) M1 (by omega) hg1 (by
   intro y hy
   rcases List.mem_append.1 hy with h | h
   ·exact hb y h
   ·simp only [List.mem_cons,List.not_mem_nil,or_false] at h; omega) (by simp; omega)
  refine ⟨out',bl',M',?_,hg2,hb',hl',hsb.trans hs'⟩
  have hstep:ev ES (.c L9_0 [(2,.ptr 0 0),(4,.ptr 1 0),(5,.ptr 2 0),(7,out),(27,p),(28,.int .i64 (m:Int)),(29,.int .i64 (i:Int))] M)=some (.code .normal [(2,.ptr 0 0),(4,.ptr 1 0),(5,.ptr 2 0),(7,v'),(27,p),(28,.int .i64 (m:Int)),(29,.int .i64 ((i + 1:Nat):Int))] M1):=by
   simp (maxSteps:=1000000) (disch:=omega) only [L9_0,EVa,EVb,oi,ou,wants,evx,evxs,evo,evparts,fillA,put,keepT,argTm,result,resAll,resOf,vO,boxF,binF,nilF,unF,lenF,callF,appF,mkIF,readsOf,boxAt,Nat.reduceEqDiff,reduceCtorEq,Nat.reduceBEq,Int.reduceToNat,Nat.reduceAdd,Nat.reduceLeDiff,Nat.reduceMul,hia,hw1,hx,hw2,hw3,hpu,ha]
  rw [ev_loop,hstep]
  exact he
def sndNames:AV:=.sl 1 0 3 (strCells [[114,97,116,101],[99,104,97,110,110,101,108,115],[115,97,109,112,108,101,115]])
def toV (rate ch:Int) (w:AV):List AV:=[.int .i64 4,.int .i64 0,.nils,sndNames,.sl 1 0 3 [.int .i64 1,.int .i64 rate,.nils,.nils,.nils,.int .i64 1,.int .i64 ch,.nils,.nils,.nils,.int .i64 2,.int .i64 0,w,.nils,.nils]]
theorem cells_sl {t e n:Nat} {cs:List AV}:(AV.sl t e n cs).cells=[.sl t e n cs]:=rfl
theorem oneA_sl {t e n:Nat} {cs:List AV}:oneA (.sl t e n cs)=true:=rfl
theorem wr_ns {M:Mem} {x y:Box} {n:Nat} (h:M.nb=n):wrOf M ((M.new x).set n y)=[n,n]:=by simp [wrOf,Mem.new,Mem.set,h]
theorem p9_7 {M:Mem} {rate ch cod:Int} {sv nv out w:AV} (hnb:M.nb=3) (h2:M.get 2=some (.cells [.int .i64 rate,.int .i64 ch,.int .i64 cod,sv,nv])) (ho:oneA out=true) (hc:out.cells=[out]) (hw:purC0 out=some w) :
  ∃ M',ev ES (.c T9_7 [(2,.ptr 0 0),(4,.ptr 1 0),(5,.ptr 2 0),(7,out),(10,.fn 30 [] [])] M)=some (.code .normal [(2,.ptr 0 0),(4,.ptr 1 0),(5,.ptr 2 0),(11,.ptr 3 0)] M')∧M'.get 3=some (.cells (toV rate ch w))∧∀ j,j < 3→M'.get j=M.get j:=by
 have hg1:(M.new (.cells [.int .i64 0,.int .i64 0,.nils,.nils,.nils])).get 2=some (.cells [.int .i64 rate,.int .i64 ch,.int .i64 cod,sv,nv]):=by rw [gn_lt (by omega)]; exact h2
 have hg2:∀ n,(((M.new (.cells [.int .i64 0,.int .i64 0,.nils,.nils,.nils])).new (.cells [.int .i64 0,.int .i64 0,.nils,.nils,.nils])).set 4 (.cells [.int .i64 1,.int .i64 n,.nils,.nils,.nils])).get 2=some (.cells [.int .i64 rate,.int .i64 ch,.int .i64 cod,sv,nv]):=fun n=>by
  rw [gs_ne (by omega),gn_lt (by rw [nbn_new]; omega)]; exact hg1
 have hnbs:(M.new (.cells [.int .i64 0,.int .i64 0,.nils,.nils,.nils])).nb=4:=by rw [nbn_new,hnb]
 have hq:purL0 [.int .i64 1,.int .i64 rate,.nils,.nils,.nils,.int .i64 1,.int .i64 ch,.nils,.nils,.nils,.int .i64 2,.int .i64 0,out,.nils,.nils]=some [.int .i64 1,.int .i64 rate,.nils,.nils,.nils,.int .i64 1,.int .i64 ch,.nils,.nils,.nils,.int .i64 2,.int .i64 0,w,.nils,.nils]:=by
  have h1:∀ n,purC0 (.int .i64 n)=some (.int .i64 n):=fun n=>rfl
  have h2:purC0 .nils=some .nils:=rfl
  simp only [purL0,h1,h2,hw,Option.bind_some,Option.map_some]
 have hqs:purL0 [.str [114,97,116,101],.str [99,104,97,110,110,101,108,115],.str [115,97,109,112,108,101,115]]=some [.str [114,97,116,101],.str [99,104,97,110,110,101,108,115],.str [115,97,109,112,108,101,115]]:=rfl
 have w1:∀ y,wrOf (M.new (.cells [.int .i64 0,.int .i64 0,.nils,.nils,.nils])) (((M.new (.cells [.int .i64 0,.int .i64 0,.nils,.nils,.nils])).new (.cells [.int .i64 0,.int .i64 0,.nils,.nils,.nils])).set 4 y)=[4,4]:=fun y=>wr_ns hnbs
 have w2:∀ x y,wrOf (((M.new (.cells [.int .i64 0,.int .i64 0,.nils,.nils,.nils])).new (.cells [.int .i64 0,.int .i64 0,.nils,.nils,.nils])).set 4 x) (((((M.new (.cells [.int .i64 0,.int .i64 0,.nils,.nils,.nils])).new (.cells [.int .i64 0,.int .i64 0,.nils,.nils,.nils])).set 4 x).new (.cells [.int .i64 0,.int .i64 0,.nils,.nils,.nils])).set 5 y)=[5,5]:=fun x y=>wr_ns (by rw [nbn_set,nbn_new,hnbs])
 have a1:apartL [4,4] [3]=true:=rfl
 have a2:apartL [3] [4,4]=true:=rfl
 have a3:apartL [5,5] [3]=true:=rfl
 have a4:apartL [3] [5,5]=true:=rfl
 have a5:apartL [2] [4,4]=true:=rfl
 have a6:apartL [2] [5,5]=true:=rfl
 have a7:apartL [4,4] [5,5]=true:=rfl
 have a8:apartL [5,5] [4,4]=true:=rfl
 have g3:∀ x y,(((((M.new (.cells [.int .i64 0,.int .i64 0,.nils,.nils,.nils])).new (.cells [.int .i64 0,.int .i64 0,.nils,.nils,.nils])).set 4 x).new (.cells [.int .i64 0,.int .i64 0,.nils,.nils,.nils])).set 5 y).get 3=some (.cells [.int .i64 0,.int .i64 0,.nils,.nils,.nils]):=fun x y=>by
  rw [gs_ne (by omega),gn_lt (by rw [nbn_set,nbn_new,hnbs]; omega),gs_ne (by omega),gn_lt (by rw [hnbs]; omega),← hnb,gn_self]
 refine ⟨((((((M.new (.cells [.int .i64 0,.int .i64 0,.nils,.nils,.nils])).new (.cells [.int .i64 0,.int .i64 0,.nils,.nils,.nils])).set 4 (.cells [.int .i64 1,.int .i64 rate,.nils,.nils,.nils])).new (.cells [.int .i64 0,.int .i64 0,.nils,.nils,.nils])).set 5 (.cells [.int .i64 1,.int .i64 ch,.nils,.nils,.nils])).set 3 (.cells (toV rate ch w))),?_,?_,?_⟩
 ·simp (maxSteps:=1000000) (disch:=omega) only [T9_7,EVa,EVb,oi,ou,wants,evx,evxs,evo,evparts,fillA,put,keepT,argTm,result,resAll,resOf,vO,boxF,binF,nilF,unF,lenF,callF,appF,mkIF,readsOf,boxAt,Nat.reduceEqDiff,reduceCtorEq,Nat.reduceBEq,Int.reduceToNat,Nat.reduceAdd,Nat.reduceLeDiff,Nat.reduceMul,hnb,hnbs,hg1,hg2,ev30,ho,hc,hq,hqs,w1,w2,a1,a2,a3,a4,a5,a6,a7,a8,cells_sl,oneA_sl,g3,Nat.reduceBNe,toV,sndNames,strCells,List.map_cons,List.map_nil]
 ·exact gs_self (g3 _ _)
 ·intro j hj
  rw [gs_ne (by omega),gs_ne (by omega),gn_lt (by rw [nbn_set,nbn_new,hnbs]; omega),gs_ne (by omega),gn_lt (by rw [hnbs]; omega),gn_lt (by omega)]
theorem rd_bounds {L K:Nat}:∀ (r:List (Nat × List Nat)) (i:Nat) (s s':RdSt),OkChunks r→(∀ c∈r,c.2.length≤L)→rd r i s=some s'→s.rate < 65536→(∀ x∈s.notes,x.2.1.length≤L∧x.2.2 < K)→i + r.length≤K→s'.rate < 65536∧(∀ x∈s'.notes,x.2.1.length≤L∧x.2.2 < K)∧s'.notes.length≤s.notes.length + r.length
 | [],i,s,s',_,_,h,hr,hn,_=>by cases h; exact ⟨hr,hn,Nat.le_refl _⟩
 | (a,d) :: r,i,s,s',ho,hL,h,hr,hn,hK=>by
  simp only [rd,Option.bind_eq_some_iff] at h
  obtain ⟨s1,h1,h2⟩:=h
  have hd:=hL (a,d) (List.mem_cons_self ..)
  have hb:=(ho (a,d) (List.mem_cons_self ..)).2
  simp only [List.length_cons] at hK ⊢
  have key:s1.rate < 65536∧(∀ x∈s1.notes,x.2.1.length≤L∧x.2.2 < K)∧s1.notes.length≤s.notes.length + 1:=by
   simp only [rdStep] at h1
   split at h1
   ·split at h1
    ·rename_i p q c k
     cases h1
     refine ⟨?_,hn,by show s.notes.length≤_; omega⟩
     have:=hb p (by simp)
     have:=hb q (by simp)
     show p * 256 + q < 65536
     omega
    ·cases h1
   ·split at h1
    ·cases h1
     exact ⟨hr,hn,by show s.notes.length≤_; omega⟩
    ·cases h1
     refine ⟨hr,fun x hx=>?_,by simp⟩
     rcases List.mem_append.1 hx with hx | hx
     ·exact hn x hx
     ·rw [List.mem_singleton.1 hx]; exact ⟨hd,by show i < K; omega⟩
  obtain ⟨k1,k2,k3⟩:=key
  obtain ⟨j1,j2,j3⟩:=rd_bounds r (i + 1) s1 s' (fun c hc=>ho c (List.mem_cons_of_mem _ hc)) (fun c hc=>hL c (List.mem_cons_of_mem _ hc)) h2 k1 k2 (by omega)
  exact ⟨j1,j2,by omega⟩
theorem noteLen_le {L K:Nat} (hK:K≤1000000) (hL:L≤1000000):∀ (ns:List (Nat × List Nat × Nat)),(∀ x∈ns,x.2.1.length≤L∧x.2.2 < K)→noteLen ns≤ns.length * (L + 21)
 | [],_=>by simp [noteLen]
 | (a,d,i) :: r,h=>by
  have h1:=h (a,d,i) (List.mem_cons_self ..)
  simp only at h1
  have:=noteLen_le hK hL r fun x hx=>h x (List.mem_cons_of_mem _ hx)
  have b1:=nl_le (u:=2 * i) (f:=9) (by omega)
  have b2:=nl_le (u:=2 * d.length) (f:=9) (by omega)
  simp only [noteLen,List.length_cons,Nat.add_mul,Nat.one_mul]
  omega
theorem p9_8 {M:Mem} {rate ch:Int} {w:AV} (h3:M.get 3=some (.cells (toV rate ch w))) (h25:∀ M,ev ES (.f false 25 [.agg (toV rate ch w)] M)=some (.fn okZ M)) :
  ev ES (.c T9_8 [(2,.ptr 0 0),(4,.ptr 1 0),(5,.ptr 2 0),(11,.ptr 3 0)] M)=some (.code .normal [(2,.ptr 0 0),(4,.ptr 1 0),(5,.ptr 2 0),(11,.ptr 3 0),(60,.bool false)] M):=by
 simp only [toV] at h3 h25
 simp (maxSteps:=1000000) (disch:=omega) only [T9_8,EVa,EVb,oi,ou,wants,evx,evxs,evo,evparts,fillA,put,keepT,argTm,result,resAll,resOf,vO,boxF,binF,nilF,unF,lenF,callF,appF,mkIF,readsOf,boxAt,Nat.reduceEqDiff,reduceCtorEq,Nat.reduceBEq,Int.reduceToNat,Nat.reduceAdd,Nat.reduceLeDiff,Nat.reduceMul,h3,h25,okZ,okZ_eq]
theorem p9_9 {X:Tm} {M:Mem} {rate ch cod:Int} {w sv nv res:AV} (h3:M.get 3=some (.cells (toV rate ch w))) (hw:oneA w=true) (hr:oneA res=true) (h2:M.get 2=some (.cells [.int .i64 rate,.int .i64 ch,.int .i64 cod,sv,nv])) (h0:M.get 0=some (.cells Z5v)) (h1:M.get 1=some (.cells [.int .i64 0,.int .i64 0])) (h31:ev ES (.f false 31 [.int .i64 cod,nv] M)=some (.fn res M)) :
  ev ES (.c T9_9 ((2,.ptr 0 0) :: (4,.ptr 1 0) :: (5,.ptr 2 0) :: (11,.ptr 3 0) :: X) M)=some (.code .normal [(2,.ptr 0 0),(3,res),(4,.ptr 1 0)] ((M.set 0 (.cells (toV rate ch w))).set 1 (.cells [.int .i64 0,.int .i64 0]))):=by
 have h1':∀ x,(M.set 0 x).get 1=some (.cells [.int .i64 0,.int .i64 0]):=fun x=>by rw [gs_ne (by omega)]; exact h1
 simp only [toV,Z5v,sndNames] at h3 h0 ⊢
 simp (maxSteps:=1000000) (disch:=omega) only [T9_9,EVa,EVb,oi,ou,wants,evx,evxs,evo,evparts,fillA,put,keepT,argTm,result,resAll,resOf,vO,boxF,binF,nilF,unF,lenF,callF,appF,mkIF,readsOf,boxAt,Nat.reduceEqDiff,reduceCtorEq,Nat.reduceBEq,Int.reduceToNat,Nat.reduceAdd,Nat.reduceLeDiff,Nat.reduceMul,h3,h2,h0,h1,h1',h31,cells_sl,oneA_sl,hw,hr,Nat.reduceBNe]
theorem VC_to {rate ch:Nat} {bl:List Nat} {w:AV} (hw:isS 1 bl.length (byteCells bl) w):VC (.rcd [[114,97,116,101],[99,104,97,110,110,101,108,115],[115,97,109,112,108,101,115]] [.num rate,.num ch,.byt bl]) (toV (rate:Int) (ch:Int) w):=by
 simp only [VC]
 refine ⟨.nils,sndNames,_,[.int .i64 1,.int .i64 (rate:Int),.nils,.nils,.nils,.int .i64 1,.int .i64 (ch:Int),.nils,.nils,.nils,.int .i64 2,.int .i64 0,w,.nils,.nils],rfl,isS_nils,⟨rfl,.inr ⟨1,.inr rfl,rfl⟩⟩,⟨rfl,.inr ⟨1,.inr rfl,rfl⟩⟩,?_,List.mem_cons_self ..,rfl⟩
 simp only [VCs,VC]
 exact ⟨[.int .i64 1,.int .i64 (rate:Int),.nils,.nils,.nils],_,rfl,⟨.nils,.nils,.nils,rfl,isS_nils,isS_nils,isS_nils⟩,[.int .i64 1,.int .i64 (ch:Int),.nils,.nils,.nils],_,rfl,⟨.nils,.nils,.nils,rfl,isS_nils,isS_nils,isS_nils⟩,[.int .i64 2,.int .i64 0,w,.nils,.nils],[],rfl,⟨w,.nils,.nils,rfl,hw,isS_nils,isS_nils⟩,rfl⟩
theorem valid_to {rate ch:Nat} {bl:List Nat} {w:AV} (hw:isS 1 bl.length (byteCells bl) w) (hr:rate < 1000000) (hc:ch < 1000000) (hb:bl.length≤3000) (ad:Bool) (M:Mem):ev ES (.f ad 25 [.agg (toV (rate:Int) (ch:Int) w)] M)=some (.fn okZ M):=by
 have b1:=nl_le (u:=2 * rate) (f:=9) (by omega)
 have b2:=nl_le (u:=2 * ch) (f:=9) (by omega)
 have b3:=nl_le (u:=2 * bl.length) (f:=9) (by omega)
 have b4:=nl_kind (k:=3) (by omega)
 have b5:=nl_kind (k:=4) (by omega)
 have b6:=nl_kind (k:=8) (by omega)
 have b7:=nl_kind (k:=7) (by omega)
 refine ev25 (VC_to hw) ?_ ?_ ?_ ?_ ad M
 ·simp only [Val.okN,okNs]; exact ⟨by omega,by omega,trivial,trivial⟩
 ·simp only [Val.size,sizes]; omega
 ·simp only [Val.lev,levs]; omega
 ·simp only [Val.elen,rlens,List.length_cons,List.length_nil,Nat.zero_add,Nat.reduceAdd,b4,b5,b6,b7]; omega
def noTo (c:Int):AV:=.tup [.agg Z5v,.nils,.agg [.int .i64 c,.int .i64 (-1)]]
theorem ev9 {l:List Nat} (hl:Bytes l) (M:Mem):∃ v,ev ES (.f false 9 [bsl l] M)=some (.fn v M) ∧
  ((l.length > 1000→v=noTo 3)∧(l.length≤1000→match fileRd l with
   | none=>v=noTo 21
   | some (cs,s)=>∃ w res,pureC w∧v=.tup [.agg (toV (s.rate:Int) (s.ch:Int) w),res,okZ])):=by
 have hp:∀ v∈[bsl l],pureV v:=fun v hv=>by
  rw [List.mem_singleton.1 hv]; exact bsl_pure l
 rw [f9 (frzVs_pure hp),b9 rfl]
 have fail:∀ {M':Mem} {c:Int},M'.get 0=some (.cells Z5v)→M'.get 1=some (.cells [.int .i64 c,.int .i64 (-1)])→ev ES (.c code9 (argTm 0 [bsl l]) .zero)=some (.code .ret [(2,.ptr 0 0),(3,.nils),(4,.ptr 1 0)] M')→ownF false [bsl l] M (retF ES [.cA 2 5,.t 3,.cA 4 2] (ev ES (.c code9 (argTm 0 [bsl l]) .zero)))=some (.fn (noTo c) M):=by
  intro M' c h0 h1 he
  rw [he]
  have hr:retF ES [.cA 2 5,.t 3,.cA 4 2] (some (.code .ret [(2,.ptr 0 0),(3,.nils),(4,.ptr 1 0)] M'))=some (.fn (noTo c) M'):=by
   simp only [Z5v] at h0
   simp (maxSteps:=1000000) only [EVa,EVb,oi,ou,wants,evx,evxs,evo,evparts,fillA,put,keepT,argTm,result,resAll,resOf,vO,boxF,binF,nilF,unF,lenF,callF,appF,mkIF,readsOf,boxAt,Nat.reduceEqDiff,reduceCtorEq,Nat.reduceBEq,Int.reduceToNat,Nat.reduceAdd,Nat.reduceLeDiff,Nat.reduceMul,h0,h1,noTo,Z5v]
  rw [hr]
  exact own_done hp (adopt_frz rfl (by simp [noTo]))
 have hlb:=lenK_bsl (l:=l)
 have g0:((Mem.zero.new (.cells [.int .i64 0,.int .i64 0,.nils,.nils,.nils])).new (.cells [.int .i64 0,.int .i64 0])).get 0=some (.cells [.int .i64 0,.int .i64 0,.nils,.nils,.nils]):=rfl
 have n1:(Mem.zero.new (.cells [.int .i64 0,.int .i64 0,.nils,.nils,.nils])).nb=1:=rfl
 have n2:((Mem.zero.new (.cells [.int .i64 0,.int .i64 0,.nils,.nils,.nils])).new (.cells [.int .i64 0,.int .i64 0])).nb=2:=rfl
 by_cases hlen:l.length > 1000
 ·refine ⟨noTo 3,fail (M':=(((Mem.zero.new (.cells [.int .i64 0,.int .i64 0,.nils,.nils,.nils])).new (.cells [.int .i64 0,.int .i64 0])).set 0 (.cells [.int .i64 0,.int .i64 0,.nils,.nils,.nils])).set 1 (.cells [.int .i64 3,.int .i64 (-1)])) rfl rfl ?_,fun _=>rfl,fun h=>absurd h (by omega)⟩
  have g1:(((Mem.zero.new (.cells [.int .i64 0,.int .i64 0,.nils,.nils,.nils])).new (.cells [.int .i64 0,.int .i64 0])).set 0 (.cells [.int .i64 0,.int .i64 0,.nils,.nils,.nils])).get 1=some (.cells [.int .i64 0,.int .i64 0]):=rfl
  simp (maxSteps:=1000000) (disch:=omega) only [code9,T9_0,T9_1,EVa,EVb,oi,ou,wants,evx,evxs,evo,evparts,fillA,put,keepT,argTm,result,resAll,resOf,vO,boxF,binF,nilF,unF,lenF,callF,appF,mkIF,readsOf,boxAt,Nat.reduceEqDiff,reduceCtorEq,Nat.reduceBEq,Int.reduceToNat,Nat.reduceAdd,Nat.reduceLeDiff,Nat.reduceMul,n1,hlb,g0,g1,ev28]
 ·obtain ⟨v29,e29,hv29⟩:=ev29 (ad:=false) (M:=((Mem.zero.new (.cells [.int .i64 0,.int .i64 0,.nils,.nils,.nils])).new (.cells [.int .i64 0,.int .i64 0]))) hl (by omega)
  cases hf:fileRd l with
  | none=>
   rw [hf] at hv29
   subst hv29
   refine ⟨noTo 21,fail (M':=(((((Mem.zero.new (.cells [.int .i64 0,.int .i64 0,.nils,.nils,.nils])).new (.cells [.int .i64 0,.int .i64 0])).new (.cells Z5)).set 2 (.cells Z5)).set 0 (.cells [.int .i64 0,.int .i64 0,.nils,.nils,.nils])).set 1 (.cells [.int .i64 21,.int .i64 (-1)])) rfl rfl ?_,fun h=>absurd h hlen,fun _=>rfl⟩
   have g2:((((Mem.zero.new (.cells [.int .i64 0,.int .i64 0,.nils,.nils,.nils])).new (.cells [.int .i64 0,.int .i64 0])).new (.cells Z5)).set 2 (.cells Z5)).get 0=some (.cells [.int .i64 0,.int .i64 0,.nils,.nils,.nils]):=rfl
   have g3:(((((Mem.zero.new (.cells [.int .i64 0,.int .i64 0,.nils,.nils,.nils])).new (.cells [.int .i64 0,.int .i64 0])).new (.cells Z5)).set 2 (.cells Z5)).set 0 (.cells [.int .i64 0,.int .i64 0,.nils,.nils,.nils])).get 1=some (.cells [.int .i64 0,.int .i64 0]):=rfl
   have g4:(((Mem.zero.new (.cells [.int .i64 0,.int .i64 0,.nils,.nils,.nils])).new (.cells [.int .i64 0,.int .i64 0])).new (.cells Z5)).get 2=some (.cells Z5):=rfl
   simp only [Z5] at e29 g2 g3 g4 ⊢
   simp (maxSteps:=1000000) (disch:=omega) only [code9,T9_0,T9_1,T9_2,T9_3,EVa,EVb,oi,ou,wants,evx,evxs,evo,evparts,fillA,put,keepT,argTm,result,resAll,resOf,vO,boxF,binF,nilF,unF,lenF,callF,appF,mkIF,readsOf,boxAt,Nat.reduceEqDiff,reduceCtorEq,Nat.reduceBEq,Int.reduceToNat,Nat.reduceAdd,Nat.reduceLeDiff,Nat.reduceMul,n1,n2,hlb,g0,g2,g3,g4,e29,ev28]
  | some x=>
   obtain ⟨cs,s⟩:=x
   rw [hf] at hv29
   obtain ⟨m,cells,hcm,hci,hml,rfl⟩:=hv29
   have hfr:∃ cs',fileChunks l=some cs∧cs'=cs∧rd cs 0 s0=some s∧GoodRd s:=by
    unfold fileRd at hf
    simp only [Option.bind_eq_some_iff] at hf
    obtain ⟨c1,h1,s1,h2,h3⟩:=hf
    split at h3
    ·rename_i hg
     cases h3
     exact ⟨cs,h1,rfl,h2,hg.1⟩
    ·cases h3
   obtain ⟨_,hfc,_,hrd,hgood⟩:=hfr
   obtain ⟨hok,hcl,hdl⟩:=fileChunks_ok hl hfc
   obtain ⟨hrate,hnotes,hnl⟩:=rd_bounds (L:=1000) (K:=1000) cs 0 s0 s hok (fun c hc=>Nat.le_trans (hdl c hc) (by omega)) hrd (by decide) (fun x hx=>nomatch hx) (by omega)
   have hnl0:s.notes.length≤1000:=by simp only [s0,List.length_nil] at hnl; omega
   have hnlen:=noteLen_le (L:=1000) (K:=1000) (by omega) (by omega) s.notes hnotes
   have hnv:isS 3 s.notes.length (noteCells s.notes) (notesV s):=by
    refine ⟨noteCells_len _,?_⟩
    unfold notesV
    split
    ·rename_i h; exact .inl ⟨h,rfl⟩
    ·exact .inr ⟨0,.inl rfl,rfl⟩
   have hsv:=isS_slV hcm
   have e31:=ev31 (cod:=s.cod) hgood.2.2.2 hnv (by omega) (fun x hx=>by have:=hnotes x hx; omega) (by omega)
   -- the memory in front of the loop
   have k0:((((Mem.zero.new (.cells Z5v)).new (.cells [.int .i64 0,.int .i64 0])).new (.cells Z5)).set 2 (.cells [.int .i64 (s.rate:Int),.int .i64 (s.ch:Int),.int .i64 (s.cod:Int),slV m cells,notesV s])).get 0=some (.cells Z5v):=rfl
   have k1:((((Mem.zero.new (.cells Z5v)).new (.cells [.int .i64 0,.int .i64 0])).new (.cells Z5)).set 2 (.cells [.int .i64 (s.rate:Int),.int .i64 (s.ch:Int),.int .i64 (s.cod:Int),slV m cells,notesV s])).get 1=some (.cells [.int .i64 0,.int .i64 0]):=rfl
   have k2:((((Mem.zero.new (.cells Z5v)).new (.cells [.int .i64 0,.int .i64 0])).new (.cells Z5)).set 2 (.cells [.int .i64 (s.rate:Int),.int .i64 (s.ch:Int),.int .i64 (s.cod:Int),slV m cells,notesV s])).get 2=some (.cells [.int .i64 (s.rate:Int),.int .i64 (s.ch:Int),.int .i64 (s.cod:Int),slV m cells,notesV s]):=rfl
   have k3:((((Mem.zero.new (.cells Z5v)).new (.cells [.int .i64 0,.int .i64 0])).new (.cells Z5)).set 2 (.cells [.int .i64 (s.rate:Int),.int .i64 (s.ch:Int),.int .i64 (s.cod:Int),slV m cells,notesV s])).nb=3:=rfl
   have k4:(((Mem.zero.new (.cells Z5v)).new (.cells [.int .i64 0,.int .i64 0])).new (.cells Z5)).get 2=some (.cells Z5):=rfl
   have hhead:∀ B:AC,ev ES (.c (.seq T9_0 (.seq T9_1 (.seq T9_2 (.seq T9_3 (.seq T9_4 B))))) (argTm 0 [bsl l]) .zero)=ev ES (.c B [(2,.ptr 0 0),(4,.ptr 1 0),(5,.ptr 2 0),(7,.nils)] ((((Mem.zero.new (.cells Z5v)).new (.cells [.int .i64 0,.int .i64 0])).new (.cells Z5)).set 2 (.cells [.int .i64 (s.rate:Int),.int .i64 (s.ch:Int),.int .i64 (s.cod:Int),slV m cells,notesV s]))):=by
    intro B
    simp only [Z5,Z5v] at k4 ⊢
    simp (maxSteps:=1000000) (disch:=omega) only [T9_0,T9_1,T9_2,T9_3,T9_4,EVa,EVb,oi,ou,wants,evx,evxs,evo,evparts,fillA,put,keepT,argTm,result,resAll,resOf,vO,boxF,binF,nilF,unF,lenF,callF,appF,mkIF,readsOf,boxAt,Nat.reduceEqDiff,reduceCtorEq,Nat.reduceBEq,Int.reduceToNat,Nat.reduceAdd,Nat.reduceLeDiff,Nat.reduceMul,n1,n2,hlb,k4,e29,ev28,cells_slV,oneA_slV,hnv.oneA]
   generalize hM3:((((Mem.zero.new (.cells Z5v)).new (.cells [.int .i64 0,.int .i64 0])).new (.cells Z5)).set 2 (.cells [.int .i64 (s.rate:Int),.int .i64 (s.ch:Int),.int .i64 (s.cod:Int),slV m cells,notesV s]))=M3 at k0 k1 k2 k3 hhead
   obtain ⟨out,bl,M4,hlp,hgo,hbl,hbll,hsb⟩:=loop9 hsv hci (by omega) m 0 .nils [] M3 (by omega) Gro.nil (fun b hb=>nomatch hb) rfl
   obtain ⟨w,hw,hwS⟩:∃ w,purC0 out=some w∧isS 1 bl.length (byteCells bl) w:=by
    obtain ⟨hc,h⟩:=hgo
    rcases h with ⟨h0,rfl⟩ | ⟨h0,k,rfl,_⟩
    ·refine ⟨.nils,rfl,hc,.inl ⟨h0,rfl⟩⟩
    ·exact ⟨.sl 0 0 bl.length (byteCells bl),rfl,hc,.inr ⟨0,.inl rfl,rfl⟩⟩
   obtain ⟨M5,e7,j3,jk⟩:=p9_7 (M:=M4) (by rw [hsb.nb]; exact k3) (by rw [hsb.get]; exact k2) hgo.one.2 hgo.one.1 hw
   have e8:=p9_8 (M:=M5) j3 (fun M=>valid_to hwS (by omega) (by have:=hgood.2.2.1; omega) (by omega) false M)
   obtain ⟨res,hres,e31⟩:=e31 M5
   have j0:M5.get 0=some (.cells Z5v):=by rw [jk 0 (by omega),hsb.get]; exact k0
   have j1:M5.get 1=some (.cells [.int .i64 0,.int .i64 0]):=by rw [jk 1 (by omega),hsb.get]; exact k1
   have j2:M5.get 2=some (.cells [.int .i64 (s.rate:Int),.int .i64 (s.ch:Int),.int .i64 (s.cod:Int),slV m cells,notesV s]):=by rw [jk 2 (by omega),hsb.get]; exact k2
   have hro:oneA res=true:=by cases res <;> first | rfl | cases hres
   have e9:=p9_9 (X:=[(60,.bool false)]) j3 hwS.oneA hro j2 j0 j1 e31
   have i0:((M5.set 0 (.cells (toV (s.rate:Int) (s.ch:Int) w))).set 1 (.cells [.int .i64 0,.int .i64 0])).get 0=some (.cells (toV (s.rate:Int) (s.ch:Int) w)):=by rw [gs_ne (by omega),gs_self j0]
   have i1:((M5.set 0 (.cells (toV (s.rate:Int) (s.ch:Int) w))).set 1 (.cells [.int .i64 0,.int .i64 0])).get 1=some (.cells [.int .i64 0,.int .i64 0]):=gs_self (by rw [gs_ne (by omega)]; exact j1)
   generalize hM6:(M5.set 0 (.cells (toV (s.rate:Int) (s.ch:Int) w))).set 1 (.cells [.int .i64 0,.int .i64 0])=M6 at e9 i0 i1
   have hsl:=hsv.len
   simp only [Int.natCast_zero] at hlp
   refine ⟨.tup [.agg (toV (s.rate:Int) (s.ch:Int) w),res,okZ],?_,fun h=>absurd h hlen,fun _=>⟨w,res,hwS.pure,rfl⟩⟩
   have hcode:retF ES [.cA 2 5,.t 3,.cA 4 2] (ev ES (.c code9 (argTm 0 [bsl l]) .zero))=some (.fn (.tup [.agg (toV (s.rate:Int) (s.ch:Int) w),res,okZ]) M6):=by
    rw [show code9=.seq T9_0 (.seq T9_1 (.seq T9_2 (.seq T9_3 (.seq T9_4 (.seq T9_5 (.seq T9_6 (.seq T9_7 (.seq T9_8 (.seq T9_9 T9_10))))))))) from rfl,hhead]
    simp only [toV] at e7 e8 e9 i0 ⊢
    simp (maxSteps:=1000000) (disch:=omega) only [T9_5,T9_6,T9_10,EVa,EVb,oi,ou,wants,evx,evxs,evo,evparts,fillA,put,keepT,argTm,result,resAll,resOf,vO,boxF,binF,nilF,unF,lenF,callF,appF,mkIF,readsOf,boxAt,Nat.reduceEqDiff,reduceCtorEq,Nat.reduceBEq,Int.reduceToNat,Nat.reduceAdd,Nat.reduceLeDiff,Nat.reduceMul,k2,hsl,hlp,e7,e8,e9,i0,i1,okZ]
   rw [hcode]
   refine own_done hp (adopt_frz ?_ (by simp))
   have f1:frzV M6 (.agg (toV (s.rate:Int) (s.ch:Int) w))=some (.agg (toV (s.rate:Int) (s.ch:Int) w)):=frzV_pure (VC_to (rate:=s.rate) (ch:=s.ch) hwS).pure
   have f2:frzV M6 res=some res:=frzV_pure hres.V
   have f3:frzV M6 okZ=some okZ:=rfl
   show (frzVs M6 [.agg (toV (s.rate:Int) (s.ch:Int) w),res,okZ]).map AV.tup=_
   simp only [frzVs,f1,f2,f3,Option.bind_some,Option.map_some]
end Go.Sx
