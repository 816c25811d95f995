/- A part of the proof of TopSoundsDescribed (texts Zp Zq Zr): an executor of the program's code, proved sound, and its runs. No condition. -/
import Derived.Test.YtdflipbphcmpoaaGreatDoorP20
set_option linter.unusedSimpArgs false
set_option linter.unusedVariables false
set_option maxRecDepth 100000
namespace Go.Sx
def wrC (fm out:AV) (node:Nat):List AV:=[fm,out,.int .i64 (node:Int)]
theorem ev120 {s:List Nat} {size mn mx n:Nat} {M:Mem} (h1:mn≤n) (h2:n≤mx):ev ES (.f false 120 [.agg (numR (.str s) size mn mx),.int .i64 (n:Int)] M)=some (.fn (.bool true) M):=by
 have hp:∀ x∈[AV.agg (numR (.str s) size mn mx),AV.int .i64 (n:Int)],pureV x:=fun x hx=>by
  simp only [List.mem_cons,List.not_mem_nil,or_false] at hx
  rcases hx with rfl | rfl
  ·intro y hy
   simp only [numR,List.mem_cons,List.not_mem_nil,or_false] at hy
   rcases hy with rfl | rfl | rfl | rfl | rfl | rfl | rfl | rfl | rfl | rfl | rfl | rfl <;> trivial
  ·trivial
 have h1':(mn:Int)≤(n:Int):=by omega
 have h2':(n:Int)≤(mx:Int):=by omega
 rw [f120 (frzVs_pure hp),b120 rfl]
 have hc:∃ M1,retF ES [.t 4] (ev ES (.c code120 (argTm 0 [.agg (numR (.str s) size mn mx),.int .i64 (n:Int)]) .zero))=some (.fn (.bool true) M1):=by
  refine ⟨Mem.zero.new (.cells (numR (.str s) size mn mx)),?_⟩
  simp only [numR]
  simp (maxSteps:=1000000) (disch:=omega) only [code120,EVa,EVb,oi,ou,wants,evx,evxs,evo,evparts,fillA,put,keepT,argTm,result,resAll,resOf,vO,boxF,binF,nilF,unF,lenF,callF,appF,mkIF,readsOf,boxAt,Nat.reduceEqDiff,reduceCtorEq,Nat.reduceBEq,Int.reduceToNat,Nat.reduceAdd,Nat.reduceLeDiff,Nat.reduceMul,h1',h2']
 obtain ⟨M1,hc⟩:=hc
 rw [hc]
 exact own_done hp (adopt_frz rfl (by simp))
theorem ev119 {fm out:AV} {ru:List AV} {node b p3 p4 cnt n size mn mx:Nat} {s2:List Nat} {M:Mem} (hr2:RuleAt fm cnt (numR (.str s2) size mn mx)) (g3:M.get p3=some (.cells [.ptr b 0])) (gb:M.get b=some (.cells (wrC fm out node))) (g4:M.get p4=some (.cells ru)) (h8:ru[8]?=some (.int .i64 (cnt:Int))) (h1:mn≤n) (h2:n≤mx) :
  ev ES (.f false 119 [.int .i64 (n:Int),.ptr p3 0,.ptr p4 0] M)=some (.fn (.bool true) M):=by
 obtain ⟨nn,fc,rest,q1,q2,q3⟩:=hr2.ex
 have hia:=fun M=>q1.ia (M:=M) q2
 rw [q3] at hia
 have hl2:=hr2.len
 have h12:Nat.ble 12 (numR (.str s2) size mn mx ++ rest).length=true:=ble_true (by rw [List.length_append]; omega)
 have ht:(numR (.str s2) size mn mx ++ rest).take 12=numR (.str s2) size mn mx:=by rw [← hl2,List.take_left]
 have h120:=fun M=>ev120 (s:=s2) (size:=size) (M:=M) h1 h2
 rw [f119,b119 rfl]
 simp only [wrC] at gb
 simp (maxSteps:=1000000) (disch:=omega) only [code119,EVa,EVb,oi,ou,wants,evx,evxs,evo,evparts,fillA,put,keepT,argTm,result,resAll,resOf,vO,boxF,binF,nilF,unF,lenF,callF,appF,mkIF,readsOf,boxAt,Nat.reduceEqDiff,reduceCtorEq,Nat.reduceBEq,Int.reduceToNat,Nat.reduceAdd,Nat.reduceLeDiff,Nat.reduceMul,g3,gb,g4,h8,hia,h12,ht,h120]
def Fits (fm:AV) (ru c:List AV):Prop:=∀ (b:Nat) (M:Mem) (out:AV) (node:Nat),b < M.nb→M.get b=some (.cells (wrC fm out node))→∃ M',ev ES (.f false 84 [.ptr b 0,.agg ru,.agg c] M)=some (.fn (.bool true) M')∧KeepM M M'
structure H84 (b:Nat) (ru c:List AV) (fm out:AV) (node:Nat) (M M1:Mem):Prop where
 keep:KeepM M M1
 nb:M1.nb=M.nb + 3
 g3:M1.get M.nb=some (.cells [.ptr b 0])
 g4:M1.get (M.nb + 1)=some (.cells ru)
 g5:M1.get (M.nb + 2)=some (.cells c)
 gb:M1.get b=some (.cells (wrC fm out node))
def tm84 (n:Nat):Tm:=[(4,.ptr (n + 1) 0),(5,.ptr (n + 2) 0),(7,.fn 119 [] [.ptr n 0,.ptr (n + 1) 0])]
theorem oq1 {b o:Nat}:oneA (.ptr b o)=true:=rfl
theorem oq2 {b o:Nat}:(AV.ptr b o).cells=[.ptr b o]:=rfl
theorem fits_of {fm:AV} {ru c:List AV} (hru:ru.all oneA=true) (hc:c.all oneA=true) (h:∀ (b:Nat) (M M1:Mem) (out:AV) (node:Nat),H84 b ru c fm out node M M1→∃ M2,ev ES (.c (.seq T84_2 (.seq T84_3 (.seq T84_4 T84_5))) (tm84 M.nb) M1)=some (.code .ret [(6,.bool true)] M2)∧KeepM M1 M2):Fits fm ru c:=by
 intro b M out node hb hg
 obtain ⟨M1,hM1⟩:∃ M1,M1=((M.new (.cells [.ptr b 0])).new (.cells ru)).new (.cells c):=⟨_,rfl⟩
 have hs:H84 b ru c fm out node M M1:=by
  subst hM1
  refine ⟨((KeepM.new M _).nw).nw,rfl,?_,?_,?_,?_⟩
  ·rw [gn_lt (by rw [nbn_new,nbn_new]; omega),gn_lt (by rw [nbn_new]; omega),gn_self]
  ·rw [gn_lt (by rw [nbn_new,nbn_new]; omega)]
   exact gn_self (M:=M.new (.cells [.ptr b 0]))
  ·exact gn_self (M:=(M.new (.cells [.ptr b 0])).new (.cells ru))
  ·rw [gn_lt (by rw [nbn_new,nbn_new]; omega),gn_lt (by rw [nbn_new]; omega),gn_lt hb]; exact hg
 obtain ⟨M2,h1,h2⟩:=h b M M1 out node hs
 refine ⟨M2,?_,hs.keep.trans h2⟩
 have e1:∀ B:AC,ev ES (.c (.seq T84_0 (.seq T84_1 B)) (argTm 0 [.ptr b 0,.agg ru,.agg c]) M)=ev ES (.c B (tm84 M.nb) M1):=by
  intro B
  simp (maxSteps:=1000000) (disch:=omega) only [T84_0,T84_1,tm84,EVa,EVb,oi,ou,wants,evx,evxs,evo,evparts,fillA,put,keepT,argTm,result,resAll,resOf,vO,boxF,binF,nilF,unF,lenF,callF,appF,mkIF,readsOf,boxAt,Nat.reduceEqDiff,reduceCtorEq,Nat.reduceBEq,Int.reduceToNat,Nat.reduceAdd,Nat.reduceLeDiff,Nat.reduceMul,hru,hc,oq1,oq2,Nat.add_assoc,hM1]
 rw [f84,b84 rfl,show code84=.seq T84_0 (.seq T84_1 (.seq T84_2 (.seq T84_3 (.seq T84_4 T84_5)))) from rfl,e1,h1]
 simp (maxSteps:=1000000) only [EVa,EVb,oi,ou,wants,evx,evxs,evo,evparts,fillA,put,keepT,argTm,result,resAll,resOf,vO,boxF,binF,nilF,unF,lenF,callF,appF,mkIF,readsOf,boxAt,Nat.reduceEqDiff,reduceCtorEq,Nat.reduceBEq,Int.reduceToNat,Nat.reduceAdd,Nat.reduceLeDiff,Nat.reduceMul]
section
variable {fm:AV}
theorem fits_num {s:List Nat} {size mn mx n:Nat} {c:List AV} (hc:VC (.num n) c) (h1:mn≤n) (h2:n≤mx):Fits fm (numR (.str s) size mn mx) c:=by
 refine fits_of rfl hc.all fun b M M1 out node hs=>⟨M1,?_,KeepM.refl _⟩
 simp only [VC] at hc
 obtain ⟨bb,nm,p,rfl,hb,hn,hp⟩:=hc
 have g4:=hs.g4
 have g5:=hs.g5
 have h120:=fun M=>ev120 (s:=s) (size:=size) (M:=M) h1 h2
 simp only [numR] at g4 h120
 simp (maxSteps:=1000000) (disch:=omega) only [T84_2,tm84,EVa,EVb,oi,ou,wants,evx,evxs,evo,evparts,fillA,put,keepT,argTm,result,resAll,resOf,vO,boxF,binF,nilF,unF,lenF,callF,appF,mkIF,readsOf,boxAt,Nat.reduceEqDiff,reduceCtorEq,Nat.reduceBEq,Int.reduceToNat,Nat.reduceAdd,Nat.reduceLeDiff,Nat.reduceMul,g4,g5,h120,Int.reduceEq]
theorem fits_blob {s s2:List Nat} {cnt size mn mx:Nat} {l:List Nat} {c:List AV} {ps:AV} (hc:VC (.byt l) c) (hps:oneA ps=true) (hr2:RuleAt fm cnt (numR (.str s2) size mn mx)) (h1:mn≤l.length) (h2:l.length≤mx):Fits fm (blobR (.str s) cnt ps) c:=by
 refine fits_of (by simp only [blobR,List.all_cons,List.all_nil,hps]; rfl) hc.all fun b M M1 out node hs=>⟨M1,?_,KeepM.refl _⟩
 simp only [VC] at hc
 obtain ⟨bb,nm,p,rfl,hb,hn,hp⟩:=hc
 have g4:=hs.g4
 have g5:=hs.g5
 have h119:=ev119 (n:=l.length) hr2 hs.g3 hs.gb hs.g4 rfl h1 h2
 have hbl:=hb.len
 simp only [blobR] at g4
 simp (maxSteps:=1000000) (disch:=omega) only [T84_2,tm84,EVa,EVb,oi,ou,wants,evx,evxs,evo,evparts,fillA,put,keepT,argTm,result,resAll,resOf,vO,boxF,binF,nilF,unF,lenF,callF,appF,mkIF,readsOf,boxAt,Nat.reduceEqDiff,reduceCtorEq,Nat.reduceBEq,Int.reduceToNat,Nat.reduceAdd,Nat.reduceLeDiff,Nat.reduceMul,g4,g5,hbl,h119,Int.reduceEq]
theorem fits_rep {s:List Nat} {stop of_:Nat} {vs:List Val} {c:List AV} {ps:AV} (hc:VC (.lst vs) c) (hps:oneA ps=true):Fits fm (repR (.str s) stop of_ ps) c:=by
 refine fits_of (by simp only [repR,List.all_cons,List.all_nil,hps]; rfl) hc.all fun b M M1 out node hs=>⟨M1,?_,KeepM.refl _⟩
 simp only [VC] at hc
 obtain ⟨bb,nm,p,cs,rfl,hb,hn,hp,_⟩:=hc
 have g4:=hs.g4
 have g5:=hs.g5
 simp only [repR] at g4
 simp (maxSteps:=1000000) (disch:=omega) only [T84_2,tm84,EVa,EVb,oi,ou,wants,evx,evxs,evo,evparts,fillA,put,keepT,argTm,result,resAll,resOf,vO,boxF,binF,nilF,unF,lenF,callF,appF,mkIF,readsOf,boxAt,Nat.reduceEqDiff,reduceCtorEq,Nat.reduceBEq,Int.reduceToNat,Nat.reduceAdd,Nat.reduceLeDiff,Nat.reduceMul,g4,g5,Int.reduceEq]
theorem fits_choice {s:List Nat} {x n:Nat} {V:Val} {c cells:List AV} {ps:AV} (hc:VC (.lst [.num x,V]) c) (hps:isS 1 n cells ps) (hx:x < n):Fits fm (chR (.str s) ps) c:=by
 refine fits_of (by simp only [chR,List.all_cons,List.all_nil,hps.oneA]; rfl) hc.all fun b M M1 out node hs=>⟨M1,?_,KeepM.refl _⟩
 simp only [VC] at hc
 obtain ⟨bb,nm,p,cs,rfl,hb,hn,hp,hcs⟩:=hc
 simp only [VCs,VC] at hcs
 obtain ⟨a,r,rfl,⟨b1,n1,p1,rfl,_⟩,_⟩:=hcs
 have g4:=hs.g4
 have g5:=hs.g5
 have hpl:=hp.len
 have hsl:=hps.len
 have hia:=fun M=>hp.ia (M:=M) (i:=0) (by simp)
 simp only [Nat.zero_mul,List.drop_zero,List.cons_append,List.nil_append] at hia
 have hx':(x:Int) < (n:Int):=by omega
 have hx0:(0:Int)≤(x:Int):=by omega
 simp only [chR] at g4
 simp (maxSteps:=1000000) (disch:=omega) only [T84_2,tm84,EVa,EVb,oi,ou,wants,evx,evxs,evo,evparts,fillA,put,keepT,argTm,result,resAll,resOf,vO,boxF,binF,nilF,unF,lenF,callF,appF,mkIF,readsOf,boxAt,Nat.reduceEqDiff,reduceCtorEq,Nat.reduceBEq,Int.reduceToNat,Nat.reduceAdd,Nat.reduceLeDiff,Nat.reduceMul,g4,g5,hpl,hsl,hia,hx0,hx',natOf_zero,Int.reduceEq]
end
def clrF (M:Mem) (esz:Nat) (z:List AV):AV→Option Out
 | .ms b off n _=>if n=0 then some (.val (.tup []) M) else clrG M esz z b off n (M.get b)
 | .nils=>some (.val (.tup []) M)
 | _=>none
where clrG (M:Mem) (esz:Nat) (z:List AV) (b off n:Nat):Option Box→Option Out
 | some (.cells l)=>if off + n * esz≤l.length∧z.length=esz then some (.val (.tup []) (M.set b (.cells (l.take off ++ (List.replicate n z).flatten ++ l.drop (off + n * esz))))) else none
 | _=>none
theorem so_clr {E:Env} {tm:Tm} {M:Mem} {esz:Nat} {z:List AV} {x:Opd}:stepOp E tm M (.clr esz z x)=o1 (clrF M esz z) (evx E tm x):=by
 simp only [stepOp]
 cases evx E tm x with
 | none=>rfl
 | some v=>
  cases v with
  | ms b off n c=>
   simp only [Option.bind_some,o1,clrF]
   split
   ·rfl
   ·cases M.get b with
    | none=>rfl
    | some bx=>cases bx <;> rfl
  | _=>rfl
theorem ev123 {x:List Nat} {M:Mem}:ev ES (.f false 123 [.str x] M)=some (.fn (.bool (decide (x=[]))) M):=by
 rw [f123,b123 rfl]
 simp (maxSteps:=1000000) only [code123,EVa,EVb,oi,ou,wants,evx,evxs,evo,evparts,fillA,put,keepT,argTm,result,resAll,resOf,vO,boxF,binF,nilF,unF,lenF,callF,appF,mkIF,readsOf,boxAt,Nat.reduceEqDiff,reduceCtorEq,Nat.reduceBEq,Int.reduceToNat,Nat.reduceAdd,Nat.reduceLeDiff,Nat.reduceMul]
def NamesOK (NS ns':List (List Nat)):Prop:=∀ M:Mem,∃ s1 M1 s2 M2,ev ES (.f false 73 [slS NS] M)=some (.fn s1 M1)∧ev ES (.f false 122 [s1,.fn 123 [] []] M1)=some (.fn s2 M2)∧KeepM M M2∧∀ nm' cells,isS 1 ns'.length cells nm'→cells=strCells ns'→ev ES (.f false 124 [nm',s2] M2)=some (.fn (.bool true) M2)
theorem ev73 {NS:List (List Nat)} {M:Mem} (h:0 < NS.length) (h2:NS.length < 1000):ev ES (.f false 73 [slS NS] M)=some (.fn (.ms M.nb 0 NS.length NS.length) (M.new (.cells (strCells NS)))):=by
 rw [f73,b73 rfl]
 have hA:lenA (slS NS)=some NS.length:=rfl
 have hE:∀ M,elems M 1 (slS NS)=some (strCells NS):=fun M=>(slS_is NS).elems
 have hN:isNilA 0 (slS NS)=some false:=rfl
 have hall:(strCells NS).all oneA=true:=by
  rw [List.all_eq_true]
  intro x hx
  simp only [strCells,List.mem_map] at hx
  obtain ⟨y,_,rfl⟩:=hx
  rfl
 have ha:appV true M 1 16 (.sl 1 0 0 []) NS.length (strCells NS)=some (.ms M.nb 0 NS.length NS.length,M.new (.cells (strCells NS))):=by
  unfold appV
  rw [if_neg (by omega)]
  simp only [List.length_nil,Nat.zero_mul,Nat.beq_refl,Bool.not_true,Bool.false_eq_true,if_false,Nat.zero_add,hall,List.all_nil,Bool.and_self,if_true,List.nil_append]
  rw [if_pos ⟨by omega,by omega⟩]
 have q0:purL0 []=some []:=rfl
 simp (maxSteps:=1000000) (disch:=omega) only [code73,EVa,EVb,oi,ou,wants,evx,evxs,evo,evparts,fillA,put,keepT,argTm,result,resAll,resOf,vO,boxF,binF,nilF,unF,lenF,callF,appF,mkIF,readsOf,boxAt,Nat.reduceEqDiff,reduceCtorEq,Nat.reduceBEq,Int.reduceToNat,Nat.reduceAdd,Nat.reduceLeDiff,Nat.reduceMul,hA,hE,hN,ha,q0]
theorem ev124 {ns:List (List Nat)} {nm s:AV} {M:Mem} {cells:List AV} (hn:isS 1 ns.length cells nm) (hc:cells=strCells ns) (hs:frzV M s=some (.sl 0 0 ns.length (strCells ns))) (hl:ns.length < 1000):ev ES (.f false 124 [nm,s] M)=some (.fn (.bool true) M):=by
 subst hc
 have hf:frzVs M [nm,s]=some [nm,.sl 0 0 ns.length (strCells ns)]:=by
  simp only [frzVs,frzV_pure hn.pure.V,hs,Option.bind_some,Option.map_some]
 rw [f124 hf,b124 rfl]
 have hs2:isS 1 ns.length (strCells ns) (.sl 0 0 ns.length (strCells ns)):=slS_is ns
 have loop:∀ (r:List (List Nat)) (j:Nat),ns.drop j=r→j≤ns.length→ev ES (.c (.loop L124_0) [(0,nm),(1,.sl 0 0 ns.length (strCells ns)),(12,.int .i64 (ns.length:Int)),(13,.int .i64 (j:Int))] .zero)=some (.code (.exit 0) [(0,nm),(1,.sl 0 0 ns.length (strCells ns)),(12,.int .i64 (ns.length:Int)),(13,.int .i64 (ns.length:Int)),(14,.bool false)] .zero):=by
  intro r
  induction r with
  | nil=>
   intro j hr hj
   have hj:j=ns.length:=by
    have:=congrArg List.length hr
    simp at this; omega
   subst hj
   rw [ev_loop]
   simp (maxSteps:=1000000) (disch:=omega) only [L124_0,EVa,EVb,oi,ou,wants,evx,evxs,evo,evparts,fillA,put,keepT,argTm,result,resAll,resOf,vO,boxF,binF,nilF,unF,lenF,callF,appF,mkIF,readsOf,boxAt,Nat.reduceEqDiff,reduceCtorEq,Nat.reduceBEq,Int.reduceToNat,Nat.reduceAdd,Nat.reduceLeDiff,Nat.reduceMul,Int.lt_irrefl]
  | cons x r ih=>
   intro j hr hj
   have hlt:j < ns.length:=by
    have:=congrArg List.length hr
    simp at this; omega
   have hr':ns.drop (j + 1)=r:=by rw [← List.drop_drop,hr]; rfl
   have hia:=fun M=>hn.ia (M:=M) hlt
   have hia2:=fun M=>hs2.ia (M:=M) hlt
   rw [Nat.mul_one,strCells,drop_map_cons hr] at hia hia2
   have hw2:IntKind.i64.wrap ((j:Int) + 1)=((j + 1:Nat):Int):=by rw [wrap_i64] <;> omega
   have hstep:ev ES (.c L124_0 [(0,nm),(1,.sl 0 0 ns.length (strCells ns)),(12,.int .i64 (ns.length:Int)),(13,.int .i64 (j:Int))] .zero)=some (.code .normal [(0,nm),(1,.sl 0 0 ns.length (strCells ns)),(12,.int .i64 (ns.length:Int)),(13,.int .i64 ((j + 1:Nat):Int))] .zero):=by
    simp only [strCells]
    simp (maxSteps:=1000000) (disch:=omega) only [L124_0,EVa,EVb,oi,ou,wants,evx,evxs,evo,evparts,fillA,put,keepT,argTm,result,resAll,resOf,vO,boxF,binF,nilF,unF,lenF,callF,appF,mkIF,readsOf,boxAt,Nat.reduceEqDiff,reduceCtorEq,Nat.reduceBEq,Int.reduceToNat,Nat.reduceAdd,Nat.reduceLeDiff,Nat.reduceMul,hia,hia2,hw2]
   rw [ev_loop,hstep]
   exact ih (j + 1) hr' (by omega)
 have h0:=loop ns 0 rfl (Nat.zero_le _)
 simp only [Int.natCast_zero] at h0
 have hc:retF ES [.t 4] (ev ES (.c code124 (argTm 0 [nm,.sl 0 0 ns.length (strCells ns)]) .zero))=some (.fn (.bool true) .zero):=by
  have l1:=hn.len
  have l2:=hs2.len
  simp (maxSteps:=1000000) (disch:=omega) only [code124,EVa,EVb,oi,ou,wants,evx,evxs,evo,evparts,fillA,put,keepT,argTm,result,resAll,resOf,vO,boxF,binF,nilF,unF,lenF,callF,appF,mkIF,readsOf,boxAt,Nat.reduceEqDiff,reduceCtorEq,Nat.reduceBEq,Int.reduceToNat,Nat.reduceAdd,Nat.reduceLeDiff,Nat.reduceMul,l1,l2,h0,ne_eq,not_true_eq_false]
 rw [hc]
 have ha:adopt false .zero M (.bool true)=some (.bool true,M):=rfl
 simp only [ownF,ha,Option.bind_some,plain,plainV,plainC,Bool.not_true,Bool.and_false,Bool.false_eq_true,if_false]
theorem names_of {NS ns' tail:List (List Nat)} (hNS:0 < NS.length) (hl:NS.length < 1000) (hl2:ns'.length≤NS.length) (ht:tail.length + ns'.length=NS.length)
  (h122:∀ (M1:Mem) (b:Nat),M1.get b=some (.cells (strCells NS))→∃ M2,ev ES (.f false 122 [.ms b 0 NS.length NS.length,.fn 123 [] []] M1)=some (.fn (.ms b 0 ns'.length NS.length) M2)∧M2.get b=some (.cells (strCells ns' ++ strCells tail))∧M2.nb=M1.nb∧(∀ j,j≠b→M2.get j=M1.get j)∧M2.toks=M1.toks∧M2.nt=M1.nt):NamesOK NS ns':=by
 intro M
 have e73:=ev73 (NS:=NS) (M:=M) hNS hl
 have g:(M.new (.cells (strCells NS))).get M.nb=some (.cells (strCells NS)):=gn_self
 have key:∃ M2,ev ES (.f false 122 [.ms M.nb 0 NS.length NS.length,.fn 123 [] []] (M.new (.cells (strCells NS))))=some (.fn (.ms M.nb 0 ns'.length NS.length) M2)∧M2.get M.nb=some (.cells (strCells ns' ++ strCells tail))∧KeepM M M2:=by
  obtain ⟨M3,h1,h2,h3,h4,h5,h6⟩:=h122 _ _ g
  refine ⟨M3,h1,h2,by rw [h3,nbn_new]; omega,fun j hj=>?_,by rw [h5]; rfl,by rw [h6]; rfl⟩
  rw [h4 j (by omega),gn_lt hj]
 obtain ⟨M2,h1,h2,h3⟩:=key
 refine ⟨_,_,_,M2,e73,h1,h3,fun nm' cells hnm hcells=>ev124 hnm hcells ?_ (by omega)⟩
 have hp:purL0 (strCells ns')=some (strCells ns'):=purL0_pure fun v hv=>by
  simp only [strCells,List.mem_map] at hv
  obtain ⟨y,_,rfl⟩:=hv
  trivial
 have hlen:(strCells ns' ++ strCells tail).length=NS.length:=by simp only [List.length_append,strCells,List.length_map]; omega
 have hbeq:Nat.beq NS.length 0=false:=beq_ne (by omega)
 have htk:(strCells ns' ++ strCells tail).take ns'.length=strCells ns':=by
  rw [show ns'.length=(strCells ns').length by simp [strCells],List.take_left]
 show frzC M2 (.ms M.nb 0 ns'.length NS.length)=_
 simp only [frzC,h2,hbeq,Bool.false_eq_true,if_false,hlen,Nat.sub_zero,Nat.div_self hNS,Nat.mul_one,Nat.zero_add,hl2,if_true,List.drop_zero,htk,hp,Option.map_some]
end Go.Sx
namespace Go.Sx
theorem sl_lo22 {b:Nat}:slcV 1 (.ms b 0 2 2) (some (.int .i64 1)) none none=some (.ms b 1 1 1):=rfl
theorem sl_hi22 {b:Nat}:slcV 1 (.ms b 0 2 2) none (some (.int .i64 1)) none=some (.ms b 0 1 2):=rfl
theorem sl_lo44 {b:Nat}:slcV 1 (.ms b 0 4 4) (some (.int .i64 3)) none none=some (.ms b 3 1 1):=rfl
theorem sl_hi44 {b:Nat}:slcV 1 (.ms b 0 4 4) none (some (.int .i64 3)) none=some (.ms b 0 3 4):=rfl
theorem natOf_2 {k:IntKind}:natOf (.int k 2)=some 2:=rfl
theorem natOf_3 {k:IntKind}:natOf (.int k 3)=some 3:=rfl
theorem ev160_first {b n:Nat} {M:Mem} {r:List AV} (hn:0 < n) (hn2:n < 1000) (g:M.get b=some (.cells (.str [] :: r))):ev ES (.f false 160 [.ms b 0 n n,.fn 123 [] []] M)=some (.fn (.int .i64 0) M):=by
 rw [f160,b160 rfl]
 have h1:=fun M=>ev123 (x:=[]) (M:=M)
 have hn':(0:Int) < (n:Int):=by omega
 simp (maxSteps:=1000000) (disch:=omega) only [code160,L160_0,ev_loop,EVa,EVb,oi,ou,wants,evx,evxs,evo,evparts,fillA,put,keepT,argTm,result,resAll,resOf,vO,boxF,binF,nilF,unF,lenF,callF,appF,mkIF,readsOf,boxAt,Nat.reduceEqDiff,reduceCtorEq,Nat.reduceBEq,Int.reduceToNat,Nat.reduceAdd,Nat.reduceLeDiff,Nat.reduceMul,g,h1,hn',natOf_zero,Nat.zero_mul]
theorem ev160_none {b:Nat} {x y:List Nat} {M:Mem} (hx:x≠[]) (hy:y≠[]) (g:M.get b=some (.cells [.str x,.str y])):ev ES (.f false 160 [.ms b 0 2 2,.fn 123 [] []] M)=some (.fn (.int .i64 (-1)) M):=by
 rw [f160,b160 rfl]
 have h1:=fun M=>ev123 (x:=x) (M:=M)
 have h2:=fun M=>ev123 (x:=y) (M:=M)
 rw [decide_eq_false hx] at h1
 rw [decide_eq_false hy] at h2
 simp (maxSteps:=1000000) (disch:=omega) only [code160,L160_0,ev_loop,EVa,EVb,oi,ou,wants,evx,evxs,evo,evparts,fillA,put,keepT,argTm,result,resAll,resOf,vO,boxF,binF,nilF,unF,lenF,callF,appF,mkIF,readsOf,boxAt,Nat.reduceEqDiff,reduceCtorEq,Nat.reduceBEq,Int.reduceToNat,Nat.reduceAdd,Nat.reduceLeDiff,Nat.reduceMul,g,h1,h2,natOf_zero,natOf_one,Int.reduceLT,Int.reduceAdd,Int.reduceLE,Int.reduceNeg,Int.cast_ofNat_Int]
theorem names_two {x y:List Nat} (hx:x≠[]) (hy:y≠[]):NamesOK [x,y] [x,y]:=by
 refine names_of (tail:=[]) (by simp) (by simp) (by simp) (by simp) fun M1 b g=>⟨M1,?_,by simpa [strCells] using g,rfl,fun _ _=>rfl,rfl,rfl⟩
 simp only [strCells,List.map_cons,List.map_nil] at g
 have h:=ev160_none hx hy g
 rw [f122,b122 rfl]
 simp (maxSteps:=1000000) (disch:=omega) only [code122,EVa,EVb,oi,ou,wants,evx,evxs,evo,evparts,fillA,put,keepT,argTm,result,resAll,resOf,vO,boxF,binF,nilF,unF,lenF,callF,appF,mkIF,readsOf,boxAt,Nat.reduceEqDiff,reduceCtorEq,Nat.reduceBEq,Int.reduceToNat,Nat.reduceAdd,Nat.reduceLeDiff,Nat.reduceMul,h]
theorem names_one {x:List Nat} (hx:x≠[]):NamesOK [[],x] [x]:=by
 refine names_of (tail:=[[]]) (by simp) (by simp) (by simp) (by simp) fun M1 b g=>?_
 simp only [strCells,List.map_cons,List.map_nil] at g
 have h:=ev160_first (n:=2) (by omega) (by omega) g
 have h2:=fun M=>ev123 (x:=x) (M:=M)
 rw [decide_eq_false hx] at h2
 have g1:=gs_self (y:=.cells [.str x,.str x]) g
 have g2:=gs_self (y:=.cells [.str x,.str []]) g1
 refine ⟨(M1.set b (.cells [.str x,.str x])).set b (.cells [.str x,.str []]),?_,by simpa [strCells] using g2,rfl,fun j hj=>by rw [gs_ne (fun e=>hj e.symm),gs_ne (fun e=>hj e.symm)],rfl,rfl⟩
 rw [f122,b122 rfl]
 simp (maxSteps:=1000000) (disch:=omega) only [code122,L122_0,ev_loop,EVa,EVb,oi,ou,wants,evx,evxs,evo,evparts,fillA,put,keepT,argTm,result,resAll,resOf,vO,boxF,binF,nilF,unF,lenF,callF,appF,mkIF,readsOf,boxAt,Nat.reduceEqDiff,reduceCtorEq,Nat.reduceBEq,Int.reduceToNat,Nat.reduceAdd,Nat.reduceLeDiff,Nat.reduceMul,h,h2,g,g1,so_clr,clrF,clrF.clrG,sl_lo22,sl_hi22,natOf_zero,natOf_one,natOf_2,Int.reduceLT,Int.reduceAdd,Int.reduceLE,Int.reduceNeg,Int.reduceEq,Int.cast_ofNat_Int,Nat.succ_ne_self,Nat.reduceSub,List.replicate,List.flatten_cons,List.flatten_nil,Nat.le_refl,and_self,Nat.zero_mul]
theorem names_three {x y z:List Nat} (hx:x≠[]) (hy:y≠[]) (hz:z≠[]):NamesOK [[],x,y,z] [x,y,z]:=by
 refine names_of (tail:=[[]]) (by simp) (by simp) (by simp) (by simp) fun M1 b g=>?_
 simp only [strCells,List.map_cons,List.map_nil] at g
 have h:=ev160_first (n:=4) (by omega) (by omega) g
 have h1:=fun M=>ev123 (x:=x) (M:=M)
 have h2:=fun M=>ev123 (x:=y) (M:=M)
 have h3:=fun M=>ev123 (x:=z) (M:=M)
 rw [decide_eq_false hx] at h1
 rw [decide_eq_false hy] at h2
 rw [decide_eq_false hz] at h3
 have g1:=gs_self (y:=.cells [.str x,.str x,.str y,.str z]) g
 have g2:=gs_self (y:=.cells [.str x,.str y,.str y,.str z]) g1
 have g3:=gs_self (y:=.cells [.str x,.str y,.str z,.str z]) g2
 have g4:=gs_self (y:=.cells [.str x,.str y,.str z,.str []]) g3
 refine ⟨(((M1.set b (.cells [.str x,.str x,.str y,.str z])).set b (.cells [.str x,.str y,.str y,.str z])).set b (.cells [.str x,.str y,.str z,.str z])).set b (.cells [.str x,.str y,.str z,.str []]),?_,by simpa [strCells] using g4,rfl,fun j hj=>by rw [gs_ne (fun e=>hj e.symm),gs_ne (fun e=>hj e.symm),gs_ne (fun e=>hj e.symm),gs_ne (fun e=>hj e.symm)],rfl,rfl⟩
 rw [f122,b122 rfl]
 simp (maxSteps:=1000000) (disch:=omega) only [code122,L122_0,ev_loop,EVa,EVb,oi,ou,wants,evx,evxs,evo,evparts,fillA,put,keepT,argTm,result,resAll,resOf,vO,boxF,binF,nilF,unF,lenF,callF,appF,mkIF,readsOf,boxAt,Nat.reduceEqDiff,reduceCtorEq,Nat.reduceBEq,Int.reduceToNat,Nat.reduceAdd,Nat.reduceLeDiff,Nat.reduceMul,h,h1,h2,h3,g,g1,g2,g3,so_clr,clrF,clrF.clrG,sl_lo44,sl_hi44,natOf_zero,natOf_one,natOf_2,natOf_3,Int.reduceLT,Int.reduceAdd,Int.reduceLE,Int.reduceNeg,Int.reduceEq,Int.cast_ofNat_Int,Nat.succ_ne_self,Nat.reduceSub,List.replicate,List.flatten_cons,List.flatten_nil,Nat.le_refl,and_self,Nat.zero_mul]
theorem fits_seq {fm:AV} {s:List Nat} {NS ns:List (List Nat)} {vs:List Val} {c:List AV} {psv:AV} (hc:VC (.rcd ns vs) c) (hps:oneA psv=true) (hN:NamesOK NS ns):Fits fm (seqR (.str s) (slS NS) psv) c:=by
 have ho1:oneA (slS NS)=true:=rfl
 refine fits_of (by simp only [seqR,List.all_cons,List.all_nil,hps,ho1]; rfl) hc.all fun b M M1 out node hs=>?_
 obtain ⟨s1,M2,s2,M3,e73,e122,hk,e124⟩:=hN M1
 simp only [VC] at hc
 obtain ⟨bb,nm,p,cs,rfl,hb,hn,hp,_⟩:=hc
 have e124:=e124 nm _ hn rfl
 refine ⟨M3,?_,hk⟩
 have g4:=hs.g4
 have g5:=hs.g5
 have hnb:=hs.nb
 have k5:M3.get (M.nb + 2)=some (.cells [.int .i64 4,.int .i64 0,bb,nm,p]):=by rw [hk.2.1 _ (by omega)]; exact g5
 simp only [seqR] at g4
 simp (maxSteps:=1000000) (disch:=omega) only [T84_2,T84_3,T84_4,T84_5,tm84,EVa,EVb,oi,ou,wants,evx,evxs,evo,evparts,fillA,put,keepT,argTm,result,resAll,resOf,vO,boxF,binF,nilF,unF,lenF,callF,appF,mkIF,readsOf,boxAt,Nat.reduceEqDiff,reduceCtorEq,Nat.reduceBEq,Int.reduceToNat,Nat.reduceAdd,Nat.reduceLeDiff,Nat.reduceMul,g4,g5,k5,e73,e122,e124,Int.reduceEq]
def FrW (b:Nat) (M M':Mem):Prop:=M.nb≤M'.nb∧∀ j,j < M.nb→j≠b→M'.get j=M.get j
theorem FrW.refl (b:Nat) (M:Mem):FrW b M M:=⟨Nat.le_refl _,fun _ _ _=>rfl⟩
theorem FrW.trans {b:Nat} {M M1 M2:Mem} (h:FrW b M M1) (k:FrW b M1 M2):FrW b M M2:=⟨Nat.le_trans h.1 k.1,fun j hj hb=>(k.2 j (Nat.lt_of_lt_of_le hj h.1) hb).trans (h.2 j hj hb)⟩
theorem FrW.keep {b:Nat} {M M1 M2:Mem} (h:FrW b M M1) (k:KeepM M1 M2):FrW b M M2:=h.trans ⟨k.1,fun j hj _=>k.2.1 j hj⟩
theorem FrW.new {b:Nat} {M M1:Mem} {x:Box} (h:FrW b M M1):FrW b M (M1.new x):=h.keep (KeepM.new _ _)
theorem FrW.set {b c:Nat} {M M1:Mem} {x:Box} (h:FrW b M M1) (hc:c=b∨M.nb≤c):FrW b M (M1.set c x):=
 ⟨h.1,fun j hj hb=>by rw [gs_ne (by rcases hc with rfl | hc; exact fun e=>hb e.symm; omega)]; exact h.2 j hj hb⟩
theorem FrW.same {b:Nat} {M M1 M2:Mem} (h:FrW b M M1) (k:SameB M1 M2):FrW b M M2:=⟨by rw [k.nb]; exact h.1,fun j hj hb=>by rw [k.get]; exact h.2 j hj hb⟩
theorem FrW.get {b j:Nat} {M M':Mem} (h:FrW b M M') (hj:j < M.nb) (hb:j≠b):M'.get j=M.get j:=h.2 j hj hb
theorem bytes_pure {l:List Nat}:Pures (byteCells l):=fun v hv=>by
 simp only [byteCells,List.mem_map] at hv
 obtain ⟨k,_,rfl⟩:=hv
 trivial
theorem GroK.one {z:Nat} {M:Mem} {v:AV} {m:Nat} {cells:List AV} {tk:Option Nat} (h:GroK z M v m cells tk):v.cells=[v]∧oneA v=true:=h.gro.one
theorem app_step {b node:Nat} {fm out:AV} {done ys:List Nat} {tk:Option Nat} {M:Mem} (hg:M.get b=some (.cells (wrC fm out node))) (hG:GroK 1 M out done.length (byteCells done) tk) (hl:done.length + ys.length < 1000000) :
  ∃ out' M1 tk',appV false M 1 1 out ys.length (byteCells ys)=some (out',M1)∧SameB M M1∧M1.get b=some (.cells (wrC fm out node))∧(M1.set b (.cells (wrC fm out' node))).get b=some (.cells (wrC fm out' node))∧GroK 1 (M1.set b (.cells (wrC fm out' node))) out' (done ++ ys).length (byteCells (done ++ ys)) tk'∧FrW b M (M1.set b (.cells (wrC fm out' node)))∧out'.cells=[out']∧oneA out'=true:=by
 obtain ⟨out',M1,tk',h1,h2,h3⟩:=hG.app' (bytes:=1) (ys:=byteCells ys) (j:=ys.length) bytes_pure (by rw [byteCells_len,Nat.mul_one]) (by omega) (by omega)
 have hg1:M1.get b=some (.cells (wrC fm out node)):=by rw [h3.get]; exact hg
 rw [← byteCells_append,← List.length_append] at h2
 exact ⟨out',M1,tk',h1,h3,hg1,gs_self hg1,h2.mem rfl rfl,((FrW.refl b M).same h3).set (.inl rfl),h2.one.1,h2.one.2⟩
theorem shr_0 {n:Nat}:binA .shr (.int .i64 (n:Int)) (.int .i64 0)=some (.int .i64 (n:Int)):=by
 rw [bin_shr]
 have e:(2:Int) ^ (Nat.min (0:Int).toNat IntKind.i64.bits)=1:=by decide
 simp only [shBin]
 rw [if_neg (by decide),e,Int.fdiv_one]
theorem shr_8 {n:Nat}:binA .shr (.int .i64 (n:Int)) (.int .i64 8)=some (.int .i64 ((n / 256:Nat):Int)):=by
 rw [bin_shr]
 have e:(2:Int) ^ (Nat.min (8:Int).toNat IntKind.i64.bits)=256:=by decide
 simp only [shBin]
 rw [if_neg (by decide),e,Int.fdiv_eq_ediv_of_nonneg _ (by decide)]
 rfl
theorem u8_nat {n:Nat}:IntKind.u8.wrap (n:Int)=((n % 256:Nat):Int):=by rw [wrap_u8]; omega
def numW (size n:Nat):List Nat:=if size=1 then [n % 256] else [n / 256 % 256,n % 256]
theorem round85 {b x size i y n node:Nat} {q:Int} {s:List Nat} {mn mx:Nat} {fm out:AV} {done:List Nat} {tk:Option Nat} {M:Mem} (hs:size < 5) (hi:i < size) (hx:M.get x=some (.cells (numR (.str s) size mn mx))) (hxb:x≠b) (hg:M.get b=some (.cells (wrC fm out node))) (hG:GroK 1 M out done.length (byteCells done) tk) (hl:done.length + 1 < 1000000)
  (hsh:binA .shr (.int .i64 (n:Int)) (.int .i64 (8 * ((size:Int) - 1 - (i:Int))))=some (.int .i64 q)) (hy:IntKind.u8.wrap q=(y:Int)) :
  ∃ out' M' tk',ev ES (.c L85_0 [(0,.ptr b 0),(2,.int .i64 (n:Int)),(4,.ptr x 0),(27,.int .i64 (size:Int)),(28,.int .i64 (i:Int))] M)=some (.code .normal [(0,.ptr b 0),(2,.int .i64 (n:Int)),(4,.ptr x 0),(27,.int .i64 (size:Int)),(28,.int .i64 ((i + 1:Nat):Int))] M') ∧
   M'.get x=some (.cells (numR (.str s) size mn mx))∧M'.get b=some (.cells (wrC fm out' node))∧GroK 1 M' out' (done ++ [y]).length (byteCells (done ++ [y])) tk'∧FrW b M M':=by
 obtain ⟨out',M1,tk',h1,h2,h3,h4,h5,h6,h7,h8⟩:=app_step (ys:=[y]) hg hG hl
 refine ⟨out',_,tk',?_,by rw [gs_ne (fun e=>hxb e.symm),h2.get]; exact hx,h4,h5,h6⟩
 have hw2:IntKind.i64.wrap ((i:Int) + 1)=((i + 1:Nat):Int):=by rw [wrap_i64] <;> omega
 have hlt:(i:Int) < (size:Int):=by omega
 have hA:lenA (.sl 1 0 1 [.int .u8 (y:Int)])=some 1:=rfl
 have hE:∀ M,elems M 1 (.sl 1 0 1 [.int .u8 (y:Int)])=some [.int .u8 (y:Int)]:=fun M=>rfl
 have hP:purL0 [.int .u8 (y:Int)]=some [.int .u8 (y:Int)]:=rfl
 have hw:=h2.wr
 simp only [byteCells_cons,byteCells_nil,List.length_cons,List.length_nil,Nat.zero_add] at h1
 have c1:∀ x,oneA (.int .u8 x)=true:=fun _=>rfl
 simp only [wrC,numR] at hg hx h3 h4 ⊢
 simp (maxSteps:=1000000) (disch:=omega) only [L85_0,EVa,EVb,oi,ou,wants,evx,evxs,evo,evparts,fillA,put,keepT,argTm,result,resAll,resOf,vO,boxF,binF,nilF,unF,lenF,callF,appF,mkIF,readsOf,boxAt,Nat.reduceEqDiff,reduceCtorEq,Nat.reduceBEq,Int.reduceToNat,Nat.reduceAdd,Nat.reduceLeDiff,Nat.reduceMul,hlt,hx,hg,h3,hsh,hy,hP,hA,hE,h1,hw,h7,h8,hw2]
theorem ev85 {b size n node:Nat} {s:List Nat} {mn mx:Nat} {fm out:AV} {done:List Nat} {tk:Option Nat} {M:Mem} (hs:size=1∨size=2) (hb:b < M.nb) (hg:M.get b=some (.cells (wrC fm out node))) (hG:GroK 1 M out done.length (byteCells done) tk) (hl:done.length + 2 < 1000000) :
  ∃ out' M' tk',ev ES (.f false 85 [.ptr b 0,.agg (numR (.str s) size mn mx),.int .i64 (n:Int)] M)=some (.fn (.tup []) M')∧M'.get b=some (.cells (wrC fm out' node))∧GroK 1 M' out' (done ++ numW size n).length (byteCells (done ++ numW size n)) tk'∧FrW b M M':=by
 have hx:(M.new (.cells (numR (.str s) size mn mx))).get M.nb=some (.cells (numR (.str s) size mn mx)):=gn_self
 have hg0:(M.new (.cells (numR (.str s) size mn mx))).get b=some (.cells (wrC fm out node)):=by rw [gn_lt hb]; exact hg
 have hG0:GroK 1 (M.new (.cells (numR (.str s) size mn mx))) out done.length (byteCells done) tk:=hG.mem rfl rfl
 have hf0:FrW b M (M.new (.cells (numR (.str s) size mn mx))):=(FrW.refl b M).new
 have head:∀ M2 (X:Tm),ev ES (.c (.loop L85_0) [(0,.ptr b 0),(2,.int .i64 (n:Int)),(4,.ptr M.nb 0),(27,.int .i64 (size:Int)),(28,.int .i64 0)] (M.new (.cells (numR (.str s) size mn mx))))=some (.code (.exit 0) X M2)→ev ES (.f false 85 [.ptr b 0,.agg (numR (.str s) size mn mx),.int .i64 (n:Int)] M)=some (.fn (.tup []) M2):=by
  intro M2 X h
  rw [f85,b85 rfl]
  simp only [numR] at h hx ⊢
  simp (maxSteps:=1000000) (disch:=omega) only [code85,EVa,EVb,oi,ou,wants,evx,evxs,evo,evparts,fillA,put,keepT,argTm,result,resAll,resOf,vO,boxF,binF,nilF,unF,lenF,callF,appF,mkIF,readsOf,boxAt,Nat.reduceEqDiff,reduceCtorEq,Nat.reduceBEq,Int.reduceToNat,Nat.reduceAdd,Nat.reduceLeDiff,Nat.reduceMul,hx,h,Int.reduceEq]
 have last:∀ (M2:Mem),ev ES (.c (.loop L85_0) [(0,.ptr b 0),(2,.int .i64 (n:Int)),(4,.ptr M.nb 0),(27,.int .i64 (size:Int)),(28,.int .i64 (size:Int))] M2)=some (.code (.exit 0) [(0,.ptr b 0),(2,.int .i64 (n:Int)),(4,.ptr M.nb 0),(27,.int .i64 (size:Int)),(28,.int .i64 (size:Int)),(29,.bool false)] M2):=by
  intro M2
  rw [ev_loop]
  simp (maxSteps:=1000000) (disch:=omega) only [L85_0,EVa,EVb,oi,ou,wants,evx,evxs,evo,evparts,fillA,put,keepT,argTm,result,resAll,resOf,vO,boxF,binF,nilF,unF,lenF,callF,appF,mkIF,readsOf,boxAt,Nat.reduceEqDiff,reduceCtorEq,Nat.reduceBEq,Int.reduceToNat,Nat.reduceAdd,Nat.reduceLeDiff,Nat.reduceMul,Int.lt_irrefl]
 rcases hs with rfl | rfl
 ·obtain ⟨w1,M1,t1,r1,r2,r3,r4,r5⟩:=round85 (y:=n % 256) (i:=0) (by omega) (by omega) hx (by omega) hg0 hG0 (by omega) shr_0 u8_nat
  refine ⟨w1,M1,t1,head M1 [(0,.ptr b 0),(2,.int .i64 (n:Int)),(4,.ptr M.nb 0),(27,.int .i64 ((1:Nat):Int)),(28,.int .i64 ((1:Nat):Int)),(29,.bool false)] ?_,r3,r4,hf0.trans r5⟩
  rw [ev_loop]
  rw [show ((0:Nat):Int)=0 from rfl] at r1
  rw [r1,seqF.eq_1]
  exact last M1
 ·obtain ⟨w1,M1,t1,r1,r2,r3,r4,r5⟩:=round85 (y:=n / 256 % 256) (i:=0) (by omega) (by omega) hx (by omega) hg0 hG0 (by omega) shr_8 u8_nat
  obtain ⟨w2,M2,t2,q1,q2,q3,q4,q5⟩:=round85 (y:=n % 256) (i:=1) (n:=n) (by omega) (by omega) r2 (by omega) r3 r4 (by simp only [List.length_append,List.length_cons,List.length_nil]; omega) shr_0 u8_nat
  rw [List.append_assoc] at q4
  refine ⟨w2,M2,t2,head M2 [(0,.ptr b 0),(2,.int .i64 (n:Int)),(4,.ptr M.nb 0),(27,.int .i64 ((2:Nat):Int)),(28,.int .i64 ((2:Nat):Int)),(29,.bool false)] ?_,q3,q4,hf0.trans (r5.trans q5)⟩
  rw [ev_loop]
  rw [show ((0:Nat):Int)=0 from rfl] at r1
  rw [r1,seqF.eq_1]
  rw [ev_loop,q1,seqF.eq_1]
  exact last M2
end Go.Sx
namespace Go.Sx
def Writes (fm:AV) (k:Nat) (V:Val) (bs:List Nat) (nn:Nat):Prop:=∀ (b:Nat) (M:Mem) (out:AV) (node:Nat) (done:List Nat) (tk:Option Nat) (c:List AV),b < M.nb→M.get b=some (.cells (wrC fm out node))→GroK 1 M out done.length (byteCells done) tk→done.length + bs.length + 2 < 1000000→node + nn < 1000000→VC V c →
 ∃ out' M' tk',ev ES (.f false 33 [.ptr b 0,.int .i64 (k:Int),.agg c] M)=some (.fn (.tup []) M')∧M'.get b=some (.cells (wrC fm out' (node + nn)))∧GroK 1 M' out' (done ++ bs).length (byteCells (done ++ bs)) tk'∧FrW b M M'
structure HW (b:Nat) (ru c:List AV) (fm out:AV) (node:Nat) (done:List Nat) (M M1:Mem):Prop where
 hb:b < M.nb
 nb:M.nb + 2≤M1.nb
 g5:M1.get M.nb=some (.cells c)
 g6:M1.get (M.nb + 1)=some (.cells ru)
 gb:M1.get b=some (.cells (wrC fm out (node + 1)))
 gr:∃ tk,GroK 1 M1 out done.length (byteCells done) tk
 fr:FrW b M M1
def tm33 (b n:Nat) (kd:Int):Tm:=[(0,.ptr b 0),(5,.ptr n 0),(6,.ptr (n + 1) 0),(37,.int .i64 kd)]
theorem writes_of {fm:AV} {k nn:Nat} {V:Val} {bs:List Nat} {ru:List AV} {kd:Int} (hr:RuleAt fm k ru) (hk:ru[1]?=some (.int .i64 kd)) (hF:∀ c,VC V c→Fits fm ru c)
  (h:∀ (b:Nat) (M M1:Mem) (out:AV) (node:Nat) (done:List Nat) (c:List AV),HW b ru c fm out node done M M1→VC V c→done.length + bs.length + 2 < 1000000→node + 1 + nn < 1000000→∃ out' M' tk' tm',ev ES (.c T33_5 (tm33 b M.nb kd) M1)=some (.code .normal tm' M')∧M'.get b=some (.cells (wrC fm out' (node + 1 + nn)))∧GroK 1 M' out' (done ++ bs).length (byteCells (done ++ bs)) tk'∧FrW b M1 M'):Writes fm k V bs (1 + nn):=by
 intro b M out node done tk c hb hg hG hl hn hc
 obtain ⟨n,fc,rest,q1,q2,q3⟩:=hr.ex
 have hia:=fun M=>q1.ia (M:=M) q2
 rw [q3] at hia
 have hl2:=hr.len
 have h12:Nat.ble 12 (ru ++ rest).length=true:=ble_true (by rw [List.length_append]; omega)
 have ht:(ru ++ rest).take 12=ru:=by rw [← hl2,List.take_left]
 have hra:=hr.all
 have hca:=hc.all
 have hcl:=hc.len
 have hct:c.take 5=c:=List.take_of_length_le (by omega)
 have hc5:Nat.ble 5 c.length=true:=ble_true (by omega)
 have hrt:ru.take 12=ru:=List.take_of_length_le (by omega)
 have hr12:Nat.ble 12 ru.length=true:=ble_true (by omega)
 -- the memory in front of fits
 have m0:(M.new (.cells c)).get b=some (.cells (wrC fm out node)):=by rw [gn_lt hb]; exact hg
 have m1:((M.new (.cells c)).new (.cells Z12)).get (M.nb + 1)=some (.cells Z12):=gn_self (M:=M.new (.cells c))
 obtain ⟨MF,hMF⟩:∃ MF,MF=((M.new (.cells c)).new (.cells Z12)).set (M.nb + 1) (.cells ru):=⟨_,rfl⟩
 have f6:MF.get (M.nb + 1)=some (.cells ru):=by rw [hMF]; exact gs_self m1
 have f5:MF.get M.nb=some (.cells c):=by rw [hMF,gs_ne (by omega),gn_lt (by rw [nbn_new]; omega)]; exact gn_self
 have fb:MF.get b=some (.cells (wrC fm out node)):=by rw [hMF,gs_ne (by omega),gn_lt (by rw [nbn_new]; omega)]; exact m0
 have fn:MF.nb=M.nb + 2:=by rw [hMF]; rfl
 have ft:MF.toks=M.toks∧MF.nt=M.nt:=by rw [hMF]; exact ⟨rfl,rfl⟩
 have ff:FrW b M MF:=by rw [hMF]; exact (((FrW.refl b M).new).new).set (.inr (by omega))
 obtain ⟨M2,e84,hk84⟩:=hF c hc b MF out node (by omega) fb
 have b2:M2.get b=some (.cells (wrC fm out node)):=by rw [hk84.2.1 b (by omega)]; exact fb
 have s5:M2.get M.nb=some (.cells c):=by rw [hk84.2.1 _ (by omega)]; exact f5
 have s6:M2.get (M.nb + 1)=some (.cells ru):=by rw [hk84.2.1 _ (by omega)]; exact f6
 have hnb2:=hk84.1
 obtain ⟨M1,hM1⟩:∃ M1,M1=M2.set b (.cells (wrC fm out (node + 1))):=⟨_,rfl⟩
 have hs:HW b ru c fm out node done M M1:=by
  subst hM1
  refine ⟨hb,by rw [nbn_set]; omega,by rw [gs_ne (by omega)]; exact s5,by rw [gs_ne (by omega)]; exact s6,gs_self b2,⟨tk,?_⟩,(ff.keep hk84).set (.inl rfl)⟩
  exact (hG.mem (M':=M2) (by rw [hk84.2.2.1,ft.1]) (by rw [hk84.2.2.2,ft.2])).mem rfl rfl
 have t6:M1.get (M.nb + 1)=some (.cells ru):=hs.g6
 obtain ⟨out',M',tk',tm',h1,h2,h3,h4⟩:=h b M M1 out node done c hs hc hl (by omega)
 refine ⟨out',M',tk',?_,by rw [h2,Nat.add_assoc],h3,hs.fr.trans h4⟩
 have e1:∀ B:AC,ev ES (.c (.seq T33_0 (.seq T33_1 B)) (argTm 0 [.ptr b 0,.int .i64 (k:Int),.agg c]) M)=ev ES (.c B [(0,.ptr b 0),(5,.ptr M.nb 0),(6,.ptr (M.nb + 1) 0)] MF):=by
  intro B
  rw [hMF]
  simp only [wrC,Z12] at m0 m1 ⊢
  simp (maxSteps:=1000000) (disch:=omega) only [T33_0,T33_1,EVa,EVb,oi,ou,wants,evx,evxs,evo,evparts,fillA,put,keepT,argTm,result,resAll,resOf,vO,boxF,binF,nilF,unF,lenF,callF,appF,mkIF,readsOf,boxAt,Nat.reduceEqDiff,reduceCtorEq,Nat.reduceBEq,Int.reduceToNat,Nat.reduceAdd,Nat.reduceLeDiff,Nat.reduceMul,hca,m0,m1,hia,h12,ht,hl2,hra,Nat.add_assoc]
 have e2:∀ B:AC,ev ES (.c (.seq T33_2 (.seq T33_3 (.seq T33_4 B))) [(0,.ptr b 0),(5,.ptr M.nb 0),(6,.ptr (M.nb + 1) 0)] MF)=ev ES (.c B (tm33 b M.nb kd) M1):=by
  intro B
  have hw:IntKind.i64.wrap ((node:Int) + 1)=((node + 1:Nat):Int):=by rw [wrap_i64] <;> omega
  rw [hM1] at t6
  rw [hM1]
  simp only [wrC,tm33] at b2 t6 ⊢
  simp (maxSteps:=1000000) (disch:=omega) only [T33_2,T33_3,T33_4,EVa,EVb,oi,ou,wants,evx,evxs,evo,evparts,fillA,put,keepT,argTm,result,resAll,resOf,vO,boxF,binF,nilF,unF,lenF,callF,appF,mkIF,readsOf,boxAt,Nat.reduceEqDiff,reduceCtorEq,Nat.reduceBEq,Int.reduceToNat,Nat.reduceAdd,Nat.reduceLeDiff,Nat.reduceMul,f5,f6,hrt,hr12,hct,hc5,e84,b2,t6,hw,hk]
 rw [f33,b33 rfl,show code33=.seq T33_0 (.seq T33_1 (.seq T33_2 (.seq T33_3 (.seq T33_4 T33_5)))) from rfl,e1,e2,h1]
 rfl
section
variable {fm:AV}
theorem wr_num {s:List Nat} {k size mn mx n:Nat} (hr:RuleAt fm k (numR (.str s) size mn mx)) (hs:size=1∨size=2) (h1:mn≤n) (h2:n≤mx):Writes fm k (.num n) (numW size n) 1:=by
 refine writes_of (nn:=0) hr rfl (fun c hc=>fits_num hc h1 h2) fun b M M1 out node done c hw hc hl hn=>?_
 obtain ⟨tk,hG⟩:=hw.gr
 have hnl:(numW size n).length≤2:=by unfold numW; split <;> simp
 have hb:=hw.hb
 have hnb:=hw.nb
 obtain ⟨out',M',tk',e85,r1,r2,r3⟩:=ev85 (s:=s) (mn:=mn) (mx:=mx) (n:=n) hs (by omega) hw.gb hG (by omega)
 refine ⟨out',M',tk',[],?_,r1,r2,r3⟩
 simp only [VC] at hc
 obtain ⟨bb,nm,p,rfl,_,_,_⟩:=hc
 have g5:=hw.g5
 have g6:=hw.g6
 simp only [numR] at g6 e85
 simp (maxSteps:=1000000) (disch:=omega) only [T33_5,tm33,EVa,EVb,oi,ou,wants,evx,evxs,evo,evparts,fillA,put,keepT,argTm,result,resAll,resOf,vO,boxF,binF,nilF,unF,lenF,callF,appF,mkIF,readsOf,boxAt,Nat.reduceEqDiff,reduceCtorEq,Nat.reduceBEq,Int.reduceToNat,Nat.reduceAdd,Nat.reduceLeDiff,Nat.reduceMul,g5,g6,e85,Int.reduceEq]
theorem wr_blob {s s2:List Nat} {k cnt size mn mx:Nat} {l:List Nat} {ps:AV} (hr:RuleAt fm k (blobR (.str s) cnt ps)) (hps:oneA ps=true) (hr2:RuleAt fm cnt (numR (.str s2) size mn mx)) (hs:size=1∨size=2) (h1:mn≤l.length) (h2:l.length≤mx):Writes fm k (.byt l) (numW size l.length ++ l) 1:=by
 refine writes_of (nn:=0) hr rfl (fun c hc=>fits_blob hc hps hr2 h1 h2) fun b M M1 out node done c hw hc hl hn=>?_
 obtain ⟨tk,hG⟩:=hw.gr
 have hnl:(numW size l.length).length≤2:=by unfold numW; split <;> simp
 have hb:=hw.hb
 have hnb:=hw.nb
 rw [List.length_append] at hl
 obtain ⟨out1,M2,tk1,e85,r1,r2,r3⟩:=ev85 (s:=s2) (mn:=mn) (mx:=mx) (n:=l.length) hs (by omega) hw.gb hG (by omega)
 obtain ⟨out2,M3,tk2,a1,a2,a3,a4,a5,a6,a7,a8⟩:=app_step (ys:=l) r1 r2 (by rw [List.length_append]; omega)
 rw [List.append_assoc] at a5
 refine ⟨out2,_,tk2,[],?_,a4,a5,r3.trans a6⟩
 simp only [VC] at hc
 obtain ⟨bb,nm,p,rfl,hb2,_,_⟩:=hc
 have g5:=hw.g5
 have g6:=hw.g6
 have gb:=hw.gb
 have k5:M2.get M.nb=some (.cells [.int .i64 2,.int .i64 0,bb,nm,p]):=by rw [r3.get (by omega) (by omega)]; exact g5
 obtain ⟨n,fc,rest,q1,q2,q3⟩:=hr2.ex
 have hia:=fun M=>q1.ia (M:=M) q2
 rw [q3] at hia
 have hl2:=hr2.len
 have h12:Nat.ble 12 (numR (.str s2) size mn mx ++ rest).length=true:=ble_true (by rw [List.length_append]; omega)
 have ht:(numR (.str s2) size mn mx ++ rest).take 12=numR (.str s2) size mn mx:=by rw [← hl2,List.take_left]
 have hbl:=hb2.len
 have hA:=hb2.lenA
 have hE:=fun M=>hb2.elems (M:=M)
 have hbx:=hb2.boxOf
 have hw:=a2.wr
 simp only [wrC,blobR] at gb g6 r1 a3 a4 ⊢
 simp (maxSteps:=1000000) (disch:=omega) only [T33_5,tm33,EVa,EVb,oi,ou,wants,evx,evxs,evo,evparts,fillA,put,keepT,argTm,result,resAll,resOf,vO,boxF,binF,nilF,unF,lenF,callF,appF,mkIF,readsOf,boxAt,Nat.reduceEqDiff,reduceCtorEq,Nat.reduceBEq,Int.reduceToNat,Nat.reduceAdd,Nat.reduceLeDiff,Nat.reduceMul,g5,g6,gb,hia,h12,ht,hbl,e85,r1,k5,hA,hE,a1,a3,a7,a8,hw,hbx,Int.reduceEq]
inductive WAll (fm:AV) (k:Nat):List Val→List Nat→Nat→Prop
 | nil:WAll fm k [] [] 0
 | cons {V:Val} {vs:List Val} {bs bs':List Nat} {nn nn':Nat} (h:Writes fm k V bs nn) (r:WAll fm k vs bs' nn'):WAll fm k (V :: vs) (bs ++ bs') (nn + nn')
theorem loop86 {k:Nat} {b:Nat} {VS:List Val} {CS:List AV} {p:AV} (hp:isS 5 VS.length CS p) (hv:VCs VS CS) (hn:VS.length < 1000000):∀ {vs:List Val} {bs:List Nat} {nn:Nat},WAll fm k vs bs nn→∀ (j:Nat) (M:Mem) (out:AV) (node:Nat) (done:List Nat) (tk:Option Nat),VS.drop j=vs→j≤VS.length→b < M.nb→M.get b=some (.cells (wrC fm out node))→GroK 1 M out done.length (byteCells done) tk→done.length + bs.length + 2 < 1000000→node + nn < 1000000 →
  ∃ out' M' tk',ev ES (.c (.loop L86_0) [(0,.ptr b 0),(1,.int .i64 (k:Int)),(8,p),(9,.int .i64 (VS.length:Int)),(10,.int .i64 (j:Int))] M)=some (.code (.exit 0) [(0,.ptr b 0),(1,.int .i64 (k:Int)),(8,p),(9,.int .i64 (VS.length:Int)),(10,.int .i64 (VS.length:Int)),(11,.bool false)] M')∧M'.get b=some (.cells (wrC fm out' (node + nn)))∧GroK 1 M' out' (done ++ bs).length (byteCells (done ++ bs)) tk'∧FrW b M M':=by
 intro vs bs nn h
 induction h with
 | nil=>
  intro j M out node done tk hd hj hb hg hG hl hnn
  have hj:j=VS.length:=by
   have:=congrArg List.length hd
   simp at this; omega
  subst hj
  refine ⟨out,M,tk,?_,hg,by rw [List.append_nil]; exact hG,FrW.refl b M⟩
  rw [ev_loop]
  simp (maxSteps:=1000000) (disch:=omega) only [L86_0,EVa,EVb,oi,ou,wants,evx,evxs,evo,evparts,fillA,put,keepT,argTm,result,resAll,resOf,vO,boxF,binF,nilF,unF,lenF,callF,appF,mkIF,readsOf,boxAt,Nat.reduceEqDiff,reduceCtorEq,Nat.reduceBEq,Int.reduceToNat,Nat.reduceAdd,Nat.reduceLeDiff,Nat.reduceMul,Int.lt_irrefl]
 | @cons V vs bs bs' nn nn' hW _ ih=>
  intro j M out node done tk hd hj hb hg hG hl hnn
  have hlt:j < VS.length:=by
   have:=congrArg List.length hd
   simp at this; omega
  have hd':VS.drop (j + 1)=vs:=by rw [← List.drop_drop,hd]; rfl
  obtain ⟨a,rest,hcd,hVa⟩:=hv.at hd
  have hal:=hVa.len
  have hia:=fun M=>hp.ia (M:=M) hlt
  rw [hcd] at hia
  have t5:=take5 (rest:=rest) hal
  have b5:=ble5 (rest:=rest) hal
  have haa:=hVa.all
  have hat:a.take 5=a:=List.take_of_length_le (by omega)
  have ha5:Nat.ble 5 a.length=true:=ble_true (by omega)
  rw [List.length_append] at hl
  have x1:(M.new (.cells Z5v)).get M.nb=some (.cells Z5v):=gn_self
  obtain ⟨M1,hM1⟩:∃ M1,M1=(M.new (.cells Z5v)).set M.nb (.cells a):=⟨_,rfl⟩
  have y1:M1.get M.nb=some (.cells a):=by rw [hM1]; exact gns_self
  have yb:M1.get b=some (.cells (wrC fm out node)):=by rw [hM1,gns_lt hb]; exact hg
  have yG:GroK 1 M1 out done.length (byteCells done) tk:=by rw [hM1]; exact hG.mem rfl rfl
  have yf:FrW b M M1:=by rw [hM1]; exact ((FrW.refl b M).new).set (.inr (Nat.le_refl _))
  have yn:M1.nb=M.nb + 1:=by rw [hM1]; rfl
  obtain ⟨out1,M2,tk1,e33,r1,r2,r3⟩:=hW b M1 out node done tk a (by omega) yb yG (by omega) (by omega) hVa
  have:=r3.1
  obtain ⟨out2,M3,tk2,he,q1,q2,q3⟩:=ih (j + 1) M2 out1 (node + nn) (done ++ bs) tk1 hd' (by omega) (by omega) r1 r2 (by rw [List.length_append]; omega) (by omega)
  rw [List.append_assoc] at q2
  refine ⟨out2,M3,tk2,?_,by rw [q1,Nat.add_assoc],q2,yf.trans (r3.trans q3)⟩
  have hw2:IntKind.i64.wrap ((j:Int) + 1)=((j + 1:Nat):Int):=by rw [wrap_i64] <;> omega
  have hlt':(j:Int) < (VS.length:Int):=by omega
  have hstep:ev ES (.c L86_0 [(0,.ptr b 0),(1,.int .i64 (k:Int)),(8,p),(9,.int .i64 (VS.length:Int)),(10,.int .i64 (j:Int))] M)=some (.code .normal [(0,.ptr b 0),(1,.int .i64 (k:Int)),(8,p),(9,.int .i64 (VS.length:Int)),(10,.int .i64 ((j + 1:Nat):Int))] M2):=by
   rw [hM1] at e33 y1
   simp only [Z5v] at x1 e33 y1
   simp (maxSteps:=1000000) (disch:=omega) only [L86_0,EVa,EVb,oi,ou,wants,evx,evxs,evo,evparts,fillA,put,keepT,argTm,result,resAll,resOf,vO,boxF,binF,nilF,unF,lenF,callF,appF,mkIF,readsOf,boxAt,Nat.reduceEqDiff,reduceCtorEq,Nat.reduceBEq,Int.reduceToNat,Nat.reduceAdd,Nat.reduceLeDiff,Nat.reduceMul,hlt',hia,t5,b5,x1,haa,hal,hat,ha5,e33,y1,hw2]
  rw [ev_loop,hstep]
  exact he
theorem ev86 {k b nn node:Nat} {VS:List Val} {CS:List AV} {p out:AV} {bs done:List Nat} {tk:Option Nat} {M:Mem} (hp:isS 5 VS.length CS p) (hv:VCs VS CS) (hn:VS.length < 1000000) (hW:WAll fm k VS bs nn) (hb:b < M.nb) (hg:M.get b=some (.cells (wrC fm out node))) (hG:GroK 1 M out done.length (byteCells done) tk) (hl:done.length + bs.length + 2 < 1000000) (hnn:node + nn < 1000000) :
  ∃ out' M' tk',ev ES (.f false 86 [.ptr b 0,.int .i64 (k:Int),p] M)=some (.fn (.tup []) M')∧M'.get b=some (.cells (wrC fm out' (node + nn)))∧GroK 1 M' out' (done ++ bs).length (byteCells (done ++ bs)) tk'∧FrW b M M':=by
 obtain ⟨out',M',tk',h1,h2⟩:=loop86 hp hv hn hW 0 M out node done tk rfl (Nat.zero_le _) hb hg hG hl hnn
 refine ⟨out',M',tk',?_,h2⟩
 have hpl:=hp.len
 simp only [Int.natCast_zero] at h1
 rw [f86,b86 rfl]
 simp (maxSteps:=1000000) (disch:=omega) only [code86,EVa,EVb,oi,ou,wants,evx,evxs,evo,evparts,fillA,put,keepT,argTm,result,resAll,resOf,vO,boxF,binF,nilF,unF,lenF,callF,appF,mkIF,readsOf,boxAt,Nat.reduceEqDiff,reduceCtorEq,Nat.reduceBEq,Int.reduceToNat,Nat.reduceAdd,Nat.reduceLeDiff,Nat.reduceMul,hpl,h1]
theorem wr_rep {s:List Nat} {k stop of_ nn:Nat} {vs:List Val} {bs:List Nat} {ps:AV} (hr:RuleAt fm k (repR (.str s) stop of_ ps)) (hps:oneA ps=true) (hst:stop < 256) (hW:WAll fm of_ vs bs nn) (hn:vs.length < 1000000):Writes fm k (.lst vs) (bs ++ [stop]) (1 + nn):=by
 refine writes_of (nn:=nn) hr rfl (fun c hc=>fits_rep hc hps) fun b M M1 out node done c hw hc hl hnn=>?_
 obtain ⟨tk,hG⟩:=hw.gr
 have hb:=hw.hb
 have hnb:=hw.nb
 rw [List.length_append,List.length_cons,List.length_nil] at hl
 simp only [VC] at hc
 obtain ⟨bb,nm,p,cs,rfl,_,_,hp,hcs⟩:=hc
 obtain ⟨out1,M2,tk1,e86,r1,r2,r3⟩:=ev86 hp hcs hn hW (by omega) hw.gb hG (by omega) (by omega)
 obtain ⟨out2,M3,tk2,a1,a2,a3,a4,a5,a6,a7,a8⟩:=app_step (ys:=[stop]) r1 r2 (by rw [List.length_append]; simp only [List.length_cons,List.length_nil]; omega)
 rw [List.append_assoc] at a5
 refine ⟨out2,_,tk2,[],?_,a4,a5,r3.trans a6⟩
 have g5:=hw.g5
 have g6:=hw.g6
 have k6:M2.get (M.nb + 1)=some (.cells (repR (.str s) stop of_ ps)):=by rw [r3.get (by omega) (by omega)]; exact g6
 have hA:lenA (.sl 1 0 1 [.int .u8 (stop:Int)])=some 1:=rfl
 have hE:∀ M,elems M 1 (.sl 1 0 1 [.int .u8 (stop:Int)])=some [.int .u8 (stop:Int)]:=fun M=>rfl
 have hP:purL0 [.int .u8 (stop:Int)]=some [.int .u8 (stop:Int)]:=rfl
 have hu:IntKind.u8.wrap (stop:Int)=(stop:Int):=by rw [wrap_u8]; omega
 have hw:=a2.wr
 simp only [byteCells_cons,byteCells_nil,List.length_cons,List.length_nil,Nat.zero_add] at a1
 simp only [wrC,repR] at g6 k6 r1 a3 a4 ⊢
 simp (maxSteps:=1000000) (disch:=omega) only [T33_5,tm33,EVa,EVb,oi,ou,wants,evx,evxs,evo,evparts,fillA,put,keepT,argTm,result,resAll,resOf,vO,boxF,binF,nilF,unF,lenF,callF,appF,mkIF,readsOf,boxAt,Nat.reduceEqDiff,reduceCtorEq,Nat.reduceBEq,Int.reduceToNat,Nat.reduceAdd,Nat.reduceLeDiff,Nat.reduceMul,g5,g6,k6,e86,r1,hP,hA,hE,hu,a1,a3,a7,a8,hw,Int.reduceEq]
theorem wr_choice {s:List Nat} {k k' x nn:Nat} {KS:List Nat} {V:Val} {bs:List Nat} {psv:AV} (hr:RuleAt fm k (chR (.str s) psv)) (hp:isS 1 KS.length (numCells KS) psv) (hx:KS[x]?=some k') (hW:Writes fm k' V bs nn):Writes fm k (.lst [.num x,V]) bs (1 + (1 + nn)):=by
 have hlt:x < KS.length:=(List.getElem?_eq_some_iff.1 hx).1
 refine writes_of (nn:=1 + nn) hr rfl (fun c hc=>fits_choice hc hp hlt) fun b M M1 out node done c hw hc hl hnn=>?_
 obtain ⟨tk,hG⟩:=hw.gr
 have hb:=hw.hb
 have hnb:=hw.nb
 simp only [VC] at hc
 obtain ⟨bb,nm,p,cs,rfl,_,_,hps,hcs⟩:=hc
 simp only [VCs,VC] at hcs
 obtain ⟨a,r,rfl,⟨b1,n1,p1,rfl,_⟩,c',r',rfl,hVc,rfl⟩:=hcs
 have g5:=hw.g5
 have g6:=hw.g6
 have gb:=hw.gb
 obtain ⟨M2,hM2⟩:∃ M2,M2=M1.set b (.cells (wrC fm out (node + 1 + 1))):=⟨_,rfl⟩
 have z5:M2.get M.nb=some (.cells [.int .i64 3,.int .i64 0,bb,nm,p]):=by rw [hM2,gs_ne (by omega)]; exact g5
 have z6:M2.get (M.nb + 1)=some (.cells (chR (.str s) psv)):=by rw [hM2,gs_ne (by omega)]; exact g6
 have zb:M2.get b=some (.cells (wrC fm out (node + 1 + 1))):=by rw [hM2]; exact gs_self gb
 have zf:FrW b M1 M2:=by rw [hM2]; exact (FrW.refl b M1).set (.inl rfl)
 have zG:GroK 1 M2 out done.length (byteCells done) tk:=by rw [hM2]; exact hG.mem rfl rfl
 have zn:M2.nb=M1.nb:=by rw [hM2]; rfl
 obtain ⟨out',M',tk',e33,r1,r2,r3⟩:=hW b M2 out (node + 1 + 1) done tk c' (by omega) zb zG hl (by omega) hVc
 refine ⟨out',M',tk',[],?_,by rw [r1,Nat.add_assoc (node + 1)],r2,zf.trans r3⟩
 have hia0:=fun M=>hps.ia (M:=M) (i:=0) (by simp)
 have hia1:=fun M=>hps.ia (M:=M) (i:=1) (by simp)
 simp only [Nat.zero_mul,Nat.one_mul,List.drop_zero,List.cons_append,List.nil_append,List.append_nil,List.drop_succ_cons] at hia0 hia1
 have hiaK:=fun M=>hp.ia (M:=M) hlt
 have hxd:KS.drop x=k' :: KS.drop (x + 1):=by
  rw [← List.getElem_cons_drop hlt]
  congr 1
  exact (List.getElem?_eq_some_iff.1 hx).2
 rw [Nat.mul_one,numCells,drop_map_cons hxd] at hiaK
 have hcl:=hVc.len
 have hct:c'.take 5=c':=List.take_of_length_le (by omega)
 have hc5:Nat.ble 5 c'.length=true:=ble_true (by omega)
 have hw2:IntKind.i64.wrap (((node + 1:Nat):Int) + 1)=((node + 1 + 1:Nat):Int):=by rw [wrap_i64] <;> omega
 rw [hM2] at e33 z5 z6
 simp only [wrC,chR] at gb g6 z5 z6 e33
 simp (maxSteps:=1000000) (disch:=omega) only [T33_5,tm33,EVa,EVb,oi,ou,wants,evx,evxs,evo,evparts,fillA,put,keepT,argTm,result,resAll,resOf,vO,boxF,binF,nilF,unF,lenF,callF,appF,mkIF,readsOf,boxAt,Nat.reduceEqDiff,reduceCtorEq,Nat.reduceBEq,Int.reduceToNat,Nat.reduceAdd,Nat.reduceLeDiff,Nat.reduceMul,g5,g6,gb,z5,z6,hia0,hia1,hiaK,hct,hc5,e33,hw2,natOf_zero,natOf_one,Int.reduceEq]
inductive WSeq (fm:AV):List (List Nat)→List Nat→List Val→List Nat→Nat→Prop
 | nil:WSeq fm [] [] [] [] 0
 | lit {k nn:Nat} {l bs s:List Nat} {ns:List (List Nat)} {ks:List Nat} {vs:List Val} {by_:AV} (hr:RuleAt fm k (litR (.str s) by_)) (hl:isS 1 l.length (byteCells l) by_) (r:WSeq fm ns ks vs bs nn):WSeq fm ([] :: ns) (k :: ks) vs (l ++ bs) nn
 | keep {k nn nn':Nat} {n bs bs':List Nat} {ns:List (List Nat)} {ks:List Nat} {V:Val} {vs:List Val} (hn:n≠[]) (h:Writes fm k V bs nn) (r:WSeq fm ns ks vs bs' nn'):WSeq fm (n :: ns) (k :: ks) (V :: vs) (bs ++ bs') (nn + nn')
theorem slc5 {n:Nat} {a r:List AV} {v:AV} (h:isS 5 (n + 1) (a ++ r) v) (ha:a.length=5):∃ v',slcV 5 v (some (.int .i64 1)) none none=some v'∧isS 5 n r v':=by
 obtain ⟨hl,h⟩:=h
 have hr:r.length=n * 5:=by rw [List.length_append,ha] at hl; omega
 rcases h with ⟨h0,_⟩ | ⟨t,ht,rfl⟩
 ·omega
 ·have e:Nat.beq (a ++ r).length ((n + 1) * 5)=true:=by rw [hl]; exact Nat.beq_refl _
  have hb:bounds (n + 1) (n + 1) (some (.int .i64 1)) none none=some (1,n + 1,n + 1):=by
   simp only [bounds,natOf]
   simp
  have hd:((a ++ r).drop (1 * 5)).take (n * 5)=r:=by
   rw [show 1 * 5=a.length by omega,List.drop_left,List.take_of_length_le (by rw [hr]; omega)]
  refine ⟨.sl t 0 n r,?_,hr,.inr ⟨t,ht,rfl⟩⟩
  simp only [slcV,e,hb,Bool.not_true,Bool.false_eq_true,if_false,Option.isSome_none,Bool.false_and,Option.map_some,Nat.beq_refl,Bool.not_false,Bool.and_self,if_true,Nat.add_sub_cancel,hd]
  rcases ht with rfl | rfl <;> rfl
def tmW (b n:Nat) (rest ps:AV) (len j:Nat):Tm:=[(0,.ptr b 0),(6,.ptr n 0),(7,rest),(184,ps),(185,.int .i64 (len:Int)),(186,.int .i64 (j:Int))]
theorem loop33 {b p6:Nat} {NS:List (List Nat)} {KS:List Nat} {nm psv:AV} (hb6:p6≠b) (hps:isS 1 KS.length (numCells KS) psv) (hlen:NS.length=KS.length) (hks:KS.length < 1000):∀ {ns:List (List Nat)} {ks:List Nat} {vs:List Val} {bs:List Nat} {nn:Nat},WSeq fm ns ks vs bs nn→∀ (j:Nat) (M:Mem) (out rest:AV) (node:Nat) (done:List Nat) (tk:Option Nat) (cs:List AV),NS.drop j=ns→KS.drop j=ks→j≤KS.length→isS 5 vs.length cs rest→VCs vs cs→b < M.nb→p6 < M.nb→M.get b=some (.cells (wrC fm out node))→M.get p6=some (.cells (seqR nm (slS NS) psv))→GroK 1 M out done.length (byteCells done) tk→done.length + bs.length + 2 < 1000000→node + nn < 1000000 →
  ∃ out' M' tk' tm',ev ES (.c (.loop L33_1) (tmW b p6 rest psv KS.length j) M)=some (.code (.exit 1) tm' M')∧M'.get b=some (.cells (wrC fm out' (node + nn)))∧GroK 1 M' out' (done ++ bs).length (byteCells (done ++ bs)) tk'∧FrW b M M':=by
 intro ns ks vs bs nn h
 induction h with
 | nil=>
  intro j M out rest node done tk cs hd1 hd2 hj hrs hcs hb hp6 hg g6 hG hl hnn
  have hj:j=KS.length:=by
   have:=congrArg List.length hd2
   simp at this; omega
  subst hj
  refine ⟨out,M,tk,tmW b p6 rest psv KS.length KS.length ++ [(187,.bool false)],?_,hg,by rw [List.append_nil]; exact hG,FrW.refl b M⟩
  rw [ev_loop]
  simp (maxSteps:=1000000) (disch:=omega) only [L33_1,tmW,EVa,EVb,oi,ou,wants,evx,evxs,evo,evparts,fillA,put,keepT,argTm,result,resAll,resOf,vO,boxF,binF,nilF,unF,lenF,callF,appF,mkIF,readsOf,boxAt,Nat.reduceEqDiff,reduceCtorEq,Nat.reduceBEq,Int.reduceToNat,Nat.reduceAdd,Nat.reduceLeDiff,Nat.reduceMul,Int.lt_irrefl]
 | @lit k nn l bs s ns ks vs by_ hr hly _ ih=>
  intro j M out rest node done tk cs hd1 hd2 hj hrs hcs hb hp6 hg g6 hG hl hnn
  have hlt:j < KS.length:=by
   have:=congrArg List.length hd2
   simp at this; omega
  have hd1':NS.drop (j + 1)=ns:=by rw [← List.drop_drop,hd1]; rfl
  have hd2':KS.drop (j + 1)=ks:=by rw [← List.drop_drop,hd2]; rfl
  have hia:=fun M=>hps.ia (M:=M) hlt
  rw [Nat.mul_one,numCells,drop_map_cons hd2] at hia
  have hia2:=fun M=>(slS_is NS).ia (M:=M) (show j < NS.length by omega)
  rw [Nat.mul_one,strCells,drop_map_cons hd1] at hia2
  rw [List.length_append] at hl
  obtain ⟨out2,M3,tk2,a1,a2,a3,a4,a5,a6,a7,a8⟩:=app_step (ys:=l) hg hG (by omega)
  have:=a6.1
  obtain ⟨out',M',tk',tm',he,r1,r2,r3⟩:=ih (j + 1) (M3.set b (.cells (wrC fm out2 node))) out2 rest node (done ++ l) tk2 cs hd1' hd2' (by omega) hrs hcs (by omega) (by omega) a4 (by rw [a6.get hp6 hb6]; exact g6) a5 (by rw [List.length_append]; omega) hnn
  rw [List.append_assoc] at r2
  refine ⟨out',M',tk',tm',?_,r1,r2,a6.trans r3⟩
  obtain ⟨n,fc,rst,q1,q2,q3⟩:=hr.ex
  have hiaF:=fun M=>q1.ia (M:=M) q2
  rw [q3] at hiaF
  have hw2:IntKind.i64.wrap ((j:Int) + 1)=((j + 1:Nat):Int):=by rw [wrap_i64] <;> omega
  have hlt':(j:Int) < (KS.length:Int):=by omega
  have hA:=hly.lenA
  have hE:=fun M=>hly.elems (M:=M)
  have hbx:=hly.boxOf
  have hw:=a2.wr
  have hstep:ev ES (.c L33_1 (tmW b p6 rest psv KS.length j) M)=some (.code .normal (tmW b p6 rest psv KS.length (j + 1)) (M3.set b (.cells (wrC fm out2 node)))):=by
   simp only [wrC,seqR,litR,tmW,List.cons_append] at hg g6 a3 hiaF ⊢
   simp (maxSteps:=1000000) (disch:=omega) only [L33_1,EVa,EVb,oi,ou,wants,evx,evxs,evo,evparts,fillA,put,keepT,argTm,result,resAll,resOf,vO,boxF,binF,nilF,unF,lenF,callF,appF,mkIF,readsOf,boxAt,Nat.reduceEqDiff,reduceCtorEq,Nat.reduceBEq,Int.reduceToNat,Nat.reduceAdd,Nat.reduceLeDiff,Nat.reduceMul,hlt',hia,hia2,g6,hg,hiaF,hA,hE,hbx,a1,a3,a7,a8,hw,hw2]
  rw [ev_loop,hstep]
  exact he
 | @keep k nn nn' n bs bs' ns ks V vs hn hW _ ih=>
  intro j M out rest node done tk cs hd1 hd2 hj hrs hcs hb hp6 hg g6 hG hl hnn
  have hlt:j < KS.length:=by
   have:=congrArg List.length hd2
   simp at this; omega
  have hd1':NS.drop (j + 1)=ns:=by rw [← List.drop_drop,hd1]; rfl
  have hd2':KS.drop (j + 1)=ks:=by rw [← List.drop_drop,hd2]; rfl
  have hia:=fun M=>hps.ia (M:=M) hlt
  rw [Nat.mul_one,numCells,drop_map_cons hd2] at hia
  have hia2:=fun M=>(slS_is NS).ia (M:=M) (show j < NS.length by omega)
  rw [Nat.mul_one,strCells,drop_map_cons hd1] at hia2
  simp only [VCs] at hcs
  obtain ⟨a,r,rfl,hVa,hVr⟩:=hcs
  have hal:=hVa.len
  obtain ⟨rest',hsl,hrs'⟩:=slc5 (n:=vs.length) hrs hal
  have hia0:=fun M=>hrs.ia (M:=M) (i:=0) (by simp)
  simp only [Nat.zero_mul,List.drop_zero] at hia0
  have t5:=take5 (rest:=r) hal
  have b5:=ble5 (rest:=r) hal
  rw [List.length_append] at hl
  obtain ⟨out1,M2,tk1,e33,r1,r2,r3⟩:=hW b M out node done tk a hb hg hG (by omega) (by omega) hVa
  have:=r3.1
  obtain ⟨out',M',tk',tm',he,s1,s2,s3⟩:=ih (j + 1) M2 out1 rest' (node + nn) (done ++ bs) tk1 r hd1' hd2' (by omega) hrs' hVr (by omega) (by omega) r1 (by rw [r3.get hp6 hb6]; exact g6) r2 (by rw [List.length_append]; omega) (by omega)
  rw [List.append_assoc] at s2
  refine ⟨out',M',tk',tm',?_,by rw [s1,Nat.add_assoc],s2,r3.trans s3⟩
  have hw2:IntKind.i64.wrap ((j:Int) + 1)=((j + 1:Nat):Int):=by rw [wrap_i64] <;> omega
  have hlt':(j:Int) < (KS.length:Int):=by omega
  have hdn:decide (n=[])=false:=decide_eq_false hn
  have hstep:ev ES (.c L33_1 (tmW b p6 rest psv KS.length j) M)=some (.code .normal (tmW b p6 rest' psv KS.length (j + 1)) M2):=by
   simp only [seqR,tmW] at g6 ⊢
   simp (maxSteps:=1000000) (disch:=omega) only [L33_1,EVa,EVb,oi,ou,wants,evx,evxs,evo,evparts,fillA,put,keepT,argTm,result,resAll,resOf,vO,boxF,binF,nilF,unF,lenF,callF,appF,mkIF,readsOf,boxAt,Nat.reduceEqDiff,reduceCtorEq,Nat.reduceBEq,Int.reduceToNat,Nat.reduceAdd,Nat.reduceLeDiff,Nat.reduceMul,hlt',hia,hia2,g6,hdn,hia0,t5,b5,e33,hsl,hw2,natOf_zero]
  rw [ev_loop,hstep]
  exact he
theorem WSeq.len {ns:List (List Nat)} {ks:List Nat} {vs:List Val} {bs:List Nat} {nn:Nat} (h:WSeq fm ns ks vs bs nn):ns.length=ks.length:=by
 induction h with
 | nil=>rfl
 | lit _ _ _ ih=>simp [ih]
 | keep _ _ _ ih=>simp [ih]
theorem wr_seq {s:List Nat} {k nn:Nat} {NS ns:List (List Nat)} {KS:List Nat} {vs:List Val} {bs:List Nat} {psv:AV} (hr:RuleAt fm k (seqR (.str s) (slS NS) psv)) (hps:isS 1 KS.length (numCells KS) psv) (hks:KS.length < 1000) (hN:NamesOK NS ns) (hS:WSeq fm NS KS vs bs nn):Writes fm k (.rcd ns vs) bs (1 + nn):=by
 refine writes_of (nn:=nn) hr rfl (fun c hc=>fits_seq hc hps.oneA hN) fun b M M1 out node done c hw hc hl hnn=>?_
 obtain ⟨tk,hG⟩:=hw.gr
 have hb:=hw.hb
 have hnb:=hw.nb
 simp only [VC] at hc
 obtain ⟨bb,nm,p,cs,rfl,_,_,hp,hcs,_⟩:=hc
 obtain ⟨out',M',tk',tm',he,r1,r2,r3⟩:=loop33 (b:=b) (p6:=M.nb + 1) (by omega) hps hS.len hks hS 0 M1 out p (node + 1) done tk cs rfl rfl (Nat.zero_le _) hp hcs (by omega) (by omega) hw.gb hw.g6 hG hl hnn
 refine ⟨out',M',tk',tm',?_,r1,r2,r3⟩
 have g5:=hw.g5
 have g6:=hw.g6
 have hpl:=hps.len
 simp only [Int.natCast_zero,tmW] at he
 simp only [seqR] at g6
 simp (maxSteps:=1000000) (disch:=omega) only [T33_5,tm33,EVa,EVb,oi,ou,wants,evx,evxs,evo,evparts,fillA,put,keepT,argTm,result,resAll,resOf,vO,boxF,binF,nilF,unF,lenF,callF,appF,mkIF,readsOf,boxAt,Nat.reduceEqDiff,reduceCtorEq,Nat.reduceBEq,Int.reduceToNat,Nat.reduceAdd,Nat.reduceLeDiff,Nat.reduceMul,g5,g6,hpl,he,Int.reduceEq]
end
end Go.Sx
