/- A part of the proof of TopSoundsDescribed (texts Yx Yy Yz Za Zb Zc): an executor of the program's code, proved sound, and its runs. No condition. -/
import Derived.Test.YtdflipbphcmpoaaGreatDoorP16
set_option linter.unusedSimpArgs false
set_option linter.unusedVariables false
set_option maxRecDepth 100000
namespace Go.Sx
structure RdSt where
 rate:Nat
 ch:Nat
 cod:Nat
 seen:List Nat
 notes:List (Nat × List Nat × Nat)
def rdStep (i:Nat) (s:RdSt):Nat × List Nat→Option RdSt
 | (a,d)=>if a=70 then (match d with
  | [p,q,c,k]=>some { s with rate:=p * 256 + q,ch:=c,cod:=k,seen:=s.seen ++ [70] }
  | _=>none) else if a=68 then some { s with seen:=s.seen ++ [68] } else some { s with notes:=s.notes ++ [(a,d,i)] }
def rd:List (Nat × List Nat)→Nat→RdSt→Option RdSt
 | [],_,s=>some s
 | c :: r,i,s=>(rdStep i s c).bind (rd r (i + 1))
def noteCells:List (Nat × List Nat × Nat)→List AV
 | []=>[]
 | (a,d,i) :: r=>.int .u8 (a:Int) :: bsl d :: .int .i64 (i:Int) :: noteCells r
theorem noteCells_append (x y:List (Nat × List Nat × Nat)):noteCells (x ++ y)=noteCells x ++ noteCells y:=by
 induction x with
 | nil=>rfl
 | cons c r ih=>obtain ⟨a,d,i⟩:=c; simp [noteCells,ih]
def Z5:List AV:=[.int .i64 0,.int .i64 0,.int .i64 0,.nils,.nils]
def RdInv (s:RdSt) (M:Mem):Prop:=2≤M.nb∧M.get 0=some (.cells Z5)∧∃ v,M.get 1=some (.cells [.int .i64 (s.rate:Int),.int .i64 (s.ch:Int),.int .i64 (s.cod:Int),.nils,v])∧Gro 3 M v s.notes.length (noteCells s.notes)
theorem enc70:encRune (IntKind.i32.wrap ((70:Nat):Int))=[70]:=by decide
theorem enc68:encRune (IntKind.i32.wrap ((68:Nat):Int))=[68]:=by decide
theorem Gro.one {z:Nat} {M:Mem} {v:AV} {m:Nat} {cells:List AV} (h:Gro z M v m cells):v.cells=[v]∧oneA v=true:=by
 obtain ⟨_,h⟩:=h
 rcases h with ⟨_,rfl⟩ | ⟨_,k,rfl,_⟩ <;> exact ⟨rfl,rfl⟩
theorem so_r2s {E:Env} {tm:Tm} {M:Mem} {x:Opd}:stepOp E tm M (.r2s x)=o1 (fun v=>match v with | .int _ n=>some (.val (.str (encRune n)) M) | _=>none) (evx E tm x):=by
 simp only [stepOp]
 cases evx E tm x with
 | none=>rfl
 | some v=>cases v <;> rfl
def tm29 (lV:AV) (s:RdSt) (m i:Nat):Tm:=[(2,.ptr 0 0),(4,lV),(6,.ptr 1 0),(7,.str s.seen),(19,lV),(20,.int .i64 (m:Int)),(21,.int .i64 (i:Int))]
theorem round29 {cs:List (Nat × List Nat)} {i a:Nat} {d:List Nat} {s:RdSt} {M:Mem} (hn:cs.length < 100000) (hc:cs[i]?=some (a,d)) (ha:a < 256) (hd:Bytes d) (hs:s.seen.length≤i) (hno:s.notes.length≤i) (hI:RdInv s M) :
  match rdStep i s (a,d) with
  | some s'=>∃ M',ev ES (.c L29_0 (tm29 (.sl 0 0 cs.length (chunkCells cs)) s cs.length i) M)=some (.code .normal (tm29 (.sl 0 0 cs.length (chunkCells cs)) s' cs.length (i + 1)) M')∧RdInv s' M'
  | none=>∃ M',ev ES (.c L29_0 (tm29 (.sl 0 0 cs.length (chunkCells cs)) s cs.length i) M)=some (.code .ret [(2,.ptr 0 0),(3,.bool false)] M')∧M'.get 0=some (.cells Z5):=by
 obtain ⟨hnb,h0,v,h1,hg⟩:=hI
 obtain ⟨hlt,he⟩:=List.getElem?_eq_some_iff.1 hc
 have hcell:(chunkCells cs).drop (i * 2)=.int .u8 (a:Int) :: bsl d :: chunkCells (cs.drop (i + 1)):=by
  have e:cs=cs.take i ++ (a,d) :: cs.drop (i + 1):=by rw [← he,List.getElem_cons_drop,List.take_append_drop]
  have hl:(chunkCells (cs.take i)).length=i * 2:=by rw [chunkCells_len,List.length_take]; congr 1; omega
  conv=>lhs; rw [e,chunkCells_append,← hl,List.drop_left]
  rfl
 have e1:(i + 1).ble cs.length=true:=ble_true hlt
 have e2:Nat.beq (chunkCells cs).length (cs.length * 2)=true:=by rw [chunkCells_len]; exact Nat.beq_refl _
 have hw:IntKind.i64.wrap ((i:Int) + 1)=((i + 1:Nat):Int):=by rw [wrap_i64] <;> omega
 have g0:((M.new (.cells [.int .u8 0,.nils])).set M.nb (.cells [.int .u8 (a:Int),bsl d])).get 0=some (.cells Z5):=by rw [gns_lt (by omega)]; exact h0
 have g1:((M.new (.cells [.int .u8 0,.nils])).set M.nb (.cells [.int .u8 (a:Int),bsl d])).get 1=some (.cells [.int .i64 (s.rate:Int),.int .i64 (s.ch:Int),.int .i64 (s.cod:Int),.nils,v]):=by rw [gns_lt (by omega)]; exact h1
 have gnb:((M.new (.cells [.int .u8 0,.nils])).set M.nb (.cells [.int .u8 (a:Int),bsl d])).nb=M.nb + 1:=rfl
 have gtk:((M.new (.cells [.int .u8 0,.nils])).set M.nb (.cells [.int .u8 (a:Int),bsl d])).toks=M.toks:=rfl
 have gs:((M.new (.cells [.int .u8 0,.nils])).set M.nb (.cells [.int .u8 (a:Int),bsl d])).get M.nb=some (.cells [.int .u8 (a:Int),bsl d]):=gns_self
 by_cases h70:a=70
 ·subst h70
  by_cases hl:d.length=4
  ·match d,hl with
   | [p,q,c,k],_=>
    have hp:p < 256:=hd p (by simp)
    have hq:q < 256:=hd q (by simp)
    have hcc:c < 256:=hd c (by simp)
    have hk:k < 256:=hd k (by simp)
    simp only [rdStep,if_true]
    generalize hM1:((M.new (.cells [.int .u8 0,.nils])).set M.nb (.cells [.int .u8 ((70:Nat):Int),bsl [p,q,c,k]]))=M1 at g0 g1 gnb gtk gs
    have i0:=ia_bsl (M:=M1) (l:=[p,q,c,k]) (i:=0) (b:=p) rfl
    have i1:=ia_bsl (M:=M1) (l:=[p,q,c,k]) (i:=1) (b:=q) rfl
    have i2:=ia_bsl (M:=M1) (l:=[p,q,c,k]) (i:=2) (b:=c) rfl
    have i3:=ia_bsl (M:=M1) (l:=[p,q,c,k]) (i:=3) (b:=k) rfl
    have hsh:=shl8 (b:=(p:Int)) (k:=.u64) (by omega) (by omega)
    have hor:=or_bytes hp hq
    have gs2:(M1.set 1 (.cells [.int .i64 ((p * 256 + q:Nat):Int),.int .i64 (c:Int),.int .i64 (k:Int),.nils,v])).get M.nb=some (.cells [.int .u8 ((70:Nat):Int),bsl [p,q,c,k]]):=by rw [gs_ne (by omega)]; exact gs
    have hadd:=bin_sadd (x:=s.seen) (y:=[70]) (by simp; omega)
    refine ⟨M1.set 1 (.cells [.int .i64 ((p * 256 + q:Nat):Int),.int .i64 (c:Int),.int .i64 (k:Int),.nils,v]),?_,by show 2≤M1.nb; omega,by rw [gs_ne (by omega)]; exact g0,v,gs_self g1,hg.mem gtk⟩
    simp (maxSteps:=1000000) (disch:=omega) only [L29_0,tm29,EVa,EVb,oi,ou,wants,evx,evxs,evo,evparts,fillA,put,keepT,argTm,result,resAll,resOf,vO,boxF,binF,nilF,unF,lenF,callF,appF,mkIF,readsOf,boxAt,Nat.reduceEqDiff,reduceCtorEq,Nat.reduceBEq,Int.reduceToNat,Nat.reduceAdd,Nat.reduceLeDiff,Nat.reduceMul,e1,e2,hcell,hw,so_r2s,hM1,g1,gs,gs2,i0,i1,i2,i3,hsh,hor,enc70,hadd]
  ·have hst:rdStep i s (70,d)=none:=by
    simp only [rdStep,if_true]
    split
    ·simp at hl
    ·rfl
   rw [hst]
   refine ⟨((M.new (.cells [.int .u8 0,.nils])).set M.nb (.cells [.int .u8 ((70:Nat):Int),bsl d])).set 0 (.cells Z5),?_,gs_self g0⟩
   have hne:¬ (d.length:Int)=4:=by omega
   simp (maxSteps:=1000000) (disch:=omega) only [L29_0,tm29,EVa,EVb,oi,ou,wants,evx,evxs,evo,evparts,fillA,put,keepT,argTm,result,resAll,resOf,vO,boxF,binF,nilF,unF,lenF,callF,appF,mkIF,readsOf,boxAt,Nat.reduceEqDiff,reduceCtorEq,Nat.reduceBEq,Int.reduceToNat,Nat.reduceAdd,Nat.reduceLeDiff,Nat.reduceMul,e1,e2,hcell,hw,so_r2s,g0,gs,Z5,hne,ne_eq,not_false_eq_true,not_true_eq_false]
 ·by_cases h68:a=68
  ·subst h68
   simp only [rdStep,if_neg h70,if_true]
   have hadd:=bin_sadd (x:=s.seen) (y:=[68]) (by simp; omega)
   refine ⟨(M.new (.cells [.int .u8 0,.nils])).set M.nb (.cells [.int .u8 ((68:Nat):Int),bsl d]),?_,by show 2≤M.nb + 1; omega,g0,v,g1,hg.mem rfl⟩
   simp (maxSteps:=1000000) (disch:=omega) only [L29_0,tm29,EVa,EVb,oi,ou,wants,evx,evxs,evo,evparts,fillA,put,keepT,argTm,result,resAll,resOf,vO,boxF,binF,nilF,unF,lenF,callF,appF,mkIF,readsOf,boxAt,Nat.reduceEqDiff,reduceCtorEq,Nat.reduceBEq,Int.reduceToNat,Nat.reduceAdd,Nat.reduceLeDiff,Nat.reduceMul,e1,e2,hcell,hw,so_r2s,enc68,gs,hadd]
  ·simp only [rdStep,if_neg h70,if_neg h68]
   generalize hM1:((M.new (.cells [.int .u8 0,.nils])).set M.nb (.cells [.int .u8 (a:Int),bsl d]))=M1 at g0 g1 gnb gtk gs
   have hpu:purL0 [.int .u8 (a:Int),bsl d,.int .i64 (i:Int)]=some [.int .u8 (a:Int),bsl d,.int .i64 (i:Int)]:=rfl
   obtain ⟨v',M2,happ,hg',hsb⟩:=(hg.mem gtk).app (bytes:=40) (j:=1) hpu rfl (by omega) (by omega) (by omega)
   have k1:M2.get 1=some (.cells [.int .i64 (s.rate:Int),.int .i64 (s.ch:Int),.int .i64 (s.cod:Int),.nils,v]):=by rw [hsb.get]; exact g1
   refine ⟨M2.set 1 (.cells [.int .i64 (s.rate:Int),.int .i64 (s.ch:Int),.int .i64 (s.cod:Int),.nils,v']),?_,by show 2≤M2.nb; rw [hsb.2.1]; omega,by rw [gs_ne (by omega),hsb.get]; exact g0,v',gs_self k1,?_⟩
   ·simp (maxSteps:=1000000) (disch:=omega) only [L29_0,tm29,EVa,EVb,oi,ou,wants,evx,evxs,evo,evparts,fillA,put,keepT,argTm,result,resAll,resOf,vO,boxF,binF,nilF,unF,lenF,callF,appF,mkIF,readsOf,boxAt,Nat.reduceEqDiff,reduceCtorEq,Nat.reduceBEq,Int.reduceToNat,Nat.reduceAdd,Nat.reduceLeDiff,Nat.reduceMul,e1,e2,hcell,hw,hM1,g1,gs,hpu,happ,k1,hg'.one.1,hg'.one.2]
   ·rw [noteCells_append,List.length_append]
    exact hg'.mem rfl
def end29 (lV:AV) (s:RdSt) (m:Nat):Tm:=[(2,.ptr 0 0),(4,lV),(6,.ptr 1 0),(7,.str s.seen),(19,lV),(20,.int .i64 (m:Int)),(21,.int .i64 (m:Int)),(22,.bool false)]
def OkChunks (cs:List (Nat × List Nat)):Prop:=∀ c∈cs,c.1 < 256∧Bytes c.2
theorem rdStep_len {i:Nat} {s s':RdSt} {c:Nat × List Nat} (h:rdStep i s c=some s') (hs:s.seen.length≤i) (hno:s.notes.length≤i):s'.seen.length≤i + 1∧s'.notes.length≤i + 1:=by
 obtain ⟨a,d⟩:=c
 simp only [rdStep] at h
 split at h
 ·split at h
  ·cases h; simp; omega
  ·cases h
 ·split at h
  ·cases h; simp; omega
  ·cases h; simp; omega
theorem loop29 {cs:List (Nat × List Nat)} (hn:cs.length < 100000) (hok:OkChunks cs):∀ (r:List (Nat × List Nat)) (i:Nat) (s:RdSt) (M:Mem),cs.drop i=r→i≤cs.length→s.seen.length≤i→s.notes.length≤i→RdInv s M →
  match rd r i s with
  | some s'=>∃ M',ev ES (.c (.loop L29_0) (tm29 (chunksV cs) s cs.length i) M)=some (.code (.exit 0) (end29 (chunksV cs) s' cs.length) M')∧RdInv s' M'
  | none=>∃ M',ev ES (.c (.loop L29_0) (tm29 (chunksV cs) s cs.length i) M)=some (.code .ret [(2,.ptr 0 0),(3,.bool false)] M')∧M'.get 0=some (.cells Z5):=by
 intro r
 induction r with
 | nil=>
  intro i s M hr hi hs hno hI
  have hi:i=cs.length:=by
   have:=congrArg List.length hr
   simp at this
   omega
  subst hi
  refine ⟨M,?_,hI⟩
  rw [ev_loop]
  simp (maxSteps:=1000000) (disch:=omega) only [L29_0,tm29,end29,EVa,EVb,oi,ou,wants,evx,evxs,evo,evparts,fillA,put,keepT,argTm,result,resAll,resOf,vO,boxF,binF,nilF,unF,lenF,callF,appF,mkIF,readsOf,boxAt,Nat.reduceEqDiff,reduceCtorEq,Nat.reduceBEq,Int.reduceToNat,Nat.reduceAdd,Nat.reduceLeDiff,Nat.reduceMul,Int.lt_irrefl]
 | cons c r ih=>
  intro i s M hr hi hs hno hI
  have hlt:i < cs.length:=by
   have:=congrArg List.length hr
   simp at this
   omega
  have hc:cs[i]?=some c:=by
   have:=congrArg (·[0]?) hr
   simpa using this
  have hr':cs.drop (i + 1)=r:=by rw [← List.drop_drop,hr]; rfl
  have hcV:chunksV cs=.sl 0 0 cs.length (chunkCells cs):=by rw [chunksV,if_neg (by omega)]
  obtain ⟨a,d⟩:=c
  have hcc:=hok _ (List.mem_of_getElem? hc)
  have hround:=round29 hn hc hcc.1 hcc.2 hs hno hI
  rw [hcV]
  cases hst:rdStep i s (a,d) with
  | none=>
   rw [hst] at hround
   obtain ⟨M',he,h0⟩:=hround
   simp only [rd,hst,Option.bind_none]
   refine ⟨M',?_,h0⟩
   rw [ev_loop,he]
   rfl
  | some s1=>
   rw [hst] at hround
   obtain ⟨M1,he,hI1⟩:=hround
   obtain ⟨hs1,hn1⟩:=rdStep_len hst hs hno
   have hih:=ih (i + 1) s1 M1 hr' (by omega) hs1 hn1 hI1
   rw [hcV] at hih
   simp only [rd,hst,Option.bind_some]
   cases hrd:rd r (i + 1) s1 with
   | none=>
    rw [hrd] at hih
    obtain ⟨M',h2,h0⟩:=hih
    refine ⟨M',?_,h0⟩
    rw [ev_loop,he]
    exact h2
   | some s2=>
    rw [hrd] at hih
    obtain ⟨M',h2,h0⟩:=hih
    refine ⟨M',?_,h0⟩
    rw [ev_loop,he]
    exact h2
def dataD:List (Nat × List Nat)→List Nat
 | []=>[]
 | (a,d) :: r=>if a=68 then d else dataD r
theorem rd_seen:∀ (r:List (Nat × List Nat)) (i:Nat) (s s':RdSt),rd r i s=some s'→68∈s'.seen→68∈s.seen∨(firstD r).isSome=true
 | [],i,s,s',h,hm=>by cases h; exact .inl hm
 | (a,d) :: r,i,s,s',h,hm=>by
  simp only [rd,Option.bind_eq_some_iff] at h
  obtain ⟨s1,h1,h2⟩:=h
  by_cases ha:a=68
  ·exact .inr (by simp [firstD,ha])
  ·rcases rd_seen r (i + 1) s1 s' h2 hm with h | h
   ·refine .inl ?_
    simp only [rdStep,if_neg ha] at h1
    split at h1
    ·split at h1
     ·cases h1
      simp at h
      exact h
     ·cases h1
    ·cases h1; exact h
   ·refine .inr ?_
    simp only [firstD,if_neg ha,Option.isSome_map,h]
theorem firstD_data:∀ (r:List (Nat × List Nat)) (p:Nat),firstD r=some p→∃ rest,r.drop p=(68,dataD r) :: rest∧p < r.length
 | [],p,h=>by cases h
 | (a,d) :: r,p,h=>by
  simp only [firstD] at h
  split at h
  ·rename_i ha
   cases h
   subst ha
   exact ⟨r,by simp [dataD],by simp⟩
  ·rename_i ha
   simp only [Option.map_eq_some_iff] at h
   obtain ⟨q,hq,rfl⟩:=h
   obtain ⟨rest,hr,hl⟩:=firstD_data r q hq
   refine ⟨rest,?_,by simp; omega⟩
   simp only [List.drop_succ_cons,dataD,if_neg ha]
   exact hr
end Go.Sx
namespace Go.Sx
theorem rs29 {tm:Tm} {M:Mem}:stepOp ES ((83,.sl 1 0 2 [.int .i32 70,.int .i32 68]) :: tm) M (.rs2s (.t 83))=some (.val (.str [70,68]) M):=rfl
theorem pur32:purL0 [.int .i32 70,.int .i32 68]=some [.int .i32 70,.int .i32 68]:=rfl
def GoodRd (s:RdSt):Prop:=s.seen=[70,68]∧1≤s.ch∧s.ch≤2∧s.cod < 4
instance (s:RdSt):Decidable (GoodRd s):=by unfold GoodRd; exact inferInstance
theorem q29_6 {V:AV} {m:Nat} {s:RdSt} {M:Mem} (hI:RdInv s M):if GoodRd s then ev ES (.c T29_6 (end29 V s m) M)=some (.code .normal [(2,.ptr 0 0),(4,V),(6,.ptr 1 0),(103,.bool false)] M) else
  ∃ M',ev ES (.c T29_6 (end29 V s m) M)=some (.code .ret [(2,.ptr 0 0),(3,.bool false)] M')∧M'.get 0=some (.cells Z5):=by
 obtain ⟨hnb,h0,v,h1,hg⟩:=hI
 by_cases c1:s.seen=[70,68]
 ·by_cases c2:1≤s.ch
  ·by_cases c3:s.ch≤2
   ·by_cases c4:s.cod < 4
    ·rw [if_pos ⟨c1,c2,c3,c4⟩]
     simp (maxSteps:=1000000) (disch:=omega) only [T29_6,end29,EVa,EVb,oi,ou,wants,evx,evxs,evo,evparts,fillA,put,keepT,argTm,result,resAll,resOf,vO,boxF,binF,nilF,unF,lenF,callF,appF,mkIF,readsOf,boxAt,Nat.reduceEqDiff,reduceCtorEq,Nat.reduceBEq,Int.reduceToNat,Nat.reduceAdd,Nat.reduceLeDiff,Nat.reduceMul,rs29,pur32,h1,c1]
    ·rw [if_neg (fun h=>c4 h.2.2.2)]
     refine ⟨M.set 0 (.cells Z5),?_,gs_self h0⟩
     simp (maxSteps:=1000000) (disch:=omega) only [T29_6,end29,EVa,EVb,oi,ou,wants,evx,evxs,evo,evparts,fillA,put,keepT,argTm,result,resAll,resOf,vO,boxF,binF,nilF,unF,lenF,callF,appF,mkIF,readsOf,boxAt,Nat.reduceEqDiff,reduceCtorEq,Nat.reduceBEq,Int.reduceToNat,Nat.reduceAdd,Nat.reduceLeDiff,Nat.reduceMul,rs29,pur32,h1,c1,h0,Z5]
   ·rw [if_neg (fun h=>c3 h.2.2.1)]
    refine ⟨M.set 0 (.cells Z5),?_,gs_self h0⟩
    simp (maxSteps:=1000000) (disch:=omega) only [T29_6,end29,EVa,EVb,oi,ou,wants,evx,evxs,evo,evparts,fillA,put,keepT,argTm,result,resAll,resOf,vO,boxF,binF,nilF,unF,lenF,callF,appF,mkIF,readsOf,boxAt,Nat.reduceEqDiff,reduceCtorEq,Nat.reduceBEq,Int.reduceToNat,Nat.reduceAdd,Nat.reduceLeDiff,Nat.reduceMul,rs29,pur32,h1,c1,h0,Z5]
  ·rw [if_neg (fun h=>c2 h.2.1)]
   refine ⟨M.set 0 (.cells Z5),?_,gs_self h0⟩
   simp (maxSteps:=1000000) (disch:=omega) only [T29_6,end29,EVa,EVb,oi,ou,wants,evx,evxs,evo,evparts,fillA,put,keepT,argTm,result,resAll,resOf,vO,boxF,binF,nilF,unF,lenF,callF,appF,mkIF,readsOf,boxAt,Nat.reduceEqDiff,reduceCtorEq,Nat.reduceBEq,Int.reduceToNat,Nat.reduceAdd,Nat.reduceLeDiff,Nat.reduceMul,rs29,pur32,h1,c1,h0,Z5]
 ·rw [if_neg (fun h=>c1 h.1)]
  refine ⟨M.set 0 (.cells Z5),?_,gs_self h0⟩
  simp (maxSteps:=1000000) (disch:=omega) only [T29_6,end29,EVa,EVb,oi,ou,wants,evx,evxs,evo,evparts,fillA,put,keepT,argTm,result,resAll,resOf,vO,boxF,binF,nilF,unF,lenF,callF,appF,mkIF,readsOf,boxAt,Nat.reduceEqDiff,reduceCtorEq,Nat.reduceBEq,Int.reduceToNat,Nat.reduceAdd,Nat.reduceLeDiff,Nat.reduceMul,rs29,pur32,h1,c1,h0,Z5]
theorem q29_7 {X:Tm} {cs:List (Nat × List Nat)} {p:Nat} {M:Mem} (hn:cs.length < 100000) (hp:firstD cs=some p) :
  ∃ M',ev ES (.c T29_7 ((2,.ptr 0 0) :: (4,.sl 0 0 cs.length (chunkCells cs)) :: (6,.ptr 1 0) :: X) M)=some (.code .normal [(2,.ptr 0 0),(6,.ptr 1 0),(10,bsl (dataD cs))] M')∧KeepM M M':=by
 obtain ⟨M',h75,hk⟩:=ev75 (ad:=false) (M:=M) (show cs.length < 1000000 by omega) hp
 obtain ⟨rest,hr,hl⟩:=firstD_data cs p hp
 refine ⟨M',?_,hk⟩
 have hcell:(chunkCells cs).drop (p * 2)=.int .u8 ((68:Nat):Int) :: bsl (dataD cs) :: chunkCells rest:=by
  have e:cs=cs.take p ++ (68,dataD cs) :: rest:=by rw [← hr,List.take_append_drop]
  have hl:(chunkCells (cs.take p)).length=p * 2:=by rw [chunkCells_len,List.length_take]; congr 1; omega
  conv=>lhs; rw [e,chunkCells_append,← hl,List.drop_left]
  rfl
 have e1:(p + 1).ble cs.length=true:=ble_true hl
 have e2:Nat.beq (chunkCells cs).length (cs.length * 2)=true:=by rw [chunkCells_len]; exact Nat.beq_refl _
 simp (maxSteps:=1000000) (disch:=omega) only [T29_7,EVa,EVb,oi,ou,wants,evx,evxs,evo,evparts,fillA,put,keepT,argTm,result,resAll,resOf,vO,boxF,binF,nilF,unF,lenF,callF,appF,mkIF,readsOf,boxAt,Nat.reduceEqDiff,reduceCtorEq,Nat.reduceBEq,Int.reduceToNat,Nat.reduceAdd,Nat.reduceLeDiff,Nat.reduceMul,h75,e1,e2,hcell]
theorem q29_8 {s:RdSt} {d:List Nat} {v:AV} {M:Mem} (hd:d.length < 100000) (hch:1≤s.ch) (hch2:s.ch≤2) (hcod:s.cod < 4) (h0:M.get 0=some (.cells Z5)) (h1:M.get 1=some (.cells [.int .i64 (s.rate:Int),.int .i64 (s.ch:Int),.int .i64 (s.cod:Int),.nils,v])) :
  if d.length % ((s.cod % 2 + 1) * s.ch)=0 then ev ES (.c T29_8 [(2,.ptr 0 0),(6,.ptr 1 0),(10,bsl d)] M)=some (.code .normal [(2,.ptr 0 0),(6,.ptr 1 0),(10,bsl d),(121,.bool false)] M) else
  ∃ M',ev ES (.c T29_8 [(2,.ptr 0 0),(6,.ptr 1 0),(10,bsl d)] M)=some (.code .ret [(2,.ptr 0 0),(3,.bool false)] M')∧M'.get 0=some (.cells Z5):=by
 have h77:=fun M=>@ev77 false (s.rate:Int) (s.ch:Int) s.cod M (by omega)
 have hb:(s.cod % 2 + 1) * s.ch≤2 * 2:=Nat.mul_le_mul (by omega) hch2
 have hpos:0 < (s.cod % 2 + 1) * s.ch:=Nat.mul_pos (by omega) (by omega)
 have hw:IntKind.i64.wrap (((s.cod % 2 + 1:Nat):Int) * (s.ch:Int))=(((s.cod % 2 + 1) * s.ch:Nat):Int):=by
  rw [← Int.natCast_mul,wrap_i64] <;> omega
 have hrem:binA .rem (.int .i64 (d.length:Int)) (.int .i64 (((s.cod % 2 + 1) * s.ch:Nat):Int))=some (.int .i64 ((d.length % ((s.cod % 2 + 1) * s.ch):Nat):Int)):=by
  rw [bin_rem (by omega),tmod_nat]
 split
 ·rename_i h
  rw [h] at hrem
  simp (maxSteps:=1000000) (disch:=omega) only [T29_8,EVa,EVb,oi,ou,wants,evx,evxs,evo,evparts,fillA,put,keepT,argTm,result,resAll,resOf,vO,boxF,binF,nilF,unF,lenF,callF,appF,mkIF,readsOf,boxAt,Nat.reduceEqDiff,reduceCtorEq,Nat.reduceBEq,Int.reduceToNat,Nat.reduceAdd,Nat.reduceLeDiff,Nat.reduceMul,h77,h1,hw,hrem,Int.natCast_zero,ne_eq,not_true_eq_false]
 ·rename_i h
  have hne:¬ ((d.length % ((s.cod % 2 + 1) * s.ch):Nat):Int)=0:=by omega
  refine ⟨M.set 0 (.cells Z5),?_,gs_self h0⟩
  rw [show (.cells Z5:Box)=.cells [.int .i64 0,.int .i64 0,.int .i64 0,.nils,.nils] from rfl] at h0
  simp (maxSteps:=1000000) (disch:=omega) only [T29_8,EVa,EVb,oi,ou,wants,evx,evxs,evo,evparts,fillA,put,keepT,argTm,result,resAll,resOf,vO,boxF,binF,nilF,unF,lenF,callF,appF,mkIF,readsOf,boxAt,Nat.reduceEqDiff,reduceCtorEq,Nat.reduceBEq,Int.reduceToNat,Nat.reduceAdd,Nat.reduceLeDiff,Nat.reduceMul,h77,h1,h0,hw,hrem,hne,ne_eq,not_false_eq_true,Z5]
theorem cells_slV {m:Nat} {l:List AV}:(slV m l).cells=[slV m l]:=by unfold slV; split <;> rfl
theorem oneA_slV {m:Nat} {l:List AV}:oneA (slV m l)=true:=by unfold slV; split <;> rfl
theorem q29_9 {X:Tm} {s:RdSt} {d:List Nat} {v:AV} {M:Mem} (hd:Bytes d) (hdl:d.length < 100000) (hch:1≤s.ch) (hch2:s.ch≤2) (hcod:s.cod < 4) (hm:d.length % (s.cod % 2 + 1)=0) (h1:M.get 1=some (.cells [.int .i64 (s.rate:Int),.int .i64 (s.ch:Int),.int .i64 (s.cod:Int),.nils,v])) :
  ∃ m cells,cells.length=m∧isInts cells∧m≤d.length∧ev ES (.c T29_9 ((2,.ptr 0 0) :: (6,.ptr 1 0) :: (10,bsl d) :: X) M)=some (.code .normal [(2,.ptr 0 0),(6,.ptr 1 0)] (M.set 1 (.cells [.int .i64 (s.rate:Int),.int .i64 (s.ch:Int),.int .i64 (s.cod:Int),slV m cells,v]))):=by
 obtain ⟨m,cells,h78,hl,hi,hle⟩:=ev78 (ad:=false) (r:=(s.rate:Int)) (c:=s.ch) (k:=s.cod) (d:=d) (M:=M) hcod hch (by omega) hd hdl hm rfl
 refine ⟨m,cells,hl,hi,hle,?_⟩
 simp (maxSteps:=1000000) (disch:=omega) only [T29_9,EVa,EVb,oi,ou,wants,evx,evxs,evo,evparts,fillA,put,keepT,argTm,result,resAll,resOf,vO,boxF,binF,nilF,unF,lenF,callF,appF,mkIF,readsOf,boxAt,Nat.reduceEqDiff,reduceCtorEq,Nat.reduceBEq,Int.reduceToNat,Nat.reduceAdd,Nat.reduceLeDiff,Nat.reduceMul,h1,h78,cells_slV,oneA_slV]
theorem q29_10 {s:RdSt} {a v:AV} {M:Mem} (ha:a.cells=[a]∧oneA a=true) (hv:v.cells=[v]∧oneA v=true) (h0:M.get 0=some (.cells Z5)) (h1:M.get 1=some (.cells [.int .i64 (s.rate:Int),.int .i64 (s.ch:Int),.int .i64 (s.cod:Int),a,v])) :
  ev ES (.c T29_10 [(2,.ptr 0 0),(6,.ptr 1 0)] M)=some (.code .normal [(2,.ptr 0 0),(3,.bool true)] (M.set 0 (.cells [.int .i64 (s.rate:Int),.int .i64 (s.ch:Int),.int .i64 (s.cod:Int),a,v]))):=by
 rw [show (.cells Z5:Box)=.cells [.int .i64 0,.int .i64 0,.int .i64 0,.nils,.nils] from rfl] at h0
 simp (maxSteps:=1000000) (disch:=omega) only [T29_10,EVa,EVb,oi,ou,wants,evx,evxs,evo,evparts,fillA,put,keepT,argTm,result,resAll,resOf,vO,boxF,binF,nilF,unF,lenF,callF,appF,mkIF,readsOf,boxAt,Nat.reduceEqDiff,reduceCtorEq,Nat.reduceBEq,Int.reduceToNat,Nat.reduceAdd,Nat.reduceLeDiff,Nat.reduceMul,h1,h0,ha.2,hv.2]
end Go.Sx
namespace Go.Sx
def s0:RdSt:=⟨0,0,0,[],[]⟩
def fileRd (l:List Nat):Option (List (Nat × List Nat) × RdSt):=
 (fileChunks l).bind fun cs=>(rd cs 0 s0).bind fun s=>if GoodRd s∧(dataD cs).length % ((s.cod % 2 + 1) * s.ch)=0 then some (cs,s) else none
def notesV (s:RdSt):AV:=if s.notes.length=0 then .nils else .sl 0 0 s.notes.length (noteCells s.notes)
theorem chunks_ok:∀ (k:Nat) (l:List Nat) (cs:List (Nat × List Nat)),Bytes l→chunks k l=some cs→OkChunks cs∧cs.length≤l.length∧∀ c∈cs,c.2.length≤l.length
 | 0,l,cs,_,h=>by cases h
 | k + 1,l,cs,hl,h=>by
  simp only [chunks] at h
  split at h
  ·cases h
   exact ⟨fun c hc=>(nomatch hc),Nat.zero_le _,fun c hc=>(nomatch hc)⟩
  ·split at h
   ·rename_i a b c r _
    split at h
    ·rename_i hab
     simp only [Option.map_eq_some_iff] at h
     obtain ⟨cs',h,rfl⟩:=h
     have hr:Bytes r:=fun x hx=>hl x (by simp [hx])
     obtain ⟨h1,h2,h3⟩:=chunks_ok k _ cs' (hr.drop _) h
     refine ⟨fun x hx=>?_,?_,fun x hx=>?_⟩
     ·rcases List.mem_cons.1 hx with rfl | hx
      ·exact ⟨hl a (by simp),hr.take _⟩
      ·exact h1 x hx
     ·simp only [List.length_drop,List.length_cons] at h2 ⊢; omega
     ·rcases List.mem_cons.1 hx with rfl | hx
      ·simp only [List.length_take,List.length_cons]; omega
      ·have:=h3 x hx
       simp only [List.length_drop,List.length_cons] at this ⊢; omega
    ·cases h
   ·cases h
theorem fileChunks_ok {l:List Nat} {cs:List (Nat × List Nat)} (hl:Bytes l) (h:fileChunks l=some cs):OkChunks cs∧cs.length≤l.length∧∀ c∈cs,c.2.length≤l.length:=by
 unfold fileChunks at h
 split at h
 ·obtain ⟨h1,h2,h3⟩:=chunks_ok _ _ _ (hl.drop 4) h
  refine ⟨h1,?_,fun c hc=>?_⟩
  ·rw [List.length_drop] at h2; omega
  ·have:=h3 c hc
   rw [List.length_drop] at this; omega
 ·cases h
theorem dataD_ok {l:List Nat} {n:Nat}:∀ {cs:List (Nat × List Nat)},OkChunks cs→(∀ c∈cs,c.2.length≤n)→Bytes (dataD cs)∧(dataD cs).length≤n
 | [],_,_=>⟨fun b h=>(nomatch h),Nat.zero_le _⟩
 | (a,d) :: r,h1,h2=>by
  simp only [dataD]
  split
  ·exact ⟨(h1 (a,d) (List.mem_cons_self ..)).2,h2 (a,d) (List.mem_cons_self ..)⟩
  ·exact dataD_ok (l:=l) (fun c hc=>h1 c (List.mem_cons_of_mem _ hc)) fun c hc=>h2 c (List.mem_cons_of_mem _ hc)
def M29:Mem:=(Mem.zero.new (.cells Z5)).new (.cells Z5)
theorem inv29:RdInv s0 M29:=⟨Nat.le_refl _,rfl,.nils,rfl,Gro.nil⟩
theorem q29_0 {l:List Nat} (hl:Bytes l) (hn:l.length < 500000):match fileChunks l with
  | some cs=>∀ B:AC,ev ES (.c (.seq T29_0 (.seq T29_1 (.seq T29_2 (.seq T29_3 (.seq T29_4 (.seq T29_5 B)))))) (argTm 0 [bsl l]) .zero)=seqF ES B (blockF 0 (ev ES (.c (.loop L29_0) (tm29 (chunksV cs) s0 cs.length 0) M29)))
  | none=>∀ B:AC,ev ES (.c (.seq T29_0 (.seq T29_1 (.seq T29_2 (.seq T29_3 (.seq T29_4 (.seq T29_5 B)))))) (argTm 0 [bsl l]) .zero)=some (.code .ret [(2,.ptr 0 0),(3,.bool false)] ((Mem.zero.new (.cells Z5)).set 0 (.cells Z5))):=by
 have h74:=fun M=>@ev74 false l M hl hn
 have hz:(Mem.zero.new (.cells Z5)).get 0=some (.cells Z5):=rfl
 cases hc:fileChunks l with
 | none=>
  intro B
  rw [hc] at h74
  simp only [Option.isSome_none] at h74
  simp (maxSteps:=1000000) (disch:=omega) only [T29_0,T29_1,T29_2,EVa,EVb,oi,ou,wants,evx,evxs,evo,evparts,fillA,put,keepT,argTm,result,resAll,resOf,vO,boxF,binF,nilF,unF,lenF,callF,appF,mkIF,readsOf,boxAt,Nat.reduceEqDiff,reduceCtorEq,Nat.reduceBEq,Int.reduceToNat,Nat.reduceAdd,Nat.reduceLeDiff,Nat.reduceMul,h74,Z5]
 | some cs=>
  intro B
  rw [hc] at h74
  simp only [Option.isSome_some] at h74
  have hlen:lenK false (chunksV cs)=some cs.length:=by
   unfold chunksV
   split
   ·rename_i h; rw [h]; rfl
   ·rfl
  simp (maxSteps:=1000000) (disch:=omega) only [T29_0,T29_1,T29_2,T29_3,T29_4,T29_5,EVa,EVb,oi,ou,wants,evx,evxs,evo,evparts,fillA,put,keepT,argTm,result,resAll,resOf,vO,boxF,binF,nilF,unF,lenF,callF,appF,mkIF,readsOf,boxAt,Nat.reduceEqDiff,reduceCtorEq,Nat.reduceBEq,Int.reduceToNat,Nat.reduceAdd,Nat.reduceLeDiff,Nat.reduceMul,h74,hlen,tm29,M29,Z5,s0,Int.natCast_zero]
theorem ev29 {ad:Bool} {l:List Nat} {M:Mem} (hl:Bytes l) (hn:l.length < 100000):∃ v,ev ES (.f ad 29 [bsl l] M)=some (.fn v M)∧match fileRd l with
  | none=>v=.tup [.agg Z5,.bool false]
  | some (cs,s)=>∃ m cells,cells.length=m∧isInts cells∧m≤l.length∧v=.tup [.agg [.int .i64 (s.rate:Int),.int .i64 (s.ch:Int),.int .i64 (s.cod:Int),slV m cells,notesV s],.bool true]:=by
 have hp:∀ v∈[bsl l],pureV v:=fun v hv=>by
  rw [List.mem_singleton.1 hv]; exact bsl_pure l
 rw [f29 (frzVs_pure hp),b29 rfl]
 have fail:∀ {M':Mem},M'.get 0=some (.cells Z5)→ev ES (.c code29 (argTm 0 [bsl l]) .zero)=some (.code .ret [(2,.ptr 0 0),(3,.bool false)] M')→ownF ad [bsl l] M (retF ES [.cA 2 5,.t 3] (ev ES (.c code29 (argTm 0 [bsl l]) .zero)))=some (.fn (.tup [.agg Z5,.bool false]) M):=by
  intro M' h0 he
  rw [he]
  have hr:retF ES [.cA 2 5,.t 3] (some (.code .ret [(2,.ptr 0 0),(3,.bool false)] M'))=some (.fn (.tup [.agg Z5,.bool false]) M'):=by
   rw [show (.cells Z5:Box)=.cells [.int .i64 0,.int .i64 0,.int .i64 0,.nils,.nils] from rfl] at h0
   simp (maxSteps:=1000000) only [EVa,EVb,oi,ou,wants,evx,evxs,evo,evparts,fillA,put,keepT,argTm,result,resAll,resOf,vO,boxF,binF,nilF,unF,lenF,callF,appF,mkIF,readsOf,boxAt,Nat.reduceEqDiff,reduceCtorEq,Nat.reduceBEq,Int.reduceToNat,Nat.reduceAdd,Nat.reduceLeDiff,Nat.reduceMul,h0,Z5]
  rw [hr]
  exact own_done hp (adopt_frz rfl (by simp))
 have hq:=q29_0 hl (by omega)
 cases hc:fileChunks l with
 | none=>
  rw [hc] at hq
  refine ⟨_,fail (M':=(Mem.zero.new (.cells Z5)).set 0 (.cells Z5)) rfl (hq _),?_⟩
  rw [show fileRd l=none by simp only [fileRd,hc,Option.bind_none]]
 | some cs=>
  rw [hc] at hq
  obtain ⟨hok,hcl,hdl⟩:=fileChunks_ok hl hc
  have hloop:=loop29 (by omega) hok cs 0 s0 M29 rfl (Nat.zero_le _) (Nat.zero_le _) (Nat.zero_le _) inv29
  cases hrd:rd cs 0 s0 with
  | none=>
   rw [hrd] at hloop
   obtain ⟨M',he,h0⟩:=hloop
   refine ⟨_,fail h0 ((hq _).trans (by rw [he]; rfl)),?_⟩
   rw [show fileRd l=none by simp only [fileRd,hc,hrd,Option.bind_none,Option.bind_some]]
  | some s=>
   rw [hrd] at hloop
   obtain ⟨M1,he,hI⟩:=hloop
   have h6:=q29_6 (V:=chunksV cs) (m:=cs.length) hI
   have hhead:∀ B:AC,ev ES (.c (.seq T29_0 (.seq T29_1 (.seq T29_2 (.seq T29_3 (.seq T29_4 (.seq T29_5 B)))))) (argTm 0 [bsl l]) .zero)=ev ES (.c B (end29 (chunksV cs) s cs.length) M1):=fun B=>by
    rw [hq B,he]; rfl
   by_cases hg:GoodRd s
   ·rw [if_pos hg] at h6
    obtain ⟨hnb,h0,v,h1,hgro⟩:=hI
    obtain ⟨hseen,hc1,hc2,hcd⟩:=hg
    have hfd:(firstD cs).isSome=true:=by
     rcases rd_seen cs 0 s0 s hrd (by rw [hseen]; simp) with h | h
     ·cases h
     ·exact h
    obtain ⟨p,hp'⟩:=Option.isSome_iff_exists.1 hfd
    have hne:¬ cs.length=0:=by
     intro h
     rw [List.length_eq_zero_iff.1 h] at hp'
     cases hp'
    have hcV:chunksV cs=.sl 0 0 cs.length (chunkCells cs):=by rw [chunksV,if_neg hne]
    obtain ⟨hdb,hdlen⟩:=dataD_ok (l:=l) hok hdl
    obtain ⟨M2,h7,hk⟩:=q29_7 (X:=[(103,.bool false)]) (M:=M1) (show cs.length < 100000 by omega) hp'
    have g0:M2.get 0=some (.cells Z5):=by rw [hk.2.1 0 (by omega)]; exact h0
    have g1:=(hk.2.1 1 (by omega)).trans h1
    have h8:=q29_8 (d:=dataD cs) (by omega) hc1 hc2 hcd g0 g1
    by_cases hm:(dataD cs).length % ((s.cod % 2 + 1) * s.ch)=0
    ·rw [if_pos hm] at h8
     have hm':(dataD cs).length % (s.cod % 2 + 1)=0:=by
      have:=Nat.dvd_of_mod_eq_zero hm
      exact Nat.mod_eq_zero_of_dvd (Nat.dvd_trans (Nat.dvd_mul_right _ _) this)
     obtain ⟨m,cells,hcm,hci,hml,h9⟩:=q29_9 (X:=[(121,.bool false)]) hdb (by omega) hc1 hc2 hcd hm' g1
     have g3:(M2.set 1 (.cells [.int .i64 (s.rate:Int),.int .i64 (s.ch:Int),.int .i64 (s.cod:Int),slV m cells,v])).get 0=some (.cells Z5):=by rw [gs_ne (by omega)]; exact g0
     have h10:=q29_10 (a:=slV m cells) (v:=v) ⟨cells_slV,oneA_slV⟩ hgro.one g3 (gs_self g1)
     have g4:=gs_self (y:=.cells [.int .i64 (s.rate:Int),.int .i64 (s.ch:Int),.int .i64 (s.cod:Int),slV m cells,v]) g3
     generalize hM4:(M2.set 1 (.cells [.int .i64 (s.rate:Int),.int .i64 (s.ch:Int),.int .i64 (s.cod:Int),slV m cells,v])).set 0 (.cells [.int .i64 (s.rate:Int),.int .i64 (s.ch:Int),.int .i64 (s.cod:Int),slV m cells,v])=M4 at h10 g4
     refine ⟨.tup [.agg [.int .i64 (s.rate:Int),.int .i64 (s.ch:Int),.int .i64 (s.cod:Int),slV m cells,notesV s],.bool true],?_,?_⟩
     ·have hcode:retF ES [.cA 2 5,.t 3] (ev ES (.c code29 (argTm 0 [bsl l]) .zero))=some (.fn (.tup [.agg [.int .i64 (s.rate:Int),.int .i64 (s.ch:Int),.int .i64 (s.cod:Int),slV m cells,v],.bool true]) M4):=by
       rw [show code29=.seq T29_0 (.seq T29_1 (.seq T29_2 (.seq T29_3 (.seq T29_4 (.seq T29_5 (.seq T29_6 (.seq T29_7 (.seq T29_8 (.seq T29_9 (.seq T29_10 T29_11)))))))))) from rfl,hhead]
       rw [hcV] at h6 ⊢
       simp (maxSteps:=1000000) only [T29_11,EVa,EVb,oi,ou,wants,evx,evxs,evo,evparts,fillA,put,keepT,argTm,result,resAll,resOf,vO,boxF,binF,nilF,unF,lenF,callF,appF,mkIF,readsOf,boxAt,Nat.reduceEqDiff,reduceCtorEq,Nat.reduceBEq,Int.reduceToNat,Nat.reduceAdd,Nat.reduceLeDiff,Nat.reduceMul,h6,h7,h8,h9,h10,g4]
      rw [hcode]
      refine own_done hp (adopt_frz ?_ (by simp))
      have hf:=hgro.frz (M1:=M4)
      have hsl:frzC M4 (slV m cells)=some (slV m cells):=by
       refine frzC_pure ?_
       unfold slV
       split
       ·trivial
       ·exact ⟨.inl rfl,rfl⟩
      show (frzVs M4 [.agg [.int .i64 (s.rate:Int),.int .i64 (s.ch:Int),.int .i64 (s.cod:Int),slV m cells,v],.bool true]).map AV.tup=_
      have hi:∀ n:Int,frzC M4 (.int .i64 n)=some (.int .i64 n):=fun n=>rfl
      have hb:frzV M4 (.bool true)=some (.bool true):=rfl
      simp only [frzVs,frzV.eq_1,frzL,hi,hsl,hf,hb,Option.bind_some,Option.map_some,notesV]
     ·rw [show fileRd l=some (cs,s) by simp only [fileRd,hc,hrd,Option.bind_some]; rw [if_pos ⟨⟨hseen,hc1,hc2,hcd⟩,hm⟩]]
      exact ⟨m,cells,hcm,hci,by omega,rfl⟩
    ·rw [if_neg hm] at h8
     obtain ⟨M3,h8,g3⟩:=h8
     refine ⟨_,fail g3 ?_,?_⟩
     ·rw [show code29=.seq T29_0 (.seq T29_1 (.seq T29_2 (.seq T29_3 (.seq T29_4 (.seq T29_5 (.seq T29_6 (.seq T29_7 (.seq T29_8 (.seq T29_9 (.seq T29_10 T29_11)))))))))) from rfl,hhead]
      rw [hcV] at h6 ⊢
      simp (maxSteps:=1000000) only [EVa,EVb,oi,ou,wants,evx,evxs,evo,evparts,fillA,put,keepT,argTm,result,resAll,resOf,vO,boxF,binF,nilF,unF,lenF,callF,appF,mkIF,readsOf,boxAt,Nat.reduceEqDiff,reduceCtorEq,Nat.reduceBEq,Int.reduceToNat,Nat.reduceAdd,Nat.reduceLeDiff,Nat.reduceMul,h6,h7,h8]
     ·rw [show fileRd l=none by simp only [fileRd,hc,hrd,Option.bind_some]; rw [if_neg fun h=>hm h.2]]
   ·rw [if_neg hg] at h6
    obtain ⟨M2,h6,g2⟩:=h6
    refine ⟨_,fail g2 ?_,?_⟩
    ·rw [show code29=.seq T29_0 (.seq T29_1 (.seq T29_2 (.seq T29_3 (.seq T29_4 (.seq T29_5 (.seq T29_6 (.seq T29_7 (.seq T29_8 (.seq T29_9 (.seq T29_10 T29_11)))))))))) from rfl,hhead,ev_seq,h6]
     rfl
    ·rw [show fileRd l=none by simp only [fileRd,hc,hrd,Option.bind_some]; rw [if_neg fun h=>hg h.1]]
end Go.Sx
namespace Go.Sx
theorem kev {n id:Nat} {args args':List AV} {v:AV} (ho:ES.orc id args=none) (hm:ES.mode id=.own) (h:resV (evK ES n (.b id args' .zero))=some v) (hf:∀ M,frzVs M args=some args') (hp:hasMs args=false) (M:Mem):ev ES (.f false id args M)=some (.fn v M):=by
 obtain ⟨u,M1,hr,ha⟩:=resV_inv h
 rw [evK_eq] at hr
 rw [ev_own ho hm (hf M),ev_of hr]
 simp only [ownF,ha M,Option.bind_some,hp,Bool.false_and,Bool.false_eq_true,if_false]
def Pures (l:List AV):Prop:=∀ v∈l,pureC v
theorem Pures.append {a b:List AV} (ha:Pures a) (hb:Pures b):Pures (a ++ b):=fun v hv=>by
 rcases List.mem_append.1 hv with h | h
 ·exact ha v h
 ·exact hb v h
theorem Pures.one {k:IntKind} {n:Int}:Pures [.int k n]:=fun v hv=>by
 rw [List.mem_singleton.1 hv]; trivial
theorem Pures.bytes {l:List Nat}:Pures (byteCells l):=fun v hv=>by
 simp only [byteCells,List.mem_map] at hv
 obtain ⟨b,_,rfl⟩:=hv
 trivial
def nl (u:Nat):Nat:=if u < 128 then 1 else nl (u / 128) + 1
termination_by u
decreasing_by omega
theorem nl_pos (u:Nat):0 < nl u:=by
 unfold nl; split <;> omega
theorem nl_lt {u:Nat} (h:u < 128):nl u=1:=by rw [nl,if_pos h]
theorem nl_ge {u:Nat} (h:¬ u < 128):nl u=nl (u / 128) + 1:=by rw [nl,if_neg h]
theorem GroK.end {z:Nat} {M:Mem} {v:AV} {m:Nat} {cells:List AV} {tk:Option Nat} (h:GroK z M v m cells tk) (hm:0 < m):∃ k,v=.sl (k + 2) m m cells∧lookT M.toks k=Option.some (m,z):=by
 obtain ⟨_,h⟩:=h
 rcases h with ⟨rfl,_⟩ | ⟨_,k,_,_,rfl,hk⟩
 ·omega
 ·exact ⟨k,rfl,hk⟩
theorem GroK.tok {z L:Nat} {M:Mem} {cells:List AV} (hl:cells.length=L * z) (h:0 < L):GroK z (M.tok L z) (.sl (M.nt + 2) L L cells) L cells (Option.some M.nt):=
 ⟨hl,.inr ⟨h,M.nt,rfl,Nat.lt_succ_self _,rfl,by simp [Mem.tok,lookT]⟩⟩
theorem Gro.tok {z L:Nat} {M:Mem} {cells:List AV} (hl:cells.length=L * z) (h:0 < L):Gro z (M.tok L z) (.sl (M.nt + 2) L L cells) L cells:=
 ⟨hl,.inr ⟨h,M.nt,rfl,by simp [Mem.tok,lookT]⟩⟩
theorem Gro.end {z:Nat} {M:Mem} {v:AV} {m:Nat} {cells:List AV} (h:Gro z M v m cells) (hm:0 < m):∃ k,v=.sl (k + 2) m m cells∧lookT M.toks k=some (m,z):=by
 obtain ⟨_,h⟩:=h
 rcases h with ⟨rfl,_⟩ | ⟨_,k,rfl,hk⟩
 ·omega
 ·exact ⟨k,rfl,hk⟩
theorem own_grown {z:Nat} {args:List AV} {M M1:Mem} {v:AV} {m:Nat} {cells:List AV} (hp:∀ x∈args,pureV x) (h:Gro z M1 v m cells) (hm:0 < m) :
  ownF false args M (some (.fn v M1))=some (.fn (.sl 0 0 m cells) M)∧ownF true args M (some (.fn v M1))=some (.fn (.sl (M.nt + 2) m m cells) (M.tok m z)):=by
 obtain ⟨k,rfl,hk⟩:=h.end hm
 constructor
 ·simp only [ownF,adopt,Bool.false_eq_true,if_false,Option.bind_some,hasMs_pure hp,Bool.false_and]
 ·simp only [ownF,adopt,if_true,hk,Nat.beq_refl,Option.bind_some,hasMs_pure hp,Bool.false_and,Bool.false_eq_true,if_false]
theorem shr7 {u:Nat}:binA .shr (.int .u64 (u:Int)) (.int .u64 7)=some (.int .u64 ((u / 128:Nat):Int)):=by
 rw [bin_shr]
 simp only [shBin]
 have e:(2:Int) ^ (Nat.min (7:Int).toNat IntKind.u64.bits)=128:=by decide
 rw [if_neg (by decide),e,Int.fdiv_eq_ediv_of_nonneg _ (by omega)]
 rfl
theorem loop79:∀ (k u m:Nat) (out:AV) (cells:List AV) (M:Mem),u≤k→m + nl u < 1000000→Gro 1 M out m cells→Pures cells →
  ∃ (u':Nat) (out':AV) (cells':List AV) (M':Mem) (m':Nat),u' < 128∧m' + 1=m + nl u∧ev ES (.c (.loop L79_0) [(3,.int .u64 (u:Int)),(4,out)] M)=some (.code (.exit 0) [(3,.int .u64 (u':Int)),(4,out'),(13,.bool false)] M')∧Gro 1 M' out' m' cells'∧Pures cells'∧SameB M M':=by
 intro k
 induction k with
 | zero=>
  intro u m out cells M hk hm hg hp
  have:u=0:=by omega
  subst this
  rw [nl_lt (by omega)] at hm ⊢
  refine ⟨0,out,cells,M,m,by omega,rfl,?_,hg,hp,SameB.refl M⟩
  rw [ev_loop]
  simp (maxSteps:=1000000) (disch:=omega) only [L79_0,EVa,EVb,oi,ou,wants,evx,evxs,evo,evparts,fillA,put,keepT,argTm,result,resAll,resOf,vO,boxF,binF,nilF,unF,lenF,callF,appF,mkIF,readsOf,boxAt,Nat.reduceEqDiff,reduceCtorEq,Nat.reduceBEq,Int.reduceToNat,Nat.reduceAdd,Nat.reduceLeDiff,Nat.reduceMul,Int.natCast_zero]
 | succ k ih=>
  intro u m out cells M hk hm hg hp
  by_cases h:u < 128
  ·rw [nl_lt h] at hm ⊢
   refine ⟨u,out,cells,M,m,h,rfl,?_,hg,hp,SameB.refl M⟩
   rw [ev_loop]
   simp (maxSteps:=1000000) (disch:=omega) only [L79_0,EVa,EVb,oi,ou,wants,evx,evxs,evo,evparts,fillA,put,keepT,argTm,result,resAll,resOf,vO,boxF,binF,nilF,unF,lenF,callF,appF,mkIF,readsOf,boxAt,Nat.reduceEqDiff,reduceCtorEq,Nat.reduceBEq,Int.reduceToNat,Nat.reduceAdd,Nat.reduceLeDiff,Nat.reduceMul]
  ·rw [nl_ge h] at hm ⊢
   obtain ⟨x,hor⟩:∃ x,binA .or (.int .u8 (IntKind.u8.wrap (u:Int))) (.int .u8 128)=some (.int .u8 x):=⟨_,bin_or⟩
   obtain ⟨v',M1,ha,hg1,hsb⟩:=hg.app (bytes:=1) (j:=1) (ys:=[.int .u8 x]) rfl rfl (by omega) (by omega) (by omega)
   obtain ⟨u',out',cells',M',m',hu,hm',he,hg',hp',hs⟩:=ih (u / 128) (m + 1) v' _ M1 (by omega) (by omega) hg1 (hp.append Pures.one)
   refine ⟨u',out',cells',M',m',hu,by omega,?_,hg',hp',hsb.trans hs⟩
   have hpu:purL0 [.int .u8 x]=some [.int .u8 x]:=rfl
   have hstep:ev ES (.c L79_0 [(3,.int .u64 (u:Int)),(4,out)] M)=some (.code .normal [(3,.int .u64 ((u / 128:Nat):Int)),(4,v')] M1):=by
    simp (maxSteps:=1000000) (disch:=omega) only [L79_0,EVa,EVb,oi,ou,wants,evx,evxs,evo,evparts,fillA,put,keepT,argTm,result,resAll,resOf,vO,boxF,binF,nilF,unF,lenF,callF,appF,mkIF,readsOf,boxAt,Nat.reduceEqDiff,reduceCtorEq,Nat.reduceBEq,Int.reduceToNat,Nat.reduceAdd,Nat.reduceLeDiff,Nat.reduceMul,hor,ha,shr7,hpu]
   rw [ev_loop,hstep]
   exact he
theorem b79n {n:Nat} {M:Mem} (hn:n < 4611686018427387904):∃ v cells M',ev ES (.b 79 [.int .i64 (n:Int)] M)=some (.fn v M')∧Gro 1 M' v (nl (2 * n)) cells∧Pures cells:=by
 have hsh:binA .shl (.int .u64 (n:Int)) (.int .u64 1)=some (.int .u64 ((2 * n:Nat):Int)):=by
  rw [bin_shl]
  have e:(2:Int) ^ (Nat.min (1:Int).toNat IntKind.u64.bits)=2:=by decide
  simp only [shBin]
  rw [if_neg (by decide),e,wrap_u64]
  congr 2
  omega
 have hsr:binA .shr (.int .i64 (n:Int)) (.int .u64 63)=some (.int .i64 0):=by
  rw [bin_shr]
  have e:(2:Int) ^ (Nat.min (63:Int).toNat IntKind.i64.bits)=9223372036854775808:=by decide
  simp only [shBin]
  rw [if_neg (by decide),e]
  congr 2
  rw [Int.fdiv_eq_ediv_of_nonneg _ (by omega)]
  omega
 have hc:IntKind.u64.wrap (n:Int)=(n:Int):=by rw [wrap_u64]; omega
 have hc0:IntKind.u64.wrap 0=0:=by decide
 have hx:binA .xor (.int .u64 ((2 * n:Nat):Int)) (.int .u64 0)=some (.int .u64 ((2 * n:Nat):Int)):=by
  rw [bin_xor]
  have e:(BitVec.ofInt IntKind.u64.bits ((2 * n:Nat):Int) ^^^ BitVec.ofInt IntKind.u64.bits 0).toNat=2 * n:=by
   show (BitVec.ofInt 64 ((2 * n:Nat):Int) ^^^ BitVec.ofInt 64 0).toNat=_
   rw [BitVec.ofInt_natCast]
   simp
   omega
  rw [e,wrap_u64]
  congr 2
  omega
 obtain ⟨q,hq⟩:∃ q,nl (2 * n)=q:=⟨_,rfl⟩
 have hbig:nl (2 * n) < 1000:=by
  have:∀ (f u:Nat),u < 128 ^ (f + 1)→nl u≤f + 1:=by
   intro f
   induction f with
   | zero=>intro u hu; rw [nl_lt (by simpa using hu)]; exact Nat.le_refl _
   | succ f ih=>
    intro u hu
    by_cases h:u < 128
    ·rw [nl_lt h]; omega
    ·rw [nl_ge h]
     have:=ih (u / 128) (Nat.div_lt_of_lt_mul (by rw [Nat.pow_succ,Nat.mul_comm] at hu; exact hu))
     omega
  have:=this 9 (2 * n) (by omega)
  omega
 obtain ⟨u',out',cells',M1,m',hu,hm',he,hg,hp,hs⟩:=loop79 (2 * n) (2 * n) 0 .nils [] M (Nat.le_refl _) (by omega) Gro.nil (fun v h=>nomatch h)
 obtain ⟨v',M2,ha,hg2,hs2⟩:=hg.app (bytes:=1) (j:=1) (ys:=[.int .u8 (IntKind.u8.wrap (u':Int))]) rfl rfl (by omega) (by omega) (by omega)
 refine ⟨v',cells' ++ [.int .u8 (IntKind.u8.wrap (u':Int))],M2,?_,?_,hp.append Pures.one⟩
 ·rw [b79 rfl]
  have hpu:purL0 [.int .u8 (IntKind.u8.wrap (u':Int))]=some [.int .u8 (IntKind.u8.wrap (u':Int))]:=rfl
  simp (maxSteps:=1000000) (disch:=omega) only [code79,EVa,EVb,oi,ou,wants,evx,evxs,evo,evparts,fillA,put,keepT,argTm,result,resAll,resOf,vO,boxF,binF,nilF,unF,lenF,callF,appF,mkIF,readsOf,boxAt,Nat.reduceEqDiff,reduceCtorEq,Nat.reduceBEq,Int.reduceToNat,Nat.reduceAdd,Nat.reduceLeDiff,Nat.reduceMul,hc,hc0,hsh,hsr,hx,he,hpu,ha]
 ·rw [← Nat.zero_add (nl (2 * n)),← hm']
  exact hg2
theorem int_pure {k:IntKind} {n:Int}:∀ x∈[AV.int k n],pureV x:=fun x hx=>by
 rw [List.mem_singleton.1 hx]; trivial
theorem ev79 {n:Nat} (hn:n < 4611686018427387904) (M:Mem):∃ cells,cells.length=nl (2 * n)∧Pures cells∧ev ES (.f false 79 [.int .i64 (n:Int)] M)=some (.fn (.sl 0 0 (nl (2 * n)) cells) M)∧ev ES (.f true 79 [.int .i64 (n:Int)] M)=some (.fn (.sl (M.nt + 2) (nl (2 * n)) (nl (2 * n)) cells) (M.tok (nl (2 * n)) 1)):=by
 obtain ⟨v,cells,M',he,hg,hp⟩:=b79n (M:=.zero) hn
 obtain ⟨h1,h2⟩:=own_grown (M:=M) (args:=[.int .i64 (n:Int)]) int_pure hg (nl_pos _)
 refine ⟨cells,by rw [hg.1,Nat.mul_one],hp,?_,?_⟩
 ·rw [f79 (frzVs_pure int_pure),he]; exact h1
 ·rw [f79 (frzVs_pure int_pure),he]; exact h2
def isS (z n:Nat) (cells:List AV) (v:AV):Prop:=cells.length=n * z∧((n=0∧v=.nils)∨∃ t,(t=0∨t=1)∧v=.sl t 0 n cells)
theorem isS.len {z n:Nat} {cells:List AV} {v:AV} (h:isS z n cells v):lenK false v=some n:=by
 rcases h with ⟨_,⟨rfl,rfl⟩ | ⟨t,_,rfl⟩⟩ <;> rfl
theorem isS.lenA {z n:Nat} {cells:List AV} {v:AV} (h:isS z n cells v):lenA v=some n:=by
 rcases h with ⟨_,⟨rfl,rfl⟩ | ⟨t,_,rfl⟩⟩ <;> rfl
theorem isS.elems {z n:Nat} {cells:List AV} {v:AV} {M:Mem} (h:isS z n cells v):elems M z v=some cells:=by
 rcases h with ⟨hl,⟨rfl,rfl⟩ | ⟨t,_,rfl⟩⟩
 ·have:cells=[]:=List.eq_nil_of_length_eq_zero (by rw [hl,Nat.zero_mul])
  rw [this]; rfl
 ·exact elems_is hl
theorem isS.pure {z n:Nat} {cells:List AV} {v:AV} (h:isS z n cells v):pureC v:=by
 rcases h with ⟨_,⟨rfl,rfl⟩ | ⟨t,ht,rfl⟩⟩
 ·trivial
 ·exact ⟨ht,rfl⟩
theorem pureC.V {v:AV} (h:pureC v):pureV v:=by cases v <;> first | exact h | cases h
theorem isS.ia {z n:Nat} {cells:List AV} {v:AV} {M:Mem} {i:Nat} (h:isS z n cells v) (hi:i < n):iaF M z v i=some (.val (.cp (cells.drop (i * z))) M):=by
 rcases h with ⟨hl,⟨rfl,rfl⟩ | ⟨t,ht,rfl⟩⟩
 ·omega
 ·have e1:Nat.ble (i + 1) n=true:=ble_true hi
  have e2:Nat.beq cells.length (n * z)=true:=by rw [hl]; exact Nat.beq_refl _
  simp only [iaF,e1,e2,Bool.and_self,ck_true]
theorem isS.boxOf {z n:Nat} {cells:List AV} {v:AV} (h:isS z n cells v):boxOf v=[]:=by
 rcases h with ⟨_,⟨rfl,rfl⟩ | ⟨t,_,rfl⟩⟩ <;> rfl
theorem isS.cells {z n:Nat} {cells:List AV} {v:AV} (h:isS z n cells v):v.cells=[v]:=by
 rcases h with ⟨_,⟨rfl,rfl⟩ | ⟨t,_,rfl⟩⟩ <;> rfl
theorem isS.oneA {z n:Nat} {cells:List AV} {v:AV} (h:isS z n cells v):oneA v=true:=by
 rcases h with ⟨_,⟨rfl,rfl⟩ | ⟨t,_,rfl⟩⟩ <;> rfl
theorem isS_bsl {l:List Nat}:isS 1 l.length (byteCells l) (bsl l):=⟨by rw [byteCells_len,Nat.mul_one],.inr ⟨0,.inl rfl,rfl⟩⟩
theorem isS_nils {z:Nat}:isS z 0 [] .nils:=⟨by simp,.inl ⟨rfl,rfl⟩⟩
theorem isS_slV {m:Nat} {cells:List AV} (h:cells.length=m):isS 1 m cells (slV m cells):=by
 refine ⟨by rw [h,Nat.mul_one],?_⟩
 unfold slV
 split
 ·rename_i h0; exact .inl ⟨h0,rfl⟩
 ·exact .inr ⟨0,.inl rfl,rfl⟩
theorem Gro.appS {z bytes n:Nat} {M:Mem} {v w:AV} {m:Nat} {cells ys:List AV} (h:Gro z M v m cells) (hw:isS z n ys w) (hy:Pures ys) (hb:(m + n) * bytes≤140737488355328) (hb2:m + n≤140737488355328) :
  ∃ v' M',appF false M z bytes v w=some (.val v' M')∧Gro z M' v' (m + n) (cells ++ ys)∧SameB M M':=by
 have hl:=hw.1
 by_cases hn:n=0
 ·subst hn
  have:ys=[]:=List.eq_nil_of_length_eq_zero (by rw [hl,Nat.zero_mul])
  subst this
  refine ⟨v,M,?_,by simpa using h,SameB.refl M⟩
  simp only [appF,hw.lenA,hw.elems,appE]
  unfold appV
  rw [if_pos rfl]
  obtain ⟨_,h⟩:=h
  rcases h with ⟨_,rfl⟩ | ⟨_,k,rfl,_⟩ <;> rfl
 ·obtain ⟨v',M',ha,hg,hs⟩:=h.app (bytes:=bytes) (j:=n) (purL0_pure hy) hl (by omega) hb hb2
  refine ⟨v',M',?_,hg,hs⟩
  simp only [appF,hw.lenA,hw.elems,appE,ha,appG]
theorem ev83 {n:Nat} {w:AV} {ys:List AV} (hw:isS 1 n ys w) (hy:Pures ys) (hn:n < 1000000) (M:Mem):∃ cells,cells.length=nl (2 * n) + n∧Pures cells∧ev ES (.f false 83 [w] M)=some (.fn (.sl 0 0 (nl (2 * n) + n) cells) M):=by
 have hp:∀ x∈[w],pureV x:=fun x hx=>by
  rw [List.mem_singleton.1 hx]; exact hw.pure.V
 obtain ⟨c1,hl1,hp1,_,he⟩:=ev79 (n:=n) (by omega) .zero
 have hbig:nl (2 * n)≤4:=by
  by_cases h1:2 * n < 128
  ·rw [nl_lt h1]; omega
  ·rw [nl_ge h1]
   by_cases h2:2 * n / 128 < 128
   ·rw [nl_lt h2]; omega
   ·rw [nl_ge h2]
    by_cases h3:2 * n / 128 / 128 < 128
    ·rw [nl_lt h3]; omega
    ·rw [nl_ge h3,nl_lt (by omega)]; omega
 have hg:=Gro.tok (z:=1) (M:=.zero) (cells:=c1) (L:=nl (2 * n)) (by omega) (nl_pos _)
 obtain ⟨v',M2,ha,hg2,_⟩:=hg.appS (bytes:=1) hw hy (by omega) (by omega)
 refine ⟨c1 ++ ys,by rw [List.length_append,hl1,hw.1]; omega,hp1.append hy,?_⟩
 have hb:ev ES (.b 83 [w] .zero)=some (.fn v' M2):=by
  rw [b83 rfl]
  have hl:=hw.len
  simp only [appF] at ha
  simp (maxSteps:=1000000) (disch:=omega) only [code83,EVa,EVb,oi,ou,wants,evx,evxs,evo,evparts,fillA,put,keepT,argTm,result,resAll,resOf,vO,boxF,binF,nilF,unF,lenF,callF,appF,mkIF,readsOf,boxAt,Nat.reduceEqDiff,reduceCtorEq,Nat.reduceBEq,Int.reduceToNat,Nat.reduceAdd,Nat.reduceLeDiff,Nat.reduceMul,hl,he,hw.lenA,hw.elems]
  simp only [hw.lenA,hw.elems,appE] at ha
  simp (maxSteps:=1000000) (disch:=omega) only [ha,EVa,EVb,oi,ou,wants,evx,evxs,evo,evparts,fillA,put,keepT,argTm,result,resAll,resOf,vO,boxF,binF,nilF,unF,lenF,callF,appF,mkIF,readsOf,boxAt,Nat.reduceEqDiff,reduceCtorEq,Nat.reduceBEq,Int.reduceToNat,Nat.reduceAdd,Nat.reduceLeDiff,Nat.reduceMul]
 rw [f83 (frzVs_pure hp),hb]
 exact (own_grown hp hg2 (by have:=nl_pos (2 * n); omega)).1
end Go.Sx
namespace Go.Sx
inductive Val where
 | num (n:Nat)
 | byt (l:List Nat)
 | lst (ps:List Val)
 | rcd (ns:List (List Nat)) (ps:List Val)
def nameLists:List (List (List Nat)):=[
 [[114,97,116,101],[99,104,97,110,110,101,108,115],[115,97,109,112,108,101,115]],
 [[99,104,117,110,107,115]],
 [[114,97,116,101],[99,104,97,110,110,101,108,115],[99,111,100,105,110,103]],
 [[100,97,116,97]],
 [[110,97,109,101],[100,97,116,97]]]
def strCells (ns:List (List Nat)):List AV:=ns.map .str
mutual
def VC:Val→List AV→Prop
 | .num n,c=>∃ b nm p,c=[.int .i64 1,.int .i64 (n:Int),b,nm,p]∧isS 1 0 [] b∧isS 1 0 [] nm∧isS 5 0 [] p
 | .byt l,c=>∃ b nm p,c=[.int .i64 2,.int .i64 0,b,nm,p]∧isS 1 l.length (byteCells l) b∧isS 1 0 [] nm∧isS 5 0 [] p
 | .lst ps,c=>∃ b nm p cs,c=[.int .i64 3,.int .i64 0,b,nm,p]∧isS 1 0 [] b∧isS 1 0 [] nm∧isS 5 ps.length cs p∧VCs ps cs
 | .rcd ns ps,c=>∃ b nm p cs,c=[.int .i64 4,.int .i64 0,b,nm,p]∧isS 1 0 [] b∧isS 1 ns.length (strCells ns) nm∧isS 5 ps.length cs p∧VCs ps cs∧ns∈nameLists∧ns.length=ps.length
def VCs:List Val→List AV→Prop
 | [],cs=>cs=[]
 | v :: r,cs=>∃ a b,cs=a ++ b∧VC v a∧VCs r b
end
theorem VC.len {V:Val} {c:List AV} (h:VC V c):c.length=5:=by
 cases V <;> simp only [VC] at h
 ·obtain ⟨b,nm,p,rfl,_⟩:=h; rfl
 ·obtain ⟨b,nm,p,rfl,_⟩:=h; rfl
 ·obtain ⟨b,nm,p,cs,rfl,_⟩:=h; rfl
 ·obtain ⟨b,nm,p,cs,rfl,_⟩:=h; rfl
theorem VC.pure {V:Val} {c:List AV} (h:VC V c):Pures c:=by
 have five:∀ {k n:Int} {b nm p:AV},pureC b→pureC nm→pureC p→Pures [.int .i64 k,.int .i64 n,b,nm,p]:=by
  intro k n b nm p hb hn hp x hx
  simp only [List.mem_cons,List.not_mem_nil,or_false] at hx
  rcases hx with rfl | rfl | rfl | rfl | rfl <;> first | trivial | assumption
 cases V <;> simp only [VC] at h
 ·obtain ⟨b,nm,p,rfl,h1,h2,h3⟩:=h; exact five h1.pure h2.pure h3.pure
 ·obtain ⟨b,nm,p,rfl,h1,h2,h3⟩:=h; exact five h1.pure h2.pure h3.pure
 ·obtain ⟨b,nm,p,cs,rfl,h1,h2,h3,_⟩:=h; exact five h1.pure h2.pure h3.pure
 ·obtain ⟨b,nm,p,cs,rfl,h1,h2,h3,_⟩:=h; exact five h1.pure h2.pure h3.pure
theorem VC.all {V:Val} {c:List AV} (h:VC V c):c.all oneA=true:=by
 have:=h.pure
 rw [List.all_eq_true]
 intro x hx
 have:=this x hx
 cases x <;> first | rfl | cases this
theorem VCs.len:∀ {ps:List Val} {cs:List AV},VCs ps cs→cs.length=ps.length * 5
 | [],cs,h=>by simp only [VCs] at h; subst h; rfl
 | v :: r,cs,h=>by
  simp only [VCs] at h
  obtain ⟨a,b,rfl,ha,hb⟩:=h
  rw [List.length_append,ha.len,VCs.len hb,List.length_cons]; omega
theorem VCs.drop:∀ {i:Nat} {ps:List Val} {cs:List AV},VCs ps cs→VCs (ps.drop i) (cs.drop (i * 5))
 | 0,ps,cs,h=>by simpa using h
 | i + 1,[],cs,h=>by simp only [VCs] at h; subst h; simp [VCs]
 | i + 1,v :: r,cs,h=>by
  simp only [VCs] at h
  obtain ⟨a,b,rfl,ha,hb⟩:=h
  have e:(a ++ b).drop ((i + 1) * 5)=b.drop (i * 5):=by
   rw [show (i + 1) * 5=a.length + i * 5 by rw [ha.len]; omega,← List.drop_drop,List.drop_left]
  rw [e]
  exact VCs.drop hb
theorem VCs.app:∀ {ps qs:List Val} {cs ds:List AV},VCs ps cs→VCs qs ds→VCs (ps ++ qs) (cs ++ ds)
 | [],qs,cs,ds,h,h2=>by simp only [VCs] at h; subst h; exact h2
 | v :: r,qs,cs,ds,h,h2=>by
  simp only [VCs] at h
  obtain ⟨a,b,rfl,ha,hb⟩:=h
  simp only [List.cons_append,VCs]
  exact ⟨a,b ++ ds,by rw [List.append_assoc],ha,VCs.app hb h2⟩
def K4:AV:=.sl 1 0 4 [.int .i64 1,.int .i64 2,.int .i64 3,.int .i64 4]
def K1 (k:Int):AV:=.sl 1 0 1 [.int .i64 k]
def K34:AV:=.sl 1 0 2 [.int .i64 3,.int .i64 4]
theorem c4_1 (M:Mem):ev ES (.f false 70 [K4,.int .i64 1] M)=some (.fn (.bool true) M):=kev (n:=1000) (args':=[K4,.int .i64 1]) rfl rfl (by kernel_rfl) (fun M=>by kernel_rfl) rfl M
theorem c4_2 (M:Mem):ev ES (.f false 70 [K4,.int .i64 2] M)=some (.fn (.bool true) M):=kev (n:=1000) (args':=[K4,.int .i64 2]) rfl rfl (by kernel_rfl) (fun M=>by kernel_rfl) rfl M
theorem c4_3 (M:Mem):ev ES (.f false 70 [K4,.int .i64 3] M)=some (.fn (.bool true) M):=kev (n:=1000) (args':=[K4,.int .i64 3]) rfl rfl (by kernel_rfl) (fun M=>by kernel_rfl) rfl M
theorem c1_1 (M:Mem):ev ES (.f false 70 [K1 1,.int .i64 1] M)=some (.fn (.bool true) M):=kev (n:=1000) (args':=[K1 1,.int .i64 1]) rfl rfl (by kernel_rfl) (fun M=>by kernel_rfl) rfl M
theorem c2_2 (M:Mem):ev ES (.f false 70 [K1 2,.int .i64 2] M)=some (.fn (.bool true) M):=kev (n:=1000) (args':=[K1 2,.int .i64 2]) rfl rfl (by kernel_rfl) (fun M=>by kernel_rfl) rfl M
theorem c5_1 (M:Mem):ev ES (.f false 70 [K1 4,.int .i64 1] M)=some (.fn (.bool false) M):=kev (n:=1000) (args':=[K1 4,.int .i64 1]) rfl rfl (by kernel_rfl) (fun M=>by kernel_rfl) rfl M
theorem c5_2 (M:Mem):ev ES (.f false 70 [K1 4,.int .i64 2] M)=some (.fn (.bool false) M):=kev (n:=1000) (args':=[K1 4,.int .i64 2]) rfl rfl (by kernel_rfl) (fun M=>by kernel_rfl) rfl M
theorem c5_3 (M:Mem):ev ES (.f false 70 [K1 4,.int .i64 3] M)=some (.fn (.bool false) M):=kev (n:=1000) (args':=[K1 4,.int .i64 3]) rfl rfl (by kernel_rfl) (fun M=>by kernel_rfl) rfl M
theorem c34_3 (M:Mem):ev ES (.f false 70 [K34,.int .i64 3] M)=some (.fn (.bool true) M):=kev (n:=1000) (args':=[K34,.int .i64 3]) rfl rfl (by kernel_rfl) (fun M=>by kernel_rfl) rfl M
theorem hasK {s:AV} {k:Int} {r:Bool} {rest:List AV} (h:∀ M,ev ES (.f false 70 [s,.int .i64 k] M)=some (.fn (.bool r) M)) (b:Nat) (M:Mem) (hb:M.get b=some (.cells (.int .i64 k :: rest))):ev ES (.f false 196 [s,.ptr b 0] M)=some (.fn (.bool r) M):=by
 rw [f196,b196 rfl]
 simp (maxSteps:=1000000) (disch:=omega) only [code196,EVa,EVb,oi,ou,wants,evx,evxs,evo,evparts,fillA,put,keepT,argTm,result,resAll,resOf,vO,boxF,binF,nilF,unF,lenF,callF,appF,mkIF,readsOf,boxAt,Nat.reduceEqDiff,reduceCtorEq,Nat.reduceBEq,Int.reduceToNat,Nat.reduceAdd,Nat.reduceLeDiff,Nat.reduceMul,h,hb]
theorem names0 {nm:AV} (h:isS 1 0 [] nm) (M:Mem):ev ES (.f false 197 [nm,.fn 198 [] []] M)=some (.fn (.bool false) M):=by
 rcases h with ⟨_,⟨_,rfl⟩ | ⟨t,rfl | rfl,rfl⟩⟩
 ·exact ev_of (n:=1000) (by rw [← evK_eq]; kernel_rfl)
 ·exact ev_of (n:=1000) (by rw [← evK_eq]; kernel_rfl)
 ·exact ev_of (n:=1000) (by rw [← evK_eq]; kernel_rfl)
theorem loop158_0 {p nm:AV} {M:Mem}:ev ES (.c (.loop L158_1) [(1,p),(74,nm),(75,.int .i64 0),(76,.int .i64 0)] M)=some (.code (.exit 1) [(1,p),(74,nm),(75,.int .i64 0),(76,.int .i64 0),(77,.bool false)] M):=by
 rw [ev_loop]
 simp (maxSteps:=1000000) (disch:=omega) only [L158_1,EVa,EVb,oi,ou,wants,evx,evxs,evo,evparts,fillA,put,keepT,argTm,result,resAll,resOf,vO,boxF,binF,nilF,unF,lenF,callF,appF,mkIF,readsOf,boxAt,Nat.reduceEqDiff,reduceCtorEq,Nat.reduceBEq,Int.reduceToNat,Nat.reduceAdd,Nat.reduceLeDiff,Nat.reduceMul,Int.lt_irrefl]
theorem M1cells {c:List AV}:(Mem.zero.new (.cells c)).get 0=some (.cells c):=rfl
theorem sl_K4:AV.sl 1 0 4 [.int .i64 1,.int .i64 2,.int .i64 3,.int .i64 4]=K4:=rfl
theorem sl_K1 {k:Int}:AV.sl 1 0 1 [.int .i64 k]=K1 k:=rfl
theorem sl_K34:AV.sl 1 0 2 [.int .i64 3,.int .i64 4]=K34:=rfl
theorem pur_int:∀ {l:List AV},(∀ v∈l,∃ k n,v=AV.int k n)→purL0 l=some l
 | [],_=>rfl
 | v :: r,h=>by
  obtain ⟨k,n,rfl⟩:=h v (List.mem_cons_self ..)
  simp only [purL0,purC0,Option.bind_some,pur_int fun x hx=>h x (List.mem_cons_of_mem _ hx),Option.map_some]
theorem pur_K4:purL0 [.int .i64 1,.int .i64 2,.int .i64 3,.int .i64 4]=some [.int .i64 1,.int .i64 2,.int .i64 3,.int .i64 4]:=rfl
theorem pur_K1 {k:Int}:purL0 [.int .i64 k]=some [.int .i64 k]:=rfl
theorem pur_K34:purL0 [.int .i64 3,.int .i64 4]=some [.int .i64 3,.int .i64 4]:=rfl
theorem agg_pure {c:List AV} (h:Pures c):∀ x∈[AV.agg c],pureV x:=fun x hx=>by
 rw [List.mem_singleton.1 hx]; exact h
theorem ev158_num {n:Nat} {c:List AV} (h:VC (.num n) c) (M:Mem):ev ES (.f false 158 [.agg c] M)=some (.fn (.int .i64 0) M):=by
 have hp:=agg_pure h.pure
 simp only [VC] at h
 obtain ⟨b,nm,p,rfl,hb,hn,hps⟩:=h
 rw [f158 (frzVs_pure hp),b158 rfl]
 have hc:retF ES [.t 2] (ev ES (.c code158 (argTm 0 [.agg [.int .i64 1,.int .i64 (n:Int),b,nm,p]]) .zero))=some (.fn (.int .i64 0) (Mem.zero.new (.cells [.int .i64 1,.int .i64 (n:Int),b,nm,p]))):=by
  generalize (n:Int)=x at hp
  have hg:(Mem.zero.new (.cells [.int .i64 1,.int .i64 x,b,nm,p])).get 0=some (.cells [.int .i64 1,.int .i64 x,b,nm,p]):=rfl
  have a4:=hasK c4_1 0 _ hg
  have a1:=hasK c1_1 0 _ hg
  have a5:=hasK c5_1 0 _ hg
  have hN:=names0 hn
  have hb':=hb.len
  have hn':=hn.len
  have hp':=hps.len
  by_cases h0:x=0
  ·subst h0
   simp (maxSteps:=1000000) (disch:=omega) only [code158,EVa,EVb,oi,ou,wants,evx,evxs,evo,evparts,fillA,put,keepT,argTm,result,resAll,resOf,vO,boxF,binF,nilF,unF,lenF,callF,appF,mkIF,readsOf,boxAt,Nat.reduceEqDiff,reduceCtorEq,Nat.reduceBEq,Int.reduceToNat,Nat.reduceAdd,Nat.reduceLeDiff,Nat.reduceMul,hb.oneA,hn.oneA,hps.oneA,hg,a4,a1,a5,hN,hb',hn',hp',pur_K4,pur_K1,pur_K34,sl_K4,sl_K1,sl_K34,Int.natCast_zero,Int.natCast_one,loop158_0,ne_eq,not_true_eq_false,not_false_eq_true,Int.reduceLT,gt_iff_lt]
  ·simp (maxSteps:=1000000) (disch:=omega) only [code158,EVa,EVb,oi,ou,wants,evx,evxs,evo,evparts,fillA,put,keepT,argTm,result,resAll,resOf,vO,boxF,binF,nilF,unF,lenF,callF,appF,mkIF,readsOf,boxAt,Nat.reduceEqDiff,reduceCtorEq,Nat.reduceBEq,Int.reduceToNat,Nat.reduceAdd,Nat.reduceLeDiff,Nat.reduceMul,hb.oneA,hn.oneA,hps.oneA,hg,a4,a1,a5,hN,hb',hn',hp',pur_K4,pur_K1,pur_K34,sl_K4,sl_K1,sl_K34,Int.natCast_zero,Int.natCast_one,loop158_0,ne_eq,not_true_eq_false,not_false_eq_true,Int.reduceLT,gt_iff_lt,h0]
 rw [hc]
 exact own_done hp (adopt_frz rfl (by simp))
theorem ev158_byt {l:List Nat} {c:List AV} (h:VC (.byt l) c) (M:Mem):ev ES (.f false 158 [.agg c] M)=some (.fn (.int .i64 0) M):=by
 have hp:=agg_pure h.pure
 simp only [VC] at h
 obtain ⟨b,nm,p,rfl,hb,hn,hps⟩:=h
 rw [f158 (frzVs_pure hp),b158 rfl]
 have hc:retF ES [.t 2] (ev ES (.c code158 (argTm 0 [.agg [.int .i64 2,.int .i64 0,b,nm,p]]) .zero))=some (.fn (.int .i64 0) (Mem.zero.new (.cells [.int .i64 2,.int .i64 0,b,nm,p]))):=by
  have hg:(Mem.zero.new (.cells [.int .i64 2,.int .i64 0,b,nm,p])).get 0=some (.cells [.int .i64 2,.int .i64 0,b,nm,p]):=rfl
  have a4:=hasK c4_2 0 _ hg
  have a1:=hasK c2_2 0 _ hg
  have a5:=hasK c5_2 0 _ hg
  have hN:=names0 hn
  have hb':=hb.len
  have hn':=hn.len
  have hp':=hps.len
  by_cases h0:0 < l.length
  ·simp (maxSteps:=1000000) (disch:=omega) only [code158,EVa,EVb,oi,ou,wants,evx,evxs,evo,evparts,fillA,put,keepT,argTm,result,resAll,resOf,vO,boxF,binF,nilF,unF,lenF,callF,appF,mkIF,readsOf,boxAt,Nat.reduceEqDiff,reduceCtorEq,Nat.reduceBEq,Int.reduceToNat,Nat.reduceAdd,Nat.reduceLeDiff,Nat.reduceMul,hb.oneA,hn.oneA,hps.oneA,hg,a4,a1,a5,hN,hb',hn',hp',pur_K4,pur_K1,pur_K34,sl_K4,sl_K1,sl_K34,Int.natCast_zero,Int.natCast_one,loop158_0,ne_eq,not_true_eq_false,not_false_eq_true,Int.reduceLT,gt_iff_lt]
  ·simp (maxSteps:=1000000) (disch:=omega) only [code158,EVa,EVb,oi,ou,wants,evx,evxs,evo,evparts,fillA,put,keepT,argTm,result,resAll,resOf,vO,boxF,binF,nilF,unF,lenF,callF,appF,mkIF,readsOf,boxAt,Nat.reduceEqDiff,reduceCtorEq,Nat.reduceBEq,Int.reduceToNat,Nat.reduceAdd,Nat.reduceLeDiff,Nat.reduceMul,hb.oneA,hn.oneA,hps.oneA,hg,a4,a1,a5,hN,hb',hn',hp',pur_K4,pur_K1,pur_K34,sl_K4,sl_K1,sl_K34,Int.natCast_zero,Int.natCast_one,loop158_0,ne_eq,not_true_eq_false,not_false_eq_true,Int.reduceLT,gt_iff_lt]
 rw [hc]
 exact own_done hp (adopt_frz rfl (by simp))
theorem ev158_lst {ps:List Val} {c:List AV} (h:VC (.lst ps) c) (hl:ps.length≤600) (M:Mem):ev ES (.f false 158 [.agg c] M)=some (.fn (.int .i64 0) M):=by
 have hp:=agg_pure h.pure
 simp only [VC] at h
 obtain ⟨b,nm,p,cs,rfl,hb,hn,hps,_⟩:=h
 rw [f158 (frzVs_pure hp),b158 rfl]
 have hc:retF ES [.t 2] (ev ES (.c code158 (argTm 0 [.agg [.int .i64 3,.int .i64 0,b,nm,p]]) .zero))=some (.fn (.int .i64 0) (Mem.zero.new (.cells [.int .i64 3,.int .i64 0,b,nm,p]))):=by
  have hg:(Mem.zero.new (.cells [.int .i64 3,.int .i64 0,b,nm,p])).get 0=some (.cells [.int .i64 3,.int .i64 0,b,nm,p]):=rfl
  have a4:=hasK c4_3 0 _ hg
  have a1:=hasK c34_3 0 _ hg
  have a5:=hasK c5_3 0 _ hg
  have hN:=names0 hn
  have hb':=hb.len
  have hn':=hn.len
  have hp':=hps.len
  by_cases h0:0 < ps.length
  ·simp (maxSteps:=1000000) (disch:=omega) only [code158,EVa,EVb,oi,ou,wants,evx,evxs,evo,evparts,fillA,put,keepT,argTm,result,resAll,resOf,vO,boxF,binF,nilF,unF,lenF,callF,appF,mkIF,readsOf,boxAt,Nat.reduceEqDiff,reduceCtorEq,Nat.reduceBEq,Int.reduceToNat,Nat.reduceAdd,Nat.reduceLeDiff,Nat.reduceMul,hb.oneA,hn.oneA,hps.oneA,hg,a4,a1,a5,hN,hb',hn',hp',pur_K4,pur_K1,pur_K34,sl_K4,sl_K1,sl_K34,Int.natCast_zero,Int.natCast_one,loop158_0,ne_eq,not_true_eq_false,not_false_eq_true,Int.reduceLT,gt_iff_lt]
  ·simp (maxSteps:=1000000) (disch:=omega) only [code158,EVa,EVb,oi,ou,wants,evx,evxs,evo,evparts,fillA,put,keepT,argTm,result,resAll,resOf,vO,boxF,binF,nilF,unF,lenF,callF,appF,mkIF,readsOf,boxAt,Nat.reduceEqDiff,reduceCtorEq,Nat.reduceBEq,Int.reduceToNat,Nat.reduceAdd,Nat.reduceLeDiff,Nat.reduceMul,hb.oneA,hn.oneA,hps.oneA,hg,a4,a1,a5,hN,hb',hn',hp',pur_K4,pur_K1,pur_K34,sl_K4,sl_K1,sl_K34,Int.natCast_zero,Int.natCast_one,loop158_0,ne_eq,not_true_eq_false,not_false_eq_true,Int.reduceLT,gt_iff_lt]
 rw [hc]
 exact own_done hp (adopt_frz rfl (by simp))
theorem ev158_rcd {ns:List (List Nat)} {ps:List Val} {c:List AV} (h:VC (.rcd ns ps) c) (M:Mem):ev ES (.f false 158 [.agg c] M)=some (.fn (.int .i64 0) M):=by
 simp only [VC] at h
 obtain ⟨b,nm,p,cs,rfl,⟨_,hb⟩,⟨_,hn⟩,⟨_,hps⟩,_,hns,hlen⟩:=h
 rw [← hlen] at hps
 simp only [nameLists,List.mem_cons,List.not_mem_nil,or_false] at hns
 have hn:∃ t,(t=0∨t=1)∧nm=.sl t 0 ns.length (strCells ns):=by
  rcases hn with ⟨h0,_⟩ | hn
  ·rcases hns with rfl | rfl | rfl | rfl | rfl <;> cases h0
  ·exact hn
 have hps:∃ t,(t=0∨t=1)∧p=.sl t 0 ns.length cs:=by
  rcases hps with ⟨h0,_⟩ | hn
  ·rcases hns with rfl | rfl | rfl | rfl | rfl <;> cases h0
  ·exact hn
 obtain ⟨t,ht,rfl⟩:=hn
 obtain ⟨t',ht',rfl⟩:=hps
 have hb:b=.nils∨b=.sl 0 0 0 []∨b=.sl 1 0 0 []:=by
  rcases hb with ⟨_,h⟩ | ⟨t,rfl | rfl,h⟩
  ·exact .inl h
  ·exact .inr (.inl h)
  ·exact .inr (.inr h)
 rcases hns with rfl | rfl | rfl | rfl | rfl <;> rcases ht with rfl | rfl <;> rcases ht' with rfl | rfl <;> rcases hb with rfl | rfl | rfl <;>
  exact kev (n:=10000) rfl rfl (by kernel_rfl) (fun M=>rfl) rfl M
theorem ev158 {V:Val} {c:List AV} (h:VC V c) (hl:∀ ps,V=.lst ps→ps.length≤600) (M:Mem):ev ES (.f false 158 [.agg c] M)=some (.fn (.int .i64 0) M):=by
 cases V with
 | num n=>exact ev158_num h M
 | byt l=>exact ev158_byt h M
 | lst ps=>exact ev158_lst h (hl ps rfl) M
 | rcd ns ps=>exact ev158_rcd h M
end Go.Sx
namespace Go.Sx
mutual
def Val.size:Val→Nat
 | .num _ | .byt _=>1
 | .lst ps=>1 + sizes ps
 | .rcd _ ps=>1 + sizes ps
def sizes:List Val→Nat
 | []=>0
 | v :: r=>v.size + sizes r
end
mutual
def Val.lev:Val→Nat
 | .num _ | .byt _=>1
 | .lst ps=>1 + levs ps
 | .rcd _ ps=>1 + levs ps
def levs:List Val→Nat
 | []=>0
 | v :: r=>max v.lev (levs r)
end
mutual
def Val.elen:Val→Nat
 | .num n=>1 + nl (2 * n)
 | .byt l=>1 + (nl (2 * l.length) + l.length)
 | .lst ps=>1 + nl (2 * ps.length) + elens ps
 | .rcd ns ps=>1 + nl (2 * ps.length) + rlens ns ps
def elens:List Val→Nat
 | []=>0
 | v :: r=>v.elen + elens r
def rlens:List (List Nat)→List Val→Nat
 | n :: ns,v :: r=>nl (2 * n.length) + n.length + v.elen + rlens ns r
 | _,[]=>0
 | [],_ :: _=>0
end
mutual
def Val.okN:Val→Prop
 | .num n=>n < 4611686018427387904
 | .byt _=>True
 | .lst ps=>okNs ps
 | .rcd _ ps=>okNs ps
def okNs:List Val→Prop
 | []=>True
 | v :: r=>v.okN∧okNs r
end
def Val.parts:Val→List Val
 | .lst ps | .rcd _ ps=>ps
 | _=>[]
theorem VC.parts {V:Val} {c:List AV} (h:VC V c):∃ k n b nm p cs,c=[.int .i64 k,n,b,nm,p]∧isS 5 V.parts.length cs p∧VCs V.parts cs:=by
 cases V <;> simp only [VC] at h
 ·obtain ⟨b,nm,p,rfl,h1,h2,h3⟩:=h; exact ⟨_,_,_,_,_,[],rfl,h3,by simp [Val.parts,VCs]⟩
 ·obtain ⟨b,nm,p,rfl,h1,h2,h3⟩:=h; exact ⟨_,_,_,_,_,[],rfl,h3,by simp [Val.parts,VCs]⟩
 ·obtain ⟨b,nm,p,cs,rfl,h1,h2,h3,h4⟩:=h; exact ⟨_,_,_,_,_,cs,rfl,h3,h4⟩
 ·obtain ⟨b,nm,p,cs,rfl,h1,h2,h3,h4,_⟩:=h; exact ⟨_,_,_,_,_,cs,rfl,h3,h4⟩
theorem Val.size_parts (V:Val):V.size=1 + sizes V.parts:=by cases V <;> simp [Val.size,Val.parts,sizes]
theorem Val.lev_parts (V:Val):V.lev=1 + levs V.parts:=by cases V <;> simp [Val.lev,Val.parts,levs]
theorem Val.size_pos (V:Val):1≤V.size:=by rw [V.size_parts]; omega
theorem sizes_len:∀ (ps:List Val),ps.length≤sizes ps
 | []=>Nat.le_refl _
 | v :: r=>by
  have:=sizes_len r
  have:=v.size_pos
  simp only [List.length_cons,sizes]; omega
theorem VCs.at {i:Nat} {v:Val} {r ps:List Val} {cs:List AV} (h:VCs ps cs) (hd:ps.drop i=v :: r):∃ a rest,cs.drop (i * 5)=a ++ rest∧VC v a:=by
 have:=h.drop (i:=i)
 rw [hd] at this
 simp only [VCs] at this
 obtain ⟨a,b,h1,h2,_⟩:=this
 exact ⟨a,b,h1,h2⟩
def okZ:AV:=.agg [.int .i64 0,.int .i64 0]
def CheckOK (V:Val):Prop:=∀ (c:List AV),VC V c→∀ (number level:Nat),number + V.size≤600→level + V.lev≤11→∀ M,ev ES (.f false 116 [.agg c,.int .i64 (number:Int),.int .i64 (level:Int)] M)=some (.fn (.tup [.int .i64 ((number + V.size:Nat):Int),okZ]) M)
theorem take5 {a rest:List AV} (h:a.length=5):(a ++ rest).take 5=a:=by rw [← h,List.take_left]
theorem ble5 {a rest:List AV} (h:a.length=5):Nat.ble 5 (a ++ rest).length=true:=ble_true (by rw [List.length_append]; omega)
theorem okZ_eq:intsEq [.int .i64 0,.int .i64 0] [.int .i64 0,.int .i64 0]=some true:=by decide
theorem gs_new {M:Mem} {x y:Box} {b:Nat} (h:b=M.nb):((M.new x).set b y).get b=some y:=by subst h; exact gns_self
theorem KeepM.set {M M1:Mem} {b:Nat} {x:Box} (h:KeepM M M1) (hb:M.nb≤b):KeepM M (M1.set b x):=
 ⟨h.1,fun j hj=>by rw [gs_ne (by omega)]; exact h.2.1 j hj,h.2.2⟩
theorem KeepM.nw {M M1:Mem} {x:Box} (h:KeepM M M1):KeepM M (M1.new x):=h.trans (KeepM.new _ _)
theorem loop116 {ps:List Val} {cs:List AV} {p:AV} {level:Nat} (hn:ps.length < 1000000) (hp:isS 5 ps.length cs p) (hv:VCs ps cs):∀ (r:List Val) (i next:Nat) (M:Mem),ps.drop i=r→i≤ps.length→(∀ v∈r,CheckOK v)→next + sizes r≤600→level + 1 + levs r≤11 →
  ∃ M',ev ES (.c (.loop L116_0) [(2,.int .i64 (level:Int)),(7,.ptr 1 0),(9,.int .i64 (next:Int)),(31,p),(32,.int .i64 (ps.length:Int)),(33,.int .i64 (i:Int))] M)=some (.code (.exit 0) [(2,.int .i64 (level:Int)),(7,.ptr 1 0),(9,.int .i64 ((next + sizes r:Nat):Int)),(31,p),(32,.int .i64 (ps.length:Int)),(33,.int .i64 (ps.length:Int)),(34,.bool false)] M')∧KeepM M M':=by
 intro r
 induction r with
 | nil=>
  intro i next M hd hi hc hs hl
  have hi:i=ps.length:=by
   have:=congrArg List.length hd
   simp at this; omega
  subst hi
  refine ⟨M,?_,KeepM.refl M⟩
  rw [ev_loop]
  simp (maxSteps:=1000000) (disch:=omega) only [L116_0,EVa,EVb,oi,ou,wants,evx,evxs,evo,evparts,fillA,put,keepT,argTm,result,resAll,resOf,vO,boxF,binF,nilF,unF,lenF,callF,appF,mkIF,readsOf,boxAt,Nat.reduceEqDiff,reduceCtorEq,Nat.reduceBEq,Int.reduceToNat,Nat.reduceAdd,Nat.reduceLeDiff,Nat.reduceMul,Int.lt_irrefl,sizes]
 | cons v r ih=>
  intro i next M hd hi hc hs hl
  have hlt:i < ps.length:=by
   have:=congrArg List.length hd
   simp at this; omega
  have hd':ps.drop (i + 1)=r:=by rw [← List.drop_drop,hd]; rfl
  obtain ⟨a,rest,hdr,hva⟩:=hv.at hd
  have hia:=fun M=>hp.ia (M:=M) hlt
  rw [hdr] at hia
  have ht5:=take5 (rest:=rest) hva.len
  have hb5:=ble5 (rest:=rest) hva.len
  have hal:=hva.len
  have hall:=hva.all
  have ht:a.take 5=a:=List.take_of_length_le (by omega)
  simp only [sizes,levs] at hs hl ⊢
  have hpos:=v.size_pos
  have hsl:=sizes_len ps
  have hcall:=hc v (List.mem_cons_self ..) a hva next (level + 1) (by omega) (by omega)
  have hw1:IntKind.i64.wrap ((level:Int) + 1)=((level + 1:Nat):Int):=by rw [wrap_i64] <;> omega
  have hsz:sizes r≤600:=by omega
  have hw2:IntKind.i64.wrap ((i:Int) + 1)=((i + 1:Nat):Int):=by rw [wrap_i64] <;> omega
  have hn1:M.nb + 1≠M.nb:=by omega
  have hg1:((M.new (.cells [.int .i64 0,.int .i64 0,.nils,.nils,.nils])).set M.nb (.cells a)).get M.nb=some (.cells a):=gns_self
  generalize hM1:((M.new (.cells [.int .i64 0,.int .i64 0,.nils,.nils,.nils])).set M.nb (.cells a))=M1 at hg1
  have hg2:(M1.new (.cells [.int .i64 0,.int .i64 0])).get M.nb=some (.cells a):=by
   rw [gn_lt (by rw [← hM1]; exact Nat.lt_succ_self _)]; exact hg1
  have hk:KeepM M ((M1.new (.cells [.int .i64 0,.int .i64 0])).set M1.nb (.cells [.int .i64 0,.int .i64 0])):=by
   rw [← hM1]
   exact (((KeepM.new M _).set (Nat.le_refl _)).nw).set (Nat.le_succ _)
  obtain ⟨M',he,hk'⟩:=ih (i + 1) (next + v.size) _ hd' (by omega) (fun x hx=>hc x (List.mem_cons_of_mem _ hx)) (by omega) (by omega)
  refine ⟨M',?_,hk.trans hk'⟩
  have hstep:ev ES (.c L116_0 [(2,.int .i64 (level:Int)),(7,.ptr 1 0),(9,.int .i64 (next:Int)),(31,p),(32,.int .i64 (ps.length:Int)),(33,.int .i64 (i:Int))] M)=some (.code .normal [(2,.int .i64 (level:Int)),(7,.ptr 1 0),(9,.int .i64 ((next + v.size:Nat):Int)),(31,p),(32,.int .i64 (ps.length:Int)),(33,.int .i64 ((i + 1:Nat):Int))] ((M1.new (.cells [.int .i64 0,.int .i64 0])).set M1.nb (.cells [.int .i64 0,.int .i64 0]))):=by
   simp (maxSteps:=1000000) (disch:=omega) only [L116_0,EVa,EVb,oi,ou,wants,evx,evxs,evo,evparts,fillA,put,keepT,argTm,result,resAll,resOf,vO,boxF,binF,nilF,unF,lenF,callF,appF,mkIF,readsOf,boxAt,Nat.reduceEqDiff,reduceCtorEq,Nat.reduceBEq,Int.reduceToNat,Nat.reduceAdd,Nat.reduceLeDiff,Nat.reduceMul,hia,ht5,hb5,hal,hall,ht,hw1,hw2,hM1,hg2,hcall,okZ,okZ_eq]
  rw [ev_loop,hstep]
  show ev ES (.c (.loop L116_0) _ _)=_
  rw [he,Nat.add_assoc]
theorem okNs_mem {ps:List Val} (h:okNs ps):∀ v∈ps,v.okN:=by
 induction ps with
 | nil=>intro v hv; cases hv
 | cons a r ih=>
  simp only [okNs] at h
  intro v hv
  rcases List.mem_cons.1 hv with rfl | hv
  ·exact h.1
  ·exact ih h.2 v hv
theorem check_step {V:Val} (ih:∀ v∈V.parts,CheckOK v):CheckOK V:=by
 intro c hV number level hs hl M
 have hpu:=hV.pure
 have hp:∀ x∈[AV.agg c,.int .i64 (number:Int),.int .i64 (level:Int)],pureV x:=by
  intro x hx
  simp only [List.mem_cons,List.not_mem_nil,or_false] at hx
  rcases hx with rfl | rfl | rfl
  ·exact hpu
  ·trivial
  ·trivial
 rw [f116 (frzVs_pure hp),b116 rfl]
 have hsp:=V.size_parts
 have hlp:=V.lev_parts
 have hsl:=sizes_len V.parts
 have h158:=ev158 hV (by
  intro ps h
  rw [h] at hsl hsp hs
  simp only [Val.parts] at hsl hsp
  omega)
 have hall:=hV.all
 have hlen:=hV.len
 obtain ⟨k,n,b,nm,p,cs,rfl,hps,hvs⟩:=hV.parts
 have hw1:IntKind.i64.wrap ((number:Int) + 1)=((number + 1:Nat):Int):=by rw [wrap_i64] <;> omega
 obtain ⟨M',he,hk⟩:=loop116 (level:=level) (by omega) hps hvs V.parts 0 (number + 1) ((Mem.zero.new (.cells [.int .i64 k,n,b,nm,p])).new (.cells [.int .i64 0,.int .i64 0])) rfl (Nat.zero_le _) ih (by omega) (by omega)
 have h0:=(hk.2.1 0 (by show 0 < 2; omega))
 have h1:=(hk.2.1 1 (by show 1 < 2; omega))
 have h1:M'.get 1=some (.cells [.int .i64 0,.int .i64 0]):=h1
 have hg0:((Mem.zero.new (.cells [.int .i64 k,n,b,nm,p])).new (.cells [.int .i64 0,.int .i64 0])).get 0=some (.cells [.int .i64 k,n,b,nm,p]):=rfl
 have hg1:(M'.set 1 (.cells [.int .i64 0,.int .i64 0])).get 1=some (.cells [.int .i64 0,.int .i64 0]):=gs_self h1
 have hpl:=hps.len
 simp only [List.all_cons,List.all_nil,Bool.and_eq_true] at hall
 obtain ⟨ha1,ha2,ha3,ha4,ha5,_⟩:=hall
 simp only [Int.natCast_zero] at he
 have hc:retF ES [.t 6,.cA 7 2] (ev ES (.c code116 (argTm 0 [.agg [.int .i64 k,n,b,nm,p],.int .i64 (number:Int),.int .i64 (level:Int)]) .zero))=some (.fn (.tup [.int .i64 ((number + 1 + sizes V.parts:Nat):Int),okZ]) (M'.set 1 (.cells [.int .i64 0,.int .i64 0]))):=by
  simp (maxSteps:=1000000) (disch:=omega) only [code116,EVa,EVb,oi,ou,wants,evx,evxs,evo,evparts,fillA,put,keepT,argTm,result,resAll,resOf,vO,boxF,binF,nilF,unF,lenF,callF,appF,mkIF,readsOf,boxAt,Nat.reduceEqDiff,reduceCtorEq,Nat.reduceBEq,Int.reduceToNat,Nat.reduceAdd,Nat.reduceLeDiff,Nat.reduceMul,ha2,ha3,ha4,ha5,hg0,h158,hw1,hpl,he,h1,hg1,okZ,ne_eq,not_true_eq_false]
 rw [hc,show number + V.size=number + 1 + sizes V.parts by omega]
 exact own_done hp (adopt_frz rfl (by simp))
theorem parts_lt {V v:Val} (h:v∈V.parts):SizeOf.sizeOf v < SizeOf.sizeOf V:=by
 cases V with
 | num=>cases h
 | byt=>cases h
 | lst ps=>
  have:=List.sizeOf_lt_of_mem (show v∈ps from h)
  simp only [Val.lst.sizeOf_spec]; omega
 | rcd ns ps=>
  have:=List.sizeOf_lt_of_mem (show v∈ps from h)
  simp only [Val.rcd.sizeOf_spec]; omega
theorem Val.ind {p:Val→Prop} (h:∀ V,(∀ v∈V.parts,p v)→p V):∀ (n:Nat) (V:Val),SizeOf.sizeOf V < n→p V
 | 0,V,hV=>absurd hV (by omega)
 | n + 1,V,hV=>h V fun v hv=>Val.ind h n v (by have:=parts_lt hv; omega)
theorem check_ok (V:Val):CheckOK V:=Val.ind (fun _=>check_step) _ V (Nat.lt_succ_self _)
end Go.Sx
