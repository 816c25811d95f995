/- A part of the proof of TopSoundsDescribed (texts Zg Zh Zi Zj Zk): an executor of the program's code, proved sound, and its runs. No condition. -/
import Derived.Test.YtdflipbphcmpoaaGreatDoorP18
set_option linter.unusedSimpArgs false
set_option linter.unusedVariables false
set_option maxRecDepth 100000
namespace Go.Sx
theorem b23 {args:List AV} {M:Mem} (h:args.length=2):ev ES (.b 23 args M)=retF ES [.cA 4 5] (ev ES (.c code23 (argTm 0 args) M)):=ev_body (show tab.get 23=some ⟨2,code23,[.cA 4 5]⟩ by kernel_rfl) h
theorem f23 {ad:Bool} {args:List AV} {M:Mem}:ev ES (.f ad 23 args M)=ev ES (.b 23 args M):=ev_shared rfl rfl
theorem b60 {args:List AV} {M:Mem} (h:args.length=2):ev ES (.b 60 args M)=retF ES [] (ev ES (.c code60 (argTm 0 args) M)):=ev_body (show tab.get 60=some ⟨2,code60,[]⟩ by kernel_rfl) h
theorem f60 {ad:Bool} {args:List AV} {M:Mem}:ev ES (.f ad 60 args M)=ev ES (.b 60 args M):=ev_shared rfl rfl
theorem b61 {args:List AV} {M:Mem} (h:args.length=1):ev ES (.b 61 args M)=retF ES [.cA 2 5] (ev ES (.c code61 (argTm 0 args) M)):=ev_body (show tab.get 61=some ⟨1,code61,[.cA 2 5]⟩ by kernel_rfl) h
theorem f61 {ad:Bool} {args xs:List AV} {M:Mem} (h:frzVs M args=some xs):ev ES (.f ad 61 args M)=ownF ad args M (ev ES (.b 61 xs .zero)):=ev_own rfl rfl h
theorem b62 {args:List AV} {M:Mem} (h:args.length=1):ev ES (.b 62 args M)=retF ES [.cA 2 5] (ev ES (.c code62 (argTm 0 args) M)):=ev_body (show tab.get 62=some ⟨1,code62,[.cA 2 5]⟩ by kernel_rfl) h
theorem f62 {ad:Bool} {args xs:List AV} {M:Mem} (h:frzVs M args=some xs):ev ES (.f ad 62 args M)=ownF ad args M (ev ES (.b 62 xs .zero)):=ev_own rfl rfl h
theorem b63 {args:List AV} {M:Mem} (h:args.length=2):ev ES (.b 63 args M)=retF ES [.t 4] (ev ES (.c code63 (argTm 0 args) M)):=ev_body (show tab.get 63=some ⟨2,code63,[.t 4]⟩ by kernel_rfl) h
theorem f63 {ad:Bool} {args:List AV} {M:Mem}:ev ES (.f ad 63 args M)=ev ES (.b 63 args M):=ev_shared rfl rfl
theorem b64 {args:List AV} {M:Mem} (h:args.length=1):ev ES (.b 64 args M)=retF ES [.cA 2 5] (ev ES (.c code64 (argTm 0 args) M)):=ev_body (show tab.get 64=some ⟨1,code64,[.cA 2 5]⟩ by kernel_rfl) h
theorem f64 {ad:Bool} {args xs:List AV} {M:Mem} (h:frzVs M args=some xs):ev ES (.f ad 64 args M)=ownF ad args M (ev ES (.b 64 xs .zero)):=ev_own rfl rfl h
theorem b65 {args:List AV} {M:Mem} (h:args.length=2):ev ES (.b 65 args M)=retF ES [.t 4] (ev ES (.c code65 (argTm 0 args) M)):=ev_body (show tab.get 65=some ⟨2,code65,[.t 4]⟩ by kernel_rfl) h
theorem f65 {ad:Bool} {args:List AV} {M:Mem}:ev ES (.f ad 65 args M)=ev ES (.b 65 args M):=ev_shared rfl rfl
theorem b67 {args:List AV} {M:Mem} (h:args.length=1):ev ES (.b 67 args M)=retF ES [.t 2] (ev ES (.c code67 (argTm 0 args) M)):=ev_body (show tab.get 67=some ⟨1,code67,[.t 2]⟩ by kernel_rfl) h
theorem f67 {ad:Bool} {args:List AV} {M:Mem}:ev ES (.f ad 67 args M)=ev ES (.b 67 args M):=ev_shared rfl rfl
theorem b68 {args:List AV} {M:Mem} (h:args.length=2):ev ES (.b 68 args M)=retF ES [.t 4] (ev ES (.c code68 (argTm 0 args) M)):=ev_body (show tab.get 68=some ⟨2,code68,[.t 4]⟩ by kernel_rfl) h
theorem f68 {ad:Bool} {args:List AV} {M:Mem}:ev ES (.f ad 68 args M)=ev ES (.b 68 args M):=ev_shared rfl rfl
theorem b69 {args:List AV} {M:Mem} (h:args.length=3):ev ES (.b 69 args M)=retF ES [.t 4] (ev ES (.c code69 (argTm 0 args) M)):=ev_body (show tab.get 69=some ⟨3,code69,[.t 4]⟩ by kernel_rfl) h
theorem f69 {ad:Bool} {args:List AV} {M:Mem}:ev ES (.f ad 69 args M)=ev ES (.b 69 args M):=ev_shared rfl rfl
end Go.Sx
namespace Go.Sx
def Fr (b:Nat) (M M':Mem):Prop:=M.nb≤M'.nb∧(∀ j,j < M.nb→j≠b→M'.get j=M.get j)∧M.nt≤M'.nt∧(∀ k,k < M.nt→lookT M'.toks k=lookT M.toks k)∧∃ w,M'.log=w ++ M.log∧M'.nl=M.nl + w.length∧∀ x∈w,x=b∨M.nb≤x
theorem Fr.refl (b:Nat) (M:Mem):Fr b M M:=⟨Nat.le_refl _,fun _ _ _=>rfl,Nat.le_refl _,fun _ _=>rfl,[],rfl,rfl,fun _ h=>nomatch h⟩
theorem Fr.trans {b:Nat} {M M1 M2:Mem} (h:Fr b M M1) (k:Fr b M1 M2):Fr b M M2:=by
 obtain ⟨h1,h2,h3,h4,w,h5,h6,h7⟩:=h
 obtain ⟨k1,k2,k3,k4,w2,k5,k6,k7⟩:=k
 refine ⟨Nat.le_trans h1 k1,fun j hj hb=>(k2 j (Nat.lt_of_lt_of_le hj h1) hb).trans (h2 j hj hb),Nat.le_trans h3 k3,fun j hj=>(k4 j (Nat.lt_of_lt_of_le hj h3)).trans (h4 j hj),w2 ++ w,by rw [k5,h5,List.append_assoc],by rw [k6,h6,List.length_append]; omega,fun x hx=>?_⟩
 rcases List.mem_append.1 hx with hx | hx
 ·rcases k7 x hx with h | h
  ·exact .inl h
  ·exact .inr (Nat.le_trans h1 h)
 ·exact h7 x hx
theorem Fr.new {b:Nat} {M M1:Mem} {x:Box} (h:Fr b M M1):Fr b M (M1.new x):=
 ⟨Nat.le_succ_of_le h.1,fun j hj hb=>by rw [gn_lt (Nat.lt_of_lt_of_le hj h.1)]; exact h.2.1 j hj hb,h.2.2⟩
theorem Fr.set {b c:Nat} {M M1:Mem} {x:Box} (h:Fr b M M1) (hc:c=b∨M.nb≤c):Fr b M (M1.set c x):=by
 obtain ⟨h1,h2,h3,h4,w,h5,h6,h7⟩:=h
 refine ⟨h1,fun j hj hb=>by rw [gs_ne (by rcases hc with rfl | hc; exact fun e=>hb e.symm; omega)]; exact h2 j hj hb,h3,h4,c :: w,by show c :: M1.log=_; rw [h5]; rfl,by show M1.nl + 1=_; rw [h6]; simp; omega,fun y hy=>?_⟩
 rcases List.mem_cons.1 hy with rfl | hy
 ·exact hc
 ·exact h7 y hy
theorem hasT_notin {l:List Nat} {a:Nat} (h:a ∉ l):hasT l a=false:=by
 induction l with
 | nil=>rfl
 | cons x r ih=>
  simp only [List.mem_cons,not_or] at h
  simp only [hasT,beq_ne (fun e=>h.1 e.symm),Bool.false_eq_true,if_false]
  exact ih h.2
theorem Fr.apart {b a:Nat} {M M':Mem} (h:Fr b M M') (hb:a≠b) (ha:a < M.nb):apartL [a] (wrOf M M')=true:=by
 obtain ⟨h1,_,_,_,w,h5,h6,h7⟩:=h
 have hm:a ∉ wrOf M M':=by
  unfold wrOf
  rw [h5,h6,Nat.add_sub_cancel_left,List.take_left]
  intro hm
  rcases List.mem_append.1 hm with hm | hm
  ·rcases h7 a hm with h | h
   ·exact hb h
   ·omega
  ·rw [List.mem_range'] at hm
   obtain ⟨i,_,hi⟩:=hm
   omega
 simp only [apartL,hasT_notin hm,Bool.not_false,Bool.and_self]
theorem Fr.get {b j:Nat} {M M':Mem} (h:Fr b M M') (hj:j < M.nb) (hb:j≠b):M'.get j=M.get j:=h.2.1 j hj hb
theorem Fr.grok {b z:Nat} {M M':Mem} {v:AV} {m:Nat} {cells:List AV} {tk:Option Nat} (h:Fr b M M') (hg:GroK z M v m cells tk):GroK z M' v m cells tk:=by
 obtain ⟨hc,hg⟩:=hg
 rcases hg with hg | ⟨hm,k,hk,hkn,h2,hl⟩
 ·exact ⟨hc,.inl hg⟩
 ·exact ⟨hc,.inr ⟨hm,k,hk,Nat.lt_of_lt_of_le hkn h.2.2.1,h2,by rw [h.2.2.2.1 k hkn]; exact hl⟩⟩
def rdC (fm fs:AV) (d:List Nat) (i:Nat):List AV:=[fm,fs,bsl d,.int .i64 (i:Int)]
section
variable {fm fs:AV} {d:List Nat} {i b:Nat} {M:Mem} {ad:Bool}
theorem ev67 {c:Nat} (hg:M.get b=some (.cells (rdC fm fs d i))) (hc:d[i]?=some c) (hd:d.length < 1000000):ev ES (.f ad 67 [.ptr b 0] M)=some (.fn (.int .u8 (c:Int)) M):=by
 have hlt:=(List.getElem?_eq_some_iff.1 hc).1
 rw [f67,b67 rfl]
 simp only [rdC] at hg
 have hia:=ia_bsl (M:=M) hc
 have hne:¬ (i:Int)=(d.length:Int):=by omega
 simp (maxSteps:=1000000) (disch:=omega) only [code67,EVa,EVb,oi,ou,wants,evx,evxs,evo,evparts,fillA,put,keepT,argTm,result,resAll,resOf,vO,boxF,binF,nilF,unF,lenF,callF,appF,mkIF,readsOf,boxAt,Nat.reduceEqDiff,reduceCtorEq,Nat.reduceBEq,Int.reduceToNat,Nat.reduceAdd,Nat.reduceLeDiff,Nat.reduceMul,hg,hia,hne]
theorem ev65 {n:Nat} (hg:M.get b=some (.cells (rdC fm fs d i))) (hn:i + n≤d.length) (hd:d.length < 1000000):ev ES (.f ad 65 [.ptr b 0,.int .i64 (n:Int)] M)=some (.fn (bsl ((d.drop i).take n)) (M.set b (.cells (rdC fm fs d (i + n))))):=by
 rw [f65,b65 rfl]
 simp only [rdC] at hg ⊢
 have hw:IntKind.i64.wrap ((d.length:Int) - (i:Int))=(d.length:Int) - (i:Int):=by rw [wrap_i64] <;> omega
 have hw2:IntKind.i64.wrap ((i:Int) + (n:Int))=((i + n:Nat):Int):=by rw [wrap_i64] <;> omega
 have hs:=slc_bsl (l:=d) (lo:=(i:Int)) (hi:=((i + n:Nat):Int)) (by omega) (by omega) (by omega)
 have e:cutF d (i:Int).toNat ((i + n:Nat):Int).toNat=bsl ((d.drop i).take n):=by
  rw [cutF]; congr 2; omega
 rw [e] at hs
 simp (maxSteps:=1000000) (disch:=omega) only [code65,EVa,EVb,oi,ou,wants,evx,evxs,evo,evparts,fillA,put,keepT,argTm,result,resAll,resOf,vO,boxF,binF,nilF,unF,lenF,callF,appF,mkIF,readsOf,boxAt,Nat.reduceEqDiff,reduceCtorEq,Nat.reduceBEq,Int.reduceToNat,Nat.reduceAdd,Nat.reduceLeDiff,Nat.reduceMul,hg,hw,hw2,hs]
theorem loop60 {l:List Nat} {p:AV} (hp:isS 1 l.length (byteCells l) p) (hl:Bytes l) (hd:d.length < 1000000) (hb:b < M.nb) (hll:l.length < 1000000):∀ (r:List Nat) (j:Nat) (M1:Mem),l.drop j=r→j≤l.length→M1.get b=some (.cells (rdC fm fs d (i + j)))→Fr b M M1→(∀ q x,r[q]?=some x→d[i + j + q]?=some x) →
  ∃ M2,ev ES (.c (.loop L60_0) [(0,.ptr b 0),(6,p),(7,.int .i64 (l.length:Int)),(8,.int .i64 (j:Int))] M1)=some (.code (.exit 0) [(0,.ptr b 0),(6,p),(7,.int .i64 (l.length:Int)),(8,.int .i64 (l.length:Int)),(9,.bool false)] M2)∧M2.get b=some (.cells (rdC fm fs d (i + l.length)))∧Fr b M M2:=by
 intro r
 induction r with
 | nil=>
  intro j M1 hr hj hg hf hq
  have hj:j=l.length:=by
   have:=congrArg List.length hr
   simp at this; omega
  subst hj
  refine ⟨M1,?_,hg,hf⟩
  rw [ev_loop]
  simp (maxSteps:=1000000) (disch:=omega) only [L60_0,EVa,EVb,oi,ou,wants,evx,evxs,evo,evparts,fillA,put,keepT,argTm,result,resAll,resOf,vO,boxF,binF,nilF,unF,lenF,callF,appF,mkIF,readsOf,boxAt,Nat.reduceEqDiff,reduceCtorEq,Nat.reduceBEq,Int.reduceToNat,Nat.reduceAdd,Nat.reduceLeDiff,Nat.reduceMul,Int.lt_irrefl]
 | cons x r ih=>
  intro j M1 hr hj hg hf hq
  have hlt:j < l.length:=by
   have:=congrArg List.length hr
   simp at this; omega
  have hr':l.drop (j + 1)=r:=by rw [← List.drop_drop,hr]; rfl
  have hx:=hq 0 x rfl
  rw [Nat.add_zero] at hx
  have hlt2:=(List.getElem?_eq_some_iff.1 hx).1
  have h67:=ev67 (ad:=false) hg hx hd
  have hia:=fun M=>hp.ia (M:=M) hlt
  rw [Nat.mul_one,byteCells_drop,hr,byteCells_cons] at hia
  have hw:IntKind.i64.wrap (((i + j:Nat):Int) + 1)=((i + (j + 1):Nat):Int):=by rw [wrap_i64] <;> omega
  have hw2:IntKind.i64.wrap ((j:Int) + 1)=((j + 1:Nat):Int):=by rw [wrap_i64] <;> omega
  obtain ⟨M2,he,hg2,hf2⟩:=ih (j + 1) (M1.set b (.cells (rdC fm fs d (i + (j + 1))))) hr' (by omega) (gs_self hg) (hf.set (.inl rfl)) (fun q y h=>by rw [show i + (j + 1) + q=i + j + (q + 1) by omega]; exact hq (q + 1) y h)
  refine ⟨M2,?_,hg2,hf2⟩
  have hstep:ev ES (.c L60_0 [(0,.ptr b 0),(6,p),(7,.int .i64 (l.length:Int)),(8,.int .i64 (j:Int))] M1)=some (.code .normal [(0,.ptr b 0),(6,p),(7,.int .i64 (l.length:Int)),(8,.int .i64 ((j + 1:Nat):Int))] (M1.set b (.cells (rdC fm fs d (i + (j + 1)))))):=by
   simp only [rdC] at hg ⊢
   simp (maxSteps:=1000000) (disch:=omega) only [L60_0,EVa,EVb,oi,ou,wants,evx,evxs,evo,evparts,fillA,put,keepT,argTm,result,resAll,resOf,vO,boxF,binF,nilF,unF,lenF,callF,appF,mkIF,readsOf,boxAt,Nat.reduceEqDiff,reduceCtorEq,Nat.reduceBEq,Int.reduceToNat,Nat.reduceAdd,Nat.reduceLeDiff,Nat.reduceMul,hia,h67,hg,hw,hw2,ne_eq,not_true_eq_false]
  rw [ev_loop,hstep]
  exact he
theorem ev60 {l:List Nat} {p:AV} (hp:isS 1 l.length (byteCells l) p) (hl:Bytes l) (hd:d.length < 1000000) (hb:b < M.nb) (hll:l.length < 1000000) (hg:M.get b=some (.cells (rdC fm fs d i))) (hq:(d.drop i).take l.length=l) :
  ∃ M2,ev ES (.f ad 60 [.ptr b 0,p] M)=some (.fn (.tup []) M2)∧M2.get b=some (.cells (rdC fm fs d (i + l.length)))∧Fr b M M2:=by
 obtain ⟨M2,he,hg2,hf⟩:=loop60 hp hl hd hb hll l 0 M rfl (Nat.zero_le _) hg (Fr.refl b M) (fun q x h=>by
  have hlt:=(List.getElem?_eq_some_iff.1 h).1
  rw [← hq,List.getElem?_take,if_pos hlt,List.getElem?_drop] at h
  exact h)
 refine ⟨M2,?_,hg2,hf⟩
 rw [f60,b60 rfl]
 have hpl:=hp.len
 simp only [Int.natCast_zero] at he
 simp (maxSteps:=1000000) (disch:=omega) only [code60,EVa,EVb,oi,ou,wants,evx,evxs,evo,evparts,fillA,put,keepT,argTm,result,resAll,resOf,vO,boxF,binF,nilF,unF,lenF,callF,appF,mkIF,readsOf,boxAt,Nat.reduceEqDiff,reduceCtorEq,Nat.reduceBEq,Int.reduceToNat,Nat.reduceAdd,Nat.reduceLeDiff,Nat.reduceMul,hpl,he]
def numB:Nat→List Nat→Nat
 | a,[]=>a
 | a,x :: r=>numB (a * 256 + x) r
theorem shl8' {a:Nat} (h:a < 16777216):binA .shl (.int .i64 (a:Int)) (.int .u64 8)=some (.int .i64 ((a:Int) * 256)):=by
 rw [bin_shl]
 have e:(2:Int) ^ (Nat.min (8:Int).toNat IntKind.i64.bits)=256:=by decide
 simp only [shBin]
 rw [if_neg (by decide),e,wrap_i64 (by omega) (by omega)]
theorem or_bytes' {a c:Nat} (ha:a < 16777216) (hc:c < 256):binA .or (.int .i64 ((a:Int) * 256)) (.int .i64 (c:Int))=some (.int .i64 ((a * 256 + c:Nat):Int)):=by
 rw [bin_or]
 have e:(BitVec.ofInt IntKind.i64.bits ((a:Int) * 256) ||| BitVec.ofInt IntKind.i64.bits (c:Int)).toNat=a * 256 + c:=by
  show (BitVec.ofInt 64 ((a:Int) * 256) ||| BitVec.ofInt 64 (c:Int)).toNat=_
  have e1:BitVec.ofInt 64 ((a:Int) * 256)=BitVec.ofNat 64 (a * 256):=by
   rw [show ((a:Int) * 256)=((a * 256:Nat):Int) by omega]
   exact BitVec.ofInt_natCast 64 _
  have e2:BitVec.ofInt 64 (c:Int)=BitVec.ofNat 64 c:=BitVec.ofInt_natCast 64 _
  rw [e1,e2,BitVec.toNat_or,BitVec.toNat_ofNat,BitVec.toNat_ofNat,Nat.mod_eq_of_lt (by omega),Nat.mod_eq_of_lt (by omega)]
  exact or_disj (k:=8) hc
 rw [e,wrap_i64] <;> omega
theorem loop63 {c:Nat} {nm kd by_ sz mn mx st cn of_ ns ps:AV} {l:List Nat} {from_:AV} (hl:Bytes l) (hll:l.length < 5) (hM:M.get c=some (.cells [nm,kd,by_,sz,.bool true,mn,mx,st,cn,of_,ns,ps])):∀ (r:List Nat) (j a:Nat),l.drop j=r→j≤l.length→a < 256 ^ j →
  ev ES (.c (.loop L63_0) [(3,.ptr c 0),(5,from_),(6,.int .i64 (a:Int)),(22,bsl l),(23,.int .i64 (l.length:Int)),(24,.int .i64 (j:Int))] M)=some (.code (.exit 0) [(3,.ptr c 0),(5,from_),(6,.int .i64 ((numB a r:Nat):Int)),(22,bsl l),(23,.int .i64 (l.length:Int)),(24,.int .i64 (l.length:Int)),(25,.bool false)] M):=by
 intro r
 induction r with
 | nil=>
  intro j a hr hj ha
  have hj:j=l.length:=by
   have:=congrArg List.length hr
   simp at this; omega
  subst hj
  rw [ev_loop]
  simp (maxSteps:=1000000) (disch:=omega) only [L63_0,EVa,EVb,oi,ou,wants,evx,evxs,evo,evparts,fillA,put,keepT,argTm,result,resAll,resOf,vO,boxF,binF,nilF,unF,lenF,callF,appF,mkIF,readsOf,boxAt,Nat.reduceEqDiff,reduceCtorEq,Nat.reduceBEq,Int.reduceToNat,Nat.reduceAdd,Nat.reduceLeDiff,Nat.reduceMul,Int.lt_irrefl,numB]
 | cons x r ih=>
  intro j a hr hj ha
  have hlt:j < l.length:=by
   have:=congrArg List.length hr
   simp at this; omega
  have hr':l.drop (j + 1)=r:=by rw [← List.drop_drop,hr]; rfl
  have hx:l[j]?=some x:=by
   have:=congrArg (·[0]?) hr
   simpa using this
  have hxb:x < 256:=hl x (List.mem_of_getElem? hx)
  have hia:=fun M=>ia_bsl (M:=M) hx
  have ha2:a < 16777216:=by
   have:256 ^ j≤256 ^ 3:=Nat.pow_le_pow_right (by decide) (by omega)
   omega
  have hsh:=shl8' ha2
  have hor:=or_bytes' ha2 hxb
  have hw2:IntKind.i64.wrap ((j:Int) + 1)=((j + 1:Nat):Int):=by rw [wrap_i64] <;> omega
  have hstep:ev ES (.c L63_0 [(3,.ptr c 0),(5,from_),(6,.int .i64 (a:Int)),(22,bsl l),(23,.int .i64 (l.length:Int)),(24,.int .i64 (j:Int))] M)=some (.code .normal [(3,.ptr c 0),(5,from_),(6,.int .i64 ((a * 256 + x:Nat):Int)),(22,bsl l),(23,.int .i64 (l.length:Int)),(24,.int .i64 ((j + 1:Nat):Int))] M):=by
   simp (maxSteps:=1000000) (disch:=omega) only [L63_0,EVa,EVb,oi,ou,wants,evx,evxs,evo,evparts,fillA,put,keepT,argTm,result,resAll,resOf,vO,boxF,binF,nilF,unF,lenF,callF,appF,mkIF,readsOf,boxAt,Nat.reduceEqDiff,reduceCtorEq,Nat.reduceBEq,Int.reduceToNat,Nat.reduceAdd,Nat.reduceLeDiff,Nat.reduceMul,hia,hM,hsh,hor,hw2]
  rw [ev_loop,hstep]
  show ev ES (.c (.loop L63_0) _ _)=_
  rw [ih (j + 1) (a * 256 + x) hr' (by omega) (by rw [Nat.pow_succ]; omega)]
  rfl
def numR (nm:AV) (size mn mx:Nat):List AV:=[nm,.int .i64 2,.nils,.int .i64 (size:Int),.bool true,.int .i64 (mn:Int),.int .i64 (mx:Int),.int .i64 0,.int .i64 0,.int .i64 0,.nils,.nils]
theorem ev63 {size mn mx:Nat} {s:List Nat} (hl:Bytes d) (hs:size < 5) (hd:d.length < 1000000) (hb:b < M.nb) (hg:M.get b=some (.cells (rdC fm fs d i))) (hn:i + size≤d.length) (h1:mn≤numB 0 ((d.drop i).take size)) (h2:numB 0 ((d.drop i).take size)≤mx) :
  ∃ M2,ev ES (.f ad 63 [.ptr b 0,.agg (numR (.str s) size mn mx)] M)=some (.fn (.int .i64 ((numB 0 ((d.drop i).take size):Nat):Int)) M2)∧M2.get b=some (.cells (rdC fm fs d (i + size)))∧Fr b M M2:=by
 have hg1:(M.new (.cells (numR (.str s) size mn mx))).get b=some (.cells (rdC fm fs d i)):=by rw [gn_lt hb]; exact hg
 have h65:=ev65 (ad:=false) hg1 hn hd
 have hlen:((d.drop i).take size).length=size:=by rw [List.length_take,List.length_drop]; omega
 have hg2:((M.new (.cells (numR (.str s) size mn mx))).set b (.cells (rdC fm fs d (i + size)))).get M.nb=some (.cells (numR (.str s) size mn mx)):=by rw [gs_ne (by omega),gn_self]
 have hlp:=loop63 (c:=M.nb) (from_:=.int .i64 (i:Int)) ((hl.drop i).take size) (by rw [hlen]; exact hs) hg2 ((d.drop i).take size) 0 0 rfl (Nat.zero_le _) (by decide)
 refine ⟨(M.new (.cells (numR (.str s) size mn mx))).set b (.cells (rdC fm fs d (i + size))),?_,gs_self hg1,((Fr.refl b M).new).set (.inl rfl)⟩
 rw [f63,b63 rfl]
 rw [hlen] at hlp
 simp only [numR,Int.natCast_zero] at hg1 hg2 h65 hlp ⊢
 have hg1':(M.new (.cells [.str s,.int .i64 2,.nils,.int .i64 (size:Int),.bool true,.int .i64 (mn:Int),.int .i64 (mx:Int),.int .i64 0,.int .i64 0,.int .i64 0,.nils,.nils])).get M.nb=some (.cells [.str s,.int .i64 2,.nils,.int .i64 (size:Int),.bool true,.int .i64 (mn:Int),.int .i64 (mx:Int),.int .i64 0,.int .i64 0,.int .i64 0,.nils,.nils]):=gn_self
 have hg3:=hg1
 simp only [rdC] at hg3
 simp (maxSteps:=1000000) (disch:=omega) only [code63,EVa,EVb,oi,ou,wants,evx,evxs,evo,evparts,fillA,put,keepT,argTm,result,resAll,resOf,vO,boxF,binF,nilF,unF,lenF,callF,appF,mkIF,readsOf,boxAt,Nat.reduceEqDiff,reduceCtorEq,Nat.reduceBEq,Int.reduceToNat,Nat.reduceAdd,Nat.reduceLeDiff,Nat.reduceMul,hg1',hg3,h65,hlen,hlp,hg2,Int.reduceEq]
end
end Go.Sx
namespace Go.Sx
def VP (V:Val) (c:List AV):Prop:=∃ c',purL0 c=some c'∧VC V c'∧c.length=5∧c.all oneA=true
theorem VC.vp {V:Val} {c:List AV} (h:VC V c):VP V c:=⟨c,purL0_pure h.pure,h,h.len,h.all⟩
def Reads (fm fs:AV) (d:List Nat) (k i:Nat) (V:Val) (i':Nat):Prop:=∀ (b:Nat) (M:Mem),b < M.nb→M.get b=some (.cells (rdC fm fs d i)) →
 ∃ c M',ev ES (.f false 23 [.ptr b 0,.int .i64 (k:Int)] M)=some (.fn (.agg c) M')∧VP V c∧M'.get b=some (.cells (rdC fm fs d i'))∧Fr b M M'
theorem ev62 {n:Int} {M:Mem}:ev ES (.f false 62 [.int .i64 n] M)=some (.fn (.agg [.int .i64 1,.int .i64 n,.nils,.nils,.nils]) M):=by
 have hp:∀ x∈[AV.int .i64 n],pureV x:=fun x hx=>by rw [List.mem_singleton.1 hx]; trivial
 rw [f62 (frzVs_pure hp),b62 rfl]
 have g:((Mem.zero.new (.cells [.int .i64 0,.int .i64 0,.nils,.nils,.nils])).set 0 (.cells [.int .i64 1,.int .i64 n,.nils,.nils,.nils])).get 0=some (.cells [.int .i64 1,.int .i64 n,.nils,.nils,.nils]):=rfl
 have hc:retF ES [.cA 2 5] (ev ES (.c code62 (argTm 0 [.int .i64 n]) .zero))=some (.fn (.agg [.int .i64 1,.int .i64 n,.nils,.nils,.nils]) ((Mem.zero.new (.cells [.int .i64 0,.int .i64 0,.nils,.nils,.nils])).set 0 (.cells [.int .i64 1,.int .i64 n,.nils,.nils,.nils]))):=by
  simp (maxSteps:=1000000) (disch:=omega) only [code62,EVa,EVb,oi,ou,wants,evx,evxs,evo,evparts,fillA,put,keepT,argTm,result,resAll,resOf,vO,boxF,binF,nilF,unF,lenF,callF,appF,mkIF,readsOf,boxAt,Nat.reduceEqDiff,reduceCtorEq,Nat.reduceBEq,Int.reduceToNat,Nat.reduceAdd,Nat.reduceLeDiff,Nat.reduceMul,g]
 rw [hc]
 exact own_done hp (adopt_frz rfl (by simp))
theorem purC0_V {p p':AV} (h:purC0 p=some p') (hp:pureC p') {M:Mem}:frzV M p=some p'∧hasMs [p]=false∧oneA p=true∧oneA p'=true∧p'.cells=[p']:=by
 cases p with
 | bool | int | str | nilp | nils | nilf | nili=>(cases h; exact ⟨rfl,rfl,rfl,rfl,rfl⟩)
 | sl t e n cs=>cases h; exact ⟨rfl,rfl,rfl,rfl,rfl⟩
 | ptr | ms | fn | agg | tup | any | yld=>cases h
 | cp=>cases h; cases hp
 | iface t v=>cases v <;> cases h <;> cases hp
theorem ev61 {p p':AV} {M:Mem} (h:purC0 p=some p') (hp:pureC p'):ev ES (.f false 61 [p] M)=some (.fn (.agg [.int .i64 3,.int .i64 0,.nils,.nils,p']) M):=by
 obtain ⟨h1,h2,h3,h4,h5⟩:=purC0_V (M:=M) h hp
 have hf:frzVs M [p]=some [p']:=by simp only [frzVs,h1,Option.bind_some,Option.map_some]
 rw [f61 hf,b61 rfl]
 have g:((Mem.zero.new (.cells [.int .i64 0,.int .i64 0,.nils,.nils,.nils])).set 0 (.cells [.int .i64 3,.int .i64 0,.nils,.nils,p'])).get 0=some (.cells [.int .i64 3,.int .i64 0,.nils,.nils,p']):=rfl
 have hc:retF ES [.cA 2 5] (ev ES (.c code61 (argTm 0 [p']) .zero))=some (.fn (.agg [.int .i64 3,.int .i64 0,.nils,.nils,p']) ((Mem.zero.new (.cells [.int .i64 0,.int .i64 0,.nils,.nils,.nils])).set 0 (.cells [.int .i64 3,.int .i64 0,.nils,.nils,p']))):=by
  simp (maxSteps:=1000000) (disch:=omega) only [code61,EVa,EVb,oi,ou,wants,evx,evxs,evo,evparts,fillA,put,keepT,argTm,result,resAll,resOf,vO,boxF,binF,nilF,unF,lenF,callF,appF,mkIF,readsOf,boxAt,Nat.reduceEqDiff,reduceCtorEq,Nat.reduceBEq,Int.reduceToNat,Nat.reduceAdd,Nat.reduceLeDiff,Nat.reduceMul,g,h4,h5]
 rw [hc]
 have hfr:frz ((Mem.zero.new (.cells [.int .i64 0,.int .i64 0,.nils,.nils,.nils])).set 0 (.cells [.int .i64 3,.int .i64 0,.nils,.nils,p'])) (.agg [.int .i64 3,.int .i64 0,.nils,.nils,p'])=some (.agg [.int .i64 3,.int .i64 0,.nils,.nils,p']):=by
  refine frzV_pure (v:=.agg _) ?_
  intro x hx
  simp only [List.mem_cons,List.not_mem_nil,or_false] at hx
  rcases hx with rfl | rfl | rfl | rfl | rfl <;> first | trivial | assumption
 simp only [ownF,adopt,hfr,Option.map_some,Option.bind_some,h2,Bool.false_and,Bool.false_eq_true,if_false]
theorem ev72 {l:List Nat} {M:Mem} (hn:l.length < 1000000):∃ w,isS 1 l.length (byteCells l) w∧ev ES (.f false 72 [bsl l] M)=some (.fn w M):=by
 have hp:∀ v∈[bsl l],pureV v:=fun v hv=>by rw [List.mem_singleton.1 hv]; exact bsl_pure l
 rw [f72 (frzVs_pure hp),b72 rfl]
 have hA:lenA (bsl l)=some l.length:=rfl
 have hE:∀ M,elems M 1 (bsl l)=some (byteCells l):=fun M=>isS_bsl.elems
 have hN:isNilA 0 (bsl l)=some false:=rfl
 have q0:purL0 []=some []:=rfl
 by_cases h0:l.length=0
 ·have hl:l=[]:=List.eq_nil_of_length_eq_zero h0
  subst hl
  refine ⟨.sl 1 0 0 [],⟨rfl,.inr ⟨1,.inr rfl,rfl⟩⟩,?_⟩
  have ha:appV false .zero 1 1 (.sl 1 0 0 []) 0 (byteCells [])=some (.sl 1 0 0 [],.zero):=rfl
  have hc:retF ES [.t 2] (ev ES (.c code72 (argTm 0 [bsl []]) .zero))=some (.fn (.sl 1 0 0 []) .zero):=by
   simp (maxSteps:=1000000) (disch:=omega) only [code72,EVa,EVb,oi,ou,wants,evx,evxs,evo,evparts,fillA,put,keepT,argTm,result,resAll,resOf,vO,boxF,binF,nilF,unF,lenF,callF,appF,mkIF,readsOf,boxAt,Nat.reduceEqDiff,reduceCtorEq,Nat.reduceBEq,Int.reduceToNat,Nat.reduceAdd,Nat.reduceLeDiff,Nat.reduceMul,hA,hE,hN,ha,q0]
  rw [hc]
  exact own_done hp (adopt_frz rfl (by simp))
 ·have ha:appV false .zero 1 1 (.sl 1 0 0 []) l.length (byteCells l)=some (.sl 2 l.length l.length (byteCells l),Mem.zero.tok l.length 1):=by
   unfold appV
   rw [if_neg h0]
   simp only [List.length_nil,Nat.zero_mul,Nat.beq_refl,Bool.not_true,Bool.false_eq_true,if_false,Nat.zero_add,Nat.mul_one,purL0_bytes,Option.map_some,List.nil_append]
   rw [if_pos ⟨by omega,by omega⟩]
   rfl
  refine ⟨.sl 0 0 l.length (byteCells l),⟨by rw [byteCells_len,Nat.mul_one],.inr ⟨0,.inl rfl,rfl⟩⟩,?_⟩
  have hc:retF ES [.t 2] (ev ES (.c code72 (argTm 0 [bsl l]) .zero))=some (.fn (.sl 2 l.length l.length (byteCells l)) (Mem.zero.tok l.length 1)):=by
   simp (maxSteps:=1000000) (disch:=omega) only [code72,EVa,EVb,oi,ou,wants,evx,evxs,evo,evparts,fillA,put,keepT,argTm,result,resAll,resOf,vO,boxF,binF,nilF,unF,lenF,callF,appF,mkIF,readsOf,boxAt,Nat.reduceEqDiff,reduceCtorEq,Nat.reduceBEq,Int.reduceToNat,Nat.reduceAdd,Nat.reduceLeDiff,Nat.reduceMul,hA,hE,hN,ha,q0]
  rw [hc]
  exact (own_grown hp (Gro.tok (z:=1) (M:=.zero) (by rw [byteCells_len,Nat.mul_one]) (by omega)) (by omega)).1
theorem ev64 {l:List Nat} {M:Mem} (hn:l.length < 1000000):∃ w,isS 1 l.length (byteCells l) w∧ev ES (.f false 64 [bsl l] M)=some (.fn (.agg [.int .i64 2,.int .i64 0,w,.nils,.nils]) M):=by
 have hp:∀ v∈[bsl l],pureV v:=fun v hv=>by rw [List.mem_singleton.1 hv]; exact bsl_pure l
 obtain ⟨w,hw,h72⟩:=ev72 (l:=l) (M:=Mem.zero.new (.cells [.int .i64 0,.int .i64 0,.nils,.nils,.nils])) hn
 refine ⟨w,hw,?_⟩
 rw [f64 (frzVs_pure hp),b64 rfl]
 have g:((Mem.zero.new (.cells [.int .i64 0,.int .i64 0,.nils,.nils,.nils])).set 0 (.cells [.int .i64 2,.int .i64 0,w,.nils,.nils])).get 0=some (.cells [.int .i64 2,.int .i64 0,w,.nils,.nils]):=rfl
 have hc:retF ES [.cA 2 5] (ev ES (.c code64 (argTm 0 [bsl l]) .zero))=some (.fn (.agg [.int .i64 2,.int .i64 0,w,.nils,.nils]) ((Mem.zero.new (.cells [.int .i64 0,.int .i64 0,.nils,.nils,.nils])).set 0 (.cells [.int .i64 2,.int .i64 0,w,.nils,.nils]))):=by
  simp (maxSteps:=1000000) (disch:=omega) only [code64,EVa,EVb,oi,ou,wants,evx,evxs,evo,evparts,fillA,put,keepT,argTm,result,resAll,resOf,vO,boxF,binF,nilF,unF,lenF,callF,appF,mkIF,readsOf,boxAt,Nat.reduceEqDiff,reduceCtorEq,Nat.reduceBEq,Int.reduceToNat,Nat.reduceAdd,Nat.reduceLeDiff,Nat.reduceMul,g,h72,hw.oneA,hw.cells]
 rw [hc]
 refine own_done hp (adopt_frz (frzV_pure (v:=.agg _) ?_) (by simp))
 intro x hx
 simp only [List.mem_cons,List.not_mem_nil,or_false] at hx
 rcases hx with rfl | rfl | rfl | rfl | rfl <;> first | trivial | exact hw.pure
def Z12:List AV:=[.str [],.int .i64 0,.nils,.int .i64 0,.bool false,.int .i64 0,.int .i64 0,.int .i64 0,.int .i64 0,.int .i64 0,.nils,.nils]
structure HS (b:Nat) (ru:List AV) (fm fs:AV) (d:List Nat) (i:Nat) (M0 M1:Mem):Prop where
 fr:Fr b M0 M1
 hb:b < M0.nb
 nb:M1.nb=M0.nb + 3
 g0:M1.get M0.nb=some (.cells [.ptr b 0])
 g1:M1.get (M0.nb + 1)=some (.cells Z5v)
 g2:M1.get (M0.nb + 2)=some (.cells ru)
 gb:M1.get b=some (.cells (rdC fm fs d i))
theorem head23 {fm fs:AV} {fc:List AV} {n k i b:Nat} {d:List Nat} {ru rest:List AV} {M:Mem} (hf:isS 12 n fc fm) (hk:k < n) (hr:fc.drop (k * 12)=ru ++ rest) (hl:ru.length=12) (hall:ru.all oneA=true) (hb:b < M.nb) (hg:M.get b=some (.cells (rdC fm fs d i))) :
  ∃ M1,HS b ru fm fs d i M M1∧∀ B:AC,ev ES (.c (.seq T23_0 (.seq T23_1 B)) (argTm 0 [.ptr b 0,.int .i64 (k:Int)]) M)=ev ES (.c B [(2,.ptr M.nb 0),(4,.ptr (M.nb + 1) 0),(5,.ptr (M.nb + 2) 0)] M1):=by
 have e0:((M.new (.cells [.ptr b 0])).new (.cells Z5v)).get M.nb=some (.cells [.ptr b 0]):=by rw [gn_lt (by rw [nbn_new]; omega),gn_self]
 have eb:((M.new (.cells [.ptr b 0])).new (.cells Z5v)).get b=some (.cells (rdC fm fs d i)):=by rw [gn_lt (by rw [nbn_new]; omega),gn_lt hb]; exact hg
 have e2:(((M.new (.cells [.ptr b 0])).new (.cells Z5v)).new (.cells Z12)).get (M.nb + 2)=some (.cells Z12):=gn_self (M:=(M.new (.cells [.ptr b 0])).new (.cells Z5v))
 refine ⟨(((M.new (.cells [.ptr b 0])).new (.cells Z5v)).new (.cells Z12)).set (M.nb + 2) (.cells ru),⟨(((Fr.refl b M).new.new).new).set (.inr (by omega)),hb,rfl,?_,?_,gs_self e2,?_⟩,?_⟩
 ·rw [gs_ne (by omega),gn_lt (by rw [nbn_new,nbn_new]; omega)]; exact e0
 ·rw [gs_ne (by omega),gn_lt (by rw [nbn_new,nbn_new]; omega)]; exact gn_self (M:=M.new (.cells [.ptr b 0]))
 ·rw [gs_ne (by omega),gn_lt (by rw [nbn_new,nbn_new]; omega)]; exact eb
 ·intro B
  have hia:=fun M=>hf.ia (M:=M) hk
  rw [hr] at hia
  have h12:Nat.ble 12 (ru ++ rest).length=true:=ble_true (by rw [List.length_append]; omega)
  have ht:(ru ++ rest).take 12=ru:=by rw [← hl,List.take_left]
  simp only [Z5v,Z12,rdC] at e0 eb e2 ⊢
  have oq1:∀ b o,oneA (.ptr b o)=true:=fun _ _=>rfl
  have oq2:∀ b o,(AV.ptr b o).cells=[.ptr b o]:=fun _ _=>rfl
  simp (maxSteps:=1000000) (disch:=omega) only [T23_0,T23_1,EVa,EVb,oi,ou,wants,evx,evxs,evo,evparts,fillA,put,keepT,argTm,result,resAll,resOf,vO,boxF,binF,nilF,unF,lenF,callF,appF,mkIF,readsOf,boxAt,Nat.reduceEqDiff,reduceCtorEq,Nat.reduceBEq,Int.reduceToNat,Nat.reduceAdd,Nat.reduceLeDiff,Nat.reduceMul,e0,eb,e2,hia,h12,ht,hl,hall,oq1,oq2,Nat.add_assoc]
theorem fin23 {b k:Nat} {M M':Mem} {c:List AV} {p:Nat} (h:ev ES (.c code23 (argTm 0 [.ptr b 0,.int .i64 (k:Int)]) M)=some (.code .ret [(4,.ptr p 0)] M')) (hg:M'.get p=some (.cells c)) (hl:c.length=5):ev ES (.f false 23 [.ptr b 0,.int .i64 (k:Int)] M)=some (.fn (.agg c) M'):=by
 rw [f23,b23 rfl,h]
 have ht:c.take 5=c:=List.take_of_length_le (by omega)
 have hb5:Nat.ble 5 c.length=true:=ble_true (by omega)
 simp (maxSteps:=1000000) (disch:=omega) only [EVa,EVb,oi,ou,wants,evx,evxs,evo,evparts,fillA,put,keepT,argTm,result,resAll,resOf,vO,boxF,binF,nilF,unF,lenF,callF,appF,mkIF,readsOf,boxAt,Nat.reduceEqDiff,reduceCtorEq,Nat.reduceBEq,Int.reduceToNat,Nat.reduceAdd,Nat.reduceLeDiff,Nat.reduceMul,hg,ht,hb5,hl]
end Go.Sx
namespace Go.Sx
structure RuleAt (fm:AV) (k:Nat) (ru:List AV):Prop where
 ex:∃ n fc rest,isS 12 n fc fm∧k < n∧fc.drop (k * 12)=ru ++ rest
 len:ru.length=12
 all:ru.all oneA=true
theorem head {fm fs:AV} {k i b:Nat} {d:List Nat} {ru:List AV} {M:Mem} (hr:RuleAt fm k ru) (hb:b < M.nb) (hg:M.get b=some (.cells (rdC fm fs d i))) :
  ∃ M1,HS b ru fm fs d i M M1∧∀ B:AC,ev ES (.c (.seq T23_0 (.seq T23_1 B)) (argTm 0 [.ptr b 0,.int .i64 (k:Int)]) M)=ev ES (.c B [(2,.ptr M.nb 0),(4,.ptr (M.nb + 1) 0),(5,.ptr (M.nb + 2) 0)] M1):=by
 obtain ⟨n,fc,rest,h1,h2,h3⟩:=hr.ex
 exact head23 h1 h2 h3 hr.len hr.all hb hg
def tm23 (n:Nat):Tm:=[(2,.ptr n 0),(4,.ptr (n + 1) 0),(5,.ptr (n + 2) 0)]
section
variable {fm fs:AV} {d:List Nat} {k i:Nat}
theorem reads_of {i':Nat} {V:Val} {ru:List AV} (hr:RuleAt fm k ru) (h:∀ (b:Nat) (M M1:Mem),HS b ru fm fs d i M M1→∃ c M',ev ES (.c (.seq T23_2 (.seq T23_3 (.seq T23_4 (.seq T23_5 T23_6)))) (tm23 M.nb) M1)=some (.code .ret [(4,.ptr (M.nb + 1) 0)] M')∧M'.get (M.nb + 1)=some (.cells c)∧VP V c∧M'.get b=some (.cells (rdC fm fs d i'))∧Fr b M M'):Reads fm fs d k i V i':=by
 intro b M hb hg
 obtain ⟨M1,hs,he⟩:=head hr hb hg
 obtain ⟨c,M',h1,h2,h3,h4,h5⟩:=h b M M1 hs
 refine ⟨c,M',fin23 ?_ h2 (by obtain ⟨_,_,_,h,_⟩:=h3; exact h),h3,h4,h5⟩
 rw [show code23=.seq T23_0 (.seq T23_1 (.seq T23_2 (.seq T23_3 (.seq T23_4 (.seq T23_5 T23_6))))) from rfl,he]
 exact h1
theorem rd_lit {l s:List Nat} {by_:AV} (hr:RuleAt fm k [.str s,.int .i64 1,by_,.int .i64 0,.bool false,.int .i64 0,.int .i64 0,.int .i64 0,.int .i64 0,.int .i64 0,.nils,.nils]) (hb:isS 1 l.length (byteCells l) by_) (hl:Bytes l) (hd:d.length < 1000000) (hll:l.length < 1000000) (hq:(d.drop i).take l.length=l):Reads fm fs d k i (.lst []) (i + l.length):=by
 refine reads_of hr fun b M M1 hs=>?_
 have hbn:=hs.hb
 obtain ⟨M2,h60,h2b,hf2⟩:=ev60 (ad:=false) hb hl hd (by rw [hs.nb]; omega) hll hs.gb hq
 have hf:=hs.fr.trans hf2
 have g1:M2.get (M.nb + 1)=some (.cells Z5v):=by rw [hf2.get (by rw [hs.nb]; omega) (by omega)]; exact hs.g1
 have h61:=ev61 (M:=M2) (p:=.nils) (p':=.nils) rfl trivial
 refine ⟨[.int .i64 3,.int .i64 0,.nils,.nils,.nils],M2.set (M.nb + 1) (.cells [.int .i64 3,.int .i64 0,.nils,.nils,.nils]),?_,gs_self g1,?_,by rw [gs_ne (by omega)]; exact h2b,hf.set (.inr (by omega))⟩
 ·have e0:=hs.g0
  have e2:=hs.g2
  simp only [Z5v] at g1
  simp (maxSteps:=1000000) (disch:=omega) only [T23_2,tm23,EVa,EVb,oi,ou,wants,evx,evxs,evo,evparts,fillA,put,keepT,argTm,result,resAll,resOf,vO,boxF,binF,nilF,unF,lenF,callF,appF,mkIF,readsOf,boxAt,Nat.reduceEqDiff,reduceCtorEq,Nat.reduceBEq,Int.reduceToNat,Nat.reduceAdd,Nat.reduceLeDiff,Nat.reduceMul,e0,e2,h60,h61,g1,Int.reduceEq]
 ·refine VC.vp ?_
  simp only [VC]
  exact ⟨.nils,.nils,.nils,[],rfl,isS_nils,isS_nils,isS_nils,by simp [VCs]⟩
theorem rd_num {s:List Nat} {size mn mx:Nat} (hr:RuleAt fm k (numR (.str s) size mn mx)) (hl:Bytes d) (hs:size < 5) (hd:d.length < 1000000) (hn:i + size≤d.length) (h1:mn≤numB 0 ((d.drop i).take size)) (h2:numB 0 ((d.drop i).take size)≤mx):Reads fm fs d k i (.num (numB 0 ((d.drop i).take size))) (i + size):=by
 refine reads_of hr fun b M M1 hh=>?_
 have hbn:=hh.hb
 obtain ⟨M2,h63,h2b,hf2⟩:=ev63 (ad:=false) (s:=s) hl hs hd (by rw [hh.nb]; omega) hh.gb hn h1 h2
 have hf:=hh.fr.trans hf2
 have g1:M2.get (M.nb + 1)=some (.cells Z5v):=by rw [hf2.get (by rw [hh.nb]; omega) (by omega)]; exact hh.g1
 generalize hv:numB 0 ((d.drop i).take size)=v at *
 have h62:=ev62 (n:=(v:Int)) (M:=M2)
 refine ⟨[.int .i64 1,.int .i64 (v:Int),.nils,.nils,.nils],M2.set (M.nb + 1) (.cells [.int .i64 1,.int .i64 (v:Int),.nils,.nils,.nils]),?_,gs_self g1,?_,by rw [gs_ne (by omega)]; exact h2b,hf.set (.inr (by omega))⟩
 ·have e0:=hh.g0
  have e2:=hh.g2
  simp only [Z5v,numR] at g1 e2 h63
  simp (maxSteps:=1000000) (disch:=omega) only [T23_2,tm23,EVa,EVb,oi,ou,wants,evx,evxs,evo,evparts,fillA,put,keepT,argTm,result,resAll,resOf,vO,boxF,binF,nilF,unF,lenF,callF,appF,mkIF,readsOf,boxAt,Nat.reduceEqDiff,reduceCtorEq,Nat.reduceBEq,Int.reduceToNat,Nat.reduceAdd,Nat.reduceLeDiff,Nat.reduceMul,e0,e2,h63,h62,g1,Int.reduceEq]
 ·refine VC.vp ?_
  simp only [VC]
  exact ⟨.nils,.nils,.nils,rfl,isS_nils,isS_nils,isS_nils⟩
def blobR (nm:AV) (cnt:Nat) (ps:AV):List AV:=[nm,.int .i64 10,.nils,.int .i64 0,.bool false,.int .i64 0,.int .i64 0,.int .i64 0,.int .i64 (cnt:Int),.int .i64 0,.nils,ps]
theorem rd_blob {s s2:List Nat} {ps:AV} {cnt size mn mx n:Nat} (hr:RuleAt fm k (blobR (.str s) cnt ps)) (hr2:RuleAt fm cnt (numR (.str s2) size mn mx)) (hl:Bytes d) (hs:size < 5) (hd:d.length < 1000000) (hn:n=numB 0 ((d.drop i).take size)) (h0:i + size + n≤d.length) (h1:mn≤n) (h2:n≤mx):Reads fm fs d k i (.byt ((d.drop (i + size)).take n)) (i + size + n):=by
 refine reads_of hr fun b M M1 hh=>?_
 have hbn:=hh.hb
 subst hn
 obtain ⟨M2,h63,h2b,hf2⟩:=ev63 (ad:=false) (s:=s2) hl hs hd (by rw [hh.nb]; omega) hh.gb (by omega) h1 h2
 generalize hv:numB 0 ((d.drop i).take size)=v at *
 have h65:=ev65 (ad:=false) h2b h0 hd
 have hb2:b < M2.nb:=by have:=hf2.1; rw [hh.nb] at this; omega
 have hf3:Fr b M1 (M2.set b (.cells (rdC fm fs d (i + size + v)))):=hf2.set (.inl rfl)
 have g1:(M2.set b (.cells (rdC fm fs d (i + size + v)))).get (M.nb + 1)=some (.cells Z5v):=by rw [hf3.get (by rw [hh.nb]; omega) (by omega)]; exact hh.g1
 have g3:(M2.set b (.cells (rdC fm fs d (i + size + v)))).get b=some (.cells (rdC fm fs d (i + size + v))):=gs_self h2b
 have hlen:((d.drop (i + size)).take v).length=v:=by rw [List.length_take,List.length_drop]; omega
 obtain ⟨w,hw,h64⟩:=ev64 (l:=(d.drop (i + size)).take v) (M:=(M2.set b (.cells (rdC fm fs d (i + size + v))))) (by omega)
 have hf:=hh.fr.trans hf3
 generalize hM3:(M2.set b (.cells (rdC fm fs d (i + size + v))))=M3 at *
 refine ⟨[.int .i64 2,.int .i64 0,w,.nils,.nils],M3.set (M.nb + 1) (.cells [.int .i64 2,.int .i64 0,w,.nils,.nils]),?_,gs_self g1,?_,by rw [gs_ne (by omega)]; exact g3,hf.set (.inr (by omega))⟩
 ·have e0:=hh.g0
  have e2:=hh.g2
  have eb:=hh.gb
  obtain ⟨n,fc,rest,q1,q2,q3⟩:=hr2.ex
  have hia:=fun M=>q1.ia (M:=M) q2
  rw [q3] at hia
  have hl2:=hr2.len
  have h12:Nat.ble 12 (numR (.str s2) size mn mx ++ rest).length=true:=ble_true (by rw [List.length_append]; omega)
  have ht:(numR (.str s2) size mn mx ++ rest).take 12=numR (.str s2) size mn mx:=by rw [← hl2,List.take_left]
  simp only [Z5v,blobR,rdC] at g1 e2 eb
  have wr1:=hf2.apart (a:=M.nb) (by omega) (by rw [hh.nb]; omega)
  simp (maxSteps:=1000000) (disch:=omega) only [T23_2,tm23,EVa,EVb,oi,ou,wants,evx,evxs,evo,evparts,fillA,put,keepT,argTm,result,resAll,resOf,vO,boxF,binF,nilF,unF,lenF,callF,appF,mkIF,readsOf,boxAt,Nat.reduceEqDiff,reduceCtorEq,Nat.reduceBEq,Int.reduceToNat,Nat.reduceAdd,Nat.reduceLeDiff,Nat.reduceMul,e0,e2,eb,hia,h12,ht,h63,h65,h64,g1,hw.oneA,hw.cells,wr1,Int.reduceEq]
 ·refine VC.vp ?_
  simp only [VC]
  exact ⟨w,.nils,.nils,rfl,by rw [hlen] at hw; rw [hlen]; exact hw,isS_nils,isS_nils⟩
end
end Go.Sx
namespace Go.Sx
theorem GroK.appF {z bytes:Nat} {M:Mem} {v:AV} {m j:Nat} {cells ys:List AV} {tk:Option Nat} (h:GroK z M v m cells tk) (hy:purL0 ys=Option.some ys) (hl:ys.length=j * z) (hj:0 < j) (hb:(m + j) * bytes≤140737488355328) (hb2:m + j≤140737488355328) :
  ∃ v' M' tk',appV false M z bytes v j ys=Option.some (v',M')∧GroK z M' v' (m + j) (cells ++ ys) tk'∧SameB M M'∧M.nt≤M'.nt∧(∀ k,k < M.nt→Option.some k≠tk→lookT M'.toks k=lookT M.toks k)∧(∀ k,tk'=Option.some k→tk=Option.some k∨M.nt≤k):=by
 obtain ⟨hc,h⟩:=h
 have hj0:¬ j=0:=by omega
 rcases h with ⟨rfl,rfl,rfl⟩ | ⟨hm,k,rfl,hkn,rfl,hk⟩
 ·have hc0:cells=[]:=List.eq_nil_of_length_eq_zero (by rw [hc]; simp)
  subst hc0
  refine ⟨.sl (M.nt + 2) j j ys,M.tok j z,Option.some M.nt,?_,⟨by simpa using hl,.inr ⟨by omega,M.nt,rfl,Nat.lt_succ_self _,by simp,?_⟩⟩,⟨rfl,rfl,rfl,rfl⟩,Nat.le_succ _,fun k hk _=>?_,fun k hk=>?_⟩
  ·unfold appV
   rw [if_neg hj0]
   simp only [Bool.false_eq_true,if_false,hy,Option.map_some]
   rw [if_pos ⟨by simpa using hb,by simpa using hb2⟩]
  ·simp [Mem.tok,lookT]
  ·show lookT ((M.nt,j,z) :: M.toks) k=_
   simp only [lookT,beq_ne (show ¬ M.nt=k by omega),Bool.false_eq_true,if_false]
  ·cases hk; exact .inr (Nat.le_refl _)
 ·refine ⟨.sl (k + 2) (m + j) (m + j) (cells ++ ys),M.bump k (m + j),Option.some k,?_,⟨by rw [List.length_append,hc,hl,Nat.add_mul],.inr ⟨by omega,k,rfl,hkn,rfl,?_⟩⟩,⟨rfl,rfl,rfl,rfl⟩,Nat.le_refl _,fun k2 hk2 hne=>?_,fun k2 hk2=>?_⟩
  ·unfold appV
   rw [if_neg hj0]
   have h1:Nat.beq cells.length (m * z)=true:=by rw [hc]; exact Nat.beq_refl _
   simp only [h1,Bool.not_true,Bool.false_eq_true,if_false,hk,Nat.beq_refl,Bool.and_self,if_true,hy,Option.map_some]
   rw [if_pos ⟨hb,hb2⟩]
  ·show lookT (setT M.toks k (m + j)) k=_
   rw [lookT_set,if_pos rfl,hk]
   rfl
  ·show lookT (setT M.toks k (m + j)) k2=_
   rw [lookT_set,if_neg fun e=>hne (by rw [e])]
  ·cases hk2; exact .inl rfl
theorem Fr.app {b:Nat} {M0 M M':Mem} {tk:Option Nat} (h:Fr b M0 M) (hs:SameB M M') (hn:M.nt≤M'.nt) (ht:∀ k,k < M.nt→some k≠tk→lookT M'.toks k=lookT M.toks k) (hk:∀ k,tk=some k→M0.nt≤k):Fr b M0 M':=by
 obtain ⟨h1,h2,h3,h4,w,h5,h6,h7⟩:=h
 refine ⟨by rw [hs.2.1]; exact h1,fun j hj hb=>by rw [hs.get]; exact h2 j hj hb,Nat.le_trans h3 hn,fun k hk'=>?_,w,by rw [hs.2.2.2]; exact h5,by rw [hs.2.2.1]; exact h6,h7⟩
 rw [ht k (Nat.lt_of_lt_of_le hk' h3) fun e=>by have:=hk k e.symm; omega]
 exact h4 k hk'
theorem GroK.oth {z:Nat} {M M':Mem} {v:AV} {m:Nat} {cells:List AV} {tk tk2:Option Nat} (h:GroK z M v m cells tk2) (hn:M.nt≤M'.nt) (ht:∀ k,k < M.nt→Option.some k≠tk→lookT M'.toks k=lookT M.toks k) (hne:tk2=Option.none∨tk2≠tk):GroK z M' v m cells tk2:=by
 obtain ⟨hc,h⟩:=h
 rcases h with h | ⟨hm,k,rfl,hkn,h2,hl⟩
 ·exact ⟨hc,.inl h⟩
 ·refine ⟨hc,.inr ⟨hm,k,rfl,Nat.lt_of_lt_of_le hkn hn,h2,?_⟩⟩
  rw [ht k hkn (by rcases hne with h | h; cases h; exact h)]
  exact hl
theorem GroK.ne {z:Nat} {M:Mem} {v:AV} {m:Nat} {cells:List AV} {tk tk2 tk':Option Nat} (h:GroK z M v m cells tk2) (hne:tk2=Option.none∨tk2≠tk) (hk:∀ k,tk'=Option.some k→tk=Option.some k∨M.nt≤k):tk2=Option.none∨tk2≠tk':=by
 obtain ⟨hc,h⟩:=h
 rcases h with h | ⟨hm,k,rfl,hkn,h2,hl⟩
 ·exact .inl h.2.2
 ·refine .inr fun e=>?_
  rcases hk k e.symm with h | h
  ·rcases hne with h3 | h3
   ·cases h3
   ·exact h3 h.symm
  ·omega
theorem GroK.pur {z:Nat} {M:Mem} {v:AV} {m:Nat} {cells:List AV} {tk:Option Nat} (h:GroK z M v m cells tk):∃ v',purC0 v=Option.some v'∧isS z m cells v'∧v.cells=[v]∧oneA v=true:=by
 obtain ⟨hc,h⟩:=h
 rcases h with ⟨h0,rfl,_⟩ | ⟨hm,k,_,_,rfl,_⟩
 ·exact ⟨.nils,rfl,⟨hc,.inl ⟨h0,rfl⟩⟩,rfl,rfl⟩
 ·exact ⟨.sl 0 0 m cells,rfl,⟨hc,.inr ⟨0,.inl rfl,rfl⟩⟩,rfl,rfl⟩
def numCells (ks:List Nat):List AV:=ks.map fun (k:Nat)=>.int .i64 (k:Int)
inductive RSeq (fm fs:AV) (d:List Nat):List (List Nat)→List Nat→Nat→List (List Nat)→List Val→Nat→Prop
 | nil {i:Nat}:RSeq fm fs d [] [] i [] [] i
 | skip {k i i1 i2:Nat} {V:Val} {ns ns':List (List Nat)} {ks:List Nat} {vs:List Val} (h:Reads fm fs d k i V i1) (r:RSeq fm fs d ns ks i1 ns' vs i2):RSeq fm fs d ([] :: ns) (k :: ks) i ns' vs i2
 | keep {k i i1 i2:Nat} {V:Val} {n:List Nat} {ns ns':List (List Nat)} {ks:List Nat} {vs:List Val} (hn:n≠[]) (h:Reads fm fs d k i V i1) (r:RSeq fm fs d ns ks i1 ns' vs i2):RSeq fm fs d (n :: ns) (k :: ks) i (n :: ns') (V :: vs) i2
theorem RSeq.len {fm fs:AV} {d:List Nat} {ns ns':List (List Nat)} {ks:List Nat} {vs:List Val} {i i':Nat} (h:RSeq fm fs d ns ks i ns' vs i'):ns.length=ks.length∧ns'.length=vs.length:=by
 induction h with
 | nil=>exact ⟨rfl,rfl⟩
 | skip _ _ ih=>exact ⟨by simp [ih.1],ih.2⟩
 | keep _ _ _ ih=>exact ⟨by simp [ih.1],by simp [ih.2]⟩
def seqR (nm ns ps:AV):List AV:=[nm,.int .i64 7,.nils,.int .i64 0,.bool false,.int .i64 0,.int .i64 0,.int .i64 0,.int .i64 0,.int .i64 0,ns,ps]
def tmS (n q:Nat) (ps:AV) (len j:Nat):Tm:=[(2,.ptr n 0),(4,.ptr (n + 1) 0),(5,.ptr (n + 2) 0),(11,.ptr q 0),(147,ps),(148,.int .i64 (len:Int)),(149,.int .i64 (j:Int))]
theorem drop_map_cons {α β:Type} {f:α→β} {l:List α} {j:Nat} {x:α} {r:List α} (h:l.drop j=x :: r):(l.map f).drop j=f x :: r.map f:=by
 rw [← List.map_drop,h]; rfl
theorem VP.two {V:Val} {c:List AV} (h:VP V c):∃ c',purL0 c=some c'∧VC V c'∧purL0 c'=some c'∧c'.length=5∧c.length=5∧c.all oneA=true∧c.take 5=c:=by
 obtain ⟨c',h1,h2,h3,h4⟩:=h
 exact ⟨c',h1,h2,purL0_pure h2.pure,h2.len,h3,h4,List.take_of_length_le (by omega)⟩
theorem fill5 {c:List AV} (h:c.length=5) (z:List AV) (hz:z.length=5):z.take 0 ++ c ++ z.drop (0 + 5)=c:=by
 rw [List.take_zero,List.nil_append,Nat.zero_add,List.drop_of_length_le (by omega),List.append_nil]
theorem loop23_5 {fm fs:AV} {d:List Nat} {b:Nat} {NS:List (List Nat)} {KS:List Nat} {nm nsv psv:AV} {M0:Mem} {q:Nat} (hb:b < M0.nb) (hq:M0.nb + 2 < q) (hns:isS 1 NS.length (strCells NS) nsv) (hps:isS 1 KS.length (numCells KS) psv) (hlen:NS.length=KS.length) (hks:KS.length < 1000) :
  ∀ {ns:List (List Nat)} {ks:List Nat} {i:Nat} {ns':List (List Nat)} {vs:List Val} {i':Nat},RSeq fm fs d ns ks i ns' vs i'→∀ (j:Nat) (M:Mem) (nv pv:AV) (nc:List (List Nat)) (vc:List Val) (pc:List AV) (t1 t2:Option Nat),NS.drop j=ns→KS.drop j=ks→j≤KS.length→nc.length≤j→nc.length=vc.length →
   Fr b M0 M→q < M.nb→M.get b=some (.cells (rdC fm fs d i))→M.get M0.nb=some (.cells [.ptr b 0])→M.get (M0.nb + 1)=some (.cells Z5v)→M.get (M0.nb + 2)=some (.cells (seqR nm nsv psv))→M.get q=some (.cells [.int .i64 4,.int .i64 0,.nils,nv,pv]) →
   GroK 1 M nv nc.length (strCells nc) t1→GroK 5 M pv vc.length pc t2→VCs vc pc→(t1=none∨t1≠t2)→(∀ k,t1=some k→M0.nt≤k)→(∀ k,t2=some k→M0.nt≤k) →
   ∃ M' nv' pv' pc' t1' t2',ev ES (.c (.loop L23_5) (tmS M0.nb q psv KS.length j) M)=some (.code (.exit 5) (tmS M0.nb q psv KS.length KS.length ++ [(150,.bool false)]) M')∧Fr b M0 M'∧M'.get b=some (.cells (rdC fm fs d i'))∧M'.get (M0.nb + 1)=some (.cells Z5v)∧M'.get q=some (.cells [.int .i64 4,.int .i64 0,.nils,nv',pv']) ∧
    GroK 1 M' nv' (nc ++ ns').length (strCells (nc ++ ns')) t1'∧GroK 5 M' pv' (vc ++ vs).length pc' t2'∧VCs (vc ++ vs) pc':=by
 intro ns ks i ns' vs i' h
 induction h with
 | nil=>
  intro j M nv pv nc vc pc t1 t2 hd1 hd2 hj hnc hncv hfr hqn gb g0 g1 g2 gq hg1 hg2 hvc hne hk1 hk2
  have hj:j=KS.length:=by
   have:=congrArg List.length hd2
   simp at this; omega
  subst hj
  refine ⟨M,nv,pv,pc,t1,t2,?_,hfr,gb,g1,gq,by rw [List.append_nil]; exact hg1,by rw [List.append_nil]; exact hg2,by rw [List.append_nil]; exact hvc⟩
  rw [ev_loop]
  simp (maxSteps:=1000000) (disch:=omega) only [L23_5,tmS,EVa,EVb,oi,ou,wants,evx,evxs,evo,evparts,fillA,put,keepT,argTm,result,resAll,resOf,vO,boxF,binF,nilF,unF,lenF,callF,appF,mkIF,readsOf,boxAt,Nat.reduceEqDiff,reduceCtorEq,Nat.reduceBEq,Int.reduceToNat,Nat.reduceAdd,Nat.reduceLeDiff,Nat.reduceMul,Int.lt_irrefl]
 | @skip k i i1 i2 V ns ns' ks vs hR _ ih=>
  intro j M nv pv nc vc pc t1 t2 hd1 hd2 hj hnc hncv hfr hqn gb g0 g1 g2 gq hg1 hg2 hvc hne hk1 hk2
  have hlt:j < KS.length:=by
   have:=congrArg List.length hd2
   simp at this; omega
  have hd1':NS.drop (j + 1)=ns:=by rw [← List.drop_drop,hd1]; rfl
  have hd2':KS.drop (j + 1)=ks:=by rw [← List.drop_drop,hd2]; rfl
  have hia:=fun M=>hps.ia (M:=M) hlt
  rw [Nat.mul_one,numCells,drop_map_cons hd2] at hia
  have hia2:=fun M=>hns.ia (M:=M) (show j < NS.length by omega)
  rw [Nat.mul_one,strCells,drop_map_cons hd1] at hia2
  have hnbM:=hfr.1
  obtain ⟨c,M',e23,hvp,gb',fr'⟩:=hR b M (by omega) gb
  obtain ⟨c',hc1,hc2,hc3,hc4,hc5,hc6,hc7⟩:=hvp.two
  have hnb':=fr'.1
  have x0:((M'.new (.cells Z5v)).set M'.nb (.cells c)).get M'.nb=some (.cells c):=gns_self
  have xb:((M'.new (.cells Z5v)).set M'.nb (.cells c)).get b=some (.cells (rdC fm fs d i1)):=by rw [gns_lt (by omega)]; exact gb'
  have y0:((M'.new (.cells Z5v)).set M'.nb (.cells c)).get M0.nb=some (.cells [.ptr b 0]):=by rw [gns_lt (by omega),fr'.get (by omega) (by omega)]; exact g0
  have y1:((M'.new (.cells Z5v)).set M'.nb (.cells c)).get (M0.nb + 1)=some (.cells Z5v):=by rw [gns_lt (by omega),fr'.get (by omega) (by omega)]; exact g1
  have y2:((M'.new (.cells Z5v)).set M'.nb (.cells c)).get (M0.nb + 2)=some (.cells (seqR nm nsv psv)):=by rw [gns_lt (by omega),fr'.get (by omega) (by omega)]; exact g2
  have yq:((M'.new (.cells Z5v)).set M'.nb (.cells c)).get q=some (.cells [.int .i64 4,.int .i64 0,.nils,nv,pv]):=by rw [gns_lt (by omega),fr'.get (by omega) (by omega)]; exact gq
  have fr2:Fr b M ((M'.new (.cells Z5v)).set M'.nb (.cells c)):=(fr'.new).set (.inr hnb')
  have hw2:IntKind.i64.wrap ((j:Int) + 1)=((j + 1:Nat):Int):=by rw [wrap_i64] <;> omega
  have hnbq:M'.nb≠q:=by omega
  have ynb:((M'.new (.cells Z5v)).set M'.nb (.cells c)).nb=M'.nb + 1:=rfl
  generalize hM2:(M'.new (.cells Z5v)).set M'.nb (.cells c)=M2 at *
  obtain ⟨M3,nv',pv',pc',t1',t2',he,r1,r2,r3,r4,r5,r6,r7⟩:=ih (j + 1) M2 nv pv nc vc pc t1 t2 hd1' hd2' (by omega) (by omega) hncv (hfr.trans fr2) (by omega) xb y0 y1 y2 yq (fr2.grok hg1) (fr2.grok hg2) hvc hne hk1 hk2
  refine ⟨M3,nv',pv',pc',t1',t2',?_,r1,r2,r3,r4,r5,r6,r7⟩
  have hstep:ev ES (.c L23_5 (tmS M0.nb q psv KS.length j) M)=some (.code .normal (tmS M0.nb q psv KS.length (j + 1)) M2):=by
   simp only [seqR,Z5v,tmS] at y2 hM2 ⊢
   simp (maxSteps:=1000000) (disch:=omega) only [L23_5,EVa,EVb,oi,ou,wants,evx,evxs,evo,evparts,fillA,put,keepT,argTm,result,resAll,resOf,vO,boxF,binF,nilF,unF,lenF,callF,appF,mkIF,readsOf,boxAt,Nat.reduceEqDiff,reduceCtorEq,Nat.reduceBEq,Int.reduceToNat,Nat.reduceAdd,Nat.reduceLeDiff,Nat.reduceMul,hia,g0,e23,hM2,hc5,hc6,hc7,y2,hia2,hw2,bin_sneq]
  rw [ev_loop,hstep]
  exact he
 | @keep k i i1 i2 V n ns ns' ks vs hn hR _ ih=>
  intro j M nv pv nc vc pc t1 t2 hd1 hd2 hj hnc hncv hfr hqn gb g0 g1 g2 gq hg1 hg2 hvc hne hk1 hk2
  have hlt:j < KS.length:=by
   have:=congrArg List.length hd2
   simp at this; omega
  have hd1':NS.drop (j + 1)=ns:=by rw [← List.drop_drop,hd1]; rfl
  have hd2':KS.drop (j + 1)=ks:=by rw [← List.drop_drop,hd2]; rfl
  have hia:=fun M=>hps.ia (M:=M) hlt
  rw [Nat.mul_one,numCells,drop_map_cons hd2] at hia
  have hia2:=fun M=>hns.ia (M:=M) (show j < NS.length by omega)
  rw [Nat.mul_one,strCells,drop_map_cons hd1] at hia2
  have hnbM:=hfr.1
  obtain ⟨c,M',e23,hvp,gb',fr'⟩:=hR b M (by omega) gb
  obtain ⟨c',hc1,hc2,hc3,hc4,hc5,hc6,hc7⟩:=hvp.two
  have hnb':=fr'.1
  have x0:((M'.new (.cells Z5v)).set M'.nb (.cells c)).get M'.nb=some (.cells c):=gns_self
  have xb:((M'.new (.cells Z5v)).set M'.nb (.cells c)).get b=some (.cells (rdC fm fs d i1)):=by rw [gns_lt (by omega)]; exact gb'
  have y0:((M'.new (.cells Z5v)).set M'.nb (.cells c)).get M0.nb=some (.cells [.ptr b 0]):=by rw [gns_lt (by omega),fr'.get (by omega) (by omega)]; exact g0
  have y1:((M'.new (.cells Z5v)).set M'.nb (.cells c)).get (M0.nb + 1)=some (.cells Z5v):=by rw [gns_lt (by omega),fr'.get (by omega) (by omega)]; exact g1
  have y2:((M'.new (.cells Z5v)).set M'.nb (.cells c)).get (M0.nb + 2)=some (.cells (seqR nm nsv psv)):=by rw [gns_lt (by omega),fr'.get (by omega) (by omega)]; exact g2
  have yq:((M'.new (.cells Z5v)).set M'.nb (.cells c)).get q=some (.cells [.int .i64 4,.int .i64 0,.nils,nv,pv]):=by rw [gns_lt (by omega),fr'.get (by omega) (by omega)]; exact gq
  have fr2:Fr b M ((M'.new (.cells Z5v)).set M'.nb (.cells c)):=(fr'.new).set (.inr hnb')
  have hw2:IntKind.i64.wrap ((j:Int) + 1)=((j + 1:Nat):Int):=by rw [wrap_i64] <;> omega
  have hnbq:M'.nb≠q:=by omega
  have ynb:((M'.new (.cells Z5v)).set M'.nb (.cells c)).nb=M'.nb + 1:=rfl
  have w1:=fr2.grok hg1
  have w2:=fr2.grok hg2
  have frM:=hfr.trans fr2
  generalize hM2:(M'.new (.cells Z5v)).set M'.nb (.cells c)=M2 at *
  have hdn:decide (n=[])=false:=decide_eq_false hn
  have qn:purL0 [.str n]=some [.str n]:=rfl
  obtain ⟨nv2,M3,t1',a1,k1,s1,n1,o1',f1⟩:=w1.appF (bytes:=16) (j:=1) qn rfl (by omega) (by omega) (by omega)
  have hne2:t2=none∨t2≠t1:=by
   rcases Nat.eq_zero_or_pos nc.length with h | h
   ·rw [← hncv,h] at w2
    exact .inl w2.none
   ·rcases hne with h3 | h3
    ·exact absurd h3 (w1.some h)
    ·exact .inr fun e=>h3 e.symm
  have w2':=w2.oth (tk:=t1) n1 o1' hne2
  have hne3:=w2.ne hne2 f1
  obtain ⟨pv2,M4,t2',a2,k2,s2,n2,o2',f2⟩:=w2'.appF (bytes:=88) (j:=1) hc3 (by omega) (by omega) (by omega) (by omega)
  have hne4:t1'=none∨t1'≠t2:=by
   rcases hne3 with h | h
   ·exact .inr fun e=>k1.some (by omega) (e.trans h)
   ·exact .inr fun e=>h e.symm
  have k1':=k1.oth (tk:=t2) n2 o2' hne4
  have hne5:=k1.ne hne4 f2
  have hk1':∀ k,t1'=some k→M0.nt≤k:=fun k hk=>by
   rcases f1 k hk with h | h
   ·exact hk1 k h
   ·exact Nat.le_trans frM.2.2.1 h
  have hk2':∀ k,t2'=some k→M0.nt≤k:=fun k hk=>by
   rcases f2 k hk with h | h
   ·exact hk2 k h
   ·exact Nat.le_trans frM.2.2.1 (Nat.le_trans n1 h)
  have fr4:=(frM.app s1 n1 o1' hk1).app s2 n2 o2' hk2
  have g4:∀ j,M4.get j=M2.get j:=fun j=>by rw [s2.get,s1.get]
  have nb4:M4.nb=M2.nb:=by rw [s2.nb,s1.nb]
  obtain ⟨nvp,_,_,cn1,cn2⟩:=k1.pur
  obtain ⟨pvp,_,_,cp1,cp2⟩:=k2.pur
  have z0:M4.get q=some (.cells [.int .i64 4,.int .i64 0,.nils,nv,pv]):=by rw [g4]; exact yq
  have z1:=gs_self (y:=.cells [.int .i64 4,.int .i64 0,.nils,nv2,pv]) z0
  have z2:=gs_self (y:=.cells [.int .i64 4,.int .i64 0,.nils,nv2,pv2]) z1
  have hoth:∀ j,j≠q→((M4.set q (.cells [.int .i64 4,.int .i64 0,.nils,nv2,pv])).set q (.cells [.int .i64 4,.int .i64 0,.nils,nv2,pv2])).get j=M2.get j:=fun j hj=>by
   rw [gs_ne (fun e=>hj e.symm),gs_ne (fun e=>hj e.symm),g4]
  have hlen1:(nc ++ [n]).length=nc.length + 1:=by simp
  have hlen2:(vc ++ [V]).length=vc.length + 1:=by simp
  have hst:strCells nc ++ [.str n]=strCells (nc ++ [n]):=by simp [strCells]
  rw [hst,← hlen1] at k1'
  rw [← hlen2] at k2
  have hvc':VCs (vc ++ [V]) (pc ++ c'):=hvc.app (by simp only [VCs]; exact ⟨c',[],by simp,hc2,rfl⟩)
  obtain ⟨M6,nv',pv',pc',t1'',t2'',he,r1,r2,r3,r4,r5,r6,r7⟩:=ih (j + 1) ((M4.set q (.cells [.int .i64 4,.int .i64 0,.nils,nv2,pv])).set q (.cells [.int .i64 4,.int .i64 0,.nils,nv2,pv2])) nv2 pv2 (nc ++ [n]) (vc ++ [V]) (pc ++ c') t1' t2' hd1' hd2' (by omega) (by omega) (by omega) ((fr4.set (.inr (by omega))).set (.inr (by omega))) (by rw [nbn_set,nbn_set,nb4]; omega) (by rw [hoth b (by omega)]; exact xb) (by rw [hoth _ (by omega)]; exact y0) (by rw [hoth _ (by omega)]; exact y1) (by rw [hoth _ (by omega)]; exact y2) z2 (k1'.mem rfl rfl) (k2.mem rfl rfl) hvc' hne5 hk1' hk2'
  simp only [List.append_assoc,List.singleton_append] at r5 r6 r7
  refine ⟨M6,nv',pv',pc',t1'',t2'',?_,r1,r2,r3,r4,r5,r6,r7⟩
  have hstep:ev ES (.c L23_5 (tmS M0.nb q psv KS.length j) M)=some (.code .normal (tmS M0.nb q psv KS.length (j + 1)) ((M4.set q (.cells [.int .i64 4,.int .i64 0,.nils,nv2,pv])).set q (.cells [.int .i64 4,.int .i64 0,.nils,nv2,pv2]))):=by
   have u1:=s1.wr
   have u2:=s2.wr
   have m3:M3.get q=some (.cells [.int .i64 4,.int .i64 0,.nils,nv,pv]):=by rw [s1.get]; exact yq
   have m3p:M3.get M'.nb=some (.cells c):=by rw [s1.get]; exact x0
   simp only [seqR,Z5v,tmS] at y2 hM2 ⊢
   simp (maxSteps:=1000000) (disch:=omega) only [L23_5,EVa,EVb,oi,ou,wants,evx,evxs,evo,evparts,fillA,put,keepT,argTm,result,resAll,resOf,vO,boxF,binF,nilF,unF,lenF,callF,appF,mkIF,readsOf,boxAt,Nat.reduceEqDiff,reduceCtorEq,Nat.reduceBEq,Int.reduceToNat,Nat.reduceAdd,Nat.reduceLeDiff,Nat.reduceMul,hia,g0,e23,hM2,hc1,hc4,hc5,hc6,hc7,x0,y2,yq,m3,m3p,z0,z1,z2,hia2,hw2,bin_sneq,hdn,qn,a1,a2,u1,u2,cn1,cn2,cp1,cp2]
  rw [ev_loop,hstep]
  exact he
theorem rd_seq {fm fs:AV} {d:List Nat} {k i i':Nat} {s:List Nat} {nsv psv:AV} {NS ns':List (List Nat)} {KS:List Nat} {vs:List Val} (hr:RuleAt fm k (seqR (.str s) nsv psv)) (hns:isS 1 NS.length (strCells NS) nsv) (hps:isS 1 KS.length (numCells KS) psv) (hks:KS.length < 1000) (hS:RSeq fm fs d NS KS i ns' vs i') (hn:ns'∈nameLists):Reads fm fs d k i (.rcd ns' vs) i':=by
 refine reads_of hr fun b M M1 hh=>?_
 have hbn:=hh.hb
 have hnb:=hh.nb
 have eb:=hh.gb
 have e0:=hh.g0
 have e1:=hh.g1
 have e2:=hh.g2
 have hfr:Fr b M ((M1.new (.cells Z5v)).set M1.nb (.cells [.int .i64 4,.int .i64 0,.nils,.nils,.nils])):=(hh.fr.new).set (.inr (by omega))
 have gq:((M1.new (.cells Z5v)).set M1.nb (.cells [.int .i64 4,.int .i64 0,.nils,.nils,.nils])).get M1.nb=some (.cells [.int .i64 4,.int .i64 0,.nils,.nils,.nils]):=gns_self
 have go:∀ j,j < M1.nb→((M1.new (.cells Z5v)).set M1.nb (.cells [.int .i64 4,.int .i64 0,.nils,.nils,.nils])).get j=M1.get j:=fun j hj=>gns_lt hj
 have gnb:((M1.new (.cells Z5v)).set M1.nb (.cells [.int .i64 4,.int .i64 0,.nils,.nils,.nils])).nb=M1.nb + 1:=rfl
 have f2:((M1.new (.cells Z5v)).set M1.nb (.cells [.int .i64 4,.int .i64 0,.nils,.nils,.nils])).get (M.nb + 2)=some (.cells (seqR (.str s) nsv psv)):=by rw [go _ (by omega)]; exact e2
 generalize hM2:(M1.new (.cells Z5v)).set M1.nb (.cells [.int .i64 4,.int .i64 0,.nils,.nils,.nils])=M2 at *
 obtain ⟨hl1,hl2⟩:=hS.len
 obtain ⟨M',nv,pv,pc,t1,t2,he,r1,r2,r3,r4,r5,r6,r7⟩:=loop23_5 hbn (q:=M1.nb) (by omega) hns hps hl1 hks hS 0 M2 .nils .nils [] [] [] none none rfl rfl (Nat.zero_le _) (Nat.zero_le _) rfl hfr (by omega) (by rw [go _ (by omega)]; exact eb) (by rw [go _ (by omega)]; exact e0) (by rw [go _ (by omega)]; exact e1) f2 gq GroK.nil GroK.nil (by simp [VCs]) (.inl rfl) (fun k h=>nomatch h) (fun k h=>nomatch h)
 simp only [List.nil_append] at r5 r6 r7
 obtain ⟨nv',n1,n2,n3,n4⟩:=r5.pur
 obtain ⟨pv',p1,p2,p3,p4⟩:=r6.pur
 refine ⟨[.int .i64 4,.int .i64 0,.nils,nv,pv],M'.set (M.nb + 1) (.cells [.int .i64 4,.int .i64 0,.nils,nv,pv]),?_,gs_self r3,⟨[.int .i64 4,.int .i64 0,.nils,nv',pv'],?_,?_,rfl,?_⟩,by rw [gs_ne (by omega)]; exact r2,r1.set (.inr (by omega))⟩
 ·have hpl:=hps.len
  simp only [Int.natCast_zero,tmS,List.cons_append,List.nil_append] at he
  simp only [seqR,Z5v] at e2 f2 hM2 r3
  have q3:(M1.new (.cells [.int .i64 0,.int .i64 0,.nils,.nils,.nils])).get (M.nb + 3)=some (.cells [.int .i64 0,.int .i64 0,.nils,.nils,.nils]):=by rw [← hnb]; exact gn_self
  rw [hnb] at hM2 he r4
  simp (maxSteps:=1000000) (disch:=omega) only [T23_2,T23_3,T23_4,T23_5,T23_6,tm23,EVa,EVb,oi,ou,wants,evx,evxs,evo,evparts,fillA,put,keepT,argTm,result,resAll,resOf,vO,boxF,binF,nilF,unF,lenF,callF,appF,mkIF,readsOf,boxAt,Nat.reduceEqDiff,reduceCtorEq,Nat.reduceBEq,Int.reduceToNat,Nat.reduceAdd,Nat.reduceLeDiff,Nat.reduceMul,e2,f2,hnb,q3,hM2,hpl,he,r3,r4,n3,n4,p3,p4,Int.reduceEq]
 ·have h1:∀ n,purC0 (.int .i64 n)=some (.int .i64 n):=fun n=>rfl
  have h2:purC0 .nils=some .nils:=rfl
  simp only [purL0,h1,h2,n1,p1,Option.bind_some,Option.map_some]
 ·simp only [VC]
  exact ⟨.nils,nv',pv',pc,rfl,isS_nils,n2,p2,r7,hn,hl2⟩
 ·simp only [List.all_cons,List.all_nil,n4,p4,oneA_int,oneA_nils,Bool.and_self]
inductive RRep (fm fs:AV) (d:List Nat) (stop k:Nat):Nat→List Val→Nat→Prop
 | nil {i:Nat} (h:d[i]?=some stop):RRep fm fs d stop k i [] i
 | cons {i i1 i2 c:Nat} {V:Val} {vs:List Val} (h:d[i]?=some c) (hc:c≠stop) (hR:Reads fm fs d k i V i1) (r:RRep fm fs d stop k i1 vs i2):RRep fm fs d stop k i (V :: vs) i2
def repR (nm:AV) (stop of_:Nat) (ps:AV):List AV:=[nm,.int .i64 9,.nils,.int .i64 0,.bool false,.int .i64 0,.int .i64 0,.int .i64 (stop:Int),.int .i64 0,.int .i64 (of_:Int),.nils,ps]
theorem loop23_3 {fm fs:AV} {d:List Nat} {b stop of_:Nat} {nm psv:AV} {M0:Mem} (hb:b < M0.nb) (hd:d.length < 1000000) (hdb:Bytes d) (hst:stop < 256):∀ {i:Nat} {vs:List Val} {i':Nat},RRep fm fs d stop of_ i vs i'→∀ (M:Mem) (pv:AV) (vc:List Val) (pc:List AV) (t2:Option Nat),vc.length + vs.length < 1000000 →
   Fr b M0 M→M0.nb + 2 < M.nb→M.get b=some (.cells (rdC fm fs d i))→M.get M0.nb=some (.cells [.ptr b 0])→M.get (M0.nb + 1)=some (.cells Z5v)→M.get (M0.nb + 2)=some (.cells (repR nm stop of_ psv))→GroK 5 M pv vc.length pc t2→VCs vc pc→(∀ k,t2=some k→M0.nt≤k) →
   ∃ M' pv' pc' t2',ev ES (.c (.loop L23_3) [(2,.ptr M0.nb 0),(4,.ptr (M0.nb + 1) 0),(5,.ptr (M0.nb + 2) 0),(8,pv)] M)=some (.code (.exit 3) [(2,.ptr M0.nb 0),(4,.ptr (M0.nb + 1) 0),(5,.ptr (M0.nb + 2) 0),(8,pv'),(101,.bool false)] M')∧Fr b M0 M'∧M'.get b=some (.cells (rdC fm fs d i'))∧M'.get M0.nb=some (.cells [.ptr b 0])∧M'.get (M0.nb + 1)=some (.cells Z5v) ∧
    GroK 5 M' pv' (vc ++ vs).length pc' t2'∧VCs (vc ++ vs) pc':=by
 intro i vs i' h
 induction h with
 | nil h=>
  intro M pv vc pc t2 hvl hfr hnb gb g0 g1 g2 hg hvc hk
  have h67:=ev67 (ad:=false) gb h hd
  refine ⟨M,pv,pc,t2,?_,hfr,gb,g0,g1,by rw [List.append_nil]; exact hg,by rw [List.append_nil]; exact hvc⟩
  have hw:IntKind.i64.wrap (stop:Int)=(stop:Int):=by rw [wrap_i64] <;> omega
  rw [ev_loop]
  simp only [repR] at g2
  simp (maxSteps:=1000000) (disch:=omega) only [L23_3,EVa,EVb,oi,ou,wants,evx,evxs,evo,evparts,fillA,put,keepT,argTm,result,resAll,resOf,vO,boxF,binF,nilF,unF,lenF,callF,appF,mkIF,readsOf,boxAt,Nat.reduceEqDiff,reduceCtorEq,Nat.reduceBEq,Int.reduceToNat,Nat.reduceAdd,Nat.reduceLeDiff,Nat.reduceMul,g0,g2,h67,hw,ne_eq,not_true_eq_false]
 | @cons i i1 i2 c V vs h hc hR _ ih=>
  intro M pv vc pc t2 hvl hfr hnb gb g0 g1 g2 hg hvc hk
  have h67:=ev67 (ad:=false) gb h hd
  have hcb:c < 256:=hdb c (List.mem_of_getElem? h)
  have hnbM:=hfr.1
  obtain ⟨cc,M',e23,hvp,gb',fr'⟩:=hR b M (by omega) gb
  obtain ⟨c',hc1,hc2,hc3,hc4,hc5,hc6,hc7⟩:=hvp.two
  have hnb':=fr'.1
  have w2:=fr'.grok hg
  obtain ⟨pv2,M4,t2',a2,k2,s2,n2,o2',f2⟩:=w2.appF (bytes:=88) (j:=1) hc3 (by omega) (by omega) (by simp only [List.length_cons] at hvl; omega) (by simp only [List.length_cons] at hvl; omega)
  have frM:=hfr.trans fr'
  have fr4:=frM.app s2 n2 o2' hk
  have hk2':∀ k,t2'=some k→M0.nt≤k:=fun k hk'=>by
   rcases f2 k hk' with h | h
   ·exact hk k h
   ·exact Nat.le_trans frM.2.2.1 h
  have hlen2:(vc ++ [V]).length=vc.length + 1:=by simp
  rw [← hlen2] at k2
  have hvc':VCs (vc ++ [V]) (pc ++ c'):=hvc.app (by simp only [VCs]; exact ⟨c',[],by simp,hc2,rfl⟩)
  have hl0:vc.length + 1 + vs.length < 1000000:=by simp only [List.length_cons] at hvl; omega
  obtain ⟨M6,pv',pc',t2'',he,r1,r2,r3,r4,r5,r6⟩:=ih M4 pv2 (vc ++ [V]) (pc ++ c') t2' (by rw [hlen2]; exact hl0) fr4 (by rw [s2.nb]; omega) (by rw [s2.get]; exact gb') (by rw [s2.get,fr'.get (by omega) (by omega)]; exact g0) (by rw [s2.get,fr'.get (by omega) (by omega)]; exact g1) (by rw [s2.get,fr'.get (by omega) (by omega)]; exact g2) k2 hvc' hk2'
  simp only [List.append_assoc,List.singleton_append] at r5 r6
  refine ⟨M6,pv',pc',t2'',?_,r1,r2,r3,r4,r5,r6⟩
  have hstep:ev ES (.c L23_3 [(2,.ptr M0.nb 0),(4,.ptr (M0.nb + 1) 0),(5,.ptr (M0.nb + 2) 0),(8,pv)] M)=some (.code .normal [(2,.ptr M0.nb 0),(4,.ptr (M0.nb + 1) 0),(5,.ptr (M0.nb + 2) 0),(8,pv2)] M4):=by
   have hw:IntKind.i64.wrap (c:Int)=(c:Int):=by rw [wrap_i64] <;> omega
   have hne:¬ (c:Int)=(stop:Int):=by omega
   simp only [repR] at g2
   simp (maxSteps:=1000000) (disch:=omega) only [L23_3,EVa,EVb,oi,ou,wants,evx,evxs,evo,evparts,fillA,put,keepT,argTm,result,resAll,resOf,vO,boxF,binF,nilF,unF,lenF,callF,appF,mkIF,readsOf,boxAt,Nat.reduceEqDiff,reduceCtorEq,Nat.reduceBEq,Int.reduceToNat,Nat.reduceAdd,Nat.reduceLeDiff,Nat.reduceMul,g0,g2,h67,hw,hne,ne_eq,not_false_eq_true,e23,hc1,hc4,hc5,hc6,hc7,a2]
  rw [ev_loop,hstep]
  exact he
theorem rd_rep {fm fs:AV} {d:List Nat} {k i i' stop of_:Nat} {s:List Nat} {psv:AV} {vs:List Val} (hr:RuleAt fm k (repR (.str s) stop of_ psv)) (hd:d.length < 1000000) (hdb:Bytes d) (hst:stop < 256) (hS:RRep fm fs d stop of_ i vs i') (hi:i' < d.length) (hvl:vs.length < 1000000):Reads fm fs d k i (.lst vs) (i' + 1):=by
 refine reads_of hr fun b M M1 hh=>?_
 have hbn:=hh.hb
 have hnb:=hh.nb
 obtain ⟨M2,pv,pc,t2,he,r1,r2,r3,r4,r5,r6⟩:=loop23_3 hbn hd hdb hst hS M1 .nils [] [] none (by simpa using hvl) hh.fr (by omega) hh.gb hh.g0 hh.g1 hh.g2 GroK.nil (by simp [VCs]) (fun k h=>nomatch h)
 simp only [List.nil_append] at r5 r6
 obtain ⟨pv',p1,p2,p3,p4⟩:=r5.pur
 have h61:=fun M=>ev61 (M:=M) p1 p2.pure
 have g5:(M2.set b (.cells (rdC fm fs d (i' + 1)))).get (M.nb + 1)=some (.cells Z5v):=by rw [gs_ne (by omega)]; exact r4
 refine ⟨[.int .i64 3,.int .i64 0,.nils,.nils,pv'],(M2.set b (.cells (rdC fm fs d (i' + 1)))).set (M.nb + 1) (.cells [.int .i64 3,.int .i64 0,.nils,.nils,pv']),?_,gs_self g5,VC.vp ?_,by rw [gs_ne (by omega)]; exact gs_self r2,(r1.set (.inl rfl)).set (.inr (by omega))⟩
 ·have e2:=hh.g2
  have hw:IntKind.i64.wrap ((i':Int) + 1)=((i' + 1:Nat):Int):=by rw [wrap_i64] <;> omega
  simp only [repR,Z5v,rdC] at e2 g5 r2 ⊢
  simp (maxSteps:=1000000) (disch:=omega) only [T23_2,tm23,EVa,EVb,oi,ou,wants,evx,evxs,evo,evparts,fillA,put,keepT,argTm,result,resAll,resOf,vO,boxF,binF,nilF,unF,lenF,callF,appF,mkIF,readsOf,boxAt,Nat.reduceEqDiff,reduceCtorEq,Nat.reduceBEq,Int.reduceToNat,Nat.reduceAdd,Nat.reduceLeDiff,Nat.reduceMul,e2,he,r2,r3,hw,h61,g5,p2.oneA,Int.reduceEq]
 ·simp only [VC]
  exact ⟨.nils,.nils,pv',pc,rfl,isS_nils,isS_nils,p2,r6⟩
end Go.Sx
