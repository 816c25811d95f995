/- A part of the proof of TopSoundsDescribed (texts Zs Zu Zv Zt Zw): an executor of the program's code, proved sound, and its runs. No condition. -/
import Derived.Test.YtdflipbphcmpoaaGreatDoorP21
set_option linter.unusedSimpArgs false
set_option linter.unusedVariables false
set_option maxRecDepth 100000
namespace Go.Sx
open Go.Proofs
def chunkW (c:Nat × List Nat):List Nat:=c.1 :: c.2.length / 256 :: c.2.length % 256 :: c.2
theorem numW_1 {n:Nat} (h:n < 256):numW 1 n=[n]:=by simp [numW,Nat.mod_eq_of_lt h]
theorem numW_2 {n:Nat} (h:n < 65536):numW 2 n=[n / 256,n % 256]:=by
 have:n / 256 % 256=n / 256:=Nat.mod_eq_of_lt (by omega)
 simp [numW,this]
theorem wr_bl {l:List Nat} (h:l.length < 65536):Writes sFm 16 (.byt l) (l.length / 256 :: l.length % 256 :: l) 1:=by
 have:=wr_blob sR16 rfl sR15 (.inr rfl) (l:=l) (Nat.zero_le _) (by omega)
 rw [numW_2 h] at this
 exact this
theorem wr_byte {k u:Nat} {s:List Nat} {mn mx:Nat} (hr:RuleAt sFm k (numR (.str s) 1 mn mx)) (hm:mn≤u) (hx:u≤mx) (hu:u < 256):Writes sFm k (.num u) [u] 1:=by
 have:=wr_num hr (.inl rfl) hm hx
 rw [numW_1 hu] at this
 exact this
theorem wr_ch {k' x nn:Nat} {V:Val} {bs:List Nat} (hx:[4,6,8,9,10][x]?=some k') (hW:Writes sFm k' V bs nn):Writes sFm 3 (.lst [.num x,V]) bs (1 + (1 + nn)):=wr_choice sR3 (slN_is _) hx hW
theorem wr_form {p q u v:Nat} (hp:p < 256) (hq:q < 256) (hu:u < 256) (hv:v < 256):Writes sFm 4 (.rcd [nRate,nChan,nCod] [.num (numB 0 [p,q]),.num u,.num v]) [70,0,4,p,q,u,v] 4:=by
 have h15:=wr_num sR15 (.inr rfl) (n:=numB 0 [p,q]) (Nat.zero_le _) (by rw [numB_two]; omega)
 have e:numW 2 (numB 0 [p,q])=[p,q]:=by
  rw [numB_two,numW_2 (by omega)]
  congr 1
  ·omega
  ·congr 1; omega
 rw [e] at h15
 have hS:WSeq sFm [[],nRate,nChan,nCod] [5,15,14,14] [.num (numB 0 [p,q]),.num u,.num v] ([70,0,4] ++ ([p,q] ++ ([u] ++ ([v] ++ [])))) (1 + (1 + (1 + 0))):=
  .lit sR5 isS_bsl (.keep (by decide) h15 (.keep (by decide) (wr_byte sR14 (Nat.zero_le _) (by omega) hu) (.keep (by decide) (wr_byte sR14 (Nat.zero_le _) (by omega) hv) .nil)))
 exact wr_seq sR4 (slN_is _) (by decide) (names_three (by decide) (by decide) (by decide)) hS
theorem wr_dat {l:List Nat} (h:l.length < 65536):Writes sFm 6 (.rcd [nData] [.byt l]) (68 :: l.length / 256 :: l.length % 256 :: l) 2:=by
 have hS:WSeq sFm [[],nData] [7,16] [.byt l] ([68] ++ ((l.length / 256 :: l.length % 256 :: l) ++ [])) (1 + 0):=.lit sR7 isS_bsl (.keep (by decide) (wr_bl h) .nil)
 rw [List.append_nil] at hS
 exact wr_seq sR6 (slN_is _) (by decide) (names_one (by decide)) hS
theorem wr_oth {a k kn:Nat} {l s s2:List Nat} {mn mx:Nat} (hr:RuleAt sFm k (seqR (.str s) (slS [nName,nData]) (slN [kn,16]))) (hr2:RuleAt sFm kn (numR (.str s2) 1 mn mx)) (hm:mn≤a) (hx:a≤mx) (ha:a < 256) (h:l.length < 65536):Writes sFm k (.rcd [nName,nData] [.num a,.byt l]) (a :: l.length / 256 :: l.length % 256 :: l) 3:=by
 have hS:WSeq sFm [nName,nData] [kn,16] [.num a,.byt l] ([a] ++ ((l.length / 256 :: l.length % 256 :: l) ++ [])) (1 + (1 + 0)):=.keep (by decide) (wr_byte hr2 hm hx ha) (.keep (by decide) (wr_bl h) .nil)
 rw [List.append_nil] at hS
 exact wr_seq hr (slN_is _) (by simp) (names_two (by decide) (by decide)) hS
theorem wr_chunk {a:Nat} {l:List Nat} (h1:65≤a) (h2:a≤90) (hl:Bytes l) (hn:l.length < 65536) (hf:FormOK (a,l)):∃ nn,nn≤6∧Writes sFm 3 (chunkV (a,l)) (chunkW (a,l)) nn:=by
 by_cases ha:a=70
 ·subst ha
  have h4:=hf rfl
  match l,h4,hl with
  | [p,q,u,v],_,hl=>
   refine ⟨1 + (1 + 4),by omega,?_⟩
   rw [chunkV_form,show chunkW (70,[p,q,u,v])=[70,0,4,p,q,u,v] by simp [chunkW]]
   exact wr_ch (x:=0) rfl (wr_form (hl p (by simp)) (hl q (by simp)) (hl u (by simp)) (hl v (by simp)))
 ·by_cases ha2:a=68
  ·subst ha2
   exact ⟨_,by omega,wr_ch (x:=1) rfl (wr_dat hn)⟩
  ·rw [chunkV_oth ha ha2]
   by_cases h3:a≤67
   ·rw [if_pos h3]
    exact ⟨_,by omega,wr_ch (x:=2) rfl (wr_oth sR8 sR11 h1 h3 (by omega) hn)⟩
   ·rw [if_neg h3]
    by_cases h4:a=69
    ·rw [if_pos h4]
     exact ⟨_,by omega,wr_ch (x:=3) rfl (wr_oth sR9 sR12 (by omega) (by omega) (by omega) hn)⟩
    ·rw [if_neg h4]
     exact ⟨_,by omega,wr_ch (x:=4) rfl (wr_oth sR10 sR13 (by omega) (by omega) (by omega) hn)⟩
theorem wr_all:∀ (cs:List (Nat × List Nat)),(∀ c∈cs,65≤c.1∧c.1≤90∧Bytes c.2∧c.2.length < 65536∧FormOK c)→∃ nn,nn≤6 * cs.length∧WAll sFm 3 (cs.map chunkV) (cs.flatMap chunkW) nn
 | [],_=>⟨0,Nat.le_refl _,.nil⟩
 | (a,l) :: r,h=>by
  obtain ⟨g1,g2,g3,g4,g5⟩:=h (a,l) (List.mem_cons_self ..)
  obtain ⟨nn,h1,h2⟩:=wr_chunk g1 g2 g3 g4 g5
  obtain ⟨nn',h3,h4⟩:=wr_all r fun c hc=>h c (List.mem_cons_of_mem _ hc)
  exact ⟨nn + nn',by simp only [List.length_cons]; omega,.cons h2 h4⟩
theorem chunks_bytes:∀ (k:Nat) (l:List Nat) (cs:List (Nat × List Nat)),Bytes l→chunks k l=some cs→l=cs.flatMap chunkW ++ [0]∧∀ c∈cs,65≤c.1∧c.1≤90∧Bytes c.2∧c.2.length < 65536
 | 0,l,cs,_,h=>by cases h
 | k + 1,l,cs,hl,h=>by
  simp only [chunks] at h
  split at h
  ·rename_i h0; cases h; subst h0; exact ⟨rfl,fun c hc=>(nomatch hc)⟩
  ·split at h
   ·rename_i a b c r _
    split at h
    ·rename_i hab
     simp only [Option.map_eq_some_iff] at h
     obtain ⟨cs',h,rfl⟩:=h
     have hr:Bytes r:=fun x hx=>hl x (by simp [hx])
     have hb:=hl b (by simp)
     have hc:=hl c (by simp)
     obtain ⟨h1,h2⟩:=chunks_bytes k _ cs' (hr.drop _) h
     have hlen:(r.take (b * 256 + c)).length=b * 256 + c:=by rw [List.length_take]; omega
     refine ⟨?_,fun x hx=>?_⟩
     ·simp only [List.flatMap_cons,chunkW,hlen,List.cons_append,List.append_assoc]
      rw [← h1,List.take_append_drop,show (b * 256 + c) / 256=b by omega,show (b * 256 + c) % 256=c by omega]
     ·rcases List.mem_cons.1 hx with rfl | hx
      ·exact ⟨hab.1,hab.2.1,hr.take _,by rw [hlen]; omega⟩
      ·exact h2 x hx
    ·cases h
   ·cases h
theorem wr_file {d:List Nat} (hl:Bytes d) {cs:List (Nat × List Nat)} (h:fileChunks d=some cs) (hf:∀ c∈cs,FormOK c) (hn:cs.length < 100000):∃ nn,nn≤6 * cs.length + 10∧Writes sFm 0 (sndV cs) d nn:=by
 unfold fileChunks at h
 split at h
 ·rename_i hm
  obtain ⟨h1,h2⟩:=chunks_bytes _ _ cs (hl.drop 4) h
  obtain ⟨nn,h3,h4⟩:=wr_all cs fun c hc=>⟨(h2 c hc).1,(h2 c hc).2.1,(h2 c hc).2.2.1,(h2 c hc).2.2.2,hf c hc⟩
  have l2:=wr_rep sR2 rfl (by decide) h4 (by rw [List.length_map]; omega)
  rw [← h1] at l2
  have hS:WSeq sFm [[],nChunks] [1,2] [.lst (cs.map chunkV)] (magicS ++ (d.drop 4 ++ [])) ((1 + nn) + 0):=.lit sR1 isS_bsl (.keep (by decide) l2 .nil)
  rw [List.append_nil,← hm.2,List.take_append_drop] at hS
  exact ⟨_,by omega,wr_seq sR0 (slN_is _) (by decide) (names_one (by decide)) hS⟩
 ·cases h
section
variable {c:List AV}
theorem p10_0 (hc:c.all oneA=true):ev ES (.c T10_0 (argTm 0 [.agg [sFm],.agg c]) .zero)=some (.code .normal [(2,.ptr 0 0),(3,.ptr 1 0),(4,.ptr 2 0),(5,.ptr 3 0)] ((((Mem.zero.new (.cells [sFm])).new (.cells c)).new (.cells [.nils])).new (.cells Z2))):=by
 simp only [Z2]
 simp (maxSteps:=1000000) only [T10_0,EVa,EVb,oi,ou,wants,evx,evxs,evo,evparts,fillA,put,keepT,argTm,result,resAll,resOf,vO,boxF,binF,nilF,unF,lenF,callF,appF,mkIF,readsOf,boxAt,Nat.reduceEqDiff,reduceCtorEq,Nat.reduceBEq,Int.reduceToNat,Nat.reduceAdd,Nat.reduceLeDiff,Nat.reduceMul,sFm_o,hc]
theorem p10_1 {M:Mem} (hnb:M.nb=4) (h0:M.get 0=some (.cells [sFm])):ev ES (.c T10_1 [(2,.ptr 0 0),(3,.ptr 1 0),(4,.ptr 2 0),(5,.ptr 3 0)] M)=some (.code .normal [(2,.ptr 0 0),(3,.ptr 1 0),(4,.ptr 2 0),(5,.ptr 3 0),(6,.ptr 4 0),(13,.bool false)] ((M.new (.cells Z2)).set 4 (.cells Z2))):=by
 have g:=gs_new (M:=M) (x:=.cells Z2) (y:=.cells Z2) hnb.symm
 have g':(M.new (.cells Z2)).get 4=some (.cells Z2):=by rw [← hnb]; exact gn_self
 simp only [Z2] at g g' ⊢
 simp (maxSteps:=1000000) only [T10_1,EVa,EVb,oi,ou,wants,evx,evxs,evo,evparts,fillA,put,keepT,argTm,result,resAll,resOf,vO,boxF,binF,nilF,unF,lenF,callF,appF,mkIF,readsOf,boxAt,Nat.reduceEqDiff,reduceCtorEq,Nat.reduceBEq,Int.reduceToNat,Nat.reduceAdd,Nat.reduceLeDiff,Nat.reduceMul,h0,ev19,hnb,g,g',eqZ2]
theorem p10_2 {M:Mem} {X:Tm} (hnb:M.nb=5) (h1:M.get 1=some (.cells c)) (hl:c.length=5) (h25:∀ M,ev ES (.f false 25 [.agg c] M)=some (.fn okZ M)):ev ES (.c T10_2 ((2,.ptr 0 0) :: (3,.ptr 1 0) :: (4,.ptr 2 0) :: (5,.ptr 3 0) :: X) M)=some (.code .normal [(2,.ptr 0 0),(3,.ptr 1 0),(4,.ptr 2 0),(5,.ptr 3 0),(7,.ptr 5 0),(19,.bool false)] ((M.new (.cells Z2)).set 5 (.cells Z2))):=by
 have g:=gs_new (M:=M) (x:=.cells Z2) (y:=.cells Z2) hnb.symm
 have g':(M.new (.cells Z2)).get 5=some (.cells Z2):=by rw [← hnb]; exact gn_self
 have ht:c.take 5=c:=List.take_of_length_le (by omega)
 have hb5:Nat.ble 5 c.length=true:=ble_true (by omega)
 simp only [Z2,okZ] at g g' h25 ⊢
 simp (maxSteps:=1000000) only [T10_2,EVa,EVb,oi,ou,wants,evx,evxs,evo,evparts,fillA,put,keepT,argTm,result,resAll,resOf,vO,boxF,binF,nilF,unF,lenF,callF,appF,mkIF,readsOf,boxAt,Nat.reduceEqDiff,reduceCtorEq,Nat.reduceBEq,Int.reduceToNat,Nat.reduceAdd,Nat.reduceLeDiff,Nat.reduceMul,h1,ht,hb5,h25,hnb,g,g',eqZ2]
theorem p10_4 {M:Mem} {X Y:Tm} (hnb:M.nb=6) (h0:M.get 0=some (.cells [sFm])):ev ES (.c T10_4 ((21,.any) :: (2,.ptr 0 0) :: (3,.ptr 1 0) :: (4,.ptr 2 0) :: (5,.ptr 3 0) :: X) M)=some (.code .normal [(3,.ptr 1 0),(4,.ptr 2 0),(5,.ptr 3 0),(8,.ptr 6 0)] (M.new (.cells (wrC sFm .nils 0)))):=by
 simp only [wrC,Int.natCast_zero]
 simp (maxSteps:=1000000) only [T10_4,EVa,EVb,oi,ou,wants,evx,evxs,evo,evparts,fillA,put,keepT,argTm,result,resAll,resOf,vO,boxF,binF,nilF,unF,lenF,callF,appF,mkIF,readsOf,boxAt,Nat.reduceEqDiff,reduceCtorEq,Nat.reduceBEq,Int.reduceToNat,Nat.reduceAdd,Nat.reduceLeDiff,Nat.reduceMul,h0,hnb,sFm_o,sFm_c]
theorem p10_5 {M M':Mem} (h1:M.get 1=some (.cells c)) (hl:c.length=5) (e33:ev ES (.f false 33 [.ptr 6 0,.int .i64 0,.agg c] M)=some (.fn (.tup []) M')):ev ES (.c T10_5 [(3,.ptr 1 0),(4,.ptr 2 0),(5,.ptr 3 0),(8,.ptr 6 0)] M)=some (.code .normal [(4,.ptr 2 0),(5,.ptr 3 0),(8,.ptr 6 0)] M'):=by
 have ht:c.take 5=c:=List.take_of_length_le (by omega)
 have hb5:Nat.ble 5 c.length=true:=ble_true (by omega)
 simp (maxSteps:=1000000) only [T10_5,EVa,EVb,oi,ou,wants,evx,evxs,evo,evparts,fillA,put,keepT,argTm,result,resAll,resOf,vO,boxF,binF,nilF,unF,lenF,callF,appF,mkIF,readsOf,boxAt,Nat.reduceEqDiff,reduceCtorEq,Nat.reduceBEq,Int.reduceToNat,Nat.reduceAdd,Nat.reduceLeDiff,Nat.reduceMul,h1,ht,hb5,e33]
theorem p10_6 {M:Mem} {out:AV} {node n:Nat} (h6:M.get 6=some (.cells (wrC sFm out node))) (hl:lenK false out=some n) (hn:n≤1000):ev ES (.c T10_6 [(4,.ptr 2 0),(5,.ptr 3 0),(8,.ptr 6 0)] M)=some (.code .normal [(4,.ptr 2 0),(5,.ptr 3 0),(8,.ptr 6 0),(33,.bool false)] M):=by
 have hnn:¬ ((1000:Int) < (n:Int)):=by omega
 simp only [wrC] at h6
 simp (maxSteps:=1000000) only [T10_6,EVa,EVb,oi,ou,wants,evx,evxs,evo,evparts,fillA,put,keepT,argTm,result,resAll,resOf,vO,boxF,binF,nilF,unF,lenF,callF,appF,mkIF,readsOf,boxAt,Nat.reduceEqDiff,reduceCtorEq,Nat.reduceBEq,Int.reduceToNat,Nat.reduceAdd,Nat.reduceLeDiff,Nat.reduceMul,h6,hl,hnn]
theorem p10_7 {M:Mem} {out:AV} {node:Nat} (h6:M.get 6=some (.cells (wrC sFm out node))) (h2:M.get 2=some (.cells [.nils])) (h3:M.get 3=some (.cells Z2)) (hc:out.cells=[out]) (ho:oneA out=true):ev ES (.c (.seq T10_7 T10_8) [(4,.ptr 2 0),(5,.ptr 3 0),(8,.ptr 6 0),(33,.bool false)] M)=some (.code .ret [(4,.ptr 2 0),(5,.ptr 3 0)] ((M.set 2 (.cells [out])).set 3 (.cells Z2))):=by
 have g3:(M.set 2 (.cells [out])).get 3=some (.cells Z2):=by rw [gs_ne (by decide)]; exact h3
 simp only [wrC,Z2] at h6 g3 ⊢
 simp (maxSteps:=1000000) only [T10_7,T10_8,EVa,EVb,oi,ou,wants,evx,evxs,evo,evparts,fillA,put,keepT,argTm,result,resAll,resOf,vO,boxF,binF,nilF,unF,lenF,callF,appF,mkIF,readsOf,boxAt,Nat.reduceEqDiff,reduceCtorEq,Nat.reduceBEq,Int.reduceToNat,Nat.reduceAdd,Nat.reduceLeDiff,Nat.reduceMul,h6,h2,g3,hc,ho]
theorem kn10 {l:List Nat} {cs:List (Nat × List Nat)} (hl:Bytes l) (hn:l.length≤300) (hc:fileChunks l=some cs) (hf:∀ c∈cs,FormOK c) (hV:VC (sndV cs) c):Known 10 [sndF,.agg c] (.tup [bsl l,okZ]):=by
 obtain ⟨u1,u2,u3,u4,u5,u6⟩:=sndV_ok hl hn hc
 obtain ⟨nn,hnn,hW⟩:=wr_file hl hc hf (by omega)
 have hcl:=hV.len
 have hA:=p10_0 hV.all
 obtain ⟨MA,hMA⟩:∃ MA,MA=((((Mem.zero.new (.cells [sFm])).new (.cells c)).new (.cells [.nils])).new (.cells Z2)):=⟨_,rfl⟩
 have a0:MA.get 0=some (.cells [sFm]):=by rw [hMA]; rfl
 have a1:MA.get 1=some (.cells c):=by rw [hMA]; rfl
 have a2:MA.get 2=some (.cells [.nils]):=by rw [hMA]; rfl
 have a3:MA.get 3=some (.cells Z2):=by rw [hMA]; rfl
 have an:MA.nb=4:=by rw [hMA]; rfl
 rw [← hMA] at hA
 have hB:=p10_1 an a0
 obtain ⟨MB,hMB⟩:∃ MB,MB=(MA.new (.cells Z2)).set 4 (.cells Z2):=⟨_,rfl⟩
 have bk:∀ j,j < 4→MB.get j=MA.get j:=fun j hj=>by rw [hMB,gs_ne (by omega),gn_lt (by omega)]
 have bn:MB.nb=5:=by rw [hMB,nbn_set,nbn_new,an]
 rw [← hMB] at hB
 have hC:=p10_2 (M:=MB) (X:=[(6,.ptr 4 0),(13,.bool false)]) bn (by rw [bk 1 (by omega)]; exact a1) hcl fun M=>ev25 hV u1 u2 u3 u4 false M
 obtain ⟨MC,hMC⟩:∃ MC,MC=(MB.new (.cells Z2)).set 5 (.cells Z2):=⟨_,rfl⟩
 have ck':∀ j,j < 4→MC.get j=MA.get j:=fun j hj=>by rw [hMC,gs_ne (by omega),gn_lt (by omega),bk j hj]
 have cn:MC.nb=6:=by rw [hMC,nbn_set,nbn_new,bn]
 rw [← hMC] at hC
 have h4:=p10_4 (M:=MC) (X:=[(7,.ptr 5 0),(19,.bool false)]) (Y:=[]) cn (by rw [ck' 0 (by omega)]; exact a0)
 obtain ⟨MR,hMR⟩:∃ MR,MR=MC.new (.cells (wrC sFm .nils 0)):=⟨_,rfl⟩
 have rk:∀ j,j < 4→MR.get j=MA.get j:=fun j hj=>by rw [hMR,gn_lt (by omega),ck' j hj]
 have rn:MR.nb=7:=by rw [hMR,nbn_new,cn]
 have r6:MR.get 6=some (.cells (wrC sFm .nils 0)):=by rw [hMR,← cn]; exact gn_self
 rw [← hMR] at h4
 obtain ⟨out,M',tk,e33,gb',hG,fr⟩:=hW 6 MR .nils 0 [] none c (by omega) r6 GroK.nil (by simp only [List.length_nil]; omega) (by omega) hV
 rw [List.nil_append] at hG
 have h5:=p10_5 (by rw [rk 1 (by omega)]; exact a1) hcl e33
 have m2:M'.get 2=some (.cells [.nils]):=by rw [fr.get (by omega) (by omega),rk 2 (by omega)]; exact a2
 have m3:M'.get 3=some (.cells Z2):=by rw [fr.get (by omega) (by omega),rk 3 (by omega)]; exact a3
 have h6:=p10_6 gb' hG.len (by omega)
 have h7:=p10_7 gb' m2 m3 hG.one.1 hG.one.2
 intro orc M
 have hRR:ev ES (.c (.seq T10_4 (.seq T10_5 (.seq T10_6 (.seq T10_7 T10_8)))) ((21,.any) :: [(2,.ptr 0 0),(3,.ptr 1 0),(4,.ptr 2 0),(5,.ptr 3 0),(7,.ptr 5 0),(19,.bool false)]) MC)=some (.code .ret [(4,.ptr 2 0),(5,.ptr 3 0)] ((M'.set 2 (.cells [out])).set 3 (.cells Z2))):=by
  rw [ev_seq,h4,seqF.eq_1,ev_seq,h5,seqF.eq_1,ev_seq,h6,seqF.eq_1,h7]
 have t1:((M'.set 2 (.cells [out])).set 3 (.cells Z2)).get 2=some (.cells [out]):=by rw [gs_ne (by decide)]; exact gs_self m2
 have t2:((M'.set 2 (.cells [out])).set 3 (.cells Z2)).get 3=some (.cells Z2):=gs_self (by rw [gs_ne (by decide)]; exact m3)
 have hres:result [(4,.ptr 2 0),(5,.ptr 3 0)] ((M'.set 2 (.cells [out])).set 3 (.cells Z2)) [.c1 4,.cA 5 2]=some (.tup [out,okZ]):=by
  simp only [Z2] at t1 t2 ⊢
  simp (maxSteps:=1000000) only [EVa,EVb,oi,ou,wants,evx,evxs,evo,evparts,fillA,put,keepT,argTm,result,resAll,resOf,vO,boxF,binF,nilF,unF,lenF,callF,appF,mkIF,readsOf,boxAt,Nat.reduceEqDiff,reduceCtorEq,Nat.reduceBEq,Int.reduceToNat,Nat.reduceAdd,Nat.reduceLeDiff,Nat.reduceMul,t1,t2,okZ]
 have hcall:CallOK Tryz.prog ES 10 [.agg [sFm],.agg c] .zero (.tup [out,okZ]) ((M'.set 2 (.cells [out])).set 3 (.cells Z2)):=
  defer_ok (body:=.skip) (real:=Tryz.f10) (frd:=Tryz.f32) (fd:=32) (t:=21) (gA:=T10_0) (gB:=T10_1) (gC:=T10_2) (gR:=.seq T10_4 (.seq T10_5 (.seq T10_6 (.seq T10_7 T10_8)))) (aA:=T10_0) (aB:=T10_1) (aC:=T10_2) (aR:=.seq T10_4 (.seq T10_5 (.seq T10_6 (.seq T10_7 T10_8)))) (rs:=[.c1 4,.cA 5 2])
   (by kernel_rfl) (by kernel_rfl) rfl rfl rfl rfl rfl rfl rfl rfl rfl (by decide) (by kernel_rfl) (by kernel_rfl) rfl hD32 (by kernel_rfl) (by kernel_rfl) (by kernel_rfl) (by kernel_rfl) (by kernel_rfl)
   (code_of hA (by kernel_rfl)) (code_of hB (by kernel_rfl)) (code_of hC (by kernel_rfl)) (code_of hRR (by kernel_rfl)) hres
 have ha:adopt false ((M'.set 2 (.cells [out])).set 3 (.cells Z2)) M (.tup [out,okZ])=some (.tup [bsl l,okZ],M):=by
  refine adopt_frz ?_ (by simp)
  have hl0:¬ l.length=0:=by omega
  have f1:=hG.frz (M1:=((M'.set 2 (.cells [out])).set 3 (.cells Z2)))
  rw [if_neg hl0] at f1
  have f2:frzV ((M'.set 2 (.cells [out])).set 3 (.cells Z2)) out=some (bsl l):=by
   obtain ⟨_,h⟩:=hG
   rcases h with ⟨h0,_⟩ | ⟨_,k,_,_,rfl,_⟩
   ·exact absurd h0 hl0
   ·exact f1
  show (frzVs _ [out,okZ]).map AV.tup=_
  have f3:frzV ((M'.set 2 (.cells [out])).set 3 (.cells Z2)) okZ=some okZ:=rfl
  simp only [frzVs,f2,f3,Option.map_some,Option.bind_some]
 exact own_ok (E:=ES) (args':=[.agg [sFm],.agg c]) (by rw [show sndF=AV.agg [sFm] from rfl]; exact frzVs_pure (by
  intro x hx
  simp only [List.mem_cons,List.not_mem_nil,or_false] at hx
  rcases hx with rfl | rfl
  ·intro y hy
   rw [List.mem_singleton.1 hy]
   exact sFm_is.pure
  ·exact hV.pure)) hcall ha (by
  have:hasMs [sndF,AV.agg c]=false:=hasMs_pure (by
   intro x hx
   simp only [List.mem_cons,List.not_mem_nil,or_false] at hx
   rcases hx with rfl | rfl
   ·intro y hy
    rw [List.mem_singleton.1 hy]
    exact sFm_is.pure
   ·exact hV.pure)
  rw [this]; rfl)
end
end Go.Sx
namespace Go.Sx
theorem isNil_sl {t n:Nat} {cs:List AV}:isNilA 0 (.sl t 0 n cs)=some false:=rfl
theorem lenA_sl {t e n:Nat} {cs:List AV}:lenA (.sl t e n cs)=some n:=rfl
theorem ev72g {l:List Nat} {b:AV} (hb:isS 1 l.length (byteCells l) b) (hn:l.length < 1000000) (M:Mem):∃ w,isS 1 l.length (byteCells l) w∧ev ES (.f false 72 [b] M)=some (.fn w M):=by
 have hp:∀ v∈[b],pureV v:=fun v hv=>by rw [List.mem_singleton.1 hv]; exact hb.pure.V
 rw [f72 (frzVs_pure hp),b72 rfl]
 obtain ⟨hlen,hb⟩:=hb
 have q0:purL0 []=some []:=rfl
 rcases hb with ⟨h0,rfl⟩ | ⟨t,ht,rfl⟩
 ·have hl:l=[]:=List.eq_nil_of_length_eq_zero h0
  subst hl
  refine ⟨.nils,isS_nils,?_⟩
  have hN:isNilA 0 .nils=some true:=rfl
  have hc:retF ES [.t 2] (ev ES (.c code72 (argTm 0 [.nils]) .zero))=some (.fn .nils .zero):=by
   simp (maxSteps:=1000000) (disch:=omega) only [code72,EVa,EVb,oi,ou,wants,evx,evxs,evo,evparts,fillA,put,keepT,argTm,result,resAll,resOf,vO,boxF,binF,nilF,unF,lenF,callF,appF,mkIF,readsOf,boxAt,Nat.reduceEqDiff,reduceCtorEq,Nat.reduceBEq,Int.reduceToNat,Nat.reduceAdd,Nat.reduceLeDiff,Nat.reduceMul,hN]
  rw [hc]
  exact own_done hp (adopt_frz rfl (by simp))
 have hE:∀ M,elems M 1 (.sl t 0 l.length (byteCells l))=some (byteCells l):=fun M=>(show isS 1 l.length (byteCells l) (.sl t 0 l.length (byteCells l)) from ⟨hlen,.inr ⟨t,ht,rfl⟩⟩).elems
 by_cases h0:l.length=0
 ·have hl:l=[]:=List.eq_nil_of_length_eq_zero h0
  subst hl
  refine ⟨.sl 1 0 0 [],⟨rfl,.inr ⟨1,.inr rfl,rfl⟩⟩,?_⟩
  have ha:appV false .zero 1 1 (.sl 1 0 0 []) 0 []=some (.sl 1 0 0 [],.zero):=rfl
  have hc:retF ES [.t 2] (ev ES (.c code72 (argTm 0 [.sl t 0 ([]:List Nat).length (byteCells [])]) .zero))=some (.fn (.sl 1 0 0 []) .zero):=by
   simp (maxSteps:=1000000) (disch:=omega) only [code72,EVa,EVb,oi,ou,wants,evx,evxs,evo,evparts,fillA,put,keepT,argTm,result,resAll,resOf,vO,boxF,binF,nilF,unF,lenF,callF,appF,mkIF,readsOf,boxAt,Nat.reduceEqDiff,reduceCtorEq,Nat.reduceBEq,Int.reduceToNat,Nat.reduceAdd,Nat.reduceLeDiff,Nat.reduceMul,lenA_sl,byteCells_nil,isNil_sl,ha,q0]
  rw [hc]
  exact own_done hp (adopt_frz rfl (by simp))
 ·have ha:appV false .zero 1 1 (.sl 1 0 0 []) l.length (byteCells l)=some (.sl 2 l.length l.length (byteCells l),Mem.zero.tok l.length 1):=by
   unfold appV
   rw [if_neg h0]
   simp only [List.length_nil,Nat.zero_mul,Nat.beq_refl,Bool.not_true,Bool.false_eq_true,if_false,Nat.zero_add,Nat.mul_one,purL0_bytes,Option.map_some,List.nil_append]
   rw [if_pos ⟨by omega,by omega⟩]
   rfl
  refine ⟨.sl 0 0 l.length (byteCells l),⟨by rw [byteCells_len,Nat.mul_one],.inr ⟨0,.inl rfl,rfl⟩⟩,?_⟩
  have hc:retF ES [.t 2] (ev ES (.c code72 (argTm 0 [.sl t 0 l.length (byteCells l)]) .zero))=some (.fn (.sl 2 l.length l.length (byteCells l)) (Mem.zero.tok l.length 1)):=by
   simp (maxSteps:=1000000) (disch:=omega) only [code72,EVa,EVb,oi,ou,wants,evx,evxs,evo,evparts,fillA,put,keepT,argTm,result,resAll,resOf,vO,boxF,binF,nilF,unF,lenF,callF,appF,mkIF,readsOf,boxAt,Nat.reduceEqDiff,reduceCtorEq,Nat.reduceBEq,Int.reduceToNat,Nat.reduceAdd,Nat.reduceLeDiff,Nat.reduceMul,lenA_sl,hE,isNil_sl,ha,q0]
  rw [hc]
  exact (own_grown hp (Gro.tok (z:=1) (M:=.zero) (by rw [byteCells_len,Nat.mul_one]) (by omega)) (by omega)).1
theorem strCells_pure {ns:List (List Nat)}:Pures (strCells ns):=fun x hx=>by
 simp only [strCells,List.mem_map] at hx
 obtain ⟨y,_,rfl⟩:=hx
 trivial
theorem strCells_len {ns:List (List Nat)}:(strCells ns).length=ns.length:=by simp [strCells]
theorem ev73g {ns:List (List Nat)} {nm:AV} (hb:isS 1 ns.length (strCells ns) nm) (hn:ns.length < 1000) (M:Mem):∃ v M1 v',ev ES (.f false 73 [nm] M)=some (.fn v M1)∧KeepM M M1∧M1.nb≤M.nb + 1∧(wrOf M M1=[]∨wrOf M M1=[M.nb])∧v.cells=[v]∧oneA v=true∧isS 1 ns.length (strCells ns) v'∧(∀ M2:Mem,(∀ j,M.nb≤j→j < M1.nb→M2.get j=M1.get j)→frzC M2 v=some v'):=by
 rw [f73,b73 rfl]
 obtain ⟨hlen,hb⟩:=hb
 have q0:purL0 []=some []:=rfl
 rcases hb with ⟨h0,rfl⟩ | ⟨t,ht,rfl⟩
 ·have hl:ns=[]:=List.eq_nil_of_length_eq_zero h0
  subst hl
  have hN:isNilA 0 .nils=some true:=rfl
  refine ⟨.nils,M,.nils,?_,KeepM.refl M,by omega,.inl wr_self,rfl,rfl,isS_nils,fun M2 _=>rfl⟩
  simp (maxSteps:=1000000) (disch:=omega) only [code73,EVa,EVb,oi,ou,wants,evx,evxs,evo,evparts,fillA,put,keepT,argTm,result,resAll,resOf,vO,boxF,binF,nilF,unF,lenF,callF,appF,mkIF,readsOf,boxAt,Nat.reduceEqDiff,reduceCtorEq,Nat.reduceBEq,Int.reduceToNat,Nat.reduceAdd,Nat.reduceLeDiff,Nat.reduceMul,hN]
 have hE:∀ M,elems M 1 (.sl t 0 ns.length (strCells ns))=some (strCells ns):=fun M=>(show isS 1 ns.length (strCells ns) (.sl t 0 ns.length (strCells ns)) from ⟨hlen,.inr ⟨t,ht,rfl⟩⟩).elems
 by_cases h0:ns.length=0
 ·have hl:ns=[]:=List.eq_nil_of_length_eq_zero h0
  subst hl
  have ha:∀ M,appV true M 1 16 (.sl 1 0 0 []) 0 []=some (.sl 1 0 0 [],M):=fun M=>rfl
  have hs0:strCells []=[]:=rfl
  refine ⟨.sl 1 0 0 [],M,.sl 1 0 0 [],?_,KeepM.refl M,by omega,.inl wr_self,rfl,rfl,⟨rfl,.inr ⟨1,.inr rfl,rfl⟩⟩,fun M2 _=>rfl⟩
  simp (maxSteps:=1000000) (disch:=omega) only [code73,EVa,EVb,oi,ou,wants,evx,evxs,evo,evparts,fillA,put,keepT,argTm,result,resAll,resOf,vO,boxF,binF,nilF,unF,lenF,callF,appF,mkIF,readsOf,boxAt,Nat.reduceEqDiff,reduceCtorEq,Nat.reduceBEq,Int.reduceToNat,Nat.reduceAdd,Nat.reduceLeDiff,Nat.reduceMul,lenA_sl,hs0,isNil_sl,ha,q0]
 ·have hall:(strCells ns).all oneA=true:=by
   rw [List.all_eq_true]
   intro x hx
   simp only [strCells,List.mem_map] at hx
   obtain ⟨y,_,rfl⟩:=hx
   rfl
  have ha:appV true M 1 16 (.sl 1 0 0 []) ns.length (strCells ns)=some (.ms M.nb 0 ns.length ns.length,M.new (.cells (strCells ns))):=by
   unfold appV
   rw [if_neg (by omega)]
   simp only [List.length_nil,Nat.zero_mul,Nat.beq_refl,Bool.not_true,Bool.false_eq_true,if_false,Nat.zero_add,hall,List.all_nil,Bool.and_self,if_true,List.nil_append]
   rw [if_pos ⟨by omega,by omega⟩]
  refine ⟨.ms M.nb 0 ns.length ns.length,M.new (.cells (strCells ns)),.sl 0 0 ns.length (strCells ns),?_,KeepM.new M _,Nat.le_refl _,.inr wr_new,rfl,rfl,slS_is ns,fun M2 h2=>?_⟩
  ·simp (maxSteps:=1000000) (disch:=omega) only [code73,EVa,EVb,oi,ou,wants,evx,evxs,evo,evparts,fillA,put,keepT,argTm,result,resAll,resOf,vO,boxF,binF,nilF,unF,lenF,callF,appF,mkIF,readsOf,boxAt,Nat.reduceEqDiff,reduceCtorEq,Nat.reduceBEq,Int.reduceToNat,Nat.reduceAdd,Nat.reduceLeDiff,Nat.reduceMul,lenA_sl,hE,isNil_sl,ha,q0]
  ·have hg:M2.get M.nb=some (.cells (strCells ns)):=by rw [h2 M.nb (Nat.le_refl _) (Nat.lt_succ_self _)]; exact gn_self
   have hne:Nat.beq ns.length 0=false:=beq_ne h0
   have hd:ns.length / ns.length=1:=Nat.div_self (by omega)
   simp only [frzC,hg,hne,Bool.false_eq_true,if_false,Nat.sub_zero,hd,Nat.mul_one,Nat.zero_add,strCells_len,Nat.le_refl,if_true,List.drop_zero]
   rw [List.take_of_length_le (by rw [strCells_len]; exact Nat.le_refl _),purL0_pure strCells_pure]
   rfl
theorem VC.full {V:Val} {c:List AV} (h:VC V c):∃ k n b nm p cs bl ns,c=[.int .i64 k,.int .i64 n,b,nm,p]∧isS 1 bl.length (byteCells bl) b∧isS 1 ns.length (strCells ns) nm∧isS 5 V.parts.length cs p∧VCs V.parts cs∧ns.length≤3∧bl.length≤V.elen ∧
  ∀ b' nm' p' cs',isS 1 bl.length (byteCells bl) b'→isS 1 ns.length (strCells ns) nm'→isS 5 V.parts.length cs' p'→VCs V.parts cs'→VC V [.int .i64 k,.int .i64 n,b',nm',p']:=by
 cases V <;> simp only [VC] at h
 ·obtain ⟨b,nm,p,rfl,h1,h2,h3⟩:=h
  refine ⟨_,_,b,nm,p,[],[],[],rfl,h1,h2,h3,by simp [Val.parts,VCs],Nat.zero_le _,Nat.zero_le _,fun b' nm' p' cs' g1 g2 g3 g4=>?_⟩
  simp only [Val.parts,VCs] at g4
  subst g4
  simp only [VC]
  exact ⟨_,_,_,rfl,g1,g2,g3⟩
 ·rename_i l
  obtain ⟨b,nm,p,rfl,h1,h2,h3⟩:=h
  refine ⟨_,_,b,nm,p,[],l,[],rfl,h1,h2,h3,by simp [Val.parts,VCs],Nat.zero_le _,by simp only [Val.elen]; omega,fun b' nm' p' cs' g1 g2 g3 g4=>?_⟩
  simp only [Val.parts,VCs] at g4
  subst g4
  simp only [VC]
  exact ⟨_,_,_,rfl,g1,g2,g3⟩
 ·obtain ⟨b,nm,p,cs,rfl,h1,h2,h3,h4⟩:=h
  refine ⟨_,_,b,nm,p,cs,[],[],rfl,h1,h2,h3,h4,Nat.zero_le _,Nat.zero_le _,fun b' nm' p' cs' g1 g2 g3 g4=>?_⟩
  simp only [VC]
  exact ⟨_,_,_,_,rfl,g1,g2,g3,g4⟩
 ·rename_i ns ps
  obtain ⟨b,nm,p,cs,rfl,h1,h2,h3,h4,h5,h6⟩:=h
  refine ⟨_,_,b,nm,p,cs,[],ns,rfl,h1,h2,h3,h4,?_,Nat.zero_le _,fun b' nm' p' cs' g1 g2 g3 g4=>?_⟩
  ·have:∀ x∈nameLists,x.length≤3:=by decide
   exact this _ h5
  ·simp only [VC]
   exact ⟨_,_,_,_,rfl,g1,g2,g3,g4,h5,h6⟩
def CloneOK (V:Val):Prop:=∀ (c:List AV),VC V c→V.elen < 100000→V.size≤600→∀ M,∃ c',VC V c'∧ev ES (.f false 27 [.agg c] M)=some (.fn (.agg c') M)
theorem VCs.snoc {vs:List Val} {v:Val} {cs c:List AV} (h:VCs vs cs) (hv:VC v c):VCs (vs ++ [v]) (cs ++ c):=h.app (by simp only [VCs]; exact ⟨c,[],by simp,hv,rfl⟩)
theorem loop27 {ps:List Val} {cs:List AV} {p k n w nmv:AV} (hn:ps.length < 1000000) (hp:isS 5 ps.length cs p) (hv:VCs ps cs) (h1:oneA k=true) (h2:oneA n=true) (h3:oneA w=true) (h4:oneA nmv=true):∀ (r:List Val) (i:Nat) (pv:AV) (pc:List AV) (tk:Option Nat) (M:Mem),ps.drop i=r→i≤ps.length→(∀ v∈r,CloneOK v∧v.elen < 100000∧v.size≤600)→2 < M.nb→M.get 2=some (.cells [k,n,w,nmv,pv])→GroK 5 M pv i pc tk→VCs (ps.take i) pc →
  ∃ M' pv' pc' tk',ev ES (.c (.loop L27_0) [(2,.ptr 1 0),(3,.ptr 2 0),(18,p),(19,.int .i64 (ps.length:Int)),(20,.int .i64 (i:Int))] M)=some (.code (.exit 0) [(2,.ptr 1 0),(3,.ptr 2 0),(18,p),(19,.int .i64 (ps.length:Int)),(20,.int .i64 (ps.length:Int)),(21,.bool false)] M')∧FrW 2 M M'∧M'.get 2=some (.cells [k,n,w,nmv,pv'])∧GroK 5 M' pv' ps.length pc' tk'∧VCs ps pc':=by
 intro r
 induction r with
 | nil=>
  intro i pv pc tk M hd hi hc hnb hg hG hvc
  have hi:i=ps.length:=by
   have:=congrArg List.length hd
   simp at this; omega
  subst hi
  rw [List.take_length] at hvc
  refine ⟨M,pv,pc,tk,?_,FrW.refl 2 M,hg,hG,hvc⟩
  rw [ev_loop]
  simp (maxSteps:=1000000) (disch:=omega) only [L27_0,EVa,EVb,oi,ou,wants,evx,evxs,evo,evparts,fillA,put,keepT,argTm,result,resAll,resOf,vO,boxF,binF,nilF,unF,lenF,callF,appF,mkIF,readsOf,boxAt,Nat.reduceEqDiff,reduceCtorEq,Nat.reduceBEq,Int.reduceToNat,Nat.reduceAdd,Nat.reduceLeDiff,Nat.reduceMul,Int.lt_irrefl]
 | cons v r ih=>
  intro i pv pc tk M hd hi hc hnb hg hG hvc
  have hlt:i < ps.length:=by
   have:=congrArg List.length hd
   simp at this; omega
  have hd':ps.drop (i + 1)=r:=by rw [← List.drop_drop,hd]; rfl
  have hti:ps.take (i + 1)=ps.take i ++ [v]:=by
   have hiv:ps[i]?=some v:=by
    have:=congrArg (·[0]?) hd
    simpa using this
   rw [List.take_add_one,hiv]; rfl
  obtain ⟨a,rest,hdr,hva⟩:=hv.at hd
  have hia:=fun M=>hp.ia (M:=M) hlt
  rw [hdr] at hia
  have ht5:=take5 (rest:=rest) hva.len
  have hb5:=ble5 (rest:=rest) hva.len
  have hal:=hva.len
  have hall:=hva.all
  have ht:a.take 5=a:=List.take_of_length_le (by omega)
  obtain ⟨k1,k2,k3⟩:=hc v (List.mem_cons_self ..)
  have hw2:IntKind.i64.wrap ((i:Int) + 1)=((i + 1:Nat):Int):=by rw [wrap_i64] <;> omega
  generalize hM1:((M.new (.cells [.int .i64 0,.int .i64 0,.nils,.nils,.nils])).set M.nb (.cells a))=M1
  have gA:M1.get M.nb=some (.cells a):=by rw [← hM1]; exact gns_self
  have gB:M1.get 2=some (.cells [k,n,w,nmv,pv]):=by rw [← hM1,gns_lt hnb]; exact hg
  have nbB:M1.nb=M.nb + 1:=by rw [← hM1]; rfl
  have hGB:GroK 5 M1 pv i pc tk:=hG.mem (by rw [← hM1]; rfl) (by rw [← hM1]; rfl)
  obtain ⟨c',hvc',he27⟩:=k1 a hva k2 k3 M1
  have hpc:=purL0_pure hvc'.pure
  have hcl:=hvc'.len
  have hca:=hvc'.all
  have hct:c'.take 5=c':=List.take_of_length_le (by omega)
  obtain ⟨pv2,M2,tk2,a2,g2,s2,n2,_,_⟩:=hGB.appF (bytes:=88) (j:=1) hpc (by omega) (by omega) (by omega) (by omega)
  have gC:M2.get 2=some (.cells [k,n,w,nmv,pv]):=by rw [s2.get]; exact gB
  have hg3:(M2.set 2 (.cells [k,n,w,nmv,pv2])).get 2=some (.cells [k,n,w,nmv,pv2]):=gs_self gC
  have hk:FrW 2 M (M2.set 2 (.cells [k,n,w,nmv,pv2])):=by
   refine FrW.set ?_ (.inl rfl)
   refine FrW.same ?_ s2
   rw [← hM1]
   exact ((FrW.refl 2 M).new).set (.inr (Nat.le_refl _))
  have hG3:GroK 5 (M2.set 2 (.cells [k,n,w,nmv,pv2])) pv2 (i + 1) (pc ++ c') tk2:=g2.mem rfl rfl
  obtain ⟨M',pv',pc',tk',he,q1,q2,q3,q4⟩:=ih (i + 1) pv2 (pc ++ c') tk2 _ hd' (by omega) (fun x hx=>hc x (List.mem_cons_of_mem _ hx)) (by rw [nbn_set,s2.nb]; omega) hg3 hG3 (by rw [hti]; exact hvc.snoc hvc')
  refine ⟨M',pv',pc',tk',?_,hk.trans q1,q2,q3,q4⟩
  have hone:=hG.one
  have hone2:=hG3.one
  have wr1:wrOf M1 M1=[]:=by simp [wrOf]
  have hstep:ev ES (.c L27_0 [(2,.ptr 1 0),(3,.ptr 2 0),(18,p),(19,.int .i64 (ps.length:Int)),(20,.int .i64 (i:Int))] M)=some (.code .normal [(2,.ptr 1 0),(3,.ptr 2 0),(18,p),(19,.int .i64 (ps.length:Int)),(20,.int .i64 ((i + 1:Nat):Int))] (M2.set 2 (.cells [k,n,w,nmv,pv2]))):=by
   simp (maxSteps:=1000000) (disch:=omega) only [L27_0,EVa,EVb,oi,ou,wants,evx,evxs,evo,evparts,fillA,put,keepT,argTm,result,resAll,resOf,vO,boxF,binF,nilF,unF,lenF,callF,appF,mkIF,readsOf,boxAt,Nat.reduceEqDiff,reduceCtorEq,Nat.reduceBEq,Int.reduceToNat,Nat.reduceAdd,Nat.reduceLeDiff,Nat.reduceMul,hia,ht5,hb5,hal,hall,ht,hw2,hM1,gA,gB,he27,hpc,hcl,hca,hct,a2,gC,hg3,hone.1,hone.2,hone2.1,hone2.2]
  rw [ev_loop,hstep]
  exact he
theorem elen_parts {V v:Val} {c:List AV} (hV:VC V c) (h:v∈V.parts):v.elen≤V.elen:=by
 cases V with
 | num=>cases h
 | byt=>cases h
 | lst ps=>have:=elens_le (show v∈ps from h); simp only [Val.elen]; omega
 | rcd ns ps=>
  simp only [VC] at hV
  obtain ⟨b,nm,p,cs,_,_,_,_,_,_,h6⟩:=hV
  have:=rlens_le h6 (show v∈ps from h); simp only [Val.elen]; omega
theorem sizes_le:∀ {ps:List Val} {v:Val},v∈ps→v.size≤sizes ps
 | a :: r,v,h=>by
  simp only [sizes]
  rcases List.mem_cons.1 h with rfl | h
  ·omega
  ·have:=sizes_le h; omega
theorem clone_step {V:Val} (ih:∀ v∈V.parts,CloneOK v):CloneOK V:=by
 intro c hV he hs M
 have hpu:=hV.pure
 have hp:∀ x∈[AV.agg c],pureV x:=by
  intro x hx
  rw [List.mem_singleton.1 hx]
  exact hpu
 rw [f27 (frzVs_pure hp),b27 rfl]
 have hsp:=V.size_parts
 have hsl:=sizes_len V.parts
 have hall:=hV.all
 obtain ⟨k,n,b,nm,p,cs,bl,ns,rfl,i1,i2,i3,i4,i5,i6,i7⟩:=hV.full
 simp only [List.all_cons,List.all_nil,Bool.and_eq_true] at hall
 obtain ⟨_,_,ha3,ha4,ha5,_⟩:=hall
 generalize hM3:((Mem.zero.new (.cells [.int .i64 k,.int .i64 n,b,nm,p])).new (.cells [.int .i64 0,.int .i64 0,.nils,.nils,.nils])).new (.cells [.int .i64 0,.int .i64 0,.nils,.nils,.nils])=M3
 have g0:M3.get 0=some (.cells [.int .i64 k,.int .i64 n,b,nm,p]):=by rw [← hM3]; rfl
 have g1:M3.get 1=some (.cells [.int .i64 0,.int .i64 0,.nils,.nils,.nils]):=by rw [← hM3]; rfl
 have g2:M3.get 2=some (.cells [.int .i64 0,.int .i64 0,.nils,.nils,.nils]):=by rw [← hM3]; rfl
 have nb3:M3.nb=3:=by rw [← hM3]; rfl
 have hw3:wrOf ((Mem.zero.new (.cells [.int .i64 k,.int .i64 n,b,nm,p])).new (.cells [.int .i64 0,.int .i64 0,.nils,.nils,.nils])) M3=[2]:=by rw [← hM3]; exact wr_new
 obtain ⟨w,hw,h72⟩:=ev72g i1 (by omega) M3
 obtain ⟨nv,M4,nv',h73,hk4,hnb4,n0,n1,n2,n3,n4⟩:=ev73g i2 (by omega) M3
 have g04:M4.get 0=some (.cells [.int .i64 k,.int .i64 n,b,nm,p]):=by rw [hk4.2.1 0 (by omega)]; exact g0
 have g14:M4.get 1=some (.cells [.int .i64 0,.int .i64 0,.nils,.nils,.nils]):=by rw [hk4.2.1 1 (by omega)]; exact g1
 have g24:M4.get 2=some (.cells [.int .i64 0,.int .i64 0,.nils,.nils,.nils]):=by rw [hk4.2.1 2 (by omega)]; exact g2
 have hk41:=hk4.1
 have g25:(M4.set 2 (.cells [.int .i64 k,.int .i64 n,w,nv,.nils])).get 2=some (.cells [.int .i64 k,.int .i64 n,w,nv,.nils]):=gs_self g24
 have g05:(M4.set 2 (.cells [.int .i64 k,.int .i64 n,w,nv,.nils])).get 0=some (.cells [.int .i64 k,.int .i64 n,b,nm,p]):=by rw [gs_ne (by omega)]; exact g04
 obtain ⟨M',pv',pc',tk',hl,q1,q2,q3,q4⟩:=loop27 (k:=.int .i64 k) (n:=.int .i64 n) (w:=w) (nmv:=nv) (by omega) i3 i4 rfl rfl hw.oneA n2 V.parts 0 .nils [] none (M4.set 2 (.cells [.int .i64 k,.int .i64 n,w,nv,.nils])) rfl (Nat.zero_le _) (fun v hv=>⟨ih v hv,by have:=elen_parts hV hv; omega,by have:=sizes_le hv; omega⟩) (by rw [nbn_set]; omega) g25 GroK.nil (by simp [VCs])
 have g16:M'.get 1=some (.cells [.int .i64 0,.int .i64 0,.nils,.nils,.nils]):=by rw [q1.get (by rw [nbn_set]; omega) (by omega),gs_ne (by omega)]; exact g14
 have g17:(M'.set 1 (.cells [.int .i64 k,.int .i64 n,w,nv,pv'])).get 1=some (.cells [.int .i64 k,.int .i64 n,w,nv,pv']):=gs_self g16
 have hone:=q3.one
 have hpl:=i3.len
 have hw1:=hw.oneA
 have hw2:=hw.cells
 simp only [Int.natCast_zero] at hl
 have hc:retF ES [.cA 2 5] (ev ES (.c code27 (argTm 0 [.agg [.int .i64 k,.int .i64 n,b,nm,p]]) .zero))=some (.fn (.agg [.int .i64 k,.int .i64 n,w,nv,pv']) (M'.set 1 (.cells [.int .i64 k,.int .i64 n,w,nv,pv']))):=by
  rcases n0 with n0 | n0 <;> simp (maxSteps:=1000000) (disch:=omega) only [code27,EVa,EVb,oi,ou,wants,evx,evxs,evo,evparts,fillA,put,keepT,argTm,result,resAll,resOf,vO,boxF,binF,nilF,unF,lenF,callF,appF,mkIF,readsOf,boxAt,Nat.reduceEqDiff,reduceCtorEq,Nat.reduceBEq,Int.reduceToNat,Nat.reduceAdd,Nat.reduceLeDiff,Nat.reduceMul,hM3,hw3,n0,nb3,bne_self_eq_false,Nat.reduceBNe,ha3,ha4,ha5,g0,g05,h72,h73,hw1,hw2,n1,n2,hpl,hl,q2,g16,g17,hone.1,hone.2,g04,g24,g25]
 rw [hc]
 have hfp:frzC (M'.set 1 (.cells [.int .i64 k,.int .i64 n,w,nv,pv'])) pv'=some (if V.parts.length=0 then .nils else .sl 0 0 V.parts.length pc'):=q3.frz
 have hfn:frzC (M'.set 1 (.cells [.int .i64 k,.int .i64 n,w,nv,pv'])) nv=some nv':=n4 _ fun j hj1 hj2=>by
  rw [gs_ne (by omega),q1.get (by rw [nbn_set]; omega) (by omega),gs_ne (by omega)]
 have hfw:frzC (M'.set 1 (.cells [.int .i64 k,.int .i64 n,w,nv,pv'])) w=some w:=frzC_pure hw.pure
 have hpI:isS 5 V.parts.length pc' (if V.parts.length=0 then .nils else .sl 0 0 V.parts.length pc'):=by
  have hlen:=q4.len
  by_cases h0:V.parts.length=0
  ·rw [if_pos h0]
   exact ⟨by omega,.inl ⟨h0,rfl⟩⟩
  ·rw [if_neg h0]
   exact ⟨by omega,.inr ⟨0,.inl rfl,rfl⟩⟩
 refine ⟨_,i7 w nv' _ pc' hw n3 hpI q4,own_done hp (adopt_frz ?_ (by simp))⟩
 show (frzL _ [.int .i64 k,.int .i64 n,w,nv,pv']).map AV.agg=_
 simp only [frzL,hfp,hfn,hfw,show ∀ M a b,frzC M (.int a b)=some (.int a b) from fun _ _ _=>rfl,Option.bind_some,Option.map_some]
theorem clone_ok (V:Val):CloneOK V:=Val.ind (fun _=>clone_step) _ V (Nat.lt_succ_self _)
end Go.Sx
namespace Go.Sx
def Val.at:Val→List Nat→Option Val
 | V,[]=>some V
 | V,i :: p=>(V.parts[i]?).bind fun v=>v.at p
structure Pth (P:List Nat) (v:AV):Prop where
 len:lenK false v=some P.length
 ia:∀ i M,i < P.length→iaF M 1 v i=some (.val (.cp ((numCells P).drop i)) M)
theorem Pth.of {P:List Nat} {v:AV} (h:isS 1 P.length (numCells P) v):Pth P v:=⟨h.len,fun i M hi=>by rw [h.ia hi,Nat.mul_one]⟩
theorem Pth.sl {P:List Nat} {t e:Nat}:Pth P (.sl t e P.length (numCells P)):=by
 refine ⟨rfl,fun i M hi=>?_⟩
 have:=(slN_is P).ia (M:=M) hi
 rw [Nat.mul_one] at this
 exact this
def PV (M:Mem) (V:Val) (q:AV):Prop:=(∃ b c,q=.ptr b 0∧b < M.nb∧M.get b=some (.cells c)∧VC V c)∨∃ c rest,q=.cp (c ++ rest)∧VC V c
theorem loop26 {P:List Nat} {pth:AV} {n:Nat} {M:Mem} {W:Val} (hP:Pth P pth) (hn:P.length < 1000000):∀ (r:List Nat) (i:Nat) (V:Val) (q:AV),P.drop i=r→i≤P.length→PV M V q→V.at r=some W →
  ∃ q',ev ES (.c (.loop L26_0) [(0,q),(5,.ptr n 0),(8,pth),(9,.int .i64 (P.length:Int)),(10,.int .i64 (i:Int))] M)=some (.code (.exit 0) [(0,q'),(5,.ptr n 0),(8,pth),(9,.int .i64 (P.length:Int)),(10,.int .i64 (P.length:Int)),(11,.bool false)] M)∧PV M W q':=by
 intro r
 induction r with
 | nil=>
  intro i V q hd hi hq hW
  have hi:i=P.length:=by
   have:=congrArg List.length hd
   simp at this; omega
  subst hi
  simp only [Val.at,Option.some.injEq] at hW
  subst hW
  refine ⟨q,?_,hq⟩
  rw [ev_loop]
  simp (maxSteps:=1000000) (disch:=omega) only [L26_0,EVa,EVb,oi,ou,wants,evx,evxs,evo,evparts,fillA,put,keepT,argTm,result,resAll,resOf,vO,boxF,binF,nilF,unF,lenF,callF,appF,mkIF,readsOf,boxAt,Nat.reduceEqDiff,reduceCtorEq,Nat.reduceBEq,Int.reduceToNat,Nat.reduceAdd,Nat.reduceLeDiff,Nat.reduceMul,Int.lt_irrefl]
 | cons x r ih=>
  intro i V q hd hi hq hW
  have hlt:i < P.length:=by
   have:=congrArg List.length hd
   simp at this; omega
  have hd':P.drop (i + 1)=r:=by rw [← List.drop_drop,hd]; rfl
  have hia1:=fun M=>hP.ia i M hlt
  simp only [numCells,drop_map_cons hd] at hia1
  simp only [Val.at] at hW
  cases hv:V.parts[x]? with
  | none=>rw [hv] at hW; cases hW
  | some v=>
   rw [hv,Option.bind_some] at hW
   have hxl:x < V.parts.length:=by
    rcases Nat.lt_or_ge x V.parts.length with h | h
    ·exact h
    ·rw [List.getElem?_eq_none h] at hv; cases hv
   have hdr:V.parts.drop x=v :: V.parts.drop (x + 1):=by
    rw [List.getElem?_eq_getElem hxl,Option.some.injEq] at hv
    rw [List.drop_eq_getElem_cons hxl,hv]
   have hw2:IntKind.i64.wrap ((i:Int) + 1)=((i + 1:Nat):Int):=by rw [wrap_i64] <;> omega
   have hx0:¬ (x:Int) < 0:=by omega
   have hxg:¬ ((V.parts.length:Int)≤(x:Int)):=by omega
   rcases hq with ⟨b,c,rfl,hb,hg,hVC⟩ | ⟨c,rest,rfl,hVC⟩
   ·obtain ⟨k,m,bb,nm,p,cs,rfl,hps,hvs⟩:=hVC.parts
    obtain ⟨a,rest2,e1,e2⟩:=hvs.at hdr
    have hia:=fun M=>hps.ia (M:=M) hxl
    rw [e1] at hia
    have hpl:=hps.len
    obtain ⟨q',he,hq'⟩:=ih (i + 1) v (.cp (a ++ rest2)) hd' (by omega) (.inr ⟨a,rest2,rfl,e2⟩) hW
    refine ⟨q',?_,hq'⟩
    have hstep:ev ES (.c L26_0 [(0,.ptr b 0),(5,.ptr n 0),(8,pth),(9,.int .i64 (P.length:Int)),(10,.int .i64 (i:Int))] M)=some (.code .normal [(0,.cp (a ++ rest2)),(5,.ptr n 0),(8,pth),(9,.int .i64 (P.length:Int)),(10,.int .i64 ((i + 1:Nat):Int))] M):=by
     simp (maxSteps:=1000000) (disch:=omega) only [L26_0,EVa,EVb,oi,ou,wants,evx,evxs,evo,evparts,fillA,put,keepT,argTm,result,resAll,resOf,vO,boxF,binF,nilF,unF,lenF,callF,appF,mkIF,readsOf,boxAt,Nat.reduceEqDiff,reduceCtorEq,Nat.reduceBEq,Int.reduceToNat,Nat.reduceAdd,Nat.reduceLeDiff,Nat.reduceMul,hia1,hx0,hxg,hg,hia,hpl,hw2,ge_iff_le]
    rw [ev_loop,hstep]
    exact he
   ·obtain ⟨k,m,bb,nm,p,cs,rfl,hps,hvs⟩:=hVC.parts
    obtain ⟨a,rest2,e1,e2⟩:=hvs.at hdr
    have hia:=fun M=>hps.ia (M:=M) hxl
    rw [e1] at hia
    have hpl:=hps.len
    obtain ⟨q',he,hq'⟩:=ih (i + 1) v (.cp (a ++ rest2)) hd' (by omega) (.inr ⟨a,rest2,rfl,e2⟩) hW
    refine ⟨q',?_,hq'⟩
    have hstep:ev ES (.c L26_0 [(0,.cp ([.int .i64 k,m,bb,nm,p] ++ rest)),(5,.ptr n 0),(8,pth),(9,.int .i64 (P.length:Int)),(10,.int .i64 (i:Int))] M)=some (.code .normal [(0,.cp (a ++ rest2)),(5,.ptr n 0),(8,pth),(9,.int .i64 (P.length:Int)),(10,.int .i64 ((i + 1:Nat):Int))] M):=by
     simp (maxSteps:=1000000) (disch:=omega) only [L26_0,EVa,EVb,oi,ou,wants,evx,evxs,evo,evparts,fillA,put,keepT,argTm,result,resAll,resOf,vO,boxF,binF,nilF,unF,lenF,callF,appF,mkIF,readsOf,boxAt,Nat.reduceEqDiff,reduceCtorEq,Nat.reduceBEq,Int.reduceToNat,Nat.reduceAdd,Nat.reduceLeDiff,Nat.reduceMul,hia1,hx0,hxg,hia,hpl,hw2,ge_iff_le]
    rw [ev_loop,hstep]
    exact he
theorem PV.keep {M M':Mem} {V:Val} {q:AV} (h:PV M V q) (hk:KeepM M M'):PV M' V q:=by
 rcases h with ⟨b,c,h1,h2,h3,h4⟩ | h
 ·exact .inl ⟨b,c,h1,Nat.lt_of_lt_of_le h2 hk.1,by rw [hk.2.1 b h2]; exact h3,h4⟩
 ·exact .inr h
theorem ev26 {P:List Nat} {pth q:AV} {M:Mem} {V W:Val} (hP:Pth P pth) (hn:P.length < 1000000) (hq:PV M V q) (hW:V.at P=some W) :
  ∃ q' M',ev ES (.f false 26 [q,pth] M)=some (.fn (.tup [q',okZ]) M')∧PV M' W q'∧KeepM M M':=by
 rw [f26,b26 rfl]
 generalize hM1:M.new (.cells [.int .i64 0,.int .i64 0])=M1
 have hk:KeepM M M1:=by rw [← hM1]; exact KeepM.new M _
 have g1:M1.get M.nb=some (.cells [.int .i64 0,.int .i64 0]):=by rw [← hM1]; exact gn_self
 obtain ⟨q',he,hq'⟩:=loop26 (n:=M.nb) (M:=M1) (W:=W) hP hn P 0 V q rfl (Nat.zero_le _) (hq.keep hk) hW
 have hk2:KeepM M (M1.set M.nb (.cells [.int .i64 0,.int .i64 0])):=hk.set (Nat.le_refl _)
 have g2:(M1.set M.nb (.cells [.int .i64 0,.int .i64 0])).get M.nb=some (.cells [.int .i64 0,.int .i64 0]):=gs_self g1
 have hl:=hP.len
 refine ⟨q',M1.set M.nb (.cells [.int .i64 0,.int .i64 0]),?_,?_,hk2⟩
 ·simp only [Int.natCast_zero] at he
  simp (maxSteps:=1000000) (disch:=omega) only [code26,EVa,EVb,oi,ou,wants,evx,evxs,evo,evparts,fillA,put,keepT,argTm,result,resAll,resOf,vO,boxF,binF,nilF,unF,lenF,callF,appF,mkIF,readsOf,boxAt,Nat.reduceEqDiff,reduceCtorEq,Nat.reduceBEq,Int.reduceToNat,Nat.reduceAdd,Nat.reduceLeDiff,Nat.reduceMul,hM1,hl,he,g1,g2,okZ]
 ·rcases hq' with ⟨b,c,h1,h2,h3,h4⟩ | h
  ·by_cases hb:b=M.nb
   ·subst hb
    rw [g1] at h3
    cases h3
    have:=h4.len
    simp at this
   ·exact .inl ⟨b,c,h1,h2,by rw [gs_ne (by omega)]; exact h3,h4⟩
  ·exact .inr h
theorem elen_at:∀ {P:List Nat} {V W:Val} {c:List AV},VC V c→V.at P=some W→W.elen≤V.elen∧W.size≤V.size
 | [],V,W,c,_,h=>by
  simp only [Val.at,Option.some.injEq] at h
  subst h
  exact ⟨Nat.le_refl _,Nat.le_refl _⟩
 | x :: r,V,W,c,hV,h=>by
  simp only [Val.at] at h
  cases hv:V.parts[x]? with
  | none=>rw [hv] at h; cases h
  | some v=>
   rw [hv,Option.bind_some] at h
   have hm:v∈V.parts:=List.mem_of_getElem? hv
   obtain ⟨k,n,b,nm,p,cs,rfl,hps,hvs⟩:=hV.parts
   have hxl:x < V.parts.length:=by
    rcases Nat.lt_or_ge x V.parts.length with h | h
    ·exact h
    ·rw [List.getElem?_eq_none h] at hv; cases hv
   have hdr:V.parts.drop x=v :: V.parts.drop (x + 1):=by
    rw [List.getElem?_eq_getElem hxl,Option.some.injEq] at hv
    rw [List.drop_eq_getElem_cons hxl,hv]
   obtain ⟨a,rest2,e1,e2⟩:=hvs.at hdr
   have:=elen_at e2 h
   have h1:=elen_parts hV hm
   have h2:=sizes_le hm
   have h3:=V.size_parts
   omega
theorem frz_pair {c:List AV} {M:Mem} (h:Pures c):frz M (.tup [.agg c,okZ])=some (.tup [.agg c,okZ]):=by
 show (frzVs M [.agg c,okZ]).map AV.tup=_
 rw [frzVs_pure (l:=[.agg c,okZ]) (fun x hx=>by
  simp only [List.mem_cons,List.not_mem_nil,or_false] at hx
  rcases hx with rfl | rfl
  ·exact h
  ·intro y hy
   simp only [List.mem_cons,List.not_mem_nil,or_false] at hy
   rcases hy with rfl | rfl <;> trivial)]
 rfl
theorem ev8 {P:List Nat} {pth:AV} {c:List AV} {V W:Val} (hV:VC V c) (hok:V.okN) (hs:V.size≤600) (hl:V.lev≤10) (he:V.elen≤4000) (hP:isS 1 P.length (numCells P) pth) (hn:P.length < 1000000) (hW:V.at P=some W) (M:Mem) :
  ∃ c',VC W c'∧ev ES (.f false 8 [.agg c,pth] M)=some (.fn (.tup [.agg c',okZ]) M):=by
 have hp:∀ x∈[AV.agg c,pth],pureV x:=by
  intro x hx
  simp only [List.mem_cons,List.not_mem_nil,or_false] at hx
  rcases hx with rfl | rfl
  ·exact hV.pure
  ·exact hP.pure.V
 rw [f8 (frzVs_pure hp),b8 rfl]
 have hcl:=hV.len
 have hca:=hV.all
 have hct:c.take 5=c:=List.take_of_length_le (by omega)
 have h25:=ev25 hV hok hs hl he false
 generalize hM3:((((Mem.zero.new (.cells c)).new (.cells [.int .i64 0,.int .i64 0,.nils,.nils,.nils])).new (.cells [.int .i64 0,.int .i64 0])).new (.cells [.int .i64 0,.int .i64 0])).set 3 (.cells [.int .i64 0,.int .i64 0])=M3
 have hg0:((((Mem.zero.new (.cells c)).new (.cells [.int .i64 0,.int .i64 0,.nils,.nils,.nils])).new (.cells [.int .i64 0,.int .i64 0])).get 0)=some (.cells c):=rfl
 have hg3:((((Mem.zero.new (.cells c)).new (.cells [.int .i64 0,.int .i64 0,.nils,.nils,.nils])).new (.cells [.int .i64 0,.int .i64 0])).new (.cells [.int .i64 0,.int .i64 0])).get 3=some (.cells [.int .i64 0,.int .i64 0]):=rfl
 have g0:M3.get 0=some (.cells c):=by rw [← hM3]; rfl
 have g1:M3.get 1=some (.cells [.int .i64 0,.int .i64 0,.nils,.nils,.nils]):=by rw [← hM3]; rfl
 have g2:M3.get 2=some (.cells [.int .i64 0,.int .i64 0]):=by rw [← hM3]; rfl
 have g3:M3.get 3=some (.cells [.int .i64 0,.int .i64 0]):=by rw [← hM3]; rfl
 have nb3:M3.nb=4:=by rw [← hM3]; rfl
 obtain ⟨q,M4,h26,hq,hk⟩:=ev26 (M:=M3) (Pth.of hP) hn (.inl ⟨0,c,rfl,by omega,g0,hV⟩) hW
 have hle:=elen_at hV hW
 have hk1:=hk.1
 generalize hM5:(M4.new (.cells [.int .i64 0,.int .i64 0])).set M4.nb (.cells [.int .i64 0,.int .i64 0])=M5
 have hq5:PV M5 W q:=by rw [← hM5]; exact hq.keep ((KeepM.new M4 _).set (Nat.le_refl _))
 have g15:M5.get 1=some (.cells [.int .i64 0,.int .i64 0,.nils,.nils,.nils]):=by rw [← hM5,gns_lt (by omega),hk.2.1 1 (by omega)]; exact g1
 have g25:M5.get 2=some (.cells [.int .i64 0,.int .i64 0]):=by rw [← hM5,gns_lt (by omega),hk.2.1 2 (by omega)]; exact g2
 have g55:M5.get M4.nb=some (.cells [.int .i64 0,.int .i64 0]):=by rw [← hM5]; exact gns_self
 rcases hq5 with ⟨b,cw,rfl,hb,hgb,hVW⟩ | ⟨cw,rest,rfl,hVW⟩
 all_goals
  obtain ⟨c',hVc',h27⟩:=clone_ok W cw hVW (by omega) (by omega) M5
  have hwl:=hVW.len
  have hwa:=hVW.all
  have hwt:cw.take 5=cw:=List.take_of_length_le (by omega)
  have hcl':=hVc'.len
  have hca':=hVc'.all
  have hct':c'.take 5=c':=List.take_of_length_le (by omega)
  have g16:(M5.set 1 (.cells c')).get 1=some (.cells c'):=gs_self g15
  have g26:(M5.set 1 (.cells c')).get 2=some (.cells [.int .i64 0,.int .i64 0]):=by rw [gs_ne (by omega)]; exact g25
  have g17:((M5.set 1 (.cells c')).set 2 (.cells [.int .i64 0,.int .i64 0])).get 1=some (.cells c'):=by rw [gs_ne (by omega)]; exact g16
  have g27:((M5.set 1 (.cells c')).set 2 (.cells [.int .i64 0,.int .i64 0])).get 2=some (.cells [.int .i64 0,.int .i64 0]):=gs_self g26
  refine ⟨c',hVc',?_⟩
 ·have hc:retF ES [.cA 4 5,.cA 5 2] (ev ES (.c code8 (argTm 0 [.agg c,pth]) .zero))=some (.fn (.tup [.agg c',okZ]) ((M5.set 1 (.cells c')).set 2 (.cells [.int .i64 0,.int .i64 0]))):=by
   simp (maxSteps:=1000000) (disch:=omega) only [code8,EVa,EVb,oi,ou,wants,evx,evxs,evo,evparts,fillA,put,keepT,argTm,result,resAll,resOf,vO,boxF,binF,nilF,unF,lenF,callF,appF,mkIF,readsOf,boxAt,Nat.reduceEqDiff,reduceCtorEq,Nat.reduceBEq,Int.reduceToNat,Nat.reduceAdd,Nat.reduceLeDiff,Nat.reduceMul,hcl,hca,hct,hg0,hg3,hM3,h25,okZ,okZ_eq,g3,h26,hM5,hgb,hwl,hwa,hwt,h27,hcl',hca',hct',g15,g25,g55,g16,g26,g17,g27]
  rw [hc]
  exact own_done hp (adopt_frz (frz_pair hVc'.pure) (by simp))
 ·have hbl:=ble5 (rest:=rest) hwl
  have hwt2:=take5 (rest:=rest) hwl
  have hc:retF ES [.cA 4 5,.cA 5 2] (ev ES (.c code8 (argTm 0 [.agg c,pth]) .zero))=some (.fn (.tup [.agg c',okZ]) ((M5.set 1 (.cells c')).set 2 (.cells [.int .i64 0,.int .i64 0]))):=by
   simp (maxSteps:=1000000) (disch:=omega) only [code8,EVa,EVb,oi,ou,wants,evx,evxs,evo,evparts,fillA,put,keepT,argTm,result,resAll,resOf,vO,boxF,binF,nilF,unF,lenF,callF,appF,mkIF,readsOf,boxAt,Nat.reduceEqDiff,reduceCtorEq,Nat.reduceBEq,Int.reduceToNat,Nat.reduceAdd,Nat.reduceLeDiff,Nat.reduceMul,hcl,hca,hct,hg0,hg3,hM3,h25,okZ,okZ_eq,g3,h26,hM5,hbl,hwt2,hwl,hwa,hwt,h27,hcl',hca',hct',g15,g25,g55,g16,g26,g17,g27]
  rw [hc]
  exact own_done hp (adopt_frz (frz_pair hVc'.pure) (by simp))
end Go.Sx
namespace Go.Sx
theorem b11 {args:List AV} {M:Mem} (h:args.length=2):ev ES (.b 11 args M)=retF ES [.t 4,.cA 5 2] (ev ES (.c code11 (argTm 0 args) M)):=ev_body (show tab.get 11=some ⟨2,code11,[.t 4,.cA 5 2]⟩ by kernel_rfl) h
theorem f11 {ad:Bool} {args xs:List AV} {M:Mem} (h:frzVs M args=some xs):ev ES (.f ad 11 args M)=ownF ad args M (ev ES (.b 11 xs .zero)):=ev_own rfl rfl h
theorem b36 {args:List AV} {M:Mem} (h:args.length=1):ev ES (.b 36 args M)=retF ES [.t 2] (ev ES (.c code36 (argTm 0 args) M)):=ev_body (show tab.get 36=some ⟨1,code36,[.t 2]⟩ by kernel_rfl) h
theorem f36 {ad:Bool} {args:List AV} {M:Mem}:ev ES (.f ad 36 args M)=ev ES (.b 36 args M):=ev_shared rfl rfl
theorem b90 {args:List AV} {M:Mem} (h:args.length=2):ev ES (.b 90 args M)=retF ES [] (ev ES (.c code90 (argTm 0 args) M)):=ev_body (show tab.get 90=some ⟨2,code90,[]⟩ by kernel_rfl) h
theorem f90 {ad:Bool} {args:List AV} {M:Mem}:ev ES (.f ad 90 args M)=ev ES (.b 90 args M):=ev_shared rfl rfl
theorem b91 {args:List AV} {M:Mem} (h:args.length=3):ev ES (.b 91 args M)=retF ES [.t 6] (ev ES (.c code91 (argTm 0 args) M)):=ev_body (show tab.get 91=some ⟨3,code91,[.t 6]⟩ by kernel_rfl) h
theorem f91 {ad:Bool} {args:List AV} {M:Mem}:ev ES (.f ad 91 args M)=ev ES (.b 91 args M):=ev_shared rfl rfl
end Go.Sx
namespace Go.Sx
def pathC (P:List Nat):AV:=.sl 0 0 P.length (numCells P)
def PathV (P:List Nat) (v:AV):Prop:=(P=[]∧v=.nils)∨(P≠[]∧∃ k,v=.sl (k + 2) P.length P.length (numCells P))
def Val.names:Val→List (List Nat)
 | .rcd ns _=>ns
 | _=>[]
def HitAt (V0:Val) (P:List Nat) (h:Bool):Prop:=(P=[]∧h=false)∨∃ Q k W,P=Q ++ [k]∧V0.at Q=some W∧k < W.parts.length∧h=decide (W.names[k]?=some nRate)
structure WS (c0:List AV) (M:Mem) (outv:AV) (hs:List (List Nat)) (tk:Option Nat):Prop where
 g0:M.get 0=some (.cells c0)
 g1:M.get 1=some (.cells [.str nRate])
 g4:M.get 4=some (.cells [outv])
 nb:4 < M.nb
 gro:GroK 1 M outv hs.length (hs.map pathC) tk
theorem WS.keep {c0:List AV} {M M':Mem} {outv:AV} {hs:List (List Nat)} {tk:Option Nat} (h:WS c0 M outv hs tk) (k:KeepM M M'):WS c0 M' outv hs tk:=by
 have:=h.nb
 exact ⟨by rw [k.2.1 0 (by omega)]; exact h.g0,by rw [k.2.1 1 (by omega)]; exact h.g1,by rw [k.2.1 4 (by omega)]; exact h.g4,Nat.lt_of_lt_of_le h.nb k.1,h.gro.mem k.2.2.1 k.2.2.2⟩
def yv:AV:=.yld 0 [2,3,7] [.ptr 0 0,.ptr 1 0,.ptr 4 0]
theorem slc_path {t:Nat} {Q:List Nat} {k:Nat}:slcV 1 (.sl t (Q ++ [k]).length (Q ++ [k]).length (numCells (Q ++ [k]))) none (some (.int .i64 (Q.length:Int))) none=some (pathC Q):=by
 have e:Nat.beq (numCells (Q ++ [k])).length (Q ++ [k]).length=true:=by rw [numCells_len]; exact Nat.beq_refl _
 have hl:(Q ++ [k]).length=Q.length + 1:=by simp
 have hb:bounds (Q ++ [k]).length (Q ++ [k]).length none (some (.int .i64 (Q.length:Int))) none=some (0,Q.length,(Q ++ [k]).length):=by
  simp only [bounds,natOf_cast,Option.bind_some]
  rw [if_pos (by rw [hl]; omega)]
  rfl
 have e2:Nat.beq Q.length (Q ++ [k]).length=false:=beq_ne (by rw [hl]; omega)
 simp only [slcV,e,hb,Option.map_some,Bool.not_true,Bool.false_eq_true,if_false,Option.isSome_none,Bool.false_and,Nat.mul_one,Nat.zero_mul,List.drop_zero,Nat.sub_zero,e2,Bool.and_false,pathC,Option.some.injEq]
 have e3:(numCells (Q ++ [k])).take Q.length=numCells Q:=by
  rw [numCells,List.map_append,List.take_append_of_le_length (by simp),List.take_of_length_le (by simp)]
  rfl
 rw [e3]
 rfl
theorem at_snoc:∀ {Q:List Nat} {V W v:Val} {k:Nat},V.at Q=some W→W.parts[k]?=some v→V.at (Q ++ [k])=some v
 | [],V,W,v,k,h,hk=>by
  simp only [Val.at,Option.some.injEq] at h
  subst h
  simp only [List.nil_append,Val.at,hk,Option.bind_some]
 | x :: r,V,W,v,k,h,hk=>by
  simp only [Val.at] at h
  cases hv:V.parts[x]? with
  | none=>rw [hv] at h; cases h
  | some u=>
   rw [hv,Option.bind_some] at h
   simp only [List.cons_append,Val.at,hv,Option.bind_some]
   exact at_snoc h hk
theorem VC.kind {W:Val} {c:List AV} {k:Nat} (h:VC W c) (hk:k < W.parts.length):(∃ n b nm p,c=[.int .i64 3,n,b,nm,p]∧W.names=[])∨∃ n b nm p,c=[.int .i64 4,n,b,nm,p]∧isS 1 W.names.length (strCells W.names) nm∧k < W.names.length:=by
 cases W <;> simp only [VC] at h
 ·simp [Val.parts] at hk
 ·simp [Val.parts] at hk
 ·obtain ⟨b,nm,p,cs,rfl,h1,h2,h3,h4⟩:=h
  exact .inl ⟨_,_,_,_,rfl,rfl⟩
 ·obtain ⟨b,nm,p,cs,rfl,h1,h2,h3,h4,h5,h6⟩:=h
  exact .inr ⟨_,_,_,_,rfl,h2,Nat.lt_of_lt_of_eq hk h6.symm⟩
theorem purC0_pth {k e n:Nat} {cs:List AV}:purC0 (.sl (k + 2) e n cs)=some (.sl 0 0 n cs):=by
 have:Nat.beq (k + 2) 1=false:=beq_ne (by omega)
 simp only [purC0,this,Bool.false_eq_true,if_false]
theorem roundF {V0:Val} {c0:List AV} {M:Mem} {outv node pth:AV} {hs:List (List Nat)} {tk:Option Nat} {P:List Nat} {h:Bool} (hV:VC V0 c0) (hw:WS c0 M outv hs tk) (hp:PathV P pth) (hP:P.length < 1000) (hh:HitAt V0 P h) (hn:noY node=true) (hl:hs.length < 10000) :
  ∃ M' outv' tk',ev ES (.y 0 [2,3,7] [.ptr 0 0,.ptr 1 0,.ptr 4 0] [pth,node] M)=some (.fn (.bool true) M')∧WS c0 M' outv' (hs ++ if h then [P] else []) tk'∧FrW 4 M M':=by
 have hny:[pth,node].all noY=true:=by
  have:noY pth=true:=by rcases hp with ⟨_,rfl⟩ | ⟨_,k,rfl⟩ <;> rfl
  simp only [List.all_cons,List.all_nil,this,hn,Bool.and_self]
 rw [ev_y (show ES.yb 0=some ([24,25],yas0,ybd0) from rfl) rfl rfl hny rfl]
 have has:ev ES (.c yas0 (zipT [24,25] [pth,node] (zipT [2,3,7] [.ptr 0 0,.ptr 1 0,.ptr 4 0] [])) M)=some (.code .normal [(2,.ptr 0 0),(3,.ptr 1 0),(7,.ptr 4 0),(8,pth)] M):=by
  simp (maxSteps:=1000000) (disch:=omega) only [yas0,EVa,EVb,oi,ou,wants,evx,evxs,evo,evparts,fillA,put,keepT,argTm,result,resAll,resOf,vO,boxF,binF,nilF,unF,lenF,callF,appF,mkIF,readsOf,boxAt,Nat.reduceEqDiff,reduceCtorEq,Nat.reduceBEq,Int.reduceToNat,Nat.reduceAdd,Nat.reduceLeDiff,Nat.reduceMul,zipT]
 rw [has]
 show ∃ M' outv' tk',rndB ES (ev ES (.c ybd0 [(2,.ptr 0 0),(3,.ptr 1 0),(7,.ptr 4 0),(8,pth)] M))=_∧_
 rcases hp with ⟨rfl,rfl⟩ | ⟨hne,kk,rfl⟩
 ·rcases hh with ⟨_,rfl⟩ | ⟨Q,k,W,h1,_⟩
  ·refine ⟨M,outv,tk,?_,by simpa using hw,FrW.refl 4 M⟩
   have hb:rndB ES (ev ES (.c ybd0 [(2,.ptr 0 0),(3,.ptr 1 0),(7,.ptr 4 0),(8,.nils)] M))=some (.fn (.bool true) M):=by
    simp (maxSteps:=1000000) (disch:=omega) only [ybd0,rndB.eq_1,EVa,EVb,oi,ou,wants,evx,evxs,evo,evparts,fillA,put,keepT,argTm,result,resAll,resOf,vO,boxF,binF,nilF,unF,lenF,callF,appF,mkIF,readsOf,boxAt,Nat.reduceEqDiff,reduceCtorEq,Nat.reduceBEq,Int.reduceToNat,Nat.reduceAdd,Nat.reduceLeDiff,Nat.reduceMul,gt_iff_lt,Int.lt_irrefl]
   exact hb
  ·simp at h1
 ·rcases hh with ⟨h1,_⟩ | ⟨Q,k,W,rfl,h2,h3,rfl⟩
  ·exact absurd h1 hne
  have hnb:=hw.nb
  have hlQ:(Q ++ [k]).length=Q.length + 1:=by simp
  rw [hlQ] at hP
  obtain ⟨q,M4,h26,hq,hk⟩:=ev26 (pth:=pathC Q) (P:=Q) (M:=M) (V:=V0) (W:=W) Pth.sl (by omega) (.inl ⟨0,c0,rfl,by omega,hw.g0,hV⟩) h2
  have hk1:=hk.1
  generalize hM5:(M4.new (.cells [.int .i64 0,.int .i64 0])).set M4.nb (.cells [.int .i64 0,.int .i64 0])=M5
  have k45:KeepM M4 M5:=by rw [← hM5]; exact (KeepM.new M4 _).set (Nat.le_refl _)
  have hkk:=hk.trans k45
  have hq5:=hq.keep k45
  have hw5:=hw.keep hkk
  have g15:=hw5.g1
  have g45:=hw5.g4
  have hsl:=slc_path (t:=kk + 2) (Q:=Q) (k:=k)
  have hw1:IntKind.i64.wrap (((Q.length + 1:Nat):Int) - 1)=(Q.length:Int):=by rw [wrap_i64] <;> omega
  have hgt:(0:Int) < ((Q.length + 1:Nat):Int):=by omega
  have fr5:FrW 4 M M5:=⟨hkk.1,fun j hj _=>hkk.2.1 j hj⟩
  have hik:∀ M,iaF M 1 (.sl (kk + 2) (Q.length + 1) (Q.length + 1) (numCells (Q ++ [k]))) Q.length=some (.val (.cp [.int .i64 (k:Int)]) M):=fun M=>by
   have:=(Pth.sl (P:=Q ++ [k]) (t:=kk + 2) (e:=Q.length + 1)).ia Q.length M (by rw [hlQ]; omega)
   rw [hlQ] at this
   rw [this]
   have:(numCells (Q ++ [k])).drop Q.length=[.int .i64 (k:Int)]:=by
    rw [numCells,List.map_append,List.drop_append_of_le_length (by simp),List.drop_of_length_le (by simp)]
    rfl
   rw [this]
  simp only [hlQ] at hsl ⊢
  have hpc:=purC0_pth (k:=kk) (e:=Q.length + 1) (n:=Q.length + 1) (cs:=numCells (Q ++ [k]))
  rcases hq5 with ⟨b,c,rfl,hb,hgb,hVW⟩ | ⟨c,rest,rfl,hVW⟩
  all_goals rcases hVW.kind h3 with ⟨n,bb,nm,p,rfl,hna⟩ | ⟨n,bb,nm,p,rfl,hnm,hkl⟩
  ·have hfalse:decide (W.names[k]?=some nRate)=false:=by rw [hna]; rfl
   rw [hfalse]
   refine ⟨M5,outv,tk,?_,by simpa using hw5,fr5⟩
   have hb:rndB ES (ev ES (.c ybd0 [(2,.ptr 0 0),(3,.ptr 1 0),(7,.ptr 4 0),(8,.sl (kk + 2) (Q.length + 1) (Q.length + 1) (numCells (Q ++ [k])))] M))=some (.fn (.bool true) M5):=by
    simp (maxSteps:=1000000) (disch:=omega) only [ybd0,rndB.eq_1,EVa,EVb,oi,ou,wants,evx,evxs,evo,evparts,fillA,put,keepT,argTm,result,resAll,resOf,vO,boxF,binF,nilF,unF,lenF,callF,appF,mkIF,readsOf,boxAt,Nat.reduceEqDiff,reduceCtorEq,Nat.reduceBEq,Int.reduceToNat,Nat.reduceAdd,Nat.reduceLeDiff,Nat.reduceMul,gt_iff_lt,hgt,hw1,hsl,h26,okZ,hM5,hgb,Int.reduceEq]
   exact hb
  ·have hia:=fun M=>hnm.ia (M:=M) hkl
   have hdr:(strCells W.names).drop (k * 1)=.str W.names[k] :: strCells (W.names.drop (k + 1)):=by
    rw [Nat.mul_one,strCells,← List.map_drop,List.drop_eq_getElem_cons hkl]; rfl
   rw [hdr] at hia
   by_cases hx:W.names[k]=nRate
   ·have htrue:decide (W.names[k]?=some nRate)=true:=by rw [List.getElem?_eq_getElem hkl,hx]; exact decide_eq_true rfl
    rw [htrue]
    obtain ⟨ov2,M6,tk2,a1,a2,a3,_⟩:=hw5.gro.appF (bytes:=24) (j:=1) (ys:=[pathC (Q ++ [k])]) rfl (by simp) (by omega) (by omega) (by omega)
    have g46:M6.get 4=some (.cells [outv]):=by rw [a3.get]; exact g45
    have hw6:WS c0 (M6.set 4 (.cells [ov2])) ov2 (hs ++ if true=true then [Q ++ [k]] else []) tk2:=by
     have:=hw5.nb
     refine ⟨by rw [gs_ne (by omega),a3.get]; exact hw5.g0,by rw [gs_ne (by omega),a3.get]; exact hw5.g1,gs_self g46,by rw [nbn_set,a3.nb]; exact this,?_⟩
     have:=GroK.mem (M':=M6.set 4 (.cells [ov2])) a2 rfl rfl
     simpa using this
    refine ⟨M6.set 4 (.cells [ov2]),ov2,tk2,?_,hw6,(fr5.same a3).set (.inl rfl)⟩
    have ho1:=hw5.gro.one
    have ho2:=a2.one
    have hb:rndB ES (ev ES (.c ybd0 [(2,.ptr 0 0),(3,.ptr 1 0),(7,.ptr 4 0),(8,.sl (kk + 2) (Q.length + 1) (Q.length + 1) (numCells (Q ++ [k])))] M))=some (.fn (.bool true) (M6.set 4 (.cells [ov2]))):=by
     rw [pathC,hlQ] at a1
     simp (maxSteps:=1000000) (disch:=omega) only [ybd0,rndB.eq_1,EVa,EVb,oi,ou,wants,evx,evxs,evo,evparts,fillA,put,keepT,argTm,result,resAll,resOf,vO,boxF,binF,nilF,unF,lenF,callF,appF,mkIF,readsOf,boxAt,Nat.reduceEqDiff,reduceCtorEq,Nat.reduceBEq,Int.reduceToNat,Nat.reduceAdd,Nat.reduceLeDiff,Nat.reduceMul,gt_iff_lt,hgt,hw1,hsl,h26,okZ,hM5,hgb,Int.reduceEq,hia,hik,hx,g15,g45,g46,a1,hpc,purL0,cells_sl,oneA_sl,ho1.1,ho1.2,ho2.1,ho2.2]
    exact hb
   ·have hfalse:decide (W.names[k]?=some nRate)=false:=by rw [List.getElem?_eq_getElem hkl]; exact decide_eq_false (by simpa using hx)
    rw [hfalse]
    refine ⟨M5,outv,tk,?_,by simpa using hw5,fr5⟩
    have hb:rndB ES (ev ES (.c ybd0 [(2,.ptr 0 0),(3,.ptr 1 0),(7,.ptr 4 0),(8,.sl (kk + 2) (Q.length + 1) (Q.length + 1) (numCells (Q ++ [k])))] M))=some (.fn (.bool true) M5):=by
     simp (maxSteps:=1000000) (disch:=omega) only [ybd0,rndB.eq_1,EVa,EVb,oi,ou,wants,evx,evxs,evo,evparts,fillA,put,keepT,argTm,result,resAll,resOf,vO,boxF,binF,nilF,unF,lenF,callF,appF,mkIF,readsOf,boxAt,Nat.reduceEqDiff,reduceCtorEq,Nat.reduceBEq,Int.reduceToNat,Nat.reduceAdd,Nat.reduceLeDiff,Nat.reduceMul,gt_iff_lt,hgt,hw1,hsl,h26,okZ,hM5,hgb,Int.reduceEq,hia,hik,hx,g15]
    exact hb
  ·have hfalse:decide (W.names[k]?=some nRate)=false:=by rw [hna]; rfl
   rw [hfalse]
   refine ⟨M5,outv,tk,?_,by simpa using hw5,fr5⟩
   have hb:rndB ES (ev ES (.c ybd0 [(2,.ptr 0 0),(3,.ptr 1 0),(7,.ptr 4 0),(8,.sl (kk + 2) (Q.length + 1) (Q.length + 1) (numCells (Q ++ [k])))] M))=some (.fn (.bool true) M5):=by
    simp (maxSteps:=1000000) (disch:=omega) only [ybd0,rndB.eq_1,EVa,EVb,oi,ou,wants,evx,evxs,evo,evparts,fillA,put,keepT,argTm,result,resAll,resOf,vO,boxF,binF,nilF,unF,lenF,callF,appF,mkIF,readsOf,boxAt,Nat.reduceEqDiff,reduceCtorEq,Nat.reduceBEq,Int.reduceToNat,Nat.reduceAdd,Nat.reduceLeDiff,Nat.reduceMul,gt_iff_lt,hgt,hw1,hsl,h26,okZ,hM5,Int.reduceEq]
   exact hb
  ·have hia:=fun M=>hnm.ia (M:=M) hkl
   have hdr:(strCells W.names).drop (k * 1)=.str W.names[k] :: strCells (W.names.drop (k + 1)):=by
    rw [Nat.mul_one,strCells,← List.map_drop,List.drop_eq_getElem_cons hkl]; rfl
   rw [hdr] at hia
   by_cases hx:W.names[k]=nRate
   ·have htrue:decide (W.names[k]?=some nRate)=true:=by rw [List.getElem?_eq_getElem hkl,hx]; exact decide_eq_true rfl
    rw [htrue]
    obtain ⟨ov2,M6,tk2,a1,a2,a3,_⟩:=hw5.gro.appF (bytes:=24) (j:=1) (ys:=[pathC (Q ++ [k])]) rfl (by simp) (by omega) (by omega) (by omega)
    have g46:M6.get 4=some (.cells [outv]):=by rw [a3.get]; exact g45
    have hw6:WS c0 (M6.set 4 (.cells [ov2])) ov2 (hs ++ if true=true then [Q ++ [k]] else []) tk2:=by
     have:=hw5.nb
     refine ⟨by rw [gs_ne (by omega),a3.get]; exact hw5.g0,by rw [gs_ne (by omega),a3.get]; exact hw5.g1,gs_self g46,by rw [nbn_set,a3.nb]; exact this,?_⟩
     have:=GroK.mem (M':=M6.set 4 (.cells [ov2])) a2 rfl rfl
     simpa using this
    refine ⟨M6.set 4 (.cells [ov2]),ov2,tk2,?_,hw6,(fr5.same a3).set (.inl rfl)⟩
    have ho1:=hw5.gro.one
    have ho2:=a2.one
    have hb:rndB ES (ev ES (.c ybd0 [(2,.ptr 0 0),(3,.ptr 1 0),(7,.ptr 4 0),(8,.sl (kk + 2) (Q.length + 1) (Q.length + 1) (numCells (Q ++ [k])))] M))=some (.fn (.bool true) (M6.set 4 (.cells [ov2]))):=by
     rw [pathC,hlQ] at a1
     simp (maxSteps:=1000000) (disch:=omega) only [ybd0,rndB.eq_1,EVa,EVb,oi,ou,wants,evx,evxs,evo,evparts,fillA,put,keepT,argTm,result,resAll,resOf,vO,boxF,binF,nilF,unF,lenF,callF,appF,mkIF,readsOf,boxAt,Nat.reduceEqDiff,reduceCtorEq,Nat.reduceBEq,Int.reduceToNat,Nat.reduceAdd,Nat.reduceLeDiff,Nat.reduceMul,gt_iff_lt,hgt,hw1,hsl,h26,okZ,hM5,Int.reduceEq,hia,hik,hx,g15,g45,g46,a1,hpc,purL0,cells_sl,oneA_sl,ho1.1,ho1.2,ho2.1,ho2.2]
    exact hb
   ·have hfalse:decide (W.names[k]?=some nRate)=false:=by rw [List.getElem?_eq_getElem hkl]; exact decide_eq_false (by simpa using hx)
    rw [hfalse]
    refine ⟨M5,outv,tk,?_,by simpa using hw5,fr5⟩
    have hb:rndB ES (ev ES (.c ybd0 [(2,.ptr 0 0),(3,.ptr 1 0),(7,.ptr 4 0),(8,.sl (kk + 2) (Q.length + 1) (Q.length + 1) (numCells (Q ++ [k])))] M))=some (.fn (.bool true) M5):=by
     simp (maxSteps:=1000000) (disch:=omega) only [ybd0,rndB.eq_1,EVa,EVb,oi,ou,wants,evx,evxs,evo,evparts,fillA,put,keepT,argTm,result,resAll,resOf,vO,boxF,binF,nilF,unF,lenF,callF,appF,mkIF,readsOf,boxAt,Nat.reduceEqDiff,reduceCtorEq,Nat.reduceBEq,Int.reduceToNat,Nat.reduceAdd,Nat.reduceLeDiff,Nat.reduceMul,gt_iff_lt,hgt,hw1,hsl,h26,okZ,hM5,Int.reduceEq,hia,hik,hx,g15]
    exact hb
end Go.Sx
