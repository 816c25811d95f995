/- TopSoundsDescribed: for every input the law returns true and leaves its argument as it was: the row and its tied card. No condition beyond the row's own cells. -/
import Derived.Test.YtdflipbphcmpoaaGreatDoorP23
import Derived.Test.YtdflipbphcmpoaaGreatDoorRows
import Derived.Test.YtdflipbphcmpoaaGreatDoorCards
import Derived.Test.YtdflipbphcmpoaaGreatDoorTie
import Derived.ProofKit
import Derived.Lay
import Derived.LaidOnce
import Derived.Lib.LaidTab
import Derived.Lib.LaidU8
import Derived.ChangeSlices
import Derived.SevenTiedAt
set_option linter.unusedSimpArgs false
set_option linter.unusedVariables false
set_option maxRecDepth 100000
namespace Go.Proofs.YtdflipbphcmpoaaGreatDoor
open Go Go.ChangeShapes Go.WideShapes Go.ChangeAt Go.RowKit Go.Sx
theorem own:ownKnob Tryz.prog.godebug=none:=by kernel_rfl
def intsOf (l:List AV):List Int:=l.map fun v=>match v with | .int _ n=>n | _=>0
theorem gAscii:Tryz.prog.globalNamed "strings.asciiSpace"=some 0:=by kernel_rfl
theorem gPow:Tryz.prog.globalNamed "internal/strconv.uint64pow10"=some 7:=by kernel_rfl
theorem cells_of_reads {W:World} {name:String} {g t n e:Nat} {k:IntKind} {zs:List Int} (hg:Tryz.prog.globalNamed name=some g) (hty:(Tryz.prog.globals[g]?).map (·.type)=some t) (ht:Tryz.prog.underlying t=some (.array n e)) (he:Tryz.prog.underlying e=some (.int k)) (hce:Tryz.prog.cellsOf e=1) (hct:Tryz.prog.cellsOf t=n)
  (h:Lib.VarReads Tryz.prog W name (Lib.tabData k zs)) (i:Nat) (hi:i < zs.length):W.cell? ⟨g,i,none⟩=some (.int k (zs.getD i 0)):=by
 obtain ⟨g',t',cs,fuel,p,hg',ht',hvar,hd⟩:=h
 obtain rfl:=Option.some.inj (hg.symm.trans hg')
 obtain rfl:=Option.some.inj (hty.symm.trans ht')
 refine Lib.TabIs.cell (P:=Tryz.prog) (name:=name) ?_ hg i hi
 unfold Lib.TabIs
 rw [hvar,← Lib.cells_of_tab ht he hce hct hd]
/-- The row's tables, as the run wants them. -/
theorem tabs {W:World} (h:laidMet Tryz.prog Rows.topSoundsDescribedRow.laid W) (i:Nat) (cells:List AV) (hi:gloS i=some cells) :
  ∃ k,cells=(intsOf cells).map (fun n=>AV.int k n)∧∀ j,j < (intsOf cells).length→W.cell? ⟨i,j,none⟩=some (.int k ((intsOf cells).getD j 0)):=by
 have a:=Lib.laidMet.reads h (n := "strings.asciiSpace") (d:=Rows.laid_strings_asciiSpace) (by simp [Rows.topSoundsDescribedRow])
 have b:=Lib.laidMet.reads h (n := "internal/strconv.uint64pow10") (d:=Rows.laid_internal_strconv_uint64pow10) (by simp [Rows.topSoundsDescribedRow])
 rw [show Rows.laid_strings_asciiSpace=Lib.tabData .u8 (intsOf glo0) by kernel_rfl] at a
 rw [show Rows.laid_internal_strconv_uint64pow10=Lib.tabData .u64 (intsOf glo7) by kernel_rfl] at b
 unfold gloS at hi
 split at hi
 ·cases hi
  exact ⟨.u8,by kernel_rfl,fun j hj=>cells_of_reads gAscii (t:=153) (n:=256) (e:=5) (by kernel_rfl) (by kernel_rfl) (by kernel_rfl) (by kernel_rfl) (by kernel_rfl) a j hj⟩
 ·cases hi
  exact ⟨.u64,by kernel_rfl,fun j hj=>cells_of_reads gPow (t:=278) (n:=20) (e:=173) (by kernel_rfl) (by kernel_rfl) (by kernel_rfl) (by kernel_rfl) (by kernel_rfl) b j hj⟩
 ·cases hi
/-- The context that the call begins in: nothing that lies there is ever written. -/
def cx0 (W:World):Cx:=⟨W.heap.size,fun _=>none,fun _=>none,fun g o=>W.cell? ⟨g,o,none⟩,fun _=>none,none⟩
theorem inv0 {W:World} (h:laidMet Tryz.prog Rows.topSoundsDescribedRow.laid W):Inv (EX []).gx (cx0 W) .zero W where
 base:=Nat.le_refl _
 imm:=fun _ _ _ h=>h
 box:=fun b x g hb=>by cases hb
 inj:=fun b b' x x' g hb=>by cases hb
 tok:=fun k L z x hk=>by cases hk
 tokb:=fun k L z x b y g hk=>by cases hk
 tokt:=fun k L z x k' L' z' x' hk=>by cases hk
 nb:=fun _ _=>rfl
 nbM:=fun b x hb=>by cases hb
 nt:=fun _ _=>rfl
 ntM:=fun k x hk=>by cases hk
 glo:=fun i cells hi=>by
  obtain ⟨k,e,hc⟩:=tabs h i cells hi
  generalize intsOf cells=zs at e hc
  subst e
  refine .cp true _ (zs.map (fun n=>Value.int k n)) i 0 (by simp) (fun j a v ha hv=>?_) fun j v hv=>?_
  ·simp only [List.getElem?_map,Option.map_eq_some_iff] at ha hv
   obtain ⟨n,hn,rfl⟩:=ha
   obtain ⟨n',hn',rfl⟩:=hv
   cases hn.symm.trans hn'
   exact .int true k n
  ·simp only [List.getElem?_map,Option.map_eq_some_iff] at hv
   obtain ⟨n,hn,rfl⟩:=hv
   have hj:=(List.getElem?_eq_some_iff.1 hn).1
   show W.cell? ⟨i,0 + j,none⟩=_
   rw [Nat.zero_add,hc j hj,List.getD,hn]
   rfl
 yok:=fun y hy=>by cases hy
/-- From the run to the call. -/
theorem call0 {W:World} {d:AV} {v:Value} (h:laidMet Tryz.prog Rows.topSoundsDescribedRow.laid W) (hr:∃ M',CallOK Tryz.prog (EX []) 3 [d] .zero (.bool true) M') (hd:VR (cx0 W) false d v) :
  Calls Tryz.prog 3 #[v] W fun e W'=>e=.returned (.bool true)∧W'.os=W.os∧W'.output=W.output∧∀ g,g < W.heap.size→W'.heap[g]?=W.heap[g]?:=by
 obtain ⟨M',hc⟩:=hr
 have hu:=hc.2 (cx0 W) W [v] (inv0 h) (VRs.cons hd (VRs.nil _ _))
 have he0:=Sx.enters_of (P:=Tryz.prog) (f:=3) (fn:=Tryz.f3) (by kernel_rfl) (by kernel_rfl) (by kernel_rfl) #[v] W
 unfold Sx.Upon at hu
 rw [show [v].toArray=#[v] from rfl,he0] at hu
 refine (show Calls Tryz.prog 3 #[v] W _ from hu).mono fun e W' he=>?_
 cases e with
 | returned r=>
  obtain ⟨γ',hv,hn⟩:=he
  cases hv
  refine ⟨rfl,hn.os,hn.output,fun g hg=>hn.keep g hg ?_⟩
  rintro (⟨b,x,hb,_⟩ | ⟨k,y,x,hk,_⟩)
  ·cases hb
  ·cases hk
 | _=>exact he.elim
theorem kept {W W':World} (h1:W'.os=W.os) (h2:W'.output=W.output) (h3:∀ g,g < W.heap.size→W'.heap[g]?=W.heap[g]?) (may:MemPlace→Prop):W.keptBut W' may:=by
 refine ⟨h1,h2,fun i hi=>?_⟩
 rw [h3 i hi]
 split <;> simp_all
theorem lifted (os:Os) (started:os.Started) (H:Type) (enc:TypeId × Value→H) :
  ReturnsInHanded {} Tryz.checked os 3 .any (fun w args=>(Rows.topSoundsDescribedSpec.pre enc Tryz.prog Tryz.f3 [] false w args∧laidMetH Tryz.prog Rows.topSoundsDescribedRow.laid w)∧sizedMet enc Tryz.prog Tryz.f3 (OpenSpec.ofChange Rows.topSoundsDescribedSpec) false w args)
   (Rows.topSoundsDescribedSpec.post enc Tryz.prog Tryz.f3 false true false false):=by
 refine returnsInHanded_of_change_and (C:=Tryz.checked) (X:=fun w _=>laidMetH Tryz.prog Rows.topSoundsDescribedRow.laid w) (fun _ _ _ hh h=>h.of_heap hh) own started (by kernel_rfl) Tryz.func3
  (ChangeSpec.witness_shaped (enc:=enc) (C:=Tryz.checked) (os:=os) (X:=fun w _=>laidMetH Tryz.prog Rows.topSoundsDescribedRow.laid w) false (World.laidAll Tryz.prog os Rows.topSoundsDescribedRow.laid) #[.slice none 0 0] 8 (World.laidAll_os _ _ _)
   (World.shaped_of_ZipB (by kernel_rfl) (by kernel_rfl)) (by kernel_rfl) (by kernel_rfl) (by kernel_rfl)
   (by rw [MakeChecks.laidMetH_plain _ _ _ (by kernel_rfl)]; exact laidMet_laidAll _ (by kernel_rfl) (by kernel_rfl))) ?_
 intro W base args ds gs before hval0 hW _ _ hL _
 have hval:∀ (j:Nat) t v,Tryz.f3.params[j]?=some t→args[j]?=some v→Value.okWide Tryz.prog W .any base t v:=hval0
 have hW':=hW
 obtain ⟨p,q,hA0,hV,rfl,_,_⟩:=hW
 have hA:DataW.TrodAll enc Tryz.prog W 0 (fun _=>true) true Tryz.f3.params.toList args.toList ds p:=hA0
 rw [Tryz.params3] at hA hval
 obtain ⟨v0,d0,rfl,rfl,h0⟩:=trodAll_one hA
 obtain ⟨rfl,rfl⟩:=trodVars_none hV
 rw [MakeChecks.laidMetH_plain _ _ _ (by kernel_rfl)] at hL
 have hv0:=hval 0 22 v0 rfl rfl
 obtain ⟨ad,len,cap,rfl⟩:=okWide_slice Tryz.underlying22 hv0
 simp only [List.append_nil] at hW'
 obtain ⟨fuel,hf⟩:=h0
 rcases open_ints Tryz.underlying22 (show Tryz.prog.underlying 5=some (.int .u8) by kernel_rfl) (by kernel_rfl) hf with ⟨hcs,hx⟩ | ⟨a,len',cap',zs,hcs,_,hlc,hcm,hzl,hx,hcell,hwf⟩
 ·simp [Value.cells] at hcs
  obtain ⟨rfl,rfl,rfl⟩:=hcs
  simp only [Prod.mk.injEq] at hx
  obtain ⟨rfl,rfl⟩:=hx
  refine (call0 hL run3n (.nils false)).mono fun e W' ⟨he,h1,h2,h3⟩=>?_
  subst he
  exact ⟨_,rfl,_,_,_,[],[],[],hW',trodAll_mk1 (shut_bool Tryz.underlying4 _),trodAll_mk1 (shut_slice_nil Tryz.underlying22),rfl,kept h1 h2 h3 _,fun h=>by cases h⟩
 ·simp [Value.cells] at hcs
  obtain ⟨rfl,rfl,rfl⟩:=hcs
  simp only [Prod.mk.injEq] at hx
  obtain ⟨rfl,rfl⟩:=hx
  have hz:zs.length=cap:=by simpa using hzl
  obtain ⟨b,off,spot⟩:=a
  have hhas:len≤cap∧(cap:Int)≤IntKind.i64.max∧W.has Tryz.prog .any base ⟨b,off,spot⟩ 5 cap:=by
   have:=hv0
   simpa only [Value.okWide,Cell.okWide,Cell.ok,Tryz.underlying22] using this
  obtain ⟨_,_,_,hspot,row,nc,hsh,_⟩:=hhas
  have hspot:spot=none:=hspot
  subst hspot
  have hb:b < W.heap.size:=by
   unfold World.shape? at hsh
   rcases Nat.lt_or_ge b W.heap.size with h | h
   ·exact h
   ·simp only [Array.getElem?_eq_none h] at hsh
    cases hsh
  have hcell':∀ i,i < zs.length→W.cell? ⟨b,off + i,none⟩=some (.int .u8 (zs.getD i 0)):=fun i hi=>by
   have:=hcell i hi
   rwa [add_plain] at this
  have hu8:∀ n∈zs,0≤n∧n < 256:=fun n hn=>by
   have:=hwf n hn
   simp [Lit.wf,IntKind.min,IntKind.max,IntKind.signed,IntKind.bits] at this
   omega
  have hl:Bytes ((zs.take len).map Int.toNat):=fun x hx=>by
   obtain ⟨n,hn,rfl⟩:=List.mem_map.1 hx
   have:=hu8 n (List.mem_of_mem_take hn)
   omega
  have hln:((zs.take len).map Int.toNat).length=len:=by simp; omega
  have hvr:VR (cx0 W) false (bsl ((zs.take len).map Int.toNat)) (.slice (some ⟨b,off,none⟩) len cap):=by
   have e:bsl ((zs.take len).map Int.toNat)=.sl 0 0 len (Sx.byteCells ((zs.take len).map Int.toNat)):=by rw [bsl,hln]
   rw [e]
   have hbc:Sx.byteCells ((zs.take len).map Int.toNat)=(zs.take len).map fun n=>AV.int .u8 n:=by
    simp only [Sx.byteCells,List.map_map]
    refine List.map_congr_left fun n hn=>?_
    have:=hu8 n (List.mem_of_mem_take hn)
    simp only [Function.comp_apply,Int.toNat_of_nonneg this.1]
   rw [hbc]
   refine .sl false 0 0 len _ ((zs.take len).map fun n=>Value.int .u8 n) b off cap (by simp) (fun j x v hx hv=>?_) (fun j v hv=>?_) hlc (fun h=>by cases h) fun k h=>by omega
   ·simp only [List.getElem?_map,Option.map_eq_some_iff] at hx hv
    obtain ⟨n,hn,rfl⟩:=hx
    obtain ⟨n',hn',rfl⟩:=hv
    cases hn.symm.trans hn'
    exact .int true .u8 n
   ·simp only [List.getElem?_map,Option.map_eq_some_iff] at hv
    obtain ⟨n,hn,rfl⟩:=hv
    have hn2:zs[j]?=some n:=by
     rw [List.getElem?_take] at hn
     split at hn
     ·exact hn
     ·cases hn
    have hj:=(List.getElem?_eq_some_iff.1 hn2).1
    show W.cell? ⟨b,off + j,none⟩=_
    rw [hcell' j hj,List.getD,hn2]
    rfl
  refine (call0 hL (run3 hl) hvr).mono fun e W' ⟨he,h1,h2,h3⟩=>?_
  subst he
  have hcellW:∀ i,i < zs.length→W'.cell? ⟨b,off + i,none⟩=some (.int .u8 (zs.getD i 0)):=fun i hi=>by
   have:=hcell' i hi
   unfold World.cell? at this ⊢
   rw [h3 b hb]
   exact this
  exact ⟨_,rfl,_,_,_,[],_,[],hW',trodAll_mk1 (shut_bool Tryz.underlying4 _),trodAll_mk1 ⟨_,shut_ints' 0 Tryz.underlying22 (show Tryz.prog.underlying 5=some (.int .u8) by kernel_rfl) (by kernel_rfl) (Nat.zero_le _) hlc hcm (by rw [hz,if_pos (by simpa using hb)]) hcellW hwf⟩,rfl,kept h1 h2 h3 _,fun h=>by cases h⟩
theorem said:Rows.TopSoundsDescribedSaid:=
 OpenClaim.holds_of_wide 3 Tryz.f3 rfl rfl rfl rfl rfl rfl rfl ⟨rfl,rfl,rfl,rfl,rfl⟩ rfl rfl rfl rfl rfl (by kernel_rfl) Tryz.func3 (by kernel_rfl)
  (of_decide_eq_true (by kernel_rfl)) (by unfold Func.isWrapper; first | (rw [if_pos (by decide +kernel)]; kernel_rfl) | (rw [if_neg (by decide +kernel)]; exact ⟨rfl,rfl⟩))
  (fun os started H enc _=>lifted os started H enc)
theorem plain (f:FuncId) (fn:Func) (hf:Tryz.pinned.checked.prog.funcNamed "scriptorium/scriptoriumtop.TopSoundsDescribed"=some f) (hfn:Tryz.pinned.checked.prog.funcs[f]?=some fn) :
  true=Tryz.pinned.checked.prog.looks []∧∀ (j:Nat) t,fn.params[j]?=some t→Tryz.pinned.checked.prog.wantsStandIn t=false:=by
 obtain rfl:f=3:=Option.some.inj ((show Tryz.prog.funcNamed "scriptorium/scriptoriumtop.TopSoundsDescribed"=some 3 by kernel_rfl).symm.trans hf) |>.symm
 obtain rfl:fn=Tryz.f3:=(Option.some.inj (Tryz.func3.symm.trans hfn)).symm
 refine ⟨by kernel_rfl,fun j t ht=>?_⟩
 rw [Tryz.params3] at ht
 obtain rfl:t=22:=by simpa using Array.mem_of_getElem? ht
 exact (show Tryz.prog.wantsStandIn 22=false by kernel_rfl)
/-- The tied card. -/
theorem topSoundsDescribed_card:Rows.TopSoundsDescribedCardSaid:=
 Claim7.holds_tied_plain_at .later [] _ _ _ _ said (fun _ h=>by cases h) (by kernel_rfl) (fun _ h=>by cases h) topSoundsDescribed_row_tie rfl ⟨rfl,rfl⟩ (by kernel_rfl) rfl plain (by kernel_rfl)
end Go.Proofs.YtdflipbphcmpoaaGreatDoor
