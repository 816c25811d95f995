/- A part of the proof of TopSoundsDescribed (texts Xx Xy Xz Ya Yb Yc): an executor of the program's code, proved sound, and its runs. No condition. -/
import Derived.Test.YtdflipbphcmpoaaGreatDoorP04
set_option linter.unusedSimpArgs false
set_option linter.unusedVariables false
set_option maxRecDepth 100000
namespace Go.Sx
variable {P:Program} {E:Env} {ops:Array Oper} {n:Nat} {tm0:Tm} {M0:Mem}
theorem Nx.bind {G:(Nat→Option (List AV)) × (Nat→Loop→Prop)} {γ0:Cx} {w0:World} {γ:Cx} {M:Mem} {w:World} (h0:Nx G γ0 M0 w0 γ M w) {b:Nat} {l:List AV} {arr:Array Value} {el:TypeId} (hb:M.get b=some (.cells l)) (hρ:γ.ρ b=none) (hbn:M0.nb≤b)
  (hv:VRs γ false l arr.toList) (ho:l.all oneA=true):Nx G γ0 M0 w0 (γ.addB b w.heap.size none) M (w.alloc (.cells arr el)):=by
 have h:=h0.inv
 have hle:Le γ (γ.addB b w.heap.size none):=Cx.addB_le hρ
 have hbM:=h.nbM b _ hb
 have hold:∀ g,g < w.heap.size→(w.alloc (.cells arr el)).heap[g]?=w.heap[g]?:=fun g hg=>push_old rfl g hg
 have hρ':∀ j g,(γ.addB b w.heap.size none).ρ j=some g→(j=b∧g=w.heap.size)∨(j≠b∧γ.ρ j=some g):=fun j g hj=>by
  simp only [Cx.addB] at hj
  split at hj
  ·rename_i e; exact .inl ⟨e,(Option.some.inj hj).symm⟩
  ·rename_i e; exact .inr ⟨e,hj⟩
 have hsz:(w.alloc (.cells arr el)).heap.size=w.heap.size + 1:=by simp [World.alloc,-World.alloc_eq]
 refine ⟨h0.le.trans hle,⟨by rw [hsz]; exact Nat.le_succ_of_le h.base,?_,?_,?_,?_,?_,h.tokt,?_,h.nbM,h.nt,h.ntM,fun i cells hc=>(h.glo i cells hc).mono hle,h.yok_keep rfl fun g hg _=>hold g hg⟩,h0.os,h0.tape,h0.output,by rw [hsz]; have:=h0.size; omega,
  fun g hg hf=>(hold g (Nat.lt_of_lt_of_le hg h0.size)).trans (h0.keep g hg hf),?_,fun g o hg hf=>h0.fresh g o hg hf,?_,h0.nb,h0.nt⟩
 ·intro g o v hi
  have hlt:=h.lt hi
  rw [World.cell?_of_block (w:=w) (hold g hlt)]
  exact h.imm g o v hi
 ·intro j y g hj hg
  rcases hρ' j g hg with ⟨rfl,rfl⟩ | ⟨hne,hg⟩
  ·rw [hb] at hj; cases hj
   refine ⟨hle.B ▸ h.base,fun o=>h.I_new _ o (Nat.le_refl _),arr,el,(0,0),push_new rfl,unmarked_zero _,by rw [hv.1]; simp,?_,ho,fun c z S hc=>by simp [Cx.addB] at hc⟩
   rw [List.take_of_length_le (by rw [hv.1]; exact Nat.le_refl _)]
   exact hv.mono hle
  ·have hy:=h.box j y g hj hg
   exact hy.keep hg hle hy.noI (hold g hy.lt)
 ·intro j j' y y' g hj hj' hg hg'
  rcases hρ' j g hg with ⟨e,e2⟩ | ⟨hne,hg⟩ <;> rcases hρ' j' g hg' with ⟨e',e2'⟩ | ⟨hne',hg'⟩
  ·rw [e,e']
  ·have:=(h.box j' y' g hj' hg').lt; omega
  ·have:=(h.box j y g hj hg).lt; omega
  ·exact h.inj j j' y y' g hj hj' hg hg'
 ·intro k L z y hk hy
  obtain ⟨ha,hb',hc⟩:=h.tok k L z y hk hy
  exact ⟨ha,hb',hc.keep hle hc.2.1 (hold y.g hc.lt)⟩
 ·intro k L z y j u g hk hy hj hg
  have hlt:=(h.tok k L z y hk hy).2.2.lt
  rcases hρ' j g hg with ⟨e,e2⟩ | ⟨hne,hg⟩
  ·omega
  ·exact h.tokb k L z y j u g hk hy hj hg
 ·intro j hj
  simp only [Cx.addB]
  rw [if_neg (by omega)]
  exact h.nb j hj
 ·intro g hg hf
  refine h0.foot g hg ?_
  rcases hf with ⟨j,y,hj,hρj⟩ | hf
  ·rcases hρ' j g hρj with ⟨e,e2⟩ | ⟨hne,hρj⟩
   ·have:=h0.size; omega
   ·exact .inl ⟨j,y,hj,hρj⟩
  ·exact .inr hf
 ·intro j hj hn
  simp only [Cx.addB]
  rw [if_neg (by omega)]
  exact h0.dead j hj hn
theorem Nx.ghost {G:(Nat→Option (List AV)) × (Nat→Loop→Prop)} {γ:Cx} {w:World} {M:Mem} (h:Inv G γ M w) (x:Box):Nx G γ M w γ (M.new x) w:=by
 have hρ:=h.nb M.nb (Nat.le_refl _)
 have hget:∀ j y g,(M.new x).get j=some y→γ.ρ j=some g→M.get j=some y:=fun j y g hj hg=>by
  rw [Mem.get_new] at hj
  split at hj
  ·rename_i e; subst e; rw [hρ] at hg; cases hg
  ·exact hj
 refine ⟨Le.refl _,⟨h.base,h.imm,fun j y g hj hg=>h.box j y g (hget j y g hj hg) hg,fun j j' y y' g hj hj' hg hg'=>h.inj j j' y y' g (hget _ _ _ hj hg) (hget _ _ _ hj' hg') hg hg',h.tok,
  fun k L z y j u g hk hy hj hg=>h.tokb k L z y j u g hk hy (hget _ _ _ hj hg) hg,h.tokt,fun j hj=>h.nb j (by simp only [Mem.new] at hj; omega),fun j y hj=>?_,h.nt,h.ntM,h.glo,h.yok⟩,rfl,rfl,rfl,Nat.le_refl _,fun _ _ _=>rfl,fun g _ hf=>?_,fun _ _ _ _=>rfl,fun _ _ h=>h,Nat.le_succ _,Nat.le_refl _⟩
 ·rw [Mem.get_new] at hj
  simp only [Mem.new]
  split at hj
  ·omega
  ·have:=h.nbM j y hj; omega
 ·rcases hf with ⟨j,y,hj,hρj⟩ | hf
  ·exact .inl ⟨j,y,hget j y g hj hρj,hρj⟩
  ·exact .inr hf
theorem Nx.drew {G:(Nat→Option (List AV)) × (Nat→Loop→Prop)} {γ:Cx} {w:World} {M:Mem} (h:Inv G γ M w):Nx G γ M w γ M { w with drawn:=w.drawn + 1 }:=
 ⟨Le.refl _,⟨h.base,h.imm,h.box,h.inj,h.tok,h.tokb,h.tokt,h.nb,h.nbM,h.nt,h.ntM,h.glo,h.yok⟩,rfl,rfl,rfl,Nat.le_refl _,fun _ _ _=>rfl,fun _ _ h=>h,fun _ _ _ _=>rfl,fun _ _ h=>h,Nat.le_refl _,Nat.le_refl _⟩
theorem hist_grow {k:Ent} {A:List Ent}:∀ {B:List Ent} {tm:Tm} {M:Mem},Hist P E ops n tm0 M0 (B ++ k :: A) tm M→Grow k.M1 M
 | [],_,_,.cons _ _=>Grow.refl _
 | _ :: B,_,_,.cons hp hok=>(hist_grow hp).trans hok.step.grow
theorem hist_grow0:∀ {hs:List Ent} {tm:Tm} {M:Mem},Hist P E ops n tm0 M0 hs tm M→Grow M0 M
 | [],_,_,.nil=>Grow.refl _
 | _ :: _,_,_,.cons hp hok=>(hist_grow0 hp).trans hok.step.grow
theorem float_spec {k:Ent} {past:List Ent} (hok:EntOK P E ops n k past) (hf:k.float=true) :
  ∃ e z,k.o.op=.alloc e∧zeroT P e=some z∧k.v=.ptr k.M.nb 0∧k.M1=k.M.new (.cells z)∧k.rd=[k.M.nb]∧k.maj=true:=by
 obtain ⟨h1,h2,h3,h4⟩:=hok.flt hf
 have hg:k.q.guard=none:=by rw [hok.hg,h3]; rfl
 have hwt:wants k.tm k.q.guard=some true:=by rw [hg]; rfl
 generalize ho:k.o.op=op at h1
 cases op <;> simp only [isAlloc,Bool.false_eq_true] at h1
 rename_i e
 have hc:=hok.hc
 rw [ho] at hc
 cases hz:zeroT P e with
 | none=>
  have hq:k.q.op=.stop:=by rw [← hc]; simp [compOp,compOp1,hz,withMu]
  rcases hok.step with ⟨_,h | ⟨ad,f,args,h,_⟩ | ⟨id,ts,cs,args,h,_⟩⟩ | ⟨h,_⟩
  ·rw [hq] at h; cases h
  ·rw [hq] at h; cases h
  ·rw [hq] at h; cases h
  ·rw [hwt] at h; cases h
 | some z=>
  have hq:k.q.op=.alloc z:=by rw [← hc]; simp [compOp,compOp1,hz,withMu]
  refine ⟨e,z,rfl,hz,?_,?_,?_,?_⟩
  ·rcases hok.step with ⟨_,h | ⟨ad,f,args,h,_⟩ | ⟨id,ts,cs,args,h,_⟩⟩ | ⟨h,_⟩
   ·rw [hq] at h; simp only [stepOp,Option.some.injEq,Out.val.injEq] at h; exact h.1.symm
   ·rw [hq] at h; cases h
   ·rw [hq] at h; cases h
   ·rw [hwt] at h; cases h
  ·rcases hok.step with ⟨_,h | ⟨ad,f,args,h,_⟩ | ⟨id,ts,cs,args,h,_⟩⟩ | ⟨h,_⟩
   ·rw [hq] at h; simp only [stepOp,Option.some.injEq,Out.val.injEq] at h; exact h.2.symm
   ·rw [hq] at h; cases h
   ·rw [hq] at h; cases h
   ·rw [hwt] at h; cases h
  ·rw [hok.rdok hwt,hq]; rfl
  ·simp only [Ent.maj,hq]; rfl
def Dl (listed:Array Bool):Nat→Bool:=fun i=>listed.getD i false
theorem Dl_set {listed:Array Bool} {k:Ent} (hk:k.q.idx < listed.size):Dl (listed.setIfInBounds k.q.idx true)=more (Dl listed) k:=by
 funext i
 simp only [Dl,more,Array.getD_eq_getD_getElem?]
 by_cases hi:k.q.idx=i
 ·subst hi
  simp [hk,beq_self]
 ·rw [Array.getElem?_setIfInBounds_ne hi,beq_ne (fun e=>hi e.symm),Bool.or_false]
theorem all_done {listed:Array Bool} (hsz:listed.size=ops.size) {hs:List Ent} {tm:Tm} {M:Mem} (h:Hist P E ops n tm0 M0 hs tm M) (hr:Region.ready .any ops listed=[]):∀ k∈hs,Dl listed k.q.idx=true:=by
 induction h with
 | nil=>intro k hk; cases hk
 | @cons k past hp hok ih=>
  intro i hi
  rcases List.mem_cons.1 hi with rfl | hi
  ·have hlt:i.q.idx < ops.size:=(Array.getElem?_eq_some_iff.1 hok.ho).1
   cases hd:Dl listed i.q.idx with
   | true=>rfl
   | false=>
    exfalso
    have:i.q.idx∈Region.ready .any ops listed:=by
     unfold Region.ready
     rw [List.mem_filter]
     refine ⟨List.mem_range.2 hlt,?_⟩
     rw [hok.ho]
     simp only [Option.map_some,Option.getD_some,Bool.and_eq_true,Bool.not_eq_true',Array.all_eq_true]
     refine ⟨?_,?_⟩
     ·simp only [Dl,Array.getD_eq_getD_getElem?] at hd ⊢
      rw [Array.getElem?_eq_getElem (by omega)] at hd ⊢
      exact hd
     ·intro j hj
      have hm:i.o.after[j]∈i.o.after:=Array.getElem_mem hj
      cases hb:Region.binds .any i.o.after[j] with
      | false=>simp
      | true=>
       obtain ⟨p,hp',he⟩:=hok.edges _ hm hb
       have:=ih p hp'
       rw [he] at this
       simp only [Dl] at this
       simp [this]
    rw [hr] at this
    cases this
  ·exact ih i hi
theorem ready_spec {listed:Array Bool} (hsz:listed.size=ops.size) {i:Nat} (h:i∈Region.ready .any ops listed):i < ops.size∧Dl listed i=false∧∀ o,ops[i]?=some o→∀ e∈o.after,Region.binds .any e=true→Dl listed e.on=true:=by
 unfold Region.ready at h
 rw [List.mem_filter] at h
 obtain ⟨h1,h2⟩:=h
 rw [List.mem_range] at h1
 simp only [Bool.and_eq_true,Bool.not_eq_true'] at h2
 refine ⟨h1,?_,fun o ho e he hb=>?_⟩
 ·have:=h2.1
  simp only [Dl,Array.getD_eq_getD_getElem?] at this ⊢
  rw [Array.getElem?_eq_getElem (by omega)] at this ⊢
  exact this
 ·have:=h2.2
  rw [ho] at this
  simp only [Option.map_some,Option.getD_some] at this
  rw [Array.all_eq_true'] at this
  have:=this e he
  rw [hb] at this
  simpa [Dl] using this
theorem notDone_more {D:Nat→Bool} {k:Ent} {A B:List Ent} {tm:Tm} {M:Mem} (h:Hist P E ops n tm0 M0 (B ++ k :: A) tm M) (hk:D k.q.idx=false) :
  ((B ++ k :: A).filter fun i=>!(D i.q.idx)).length=((B ++ k :: A).filter fun i=>!(more D k i.q.idx)).length + 1:=by
 have e:∀ l:List Ent,(∀ i∈l,i∈B∨i∈A)→(l.filter fun i=>!(more D k i.q.idx))=l.filter fun i=>!(D i.q.idx):=fun l hl=>by
  apply List.filter_congr
  intro i hi
  rw [more_other h (hl i hi)]
 rw [List.filter_append,List.filter_append,List.filter_cons,List.filter_cons,e B fun i hi=>.inl hi,e A fun i hi=>.inr hi]
 simp [hk,more,beq_self]
 omega
theorem draw_any {ro:Option Nat} {ds:List Deferred} {γ0:Cx} {w0:World} {hs:List Ent} {tm':Tm} {M':Mem} {Q:Exit→Act→World→Prop} (hh:Hist P E ops n tm0 M0 hs tm' M') (hcov:∀ i,i < ops.size→∃ k∈hs,k.q.idx=i) (hw:WfM M0)
  (hQ:∀ γ' a' w',Nx E.gx γ0 M0 w0 γ' M' w'→TmR γ' tm' a'.tmps→a'.defers=ds→n≤a'.tmps.size→Q .normal a' w') :
  ∀ (fuel:Nat) (listed:Array Bool) (γ:Cx) (a:Act) (w:World),listed.size=ops.size→Closed ops (fun i=>Dl listed i=true)→(hs.filter fun i=>!(Dl listed i.q.idx)).length≤fuel →
   Nx E.gx γ0 M0 w0 γ (memD (Dl listed) M0 hs) w→TmR γ (tmD (Dl listed) tm0 hs) a.tmps→a.defers=ds→n≤a.tmps.size→(∀ k∈hs,k.float=true→Dl listed k.q.idx=false→γ.ρ k.M.nb=none) →
   wpAnyIn (FR ro) 0 P .any ops Q fuel listed a w:=by
 intro fuel
 have fin:∀ (listed:Array Bool) (γ:Cx) (a:Act) (w:World),Nx E.gx γ0 M0 w0 γ (memD (Dl listed) M0 hs) w→TmR γ (tmD (Dl listed) tm0 hs) a.tmps→a.defers=ds→n≤a.tmps.size→(∀ k∈hs,Dl listed k.q.idx=true)→Q .normal a w:=by
  intro listed γ a w hN ht hd hn hall
  rw [mem_A hh fun p hp _=>.inr (hall p hp)] at hN
  rw [done_tm hh hall] at ht
  exact hQ γ a w hN ht hd hn
 induction fuel with
 | zero=>
  intro listed γ a w hsz hcl hlen hN ht hd hn hfl
  have hall:∀ k∈hs,Dl listed k.q.idx=true:=fun k hk=>by
   cases hdk:Dl listed k.q.idx with
   | true=>rfl
   | false=>
    have hm:k∈hs.filter fun i=>!(Dl listed i.q.idx):=List.mem_filter.2 ⟨hk,by simp [hdk]⟩
    have:hs.filter (fun i=>!(Dl listed i.q.idx))=[]:=List.eq_nil_of_length_eq_zero (by omega)
    rw [this] at hm
    cases hm
  refine ⟨?_,fin listed γ a w hN ht hd hn hall⟩
  refine List.eq_nil_iff_forall_not_mem.2 fun i hi=>?_
  obtain ⟨h1,h2,_⟩:=ready_spec hsz hi
  obtain ⟨k,hk,rfl⟩:=hcov i h1
  rw [hall k hk] at h2
  cases h2
 | succ fuel ih=>
  intro listed γ a w hsz hcl hlen hN ht hd hn hfl
  refine ⟨fun hr=>fin listed γ a w hN ht hd hn (all_done hsz hh hr),fun i hi=>?_⟩
  obtain ⟨h1,hkd,hre⟩:=ready_spec hsz hi
  obtain ⟨k,hk,rfl⟩:=hcov i h1
  obtain ⟨B,A,rfl⟩:=Hist.split hk
  obtain ⟨hok,hA⟩:=hh.at
  have hr:=hre k.o hok.ho
  have hS:Same k.tm (tmD (Dl listed) tm0 (B ++ k :: A)) k.names:=fact_tm hcl hkd hr hh
  have hlt:k.q.idx < listed.size:=by omega
  have hI:=hN.inv
  -- what is the same whatever the entry is
  have go:∀ (γ1:Cx) (r:Value) (w1:World),VR γ1 false k.v r→Nx E.gx γ0 M0 w0 γ1 (memD (more (Dl listed) k) M0 (B ++ k :: A)) w1→Le γ γ1→(∀ j∈B ++ k :: A,j.float=true→more (Dl listed) k j.q.idx=false→γ1.ρ j.M.nb=none) →
    wpAnyIn (FR ro) 0 P .any ops Q fuel (listed.setIfInBounds k.q.idx true) (a.put k.o.dst r) w1:=by
   intro γ1 r w1 hv hN1 hle hf1
   refine ih _ γ1 _ w1 (by simpa using hsz) ?_ ?_ (by rw [Dl_set hlt]; exact hN1) ?_ (by rw [put_defers]; exact hd) (by rw [put_size]; exact hn) (by rw [Dl_set hlt]; exact hf1)
   ·rw [Dl_set hlt]
    intro j o ho hj e he hb
    simp only [more,Bool.or_eq_true] at hj ⊢
    rcases hj with hj | hj
    ·exact .inl (hcl j o ho hj e he hb)
    ·have:=Nat.eq_of_beq_eq_true hj
     subst this
     rw [hok.ho] at ho
     cases ho
     exact .inl (hr e he hb)
   ·rw [Dl_set hlt]
    have:=notDone_more hh hkd
    omega
   ·rw [Dl_set hlt]
    intro t
    rw [fact_put hcl hkd hr hh t,hok.hd]
    exact (ht.mono hle).put hok.dstok hn hv t
  have ghost:∀ (γ1:Cx) (w1:World) (M1:Mem),Nx E.gx γ (memD (Dl listed) M0 (B ++ k :: A)) w γ1 M1 w1→∀ j∈B ++ k :: A,j.float=true→more (Dl listed) k j.q.idx=false→γ1.ρ j.M.nb=none:=by
   intro γ1 w1 M1 hN1 j hj hjf hjd
   simp only [more,Bool.or_eq_false_iff] at hjd
   refine hN1.dead _ ?_ (hfl j hj hjf hjd.1)
   obtain ⟨B2,A2,e⟩:=Hist.split hj
   have hh2:=hh
   rw [e] at hh2
   obtain ⟨hokj,hA2⟩:=hh2.at
   obtain ⟨e2,z,h2,h3,h4,h5,h6,h7⟩:=float_spec hokj hjf
   have hrj:∀ e∈j.o.after,Region.binds .any e=true→Dl listed e.on=true:=fun e he=>by
    rw [(hokj.flt hjf).2.1] at he; simp at he
   have hg:=fact_flt hcl hjd.1 hrj hh2 hw h7 hjf (b:=j.M.nb) (by rw [h6]; simp)
   rw [← e,h5,Mem.get_new,if_pos rfl] at hg
   exact hI.nbM _ _ hg
  cases hf:k.float with
  | true=>
   obtain ⟨e,z,h2,h3,h4,h5,h6,h7⟩:=float_spec hok hf
   have hg:=fact_flt hcl hkd hr hh hw h7 hf (b:=k.M.nb) (by rw [h6]; simp)
   rw [h5,Mem.get_new,if_pos rfl] at hg
   obtain ⟨inf,zv,hi1,hzv,hzc⟩:=zeroT_spec h3
   have hρ:=hfl k hk hf hkd
   have hnb:M0.nb≤k.M.nb:=(hist_grow0 hA).1
   have hN2:=Nx.bind (arr:=zv.cells) (el:=e) hN hg hρ hnb (ofCells_sound hzc) (ofCells_one hzc).1
   have hmem:memD (more (Dl listed) k) M0 (B ++ k :: A)=memD (Dl listed) M0 (B ++ k :: A):=by
    rw [fact_mem hcl hkd hr hh,if_neg (by simp [hf])]
   have hgd:k.o.guard=none:=(hok.flt hf).2.2.1
   unfold wpOpIn
   rw [hok.ho]
   simp only
   rw [if_pos (by simp [Region.wanted,hgd])]
   unfold Oper.wpIn
   refine ⟨fun _ _=>trivial,?_⟩
   rw [semAt_plain (fun c hc=>by rw [h2] at hc; cases hc)]
   have hrun:(execOp a.eval k.o).run P w=.ok (.value (.pointer (some ⟨w.heap.size,0,none⟩))) (w.alloc (.cells zv.cells e)):=by
    simp [execOp,h2,Instr.alloc,run_zeroValue' hi1 hzv,newVar,newRow]
   rw [hrun]
   refine go (γ.addB k.M.nb w.heap.size none) _ _ (by rw [h4]; exact VR.newptr) (by rw [hmem]; exact hN2) (Cx.addB_le hρ) fun j hj hjf hjd=>?_
   simp only [more,Bool.or_eq_false_iff] at hjd
   have hne:j.M.nb≠k.M.nb:=by
    intro he
    have hjk:j.q.idx≠k.q.idx:=fun q=>by rw [q,beq_self] at hjd; exact absurd hjd.2 (by simp)
    have later:∀ {x y:Ent} {X Y:List Ent},Hist P E ops n tm0 M0 (X ++ y :: Y) tm' M'→x∈X→y.float=true→y.M.nb < x.M.nb:=fun {x y X Y} hxy hx hyf=>by
     obtain ⟨X1,X2,rfl⟩:=Hist.split hx
     rw [List.append_assoc,List.cons_append] at hxy
     obtain ⟨hokx,hAx⟩:=hxy.at
     obtain ⟨hoky,_⟩:=hAx.at
     obtain ⟨_,_,_,_,_,q5,_⟩:=float_spec hoky hyf
     have:=(hist_grow hAx).1
     rw [q5] at this
     simp only [Mem.new] at this
     omega
    simp only [List.mem_append,List.mem_cons] at hj
    rcases hj with hj | rfl | hj
    ·have:=later hh hj hf; omega
    ·exact hjk rfl
    ·obtain ⟨A1,A2,rfl⟩:=Hist.split hj
     have hh3:Hist P E ops n tm0 M0 ((B ++ k :: A1) ++ j :: A2) tm' M':=by simpa using hh
     have:=later (x:=k) hh3 (by simp) hjf
     omega
   simp only [Cx.addB]
   rw [if_neg hne]
   exact hfl j hj hjf hjd.1
  | false=>
   have hmem:=fact_mem hcl hkd hr hh
   have hstep:∃ M1',StepOK P E k.q (tmD (Dl listed) tm0 (B ++ k :: A)) (memD (Dl listed) M0 (B ++ k :: A)) k.v M1'∧memD (more (Dl listed) k) M0 (B ++ k :: A)=M1':=by
    have hSw:wants (tmD (Dl listed) tm0 (B ++ k :: A)) k.q.guard=wants k.tm k.q.guard:=wants_same hS.right
    have hSo:∀ M,stepOp E (tmD (Dl listed) tm0 (B ++ k :: A)) M k.q.op=stepOp E k.tm M k.q.op:=fun M=>stepOp_same hS.left
    cases hm:k.maj with
    | true=>
     have e1:=fact_maj hcl hkd hr hh hm hf
     refine ⟨k.M1,?_,by rw [hmem,if_pos ⟨hm,hf⟩]⟩
     rw [e1]
     unfold StepOK
     rw [hSw,hSo]
     exact hok.step
    | false=>
     refine ⟨memD (Dl listed) M0 (B ++ k :: A),?_,by rw [hmem,if_neg (by simp [hm])]⟩
     unfold StepOK
     rw [hSw,hSo]
     rcases hok.step with ⟨hwt,h | ⟨ad,f,args,h,hc⟩ | ⟨id,ts,cs,args,h,hc⟩⟩ | ⟨hwt,hv,_⟩
     ·refine .inl ⟨hwt,.inl (stepOp_mem hm h fun b hb=>?_)⟩
      rw [← hok.rdok hwt] at hb
      exact fact_min hcl hkd hr hh hw hm hf hb
     ·exfalso
      have hmin:=StepOK.minor (P:=P) (E:=E) (q:=k.q) (tm:=k.tm) (M:=k.M) (v:=k.v) (M':=k.M1) hm hok.step
      have hmj:=call_major h
      rw [Ent.maj] at hm
      rw [hm] at hmj; cases hmj
     ·exfalso
      have hmj:=yield_major h
      rw [Ent.maj] at hm
      rw [hm] at hmj; cases hmj
     ·exact .inr ⟨hwt,hv,rfl⟩
   obtain ⟨M1',hst,hM1⟩:=hstep
   refine wpOp_sound hI ht hok.ho hok.hc hok.hg hst fun γ1 r w1 hv hN1=>?_
   exact go γ1 r w1 hv (by rw [hM1]; exact hN.trans hN1) hN1.le (ghost γ1 w1 M1' hN1)
end Go.Sx
namespace Go.Sx
variable {P:Program} {E:Env} {ops:Array Oper} {n:Nat} {tm0:Tm} {M0:Mem}
theorem listed_iff {l:List Nat} {x:Nat}:listed l x=true ↔ x∈l:=by
 induction l with
 | nil=>simp [listed]
 | cons a l ih=>
  by_cases h:a=x
  ·subst h; simp [listed,beq_self]
  ·simp only [listed,beq_ne h,Bool.false_eq_true,if_false,ih,List.mem_cons]
   exact ⟨.inr,fun q=>q.resolve_left fun e=>h e.symm⟩
theorem listed_not {l:List Nat} {x:Nat} (h:listed l x=false):x ∉ l:=fun hx=>by rw [listed_iff.2 hx] at h; cases h
theorem hasT_not {l:List Nat} {x:Nat} (h:hasT l x=false):x ∉ l:=by
 induction l with
 | nil=>simp
 | cons a l ih=>
  by_cases e:a=x
  ·subst e; simp [hasT,beq_self] at h
  ·simp only [hasT,beq_ne e,Bool.false_eq_true,if_false] at h
   rw [List.mem_cons]
   exact fun q=>q.elim (fun q=>e q.symm) (ih h)
theorem apartL_spec {x l:List Nat} (h:apartL x l=true):∀ b∈x,b ∉ l:=by
 induction x with
 | nil=>intro b hb; cases hb
 | cons a x ih=>
  simp only [apartL,Bool.and_eq_true,Bool.not_eq_true'] at h
  intro b hb
  rcases List.mem_cons.1 hb with rfl | hb
  ·exact hasT_not h.1
  ·exact ih h.2 b hb
theorem clear_spec {seen:List (Nat × List Nat × List Nat)} {rd wr:List Nat}:∀ {un:List Nat},clear seen rd wr un=true→∀ j∈un,∀ rd' wr',seenAt seen j=some (rd',wr')→(∀ b∈rd,b ∉ wr')∧(∀ b∈wr,b ∉ wr')∧∀ b∈rd',b ∉ wr
 | [],_,j,hj,_,_,_=>by cases hj
 | i :: un,h,j,hj,rd',wr',hs=>by
  simp only [clear,Bool.and_eq_true] at h
  rcases List.mem_cons.1 hj with rfl | hj
  ·have h1:=h.1
   rw [hs] at h1
   simp only [Bool.and_eq_true] at h1
   exact ⟨apartL_spec h1.1.1,apartL_spec h1.1.2,apartL_spec h1.2⟩
  ·exact clear_spec h.2 j hj rd' wr' hs
theorem unOf_spec {anc:Nat} {maj:Bool}:∀ {past:List Past} {p:Past},p∈past→anc.testBit p.idx=false→(maj=true∨p.maj=true)→p.idx∈unOf anc maj past
 | q :: past,p,hp,ha,hm=>by
  simp only [unOf]
  rcases List.mem_cons.1 hp with rfl | hp
  ·rw [if_pos (by simp [ha]; exact hm)]
   exact List.mem_cons_self
  ·split
   ·exact List.mem_cons_of_mem _ (unOf_spec hp ha hm)
   ·exact unOf_spec hp ha hm
theorem fits_spec {anc:Nat} {dst:Option Nat} {names:List Nat} {maj:Bool}:∀ {past:List Past},fits anc dst names maj past=true→∀ p∈past,
  anc.testBit p.idx=true∨((maj=true→p.maj=true→p.float=true)∧(∀ d,p.dst=some d→d ∉ names∧dst≠some d)∧∀ d,dst=some d→d ∉ p.names)
 | [],_,p,hp=>by cases hp
 | q :: past,h,p,hp=>by
  simp only [fits,Bool.and_eq_true] at h
  rcases List.mem_cons.1 hp with rfl | hp
  ·have h1:=h.1
   simp only [Bool.or_eq_true,Bool.and_eq_true,Bool.not_eq_true'] at h1
   rcases h1 with h1 | ⟨⟨h1,h2⟩,h3⟩
   ·exact .inl h1
   ·refine .inr ⟨fun hm hpm=>?_,fun d hd=>?_,fun d hd=>?_⟩
    ·rw [hm,hpm] at h1
     simpa using h1
    ·rw [hd] at h2
     simp only [Bool.and_eq_true,Bool.not_eq_true'] at h2
     refine ⟨listed_not h2.1,fun e=>?_⟩
     rw [e] at h2
     exact listed_not h2.2 (by simp [optL])
    ·rw [hd] at h3
     simp only [Bool.not_eq_true'] at h3
     exact listed_not h3
  ·exact fits_spec h.2 p hp
theorem edgesIn_spec {done:List Nat}:∀ {es:List Edge},edgesIn done es=true→∀ e∈es,Region.binds .any e=true→e.on∈done
 | [],_,e,he,_=>by cases he
 | x :: es,h,e,he,hb=>by
  simp only [edgesIn,Bool.and_eq_true,Bool.or_eq_true,Bool.not_eq_true'] at h
  rcases List.mem_cons.1 he with rfl | he
  ·rcases h.1 with h1 | h1
   ·rw [hb] at h1; cases h1
   ·exact listed_iff.1 h1
  ·exact edgesIn_spec h.2 e he hb
theorem ancOf_spec {acc:List (Nat × Nat)} {j:Nat}:∀ {es:List Edge},(ancOf acc es).testBit j=true→∃ e∈es,Region.binds .any e=true∧(j=e.on∨(maskAt acc e.on).testBit j=true)
 | [],h=>by simp [ancOf] at h
 | x :: es,h=>by
  simp only [ancOf] at h
  split at h
  ·rename_i hb
   simp only [Nat.testBit_or,Bool.or_eq_true] at h
   rcases h with (h | h) | h
   ·rw [Nat.testBit_two_pow] at h
    exact ⟨x,List.mem_cons_self,hb,.inl (by simpa using h:x.on=j).symm⟩
   ·exact ⟨x,List.mem_cons_self,hb,.inr h⟩
   ·obtain ⟨e,he,q⟩:=ancOf_spec h
    exact ⟨e,List.mem_cons_of_mem _ he,q⟩
  ·obtain ⟨e,he,q⟩:=ancOf_spec h
   exact ⟨e,List.mem_cons_of_mem _ he,q⟩
inductive TrD (P:Program) (E:Env):List AOper→Tm→Mem→List (Nat × List Nat × List Nat)→Tm→Mem→Prop
 | nil (tm:Tm) (M:Mem) (seen:List (Nat × List Nat × List Nat)):TrD P E [] tm M seen tm M
 | cons {q:AOper} {rest:List AOper} {tm:Tm} {M:Mem} {v:AV} {M1:Mem} {seen:List (Nat × List Nat × List Nat)} {rd:List Nat} {tm':Tm} {M':Mem} (h:StepOK P E q tm M v M1)
   (h1:wants tm q.guard=some true→rd=readsOf E tm M q.op∧clear seen rd (wrOf M M1) q.un=true) (h2:wants tm q.guard=some false→rd=[])
   (hr:TrD P E rest (put tm q.dst v) M1 ((q.idx,rd,wrOf M M1) :: seen) tm' M'):TrD P E (q :: rest) tm M seen tm' M'
def Ent.past (h:Ent):Past:=⟨h.q.idx,h.q.dst,h.names,h.maj,h.float⟩
theorem wrOf_self (M:Mem):wrOf M M=[]:=by simp [wrOf]
theorem hist_of {tm':Tm} {M':Mem}:∀ {gl l:List AOper} {done:List Nat} {acc:List (Nat × Nat)} {past:List Past} {tm:Tm} {M:Mem} {seen:List (Nat × List Nat × List Nat)} {hs:List Ent},
  compOps P n true ops.toList gl done acc past=some l→TrD P E l tm M seen tm' M'→Hist P E ops n tm0 M0 hs tm M→done=hs.map (·.q.idx)→past=hs.map Ent.past →
  (∀ i D,Closed ops D→D i→∀ j,(maskAt acc i).testBit j=true→D j)→(∀ p∈hs,seenAt seen p.q.idx=some (p.rd,p.wr)) →
  ∃ hs',Hist P E ops n tm0 M0 hs' tm' M'∧hs'.length=hs.length + gl.length
 | [],l,done,acc,past,tm,M,seen,hs,hc,hr,hh,_,_,_,_=>by
  cases hc
  cases hr
  exact ⟨hs,hh,rfl⟩
 | g :: gl,l,done,acc,past,tm,M,seen,hs,hc,hr,hh,hdone,hpast,hacc,hseen=>by
  simp only [compOps,Option.bind_eq_some_iff] at hc
  obtain ⟨o,ho,hc⟩:=hc
  split at hc
  ·cases hc
  ·rename_i hck
   simp only [Bool.or_eq_true,not_or,Bool.not_eq_true,Bool.not_eq_false'] at hck
   simp only [if_true] at hc
   split at hc
   ·rename_i hfit
    simp only [Option.map_eq_some_iff] at hc
    obtain ⟨l',hl',rfl⟩:=hc
    cases hr with
    | @cons _ _ _ _ v M1 _ rd _ _ h h1 h2 hr=>
     generalize hq:(⟨g.idx,o.dst,withMu (compOp P o.op) g.op,guardOf ops.toList o.guard,unOf (ancOf acc o.after.toList) (isMaj (withMu (compOp P o.op) g.op)) past⟩:AOper)=q at h h1 h2 hr
     have q1:q.idx=g.idx:=by rw [← hq]
     have q2:q.dst=o.dst:=by rw [← hq]
     have q3:q.op=withMu (compOp P o.op) g.op:=by rw [← hq]
     have q4:q.guard=guardOf ops.toList o.guard:=by rw [← hq]
     have q5:q.un=unOf (ancOf acc o.after.toList) (isMaj q.op) past:=by rw [← hq]
     let fl:Bool:=isAlloc o.op && o.after.toList.isEmpty && o.guard.isNone && past.all (·.float)
     let e:Ent:=⟨q,o,g.op,ancOf acc o.after.toList,fl,tm,M,v,M1,rd⟩
     have hfit':=fits_spec hfit
     have hanc:∀ D,Closed ops D→(∀ x∈o.after,Region.binds .any x=true→D x.on)→∀ j,(ancOf acc o.after.toList).testBit j=true→D j:=fun D hD hx j hj=>by
      obtain ⟨x,hxm,hb,hj⟩:=ancOf_spec hj
      have:=hx x (by simpa using hxm) hb
      rcases hj with rfl | hj
      ·exact this
      ·exact hacc _ D hD this j hj
     have hok:EntOK P E ops n e hs:=by
      refine ⟨by show ops[q.idx]?=some o; rw [q1,← Array.getElem?_toList]; exact ho,q3.symm,q2,q4,hck.2,h,fun hwt=>(h1 hwt).1,fun p hp=>?_,fun x hx hb=>?_,hanc,fun p hp=>?_,fun p hp ha hm=>?_,fun hf=>?_⟩
      ·show p.q.idx≠q.idx
       rw [q1]
       intro he
       have hl:=hck.1.1
       rw [hdone] at hl
       exact listed_not hl (by rw [← he]; exact List.mem_map.2 ⟨p,hp,rfl⟩)
      ·have:=edgesIn_spec hck.1.2 x (by simpa using hx) hb
       rw [hdone,List.mem_map] at this
       exact this
      ·have:=hfit' p.past (by rw [hpast]; exact List.mem_map.2 ⟨p,hp,rfl⟩)
       simp only [Ent.past] at this
       rcases this with h3 | ⟨h3,h4,h5⟩
       ·exact .inl h3
       ·refine .inr ⟨fun hm1 hm2=>h3 (by simpa [Ent.maj,e,q3] using hm1) hm2,fun d hd=>?_,fun d hd=>h5 d (by rw [← q2]; exact hd)⟩
        obtain ⟨h6,h7⟩:=h4 d hd
        exact ⟨by simp only [Ent.names,e,q3,q4]; exact h6,by simp only [e,q2]; exact h7⟩
      ·rcases h with ⟨hwt,_⟩ | ⟨hwf,_,hMM⟩
       ·obtain ⟨hrd,hcl⟩:=h1 hwt
        refine clear_spec hcl p.q.idx ?_ p.rd p.wr (hseen p hp)
        rw [q5]
        refine unOf_spec (p:=p.past) (by rw [hpast]; exact List.mem_map.2 ⟨p,hp,rfl⟩) ha ?_
        exact hm
       ·have hrd:=h2 hwf
        refine ⟨fun b hb=>?_,fun b hb=>?_,fun b _ hb=>?_⟩
        ·simp only [e,hrd] at hb; cases hb
        ·simp only [Ent.wr,e,hMM,wrOf_self] at hb; cases hb
        ·simp only [Ent.wr,e,hMM,wrOf_self] at hb; cases hb
      ·simp only [e,fl,Bool.and_eq_true,List.isEmpty_iff,Option.isNone_iff_eq_none,List.all_eq_true] at hf
       refine ⟨hf.1.1.1,by simpa using hf.1.1.2,hf.1.2,fun p hp=>?_⟩
       have:=hf.2 p.past (by rw [hpast]; exact List.mem_map.2 ⟨p,hp,rfl⟩)
       exact this
     have hh':Hist P E ops n tm0 M0 (e :: hs) (put tm q.dst v) M1:=.cons (h:=e) hh hok
     have ha':∀ i D,Closed ops D→D i→∀ j,(maskAt ((g.idx,ancOf acc o.after.toList) :: acc) i).testBit j=true→D j:=fun i D hD hi j hj=>by
      simp only [maskAt] at hj
      split at hj
      ·rename_i hb
       have:=Nat.eq_of_beq_eq_true hb
       subst this
       exact hanc D hD (fun x hx hb2=>hD _ o (by rw [← Array.getElem?_toList]; exact ho) hi x hx hb2) j hj
      ·exact hacc i D hD hi j hj
     have hs'':∀ p∈e :: hs,seenAt ((q.idx,rd,wrOf M M1) :: seen) p.q.idx=some (p.rd,p.wr):=fun p hp=>by
      rcases List.mem_cons.1 hp with rfl | hp
      ·simp only [e,seenAt,beq_self,if_true,Ent.wr]
      ·have hne:=hok.new p hp
       simp only [seenAt]
       rw [beq_ne (fun q=>hne q.symm)]
       exact hseen p hp
     obtain ⟨hs',r1,r2⟩:=hist_of hl' hr hh' (by simp [hdone,e,q1]) (by simp [hpast,Ent.past,e,q1,q2,Ent.names,q3,q4,Ent.maj,fl]) ha' hs''
     exact ⟨hs',r1,by rw [r2]; simp; omega⟩
   ·cases hc
theorem pigeon:∀ (m:Nat) (l:List Nat),l.Nodup→(∀ x∈l,x < m)→l.length≤m
 | 0,l,_,h=>by
  cases l with
  | nil=>exact Nat.le_refl _
  | cons x l=>exact absurd (h x List.mem_cons_self) (Nat.not_lt_zero _)
 | m + 1,l,hn,h=>by
  by_cases hm:m∈l
  ·have h1:=pigeon m (l.erase m) (hn.erase m) fun x hx=>by
    have h2:=h x (List.mem_of_mem_erase hx)
    have h3:x≠m:=fun e=>by subst e; exact (List.Nodup.not_mem_erase hn) hx
    omega
   rw [List.length_erase_of_mem hm] at h1
   omega
  ·have:=pigeon m l hn fun x hx=>by
    have h2:=h x hx
    have h3:x≠m:=fun e=>hm (e ▸ hx)
    omega
   omega
theorem hist_nodup:∀ {hs:List Ent} {tm:Tm} {M:Mem},Hist P E ops n tm0 M0 hs tm M→(hs.map (·.q.idx)).Nodup∧∀ x∈hs.map (·.q.idx),x < ops.size
 | [],_,_,.nil=>⟨List.nodup_nil,fun x h=>by cases h⟩
 | k :: hs,_,_,.cons hp hok=>by
  obtain ⟨h1,h2⟩:=hist_nodup hp
  refine ⟨List.nodup_cons.2 ⟨fun hm=>?_,h1⟩,fun x hx=>?_⟩
  ·obtain ⟨p,hp,he⟩:=List.mem_map.1 hm
   exact hok.new p hp he
  ·rcases List.mem_cons.1 hx with rfl | hx
   ·exact (Array.getElem?_eq_some_iff.1 hok.ho).1
   ·exact h2 x hx
theorem hist_cover {hs:List Ent} {tm:Tm} {M:Mem} (h:Hist P E ops n tm0 M0 hs tm M) (hl:hs.length=ops.size):∀ i,i < ops.size→∃ k∈hs,k.q.idx=i:=by
 intro i hi
 obtain ⟨h1,h2⟩:=hist_nodup h
 by_cases hm:i∈hs.map (·.q.idx)
 ·exact List.mem_map.1 hm
 ·have:=pigeon ops.size (i :: hs.map (·.q.idx)) (List.nodup_cons.2 ⟨hm,h1⟩) fun x hx=>by
   rcases List.mem_cons.1 hx with rfl | hx
   ·exact hi
   ·exact h2 x hx
  simp only [List.length_cons,List.length_map] at this
  omega
end Go.Sx
namespace Go.Sx
variable {P:Program} {E:Env}
def exOf:AX→Exit
 | .normal=>.normal
 | .ret=>.ret
 | .exit id=>.exit id
def Post (ds:List Deferred) (G:(Nat→Option (List AV)) × (Nat→Loop→Prop)) (γ:Cx) (M:Mem) (w:World) (n:Nat) (x:AX) (tm':Tm) (M':Mem):Exit→Act→World→Prop:=
 fun e a' w'=>e=exOf x∧∃ γ',Nx G γ M w γ' M' w'∧TmR γ' tm' a'.tmps∧a'.defers=ds∧n≤a'.tmps.size
theorem Post.trans {ds:List Deferred} {G:(Nat→Option (List AV)) × (Nat→Loop→Prop)} {γ γ1:Cx} {M M1:Mem} {w w1:World} {n:Nat} {x:AX} {tm':Tm} {M':Mem} (hN:Nx G γ M w γ1 M1 w1) {e:Exit} {a':Act} {w':World} (h:Post ds G γ1 M1 w1 n x tm' M' e a' w'):Post ds G γ M w n x tm' M' e a' w':=by
 obtain ⟨he,γ',h1,h2⟩:=h
 exact ⟨he,γ',hN.trans h1,h2⟩
def LoopIn (ro:Option Nat) (P:Program) (d:Code) (Q:Exit→Act→World→Prop) (a:Act) (w:World):Prop:=
 ∀ (b:Frame) (k:List Item) (cs:List Frame),b.roundOf=ro→∃ e a' w',Q e a' w'∧ArrivesIn (Machine.fenced P (FR ro)) P (lone (b.atR a (.code d :: .inLoop d :: k)) cs w) b k cs e a' w'
def wq (ro:Option Nat) (P:Program) (c:Code) (Q:Exit→Act→World→Prop) (a:Act) (w:World):Prop:=
 match c with
 | .loop d=>LoopIn ro P d Q a w
 | c=>c.wpIn (FR ro) 0 P Q a w
theorem wq_in {ro : Option Nat} {c : Code} {Q : Exit → Act → World → Prop} {a : Act} {w : World} (h : wq ro P c Q a w) : c.wpIn (FR ro) 0 P Q a w := by
  cases c <;> first
    | exact h
    | (intro b k cs hro hb hr
       obtain ⟨e, a', w', hq, harr⟩ := h b k cs hro
       exact ⟨e, a', w', hq, .of_steps (.one (fenced_calm hb hr rfl) stepR_loop) harr⟩)
theorem wq_wp {c:Code} {Q:Exit→Act→World→Prop} {a:Act} {w:World} (h:wq none P c Q a w):c.wp P Q a w:=wpIn_wide.1 (wq_in h)
theorem LoopIn.mono {ro:Option Nat} {d:Code} {Q Q':Exit→Act→World→Prop} {a:Act} {w:World} (h:LoopIn ro P d Q a w) (hq:∀ e a w,Q e a w→Q' e a w):LoopIn ro P d Q' a w:=
 fun b k cs hro=>let ⟨e,a',w',q,r⟩:=h b k cs hro; ⟨e,a',w',hq _ _ _ q,r⟩
theorem LoopIn.of_wp {ro:Option Nat} {d:Code} {Q:Exit→Act→World→Prop} {a:Act} {w:World} (h:d.wpIn (FR ro) 0 P (Exit.then (LoopIn ro P d Q) Q) a w):LoopIn ro P d Q a w:=by
 intro b k cs hro
 have hr:=FR_room ro (cs.length + 1 + 0)
 have hb:(FR ro).fn b.fn:=trivial
 obtain ⟨e,a₁,w₁,hq,harr⟩:=h b (.inLoop d :: k) cs hro hb hr
 cases e with
 | normal=>
  obtain ⟨e₂,a₂,w₂,hq₂,harr₂⟩:=hq b k cs hro
  exact ⟨e₂,a₂,w₂,hq₂,.of_steps (StepsIn.trans harr (.one (fenced_calm hb hr rfl) stepR_inLoop)) harr₂⟩
 | exit id=>exact ⟨_,a₁,w₁,hq,.pass (x:=.inLoop d) rfl (fun _ _=>.inl (by simp)) harr⟩
 | goto l=>exact ⟨_,a₁,w₁,hq,.pass (x:=.inLoop d) rfl (fun _ _=>.inl (by simp)) harr⟩
 | ret=>exact ⟨_,a₁,w₁,hq,.pass (x:=.inLoop d) rfl (fun _ _=>.inl (by simp)) harr⟩
 | panic ch=>exact ⟨_,a₁,w₁,hq,.pass (x:=.inLoop d) rfl (fun _ _=>.inl (by simp)) harr⟩
 | outgrown=>exact ⟨_,a₁,w₁,hq,.pass (x:=.inLoop d) rfl (fun _ _=>.inl (by simp)) harr⟩
def CodeOK (P:Program) (E:Env) (code:AC) (tm:Tm) (M:Mem) (x:AX) (tm':Tm) (M':Mem):Prop:=
 Grow M M'∧∀ (ro:Option Nat) (ds:List Deferred) (n:Nat) (c:Code) (g:AC),compC P n c g=some code→∀ (γ:Cx) (w:World) (a:Act),Inv E.gx γ M w→TmR γ tm a.tmps→a.defers=ds→n≤a.tmps.size →
  wq ro P c (Post ds E.gx γ M w n x tm' M') a w
theorem code_skip {tm:Tm} {M:Mem}:CodeOK P E .skip tm M .normal tm M:=by
 refine ⟨Grow.refl _,fun ro ds n c g hc γ w a hI ht hd hn=>?_⟩
 unfold compC at hc
 split at hc <;> (try (simp only [Option.bind_eq_some_iff,Option.map_eq_some_iff,reduceCtorEq,and_false,exists_false] at hc; done)) <;> (try (cases hc; done))
 ·exact wpIn_skip ⟨rfl,γ,Nx.refl hI,ht,hd,hn⟩
 ·simp only [Option.bind_eq_some_iff] at hc
  obtain ⟨_,_,hc⟩:=hc
  split at hc <;> cases hc
theorem code_ret {tm:Tm} {M:Mem}:CodeOK P E .ret tm M .ret tm M:=by
 refine ⟨Grow.refl _,fun ro ds n c g hc γ w a hI ht hd hn=>?_⟩
 unfold compC at hc
 split at hc <;> (try (simp only [Option.bind_eq_some_iff,Option.map_eq_some_iff,reduceCtorEq,and_false,exists_false] at hc; done)) <;> (try (cases hc; done))
 ·simp only [Option.bind_eq_some_iff] at hc
  obtain ⟨_,_,hc⟩:=hc
  split at hc <;> cases hc
 ·exact wpIn_ret ⟨rfl,γ,Nx.refl hI,ht,hd,hn⟩
theorem code_exit {tm:Tm} {M:Mem} {id:Nat}:CodeOK P E (.exit id) tm M (.exit id) tm M:=by
 refine ⟨Grow.refl _,fun ro ds n c g hc γ w a hI ht hd hn=>?_⟩
 unfold compC at hc
 split at hc <;> (try (simp only [Option.bind_eq_some_iff,Option.map_eq_some_iff,reduceCtorEq,and_false,exists_false] at hc; done)) <;> (try (cases hc; done))
 ·simp only [Option.bind_eq_some_iff] at hc
  obtain ⟨_,_,hc⟩:=hc
  split at hc <;> cases hc
 ·cases hc
  exact wpIn_exit ⟨rfl,γ,Nx.refl hI,ht,hd,hn⟩
theorem TmR.keep {γ:Cx} {tm:Tm} {t:Array Value} (h:TmR γ tm t):∀ ks:List Nat,TmR γ (keepT tm ks) t
 | []=>fun i=>by simp only [keepT,lk]; exact .any _ _
 | k :: ks=>fun i=>by
  simp only [keepT,lk]
  by_cases hk:k=i
  ·subst hk; rw [beq_self]; exact h k
  ·rw [beq_ne hk]; exact TmR.keep h ks i
theorem TmR.keepO {γ:Cx} {tm:Tm} {t:Array Value} (h:TmR γ tm t) (ks:Option (List Nat)):TmR γ (match ks with | none=>tm | some ks=>keepT tm ks) t:=by
 cases ks with
 | none=>exact h
 | some ks=>exact h.keep ks
theorem comp_ops {n:Nat} {c:Code} {g:AC} {dr:Bool} {l':List AOper} {ks:Option (List Nat)} (hc:compC P n c g=some (.ops dr l' ks)):∃ id ops l,c=.region id ops dr∧compOps P n dr ops.toList l [] [] []=some l'∧l.length=ops.size:=by
 unfold compC at hc
 split at hc <;> (try (simp only [Option.bind_eq_some_iff,Option.map_eq_some_iff,reduceCtorEq,and_false,exists_false] at hc; done)) <;> (try (cases hc; done))
 simp only [Option.bind_eq_some_iff] at hc
 obtain ⟨l2,h1,hc⟩:=hc
 split at hc
 ·rename_i hl
  cases hc
  exact ⟨_,_,_,rfl,h1,hl⟩
 ·cases hc
theorem code_text {tm:Tm} {M:Mem} {l:List AOper} {ks:Option (List Nat)} {tm':Tm} {M':Mem} (h:Tr P E l tm M tm' M'):CodeOK P E (.ops false l ks) tm M .normal (match ks with | none=>tm' | some ks=>keepT tm' ks) M':=by
 refine ⟨h.grow,fun ro ds n c g hc γ w a hI ht hd hn=>?_⟩
 obtain ⟨id,ops,gl,rfl,h1,h2⟩:=comp_ops hc
 refine wpIn_region ?_
 rw [List.range_eq_range',← h2]
 exact tr_text (done:=[]) h1 h hI ht hd hn fun γ' a' w' hN ht' hd' hn'=>⟨rfl,γ',hN,ht'.keepO ks,hd',hn'⟩
theorem TrD.grow:∀ {l:List AOper} {tm:Tm} {M:Mem} {seen:List (Nat × List Nat × List Nat)} {tm':Tm} {M':Mem},TrD P E l tm M seen tm' M'→Grow M M'
 | [],_,_,_,_,_,.nil _ _ _=>Grow.refl _
 | _ :: _,_,_,_,_,_,.cons h _ _ hr=>h.grow.trans hr.grow
theorem ghosts {ops:Array Oper} {n:Nat} {tm0:Tm} {M0:Mem} {γ:Cx} {w:World} (hI:Inv E.gx γ M0 w):∀ {hs:List Ent} {tm:Tm} {M:Mem},Hist P E ops n tm0 M0 hs tm M→Nx E.gx γ M0 w γ (memD (fun _=>false) M0 hs) w∧tmD (fun _=>false) tm0 hs=tm0
 | [],_,_,.nil=>⟨Nx.refl hI,rfl⟩
 | k :: hs,_,_,.cons hp hok=>by
  obtain ⟨h1,h2⟩:=ghosts hI hp
  refine ⟨?_,by simp only [tmD,Bool.false_eq_true,if_false]; exact h2⟩
  simp only [memD,Bool.or_false]
  split
  ·rename_i hc
   simp only [Bool.and_eq_true] at hc
   obtain ⟨e,z,q1,q2,q3,q4,q5,q6⟩:=float_spec hok hc.2
   rw [mem_A hp fun p hp' _=>.inl ((hok.flt hc.2).2.2.2 p hp')] at h1
   rw [q4]
   exact h1.trans (Nx.ghost h1.inv _)
  ·exact h1
theorem code_draw (hm:P.follows .mixedOrders=true) {tm:Tm} {M:Mem} {l:List AOper} {ks:Option (List Nat)} {tm':Tm} {M':Mem} (h:TrD P E l tm M [] tm' M'):CodeOK P E (.ops true l ks) tm M .normal (match ks with | none=>tm' | some ks=>keepT tm' ks) M':=by
 refine ⟨h.grow,fun ro ds n c g hc γ w a hI ht hd hn=>?_⟩
 obtain ⟨id,ops,gl,rfl,h1,h2⟩:=comp_ops hc
 obtain ⟨hs,hh,hl⟩:=hist_of (ops:=ops) (hs:=[]) h1 h .nil rfl rfl (fun i D _ _ j hj=>by simp [maskAt] at hj) (fun p hp=>by cases hp)
 refine wpIn_region_any hm ?_
 have hDl:Dl (Array.replicate ops.size false)=fun _=>false:=by
  funext i
  simp only [Dl,Array.getD_eq_getD_getElem?,Array.getElem?_replicate]
  split <;> rfl
 have hN0:=Nx.drew hI
 obtain ⟨g1,g2⟩:=ghosts hN0.inv hh
 refine draw_any (ro:=ro) (γ0:=γ) (w0:=w) hh (hist_cover hh (by rw [hl,h2]; simp)) hI.nbM (fun γ' a' w' hN ht' hd' hn'=>⟨rfl,γ',hN,ht'.keepO ks,hd',hn'⟩) _ _ γ a _ (by simp) ?_ ?_ ?_ ?_ hd hn ?_
 ·rw [hDl]; intro i o _ hi; cases hi
 ·rw [← h2]
  refine Nat.le_trans (List.length_filter_le _ _) (by rw [hl]; simp)
 ·rw [hDl]; exact hN0.trans g1
 ·rw [hDl,g2]; exact ht
 ·intro k hk hf _
  obtain ⟨B,A,rfl⟩:=Hist.split hk
  exact hI.nb _ (hist_grow0 hh.at.2).1
theorem code_seq1 {a b:AC} {tm:Tm} {M:Mem} {tm1:Tm} {M1:Mem} {x:AX} {tm':Tm} {M':Mem} (h1:CodeOK P E a tm M .normal tm1 M1) (h2:CodeOK P E b tm1 M1 x tm' M'):CodeOK P E (.seq a b) tm M x tm' M':=by
 refine ⟨h1.1.trans h2.1,fun ro ds n c g hc γ w act hI ht hd hn=>?_⟩
 unfold compC at hc
 split at hc <;> (try (simp only [Option.bind_eq_some_iff,Option.map_eq_some_iff,reduceCtorEq,and_false,exists_false] at hc; done)) <;> (try (cases hc; done))
 ·simp only [Option.bind_eq_some_iff] at hc
  obtain ⟨_,_,hc⟩:=hc
  split at hc <;> cases hc
 ·simp only [Option.bind_eq_some_iff,Option.map_eq_some_iff] at hc
  obtain ⟨a',ha,b',hb,he⟩:=hc
  cases he
  refine wpIn_seq (wpIn_mono (wq_in (h1.2 ro ds n _ _ ha γ w act hI ht hd hn)) fun e a1 w1 hp=>?_)
  obtain ⟨rfl,γ1,hN,ht1,hd1,hn1⟩:=hp
  exact wpIn_mono (wq_in (h2.2 ro ds n _ _ hb γ1 w1 a1 hN.inv ht1 hd1 hn1)) fun e a2 w2 hp=>Post.trans hN hp
theorem code_seq2 {a b:AC} {tm:Tm} {M:Mem} {x:AX} {tm':Tm} {M':Mem} (h1:CodeOK P E a tm M x tm' M') (hx:x≠.normal):CodeOK P E (.seq a b) tm M x tm' M':=by
 refine ⟨h1.1,fun ro ds n c g hc γ w act hI ht hd hn=>?_⟩
 unfold compC at hc
 split at hc <;> (try (simp only [Option.bind_eq_some_iff,Option.map_eq_some_iff,reduceCtorEq,and_false,exists_false] at hc; done)) <;> (try (cases hc; done))
 ·simp only [Option.bind_eq_some_iff] at hc
  obtain ⟨_,_,hc⟩:=hc
  split at hc <;> cases hc
 ·simp only [Option.bind_eq_some_iff,Option.map_eq_some_iff] at hc
  obtain ⟨a',ha,b',hb,he⟩:=hc
  cases he
  refine wpIn_seq (wpIn_mono (wq_in (h1.2 ro ds n _ _ ha γ w act hI ht hd hn)) fun e a1 w1 hp=>?_)
  have he:=hp.1
  subst he
  cases x with
  | normal=>exact absurd rfl hx
  | ret=>exact hp
  | exit id=>exact hp
theorem code_cond {c:Opd} {a b:AC} {tm:Tm} {M:Mem} {t:Bool} {x:AX} {tm':Tm} {M':Mem} (hv:evx E tm c=some (.bool t)) (h1:CodeOK P E (if t then a else b) tm M x tm' M'):CodeOK P E (.cond c a b) tm M x tm' M':=by
 refine ⟨h1.1,fun ro ds n cc g hc γ w act hI ht hd hn=>?_⟩
 unfold compC at hc
 split at hc <;> (try (simp only [Option.bind_eq_some_iff,Option.map_eq_some_iff,reduceCtorEq,and_false,exists_false] at hc; done)) <;> (try (cases hc; done))
 ·simp only [Option.bind_eq_some_iff] at hc
  obtain ⟨_,_,hc⟩:=hc
  split at hc <;> cases hc
 ·simp only [Option.bind_eq_some_iff,Option.map_eq_some_iff] at hc
  obtain ⟨c',hc',a',ha,b',hb,he⟩:=hc
  cases he
  refine wpIn_cond (evx_sound hI ht hc' hv).bool_inv ?_
  cases t
  ·exact wq_in (h1.2 ro ds n _ _ hb γ w act hI ht hd hn)
  ·exact wq_in (h1.2 ro ds n _ _ ha γ w act hI ht hd hn)
theorem code_block {id:Nat} {c:AC} {tm:Tm} {M:Mem} {x y:AX} {tm':Tm} {M':Mem} (h1:CodeOK P E c tm M x tm' M') (hy:y=match x with | .exit j=>if j=id then .normal else .exit j | x=>x):CodeOK P E (.block id c) tm M y tm' M':=by
 refine ⟨h1.1,fun ro ds n cc g hc γ w act hI ht hd hn=>?_⟩
 unfold compC at hc
 split at hc <;> (try (simp only [Option.bind_eq_some_iff,Option.map_eq_some_iff,reduceCtorEq,and_false,exists_false] at hc; done)) <;> (try (cases hc; done))
 ·simp only [Option.bind_eq_some_iff] at hc
  obtain ⟨_,_,hc⟩:=hc
  split at hc <;> cases hc
 ·simp only [Option.map_eq_some_iff] at hc
  obtain ⟨c',hc',he⟩:=hc
  cases he
  refine wpIn_block (wpIn_mono (wq_in (h1.2 ro ds n _ _ hc' γ w act hI ht hd hn)) fun e a1 w1 hp=>?_)
  obtain ⟨rfl,hp⟩:=hp
  subst hy
  cases x with
  | normal=>exact ⟨rfl,hp⟩
  | ret=>exact ⟨rfl,hp⟩
  | exit j=>
   simp only [exOf,Exit.inBlock]
   split
   ·exact ⟨rfl,hp⟩
   ·exact ⟨rfl,hp⟩
theorem comp_loop {n:Nat} {c:Code} {g:AC} {d:AC} (hc:compC P n c g=some (.loop d)):∃ c' g',c=.loop c'∧compC P n c' g'=some d:=by
 unfold compC at hc
 split at hc <;> (try (simp only [Option.bind_eq_some_iff,Option.map_eq_some_iff,reduceCtorEq,and_false,exists_false] at hc; done)) <;> (try (cases hc; done))
 ·simp only [Option.bind_eq_some_iff] at hc
  obtain ⟨_,_,hc⟩:=hc
  split at hc <;> cases hc
 ·simp only [Option.map_eq_some_iff] at hc
  obtain ⟨c',hc',he⟩:=hc
  cases he
  exact ⟨_,_,rfl,hc'⟩
theorem code_loop1 {c:AC} {tm:Tm} {M:Mem} {tm1:Tm} {M1:Mem} {x:AX} {tm':Tm} {M':Mem} (h1:CodeOK P E c tm M .normal tm1 M1) (h2:CodeOK P E (.loop c) tm1 M1 x tm' M'):CodeOK P E (.loop c) tm M x tm' M':=by
 refine ⟨h1.1.trans h2.1,fun ro ds n cc g hc γ w act hI ht hd hn=>?_⟩
 obtain ⟨c',g',rfl,hc'⟩:=comp_loop hc
 refine LoopIn.of_wp (wpIn_mono (wq_in (h1.2 ro ds n _ _ hc' γ w act hI ht hd hn)) fun e a1 w1 hp=>?_)
 obtain ⟨rfl,γ1,hN,ht1,hd1,hn1⟩:=hp
 exact LoopIn.mono (h2.2 ro ds n _ _ hc γ1 w1 a1 hN.inv ht1 hd1 hn1) fun e a2 w2 hp=>Post.trans hN hp
theorem code_loop2 {c:AC} {tm:Tm} {M:Mem} {x:AX} {tm':Tm} {M':Mem} (h1:CodeOK P E c tm M x tm' M') (hx:x≠.normal):CodeOK P E (.loop c) tm M x tm' M':=by
 refine ⟨h1.1,fun ro ds n cc g hc γ w act hI ht hd hn=>?_⟩
 obtain ⟨c',g',rfl,hc'⟩:=comp_loop hc
 refine LoopIn.of_wp (wpIn_mono (wq_in (h1.2 ro ds n _ _ hc' γ w act hI ht hd hn)) fun e a1 w1 hp=>?_)
 have he:=hp.1
 subst he
 cases x with
 | normal=>exact absurd rfl hx
 | ret=>exact hp
 | exit id=>exact hp
end Go.Sx
namespace Go.Sx
variable {P:Program} {E:Env}
theorem argTm_lk:∀ (args:List AV) (k i:Nat),lk (argTm k args) i=if k≤i then (args[i - k]?).getD .any else .any
 | [],k,i=>by simp [argTm,lk]
 | v :: r,k,i=>by
  simp only [argTm,lk]
  by_cases h:k=i
  ·subst h; simp [beq_self]
  ·rw [beq_ne h]
   simp only [Bool.false_eq_true,if_false]
   rw [argTm_lk r (k + 1) i]
   by_cases hk:k≤i
   ·rw [if_pos hk,if_pos (by omega)]
    have:i - k=(i - (k + 1)) + 1:=by omega
    rw [this,List.getElem?_cons_succ]
   ·rw [if_neg hk,if_neg (by omega)]
theorem TmR.args {γ:Cx} {args:List AV} {vs:List Value} (h:VRs γ false args vs) (n:Nat):TmR γ (argTm 0 args) (vs.toArray ++ Array.replicate (n - vs.toArray.size) undef):=by
 intro i
 rw [argTm_lk]
 simp only [Nat.zero_le,if_true,Nat.sub_zero]
 cases hi:args[i]? with
 | none=>exact .any _ _
 | some u=>
  obtain ⟨v,hv,hr⟩:=h.get hi
  have hlt:i < vs.toArray.size:=by simpa using (List.getElem?_eq_some_iff.1 hv).1
  rw [Array.getD_eq_getD_getElem?,Array.getElem?_append_left hlt]
  simp only [List.getElem?_toArray,hv,Option.getD_some]
  exact hr
def resF (t:Array Value):ResultVar→Sem Value
 | .tmp t'=>pure (t.getD t' undef)
 | .cell a ty=>do loadVar ty (← asAddr (t.getD a undef))
theorem resAll_sound {γ:Cx} {M:Mem} {w:World} {tm:Tm} {t:Array Value} (hI:Inv E.gx γ M w) (ht:TmR γ tm t):∀ {rs:List ResultVar} {ars:List ARes} {vs:List AV},compR P rs=some ars→resAll tm M ars=some vs →
  ∃ us,(rs.mapM (resF t)).run P w=.ok us w∧VRs γ false vs us
 | [],ars,vs,hc,hv=>by
  cases hc; cases hv
  exact ⟨[],rfl,VRs.nil _ _⟩
 | .tmp i :: rs,ars,vs,hc,hv=>by
  simp only [compR,Option.map_eq_some_iff] at hc
  obtain ⟨ar,har,rfl⟩:=hc
  simp only [resAll,resOf,Option.bind_eq_some_iff,Option.map_eq_some_iff,Option.some.injEq] at hv
  obtain ⟨u,rfl,us,hus,rfl⟩:=hv
  obtain ⟨xs,h1,h2⟩:=resAll_sound hI ht har hus
  exact ⟨_ :: xs,by simp only [List.mapM_cons,resF,Sem.run_bind,Sem.run_pure,Result.andThen_ok,h1],VRs.cons (ht i) h2⟩
 | .cell i ty :: rs,ars,vs,hc,hv=>by
  simp only [compR,Option.bind_eq_some_iff,Option.map_eq_some_iff] at hc
  obtain ⟨g,hg,n,hn,ar,har,rfl⟩:=hc
  simp only [resAll,Option.bind_eq_some_iff,Option.map_eq_some_iff] at hv
  obtain ⟨u,hu,us,hus,rfl⟩:=hv
  obtain ⟨xs,h1,h2⟩:=resAll_sound hI ht har hus
  have hi:=ht i
  have key:∃ v,(resF t (.cell i ty)).run P w=.ok v w∧VR γ false u v:=by
   cases g with
   | true=>
    simp only [if_true,resOf] at hu
    split at hu
    ·rename_i b off hl
     split at hu
     ·split at hu
      ·rename_i l hb hle
       cases hu
       rw [hl] at hi
       obtain ⟨gg,e,hρ⟩:=hi.ptr_inv
       obtain ⟨ws,hws,hcell⟩:=cells_box hI (off:=off) hb hρ
       have hle:=Nat.le_of_ble_eq_true hle
       have hlen:(ws.take n).length=n:=by
        have:=hws.1
        simp only [List.length_drop] at this
        rw [List.length_take]; omega
       have hload:(loadCells ⟨gg,off,none⟩ n).run P w=.ok (ws.take n).toArray w:=by
        have:=run_loadCells_list (P:=P) w ⟨gg,off,none⟩ (ws.take n) (fun j v hj=>by
         rw [Addr.add_lit]
         rw [List.getElem?_take] at hj
         split at hj
         ·exact hcell j v hj
         ·cases hj)
        rwa [hlen] at this
       exact ⟨.agg (ws.take n).toArray,by simp [resF,-Array.getD_eq_getD_getElem?,e,asAddr,loadVar,run_isAgg' hg,run_sizeOf' hn,hload],VR.mkagg (by simpa using hws.take n)⟩
      ·cases hu
     ·cases hu
    ·cases hu
   | false=>
    simp only [Bool.false_eq_true,if_false,resOf] at hu
    split at hu
    ·rename_i b off hl
     split at hu
     ·rename_i l hb
      rw [hl] at hi
      obtain ⟨gg,e,hρ⟩:=hi.ptr_inv
      obtain ⟨ws,hws,hcell⟩:=cells_box hI (off:=off) hb hρ
      obtain ⟨v,hv0,hrv⟩:=hws.get (i:=0) (a:=u) (by simpa [List.getElem?_drop] using hu)
      have hc0:=hcell 0 v hv0
      simp only [Nat.add_zero] at hc0
      exact ⟨v,by simp [resF,-Array.getD_eq_getD_getElem?,e,asAddr,loadVar,run_isAgg' hg,run_load,hc0],hrv⟩
     ·cases hu
    ·cases hu
  obtain ⟨v,hk1,hk2⟩:=key
  refine ⟨v :: xs,?_,VRs.cons hk2 h2⟩
  simp only [List.mapM_cons,Sem.run_bind,hk1,Result.andThen_ok,h1,Sem.run_pure]
theorem body_ok {id:Nat} {args:List AV} {M:Mem} {fn:AFun} {real:Func} {g:AFun} (hf:P.funcs[id]?=some real) (hc:compF P real g=some fn) {x:AX} {tm':Tm} {M':Mem} {v:AV} (hx:x=.normal∨x=.ret)
  (h:CodeOK P E fn.code (argTm 0 args) M x tm' M') (hv:result tm' M' fn.res=some v):CallOK P E id args M v M':=by
 refine ⟨h.1,fun γ w vs hI hvs=>?_⟩
 simp only [compF] at hc
 split at hc
 ·cases hc
 ·rename_i hname
  simp only [Option.bind_eq_some_iff,Option.map_eq_some_iff] at hc
  obtain ⟨body,hb,code,hcode,rs,hrs,rfl⟩:=hc
  have hcall:(callFunc id vs.toArray).run P w=.ok (.enter id vs.toArray) w:=by
   simp [callFunc,program,Sem.run,hf,hname,hb]
  unfold Upon
  rw [hcall]
  refine calls_of_wp hf hb (wp_mono (wq_wp (h.2 none [] real.ntmps body g.code hcode γ w _ hI (TmR.args hvs real.ntmps) rfl (by simp; omega))) fun e a' w' hp=>?_)
  obtain ⟨rfl,γ',hN,ht,hd,hn⟩:=hp
  simp only [result,Option.map_eq_some_iff] at hv
  obtain ⟨us,hus,hv⟩:=hv
  obtain ⟨xs,h1,h2⟩:=resAll_sound hN.inv ht hrs hus
  have hres:∃ r,(results real a'.tmps).run P w'=.ok r w'∧VR γ' false v r:=by
   have e:results real a'.tmps=(do
     let vs ← (List.toArray <$> real.results.toList.mapM (resF a'.tmps))
     pure (if h:vs.size=1 then vs[0] else .tuple vs)):=by
    unfold results
    rw [Array.mapM_eq_mapM_toList]
    rfl
   have hm:(results real a'.tmps).run P w'=.ok (if h:xs.toArray.size=1 then xs.toArray[0] else .tuple xs.toArray) w':=by
    rw [e]
    simp [h1]
   refine ⟨_,hm,?_⟩
   split at hv
   ·cases hv
    obtain ⟨y,r,rfl,hy,hr⟩:=h2.cons_inv
    rw [hr.nil_inv]
    simpa using hy
   ·rename_i hne
    cases hv
    have:¬ xs.toArray.size=1:=fun h=>by
     have hl:=h2.1
     rw [List.size_toArray] at h
     rw [h] at hl
     match us,hl,hne with
     | [x],_,hne=>exact hne x rfl
    rw [dif_neg this]
    exact VR.mktup (by simpa using h2)
  obtain ⟨r,hr1,hr2⟩:=hres
  rcases hx with rfl | rfl
  ·exact ⟨hd,r,hr1,γ',hr2,hN⟩
  ·exact ⟨hd,r,hr1,γ',hr2,hN⟩
end Go.Sx
namespace Go.Sx
variable {P:Program} {E:Env}
theorem VR.pureI {γ γ':Cx} {q:Bool} {u:AV} {v:Value} (hI:∀ g o v,γ.I g o=some v→γ'.I g o=some v) (h:VR γ q u v):q=true→VR γ' q u v:=by
 induction h with
 | bool p b=>exact fun _=>.bool p b
 | int p k n=>exact fun _=>.int p k n
 | str p l s h=>exact fun _=>.str p l s h
 | nilp p=>exact fun _=>.nilp p
 | ptr b off g h=>exact fun h=>by cases h
 | cp p cells vs g o hl h hi ih=>exact fun _=>.cp p cells vs g o hl (fun i a v ha hv=>ih i a v ha hv rfl) fun i v hv=>hI _ _ _ (hi i v hv)
 | nils p=>exact fun _=>.nils p
 | sl p t e n cells vs g o c hl h hi hn h1 h2 ih=>
  exact fun hq=>.sl p t e n cells vs g o c hl (fun i a v ha hv=>ih i a v ha hv rfl) (fun i v hv=>hI _ _ _ (hi i v hv)) hn h1 fun k hk=>by
   obtain ⟨hp,_⟩:=h2 k hk
   rw [hq] at hp
   cases hp
 | ms b off n c c' g h hn hc hs=>exact fun h=>by cases h
 | fn p f a b va vb hla hlb ha hb iha ihb=>exact fun hq=>.fn p f a b va vb hla hlb (fun i x v hx hv=>iha i x v hx hv hq) fun i x v hx hv=>ihb i x v hx hv hq
 | nilf p=>exact fun _=>.nilf p
 | iface p t v w h ih=>exact fun hq=>.iface p t v w (ih hq)
 | nili p=>exact fun _=>.nili p
 | agg p cs a hl h ih=>exact fun hq=>.agg p cs a hl fun i x v hx hv=>ih i x v hx hv hq
 | tup p cs a hl h ih=>exact fun hq=>.tup p cs a hl fun i x v hx hv=>ih i x v hx hv hq
 | any p v=>exact fun _=>.any p v
 | yld=>exact fun h=>by cases h
theorem purC_sound {γ:Cx} {p q:Bool} {u u':AV} {v:Value} (h:VR γ p u v) (hp:purC u=some u'):VR γ q u' v:=by
 cases u with
 | fn f a b=>
  simp only [purC,Option.bind_eq_some_iff,Option.map_eq_some_iff] at hp
  obtain ⟨a',ha,b',hb,rfl⟩:=hp
  cases h with
  | fn _ _ _ _ va vb hla hlb h1 h2=>
   have r1:=purL0_sound (q:=q) ⟨hla,h1⟩ ha
   have r2:=purL0_sound (q:=q) ⟨hlb,h2⟩ hb
   exact .fn q f a' b' va vb r1.1 r2.1 r1.2 r2.2
 | _=>exact purC0_sound h hp
def FrzAt (γ:Cx) (M:Mem) (w:World) (γ0:Cx):Prop:=
 (∀ g o v,γ.I g o=some v→γ0.I g o=some v)∧∀ b x g,M.get b=some x→γ.ρ b=some g→∀ o v,w.cell? ⟨g,o,none⟩=some v→γ0.I g o=some v
theorem frzC_sound {γ γ0:Cx} {M:Mem} {w:World} (hI:Inv E.gx γ M w) (h0:FrzAt γ M w γ0) {u u':AV} {v:Value} (h:VR γ false u v) (hf:frzC M u=some u'):VR γ0 true u' v:=by
 cases u with
 | ms b off n c=>
  simp only [frzC] at hf
  split at hf
  ·rename_i l hb
   obtain ⟨g,c',rfl,hρ,hn,hc,hs⟩:=h.ms_inv
   obtain ⟨_,_,arr,el,fz,hh,hu,hla,hv,ho,_⟩:=hI.box b _ g hb hρ
   split at hf
   ·rename_i hc0
    cases hf
    have:=Nat.eq_of_beq_eq_true hc0
    have hn0:n=0:=by omega
    subst hn0
    exact .sl true 0 0 0 [] [] g off c' rfl (fun i x v h=>by simp at h) (fun i v h=>by simp at h) (Nat.zero_le _) (by omega) (by omega)
   ·split at hf
    ·rename_i hle
     simp only [Option.map_eq_some_iff] at hf
     obtain ⟨cs,hp,rfl⟩:=hf
     generalize n * ((l.length - off) / c)=m at hp hle
     have hv1:VRs γ true cs (((arr.toList.take l.length).drop off).take m):=purL0_sound ((hv.drop off).take m) hp
     refine .sl true 0 0 n cs _ g off c' hv1.1 (fun i x v hx hv=>(hv1.2 i x v hx hv).pureI h0.1 rfl) (fun i x hx=>?_) (by omega) (by omega) (by omega)
     rw [List.getElem?_take] at hx
     split at hx
     ·rw [List.getElem?_drop,List.getElem?_take] at hx
      split at hx
      ·exact h0.2 b _ g hb hρ _ _ (by rw [cell_at hh,← Array.getElem?_toList]; exact hx)
      ·cases hx
     ·cases hx
    ·cases hf
  ·cases hf
 | _=>exact (purC_sound (q:=true) h hf).pureI h0.1 rfl
theorem frzL_sound {γ γ0:Cx} {M:Mem} {w:World} (hI:Inv E.gx γ M w) (h0:FrzAt γ M w γ0):∀ {us us':List AV} {vs:List Value},VRs γ false us vs→frzL M us=some us'→VRs γ0 true us' vs
 | [],_,vs,h,hf=>by cases hf; rw [h.nil_inv]; exact VRs.nil _ _
 | u :: us,us',vs,h,hf=>by
  obtain ⟨v,r,rfl,h1,h2⟩:=h.cons_inv
  simp only [frzL,Option.bind_eq_some_iff,Option.map_eq_some_iff] at hf
  obtain ⟨x,hx,xs,hxs,rfl⟩:=hf
  exact VRs.cons (frzC_sound hI h0 h1 hx) (frzL_sound hI h0 h2 hxs)
theorem frzV_sound {γ γ0:Cx} {M:Mem} {w:World} (hI:Inv E.gx γ M w) (h0:FrzAt γ M w γ0) {u u':AV} {v:Value} (h:VR γ false u v) (hf:frzV M u=some u'):VR γ0 true u' v:=by
 cases u with
 | agg cs=>
  simp only [frzV,Option.map_eq_some_iff] at hf
  obtain ⟨cs',hcs,rfl⟩:=hf
  obtain ⟨a,rfl,ha⟩:=h.agg_inv
  exact VR.mkagg (frzL_sound hI h0 ha hcs)
 | _=>exact frzC_sound hI h0 h hf
theorem frzVs_sound {γ γ0:Cx} {M:Mem} {w:World} (hI:Inv E.gx γ M w) (h0:FrzAt γ M w γ0):∀ {us us':List AV} {vs:List Value},VRs γ false us vs→frzVs M us=some us'→VRs γ0 true us' vs
 | [],_,vs,h,hf=>by cases hf; rw [h.nil_inv]; exact VRs.nil _ _
 | u :: us,us',vs,h,hf=>by
  obtain ⟨v,r,rfl,h1,h2⟩:=h.cons_inv
  simp only [frzVs,Option.bind_eq_some_iff,Option.map_eq_some_iff] at hf
  obtain ⟨x,hx,xs,hxs,rfl⟩:=hf
  exact VRs.cons (frzV_sound hI h0 h1 hx) (frzVs_sound hI h0 h2 hxs)
theorem frz_sound {γ γ0:Cx} {M:Mem} {w:World} (hI:Inv E.gx γ M w) (h0:FrzAt γ M w γ0) {u u':AV} {v:Value} (h:VR γ false u v) (hf:frz M u=some u'):VR γ0 true u' v:=by
 cases u with
 | tup cs=>
  simp only [frz,Option.map_eq_some_iff] at hf
  obtain ⟨cs',hcs,rfl⟩:=hf
  obtain ⟨a,rfl,ha⟩:=h.tup_inv
  exact VR.mktup (frzVs_sound hI h0 ha hcs)
 | _=>exact frzV_sound hI h0 h hf
theorem plainC_any {γ γ':Cx} {p q:Bool} {u:AV} {v:Value} (h:VR γ p u v) (hp:plainC u=true):VR γ' q u v:=by
 cases h <;> simp only [plainC,Bool.false_eq_true] at hp
 ·exact .bool q _
 ·exact .int q _ _
 ·exact .str q _ _ (by assumption)
 ·exact .nilp q
 ·exact .nils q
 ·exact .nilf q
 ·exact .nili q
theorem plainL_any {γ γ':Cx} {p q:Bool}:∀ {us:List AV} {vs:List Value},VRs γ p us vs→us.all plainC=true→VRs γ' q us vs
 | [],vs,h,_=>by rw [h.nil_inv]; exact VRs.nil _ _
 | u :: us,vs,h,hp=>by
  obtain ⟨v,r,rfl,h1,h2⟩:=h.cons_inv
  simp only [List.all_cons,Bool.and_eq_true] at hp
  exact VRs.cons (plainC_any h1 hp.1) (plainL_any h2 hp.2)
theorem plainV_any {γ γ':Cx} {p q:Bool} {u:AV} {v:Value} (h:VR γ p u v) (hp:plainV u=true):VR γ' q u v:=by
 cases u with
 | agg cs=>
  obtain ⟨a,rfl,ha⟩:=h.agg_inv
  exact VR.mkagg (plainL_any ha hp)
 | _=>exact plainC_any h hp
theorem plainVs_any {γ γ':Cx} {p q:Bool}:∀ {us:List AV} {vs:List Value},VRs γ p us vs→us.all plainV=true→VRs γ' q us vs
 | [],vs,h,_=>by rw [h.nil_inv]; exact VRs.nil _ _
 | u :: us,vs,h,hp=>by
  obtain ⟨v,r,rfl,h1,h2⟩:=h.cons_inv
  simp only [List.all_cons,Bool.and_eq_true] at hp
  exact VRs.cons (plainV_any h1 hp.1) (plainVs_any h2 hp.2)
theorem plain_any {γ γ':Cx} {p q:Bool} {u:AV} {v:Value} (h:VR γ p u v) (hp:plain u=true):VR γ' q u v:=by
 cases u with
 | tup cs=>
  obtain ⟨a,rfl,ha⟩:=h.tup_inv
  exact VR.mktup (plainVs_any ha hp)
 | _=>exact plainV_any h hp
end Go.Sx
namespace Go.Sx
variable {P:Program} {E:Env}
theorem frzC_noms {γ:Cx} {M:Mem} {u u':AV} {v:Value} (h:VR γ false u v) (hn:∀ b off n c,u≠.ms b off n c) (hf:frzC M u=some u'):VR γ true u' v:=by
 cases u with
 | ms b off n c=>exact absurd rfl (hn b off n c)
 | _=>exact purC_sound (q:=true) h hf
theorem frzL_noms {γ:Cx} {M:Mem}:∀ {us us':List AV} {vs:List Value},VRs γ false us vs→hasMs.hasMs1 us=false→frzL M us=some us'→VRs γ true us' vs
 | [],_,vs,h,_,hf=>by cases hf; rw [h.nil_inv]; exact VRs.nil _ _
 | u :: us,us',vs,h,hm,hf=>by
  obtain ⟨v,r,rfl,h1,h2⟩:=h.cons_inv
  simp only [frzL,Option.bind_eq_some_iff,Option.map_eq_some_iff] at hf
  obtain ⟨x,hx,xs,hxs,rfl⟩:=hf
  have hm1:(∀ b off n c,u≠.ms b off n c)∧hasMs.hasMs1 us=false:=by
   cases u <;> simp only [hasMs.hasMs1,Bool.true_eq_false] at hm <;> exact ⟨fun _ _ _ _ h=>(by cases h),hm⟩
  exact VRs.cons (frzC_noms h1 hm1.1 hx) (frzL_noms h2 hm1.2 hxs)
theorem frzVs_noms {γ:Cx} {M:Mem}:∀ {us us':List AV} {vs:List Value},VRs γ false us vs→hasMs us=false→frzVs M us=some us'→VRs γ true us' vs
 | [],_,vs,h,_,hf=>by cases hf; rw [h.nil_inv]; exact VRs.nil _ _
 | u :: us,us',vs,h,hm,hf=>by
  obtain ⟨v,r,rfl,h1,h2⟩:=h.cons_inv
  simp only [frzVs,Option.bind_eq_some_iff,Option.map_eq_some_iff] at hf
  obtain ⟨x,hx,xs,hxs,rfl⟩:=hf
  have key:VR γ true x v∧hasMs us=false:=by
   cases u with
   | agg cs=>
    simp only [hasMs,Bool.or_eq_false_iff] at hm
    simp only [frzV,Option.map_eq_some_iff] at hx
    obtain ⟨cs',hcs,rfl⟩:=hx
    obtain ⟨a,rfl,ha⟩:=h1.agg_inv
    exact ⟨VR.mkagg (frzL_noms ha hm.1 hcs),hm.2⟩
   | ms b off n c=>simp only [hasMs,Bool.true_eq_false] at hm
   | _=>exact ⟨frzC_noms (M:=M) h1 (fun _ _ _ _ h=>by cases h) hx,hm⟩
  exact VRs.cons key.1 (frzVs_noms h2 key.2 hxs)
def Cx.withI (γ:Cx) (I:Nat→Nat→Option Value):Cx:={ γ with I:=I }
theorem Nx.foreign {γ:Cx} {M:Mem} {w w':World} (h:Inv E.gx γ M w) (I:Nat→Nat→Option Value) (hold:∀ g,g < w.heap.size→w'.heap[g]?=w.heap[g]?) (hsz:w.heap.size≤w'.heap.size)
  (hI:∀ g o,g < w.heap.size→I g o=γ.I g o) (himm:∀ g o v,I g o=some v→w'.cell? ⟨g,o,none⟩=some v) (h1:w'.os=w.os) (h2:w'.tape=w.tape) (h3:w'.output=w.output):Nx E.gx γ M w (γ.withI I) M w':=by
 have hle:Le γ (γ.withI I):=⟨rfl,fun _ _ h=>h,fun _ x h=>⟨x,h,.inl rfl⟩,fun g o v hv=>by
  have:=h.lt hv
  show I g o=some v
  rw [hI g o this]; exact hv,fun _ _ _=>rfl,rfl⟩
 refine ⟨hle,⟨Nat.le_trans h.base hsz,himm,fun b x g hb hg=>?_,h.inj,fun k L z x hk hx=>?_,h.tokb,h.tokt,h.nb,h.nbM,h.nt,h.ntM,fun i cells hc=>(h.glo i cells hc).mono hle,h.yok_keep rfl fun g hg _=>hold g hg⟩,h1,h2,h3,hsz,fun g hg _=>hold g hg,fun g hg hf=>hf,fun g o hg _=>hI g o hg,fun _ _ h=>h,Nat.le_refl _,Nat.le_refl _⟩
 ·have hx:=h.box b x g hb hg
  exact hx.keep hg hle (fun o=>by show I g o=none; rw [hI g o hx.lt]; exact hx.noI o) (hold g hx.lt)
 ·obtain ⟨ha,hb,hc⟩:=h.tok k L z x hk hx
  exact ⟨ha,hb,hc.keep hle (fun o ho=>by show I x.g o=none; rw [hI x.g o hc.lt]; exact hc.2.1 o ho) (hold x.g hc.lt)⟩
theorem own_ok {id:Nat} {ad:Bool} {args args':List AV} {M M1 M':Mem} {v v':AV} (hf:frzVs M args=some args') (hb:CallOK P E id args' .zero v M1) (ha:adopt ad M1 M v=some (v',M')) (hp:(hasMs args && !(plain v'))=false):CallOK P E id args M v' M':=by
 have hM':Grow M M':=by
  unfold adopt at ha
  split at ha
  ·split at ha
   ·split at ha
    ·split at ha <;> cases ha
     ·exact Grow.tok _ _ _
     ·exact Grow.refl _
    ·cases ha; exact Grow.refl _
   ·cases ha; exact Grow.refl _
  ·simp only [Option.map_eq_some_iff] at ha
   obtain ⟨_,_,he⟩:=ha
   cases he
   exact Grow.refl _
 refine ⟨hM',fun γ w vs hI hvs=>?_⟩
 -- the memory of its own
 let I0:Nat→Nat→Option Value:=if hasMs args then fun g o=>w.cell? ⟨g,o,none⟩ else γ.I
 have hI0:∀ g o v,γ.I g o=some v→I0 g o=some v:=fun g o v h=>by
  simp only [I0]
  split
  ·exact hI.imm g o v h
  ·exact h
 have hI0c:∀ g o v,I0 g o=some v→w.cell? ⟨g,o,none⟩=some v:=fun g o v h=>by
  simp only [I0] at h
  split at h
  ·exact h
  ·exact hI.imm g o v h
 let γ0:Cx:=⟨w.heap.size,fun _=>none,fun _=>none,I0,fun _=>none,none⟩
 have hInv0:Inv E.gx γ0 .zero w:=⟨Nat.le_refl _,hI0c,fun b x g h=>(by cases h),fun b b' x x' g h=>(by cases h),fun k L z x h=>(by cases h),fun k L z x b y g h=>(by cases h),fun k L z x k' L' z' x' h=>(by cases h),
  fun _ _=>rfl,fun b x h=>(by cases h),fun _ _=>rfl,fun k x h=>(by cases h),fun i cells hc=>(hI.glo i cells hc).pureI hI0 rfl,fun y h=>(by cases h)⟩
 have hargs:VRs γ0 true args' vs:=by
  cases hm:hasMs args with
  | true=>
   refine frzVs_sound hI ⟨hI0,fun b x g _ _ o v hc=>?_⟩ hvs hf
   show I0 g o=some v
   simp only [I0,hm,if_true]
   exact hc
  | false=>
   have:=frzVs_noms hvs hm hf
   exact ⟨this.1,fun i a v h1 h2=>(this.2 i a v h1 h2).pureI hI0 rfl⟩
 refine Upon.mono (hb.2 γ0 w vs hInv0 hargs.of_pure) fun r w1 hr=>?_
 obtain ⟨γ1,hv,hN⟩:=hr
 have hnf:∀ g,¬ Foot γ0 .zero g:=fun g hf=>by
  rcases hf with ⟨b,x,h,_⟩ | ⟨k,y,x,h,_⟩
  ·cases h
  ·cases h
 have hold:∀ g,g < w.heap.size→w1.heap[g]?=w.heap[g]?:=fun g hg=>hN.keep g hg (hnf g)
 have hfr:∀ g o,g < w.heap.size→γ1.I g o=I0 g o:=fun g o hg=>hN.fresh g o hg (hnf g)
 have hB:γ1.B=w.heap.size:=hN.le.B
 -- all by value
 have back:∀ {v2:AV} {γ2:Cx},VR γ2 true v2 r→(hasMs args && !(plain v2))=false→(∀ g o v,γ2.I g o=some v→if g < w.heap.size then I0 g o=some v else w1.cell? ⟨g,o,none⟩=some v) →
   ∃ γ',VR γ' false v2 r∧Nx E.gx γ M w γ' M w1:=fun {v2 γ2} h2 hp2 hI2=>by
  cases hm:hasMs args with
  | true=>
   rw [hm] at hp2
   have hpl:plain v2=true:=by simpa using hp2
   exact ⟨γ.withI γ.I,plain_any h2 hpl,Nx.foreign hI γ.I hold hN.size (fun _ _ _=>rfl) (fun g o v hv=>by rw [World.cell?_of_block (w:=w) (hold g (hI.lt hv))]; exact hI.imm g o v hv) hN.os hN.tape hN.output⟩
  | false=>
   have hIe:I0=γ.I:=by simp only [I0,hm]; rfl
   refine ⟨γ.withI fun g o=>if g < w.heap.size then γ.I g o else w1.cell? ⟨g,o,none⟩,(h2.pureI (fun g o v hv=>?_) rfl).of_pure,Nx.foreign hI _ hold hN.size (fun g o hg=>by rw [if_pos hg]) (fun g o v hv=>?_) hN.os hN.tape hN.output⟩
   ·have:=hI2 g o v hv
    show (if g < w.heap.size then γ.I g o else w1.cell? ⟨g,o,none⟩)=some v
    split
    ·rename_i hg; rw [if_pos hg,hIe] at this; exact this
    ·rename_i hg; rw [if_neg hg] at this; exact this
   ·split at hv
    ·rw [World.cell?_of_block (w:=w) (hold g (hI.lt hv))]; exact hI.imm g o v hv
    ·exact hv
 have hI1:∀ g o v,γ1.I g o=some v→if g < w.heap.size then I0 g o=some v else w1.cell? ⟨g,o,none⟩=some v:=fun g o v hv=>by
  split
  ·rename_i hg; rw [← hfr g o hg]; exact hv
  ·exact hN.inv.imm g o v hv
 unfold adopt at ha
 split at ha
 ·rename_i k e n cs
  obtain ⟨g,q,c,us,rfl,hus,hi,hnc,_,hk⟩:=hv.sl_inv
  have plain0:∀ (u:AV),(∃ M2,(u,M2)=(v',M'))→True:=fun _ _=>trivial
  have byval:VR γ1 true (.sl 0 0 n cs) (.slice (some ⟨g,q,none⟩) n c):=.sl true 0 0 n cs us g q c hus.1 hus.2 hi hnc (by omega) (by omega)
  split at ha
  ·split at ha
   ·rename_i n' z hlk
    split at ha
    ·rename_i hne
     have hne:=Nat.eq_of_beq_eq_true hne
     subst hne
     cases ha
     have hm:hasMs args=false:=by
      cases hm:hasMs args with
      | false=>rfl
      | true=>rw [hm] at hp; simp [plain,plainV,plainC] at hp
     have hIe:I0=γ.I:=by simp only [I0,hm]; rfl
     obtain ⟨_,x,hx,hxe,hxx⟩:=hk k rfl
     obtain ⟨hL,hz,hT⟩:=hN.inv.tok k _ _ x hlk hx
     obtain ⟨y0,yor⟩:=hxx hL.symm
     obtain ⟨t1,t2,t3⟩:=hT
     rw [hB] at t1
     let x':Tk:=⟨x.g,x.e,n,z,x.S⟩
     let γ':Cx:={ γ with τ:=fun j=>if j=M.nt then some x' else γ.τ j,I:=γ1.I }
     have hN':Nx E.gx γ M w γ' (M.tok n z) w1:=by
      refine Nx.token hI M.nt x' (M.tok n z) γ' w1 rfl rfl rfl rfl rfl (fun y hy=>by rw [hI.nt M.nt (Nat.le_refl _)] at hy; cases hy) rfl rfl (Nat.le_succ _) (Nat.lt_succ_self _) (fun j y hy=>?_) (fun g o v hv=>?_) (fun g o hg _=>?_) hN.inv.imm
       ⟨Nat.le_trans hI.base t1,t2,t3⟩ (.inl t1) (fun g hg _=>hold g hg) hN.size hN.os hN.tape hN.output
      ·rw [lookT_tok] at hy
       split at hy
       ·rename_i e; cases hy; exact .inl ⟨e.symm,rfl⟩
       ·rename_i e; exact .inr ⟨fun q=>e q.symm,hy⟩
      ·show γ1.I g o=some v
       rw [hfr g o (hI.lt hv),hIe]; exact hv
      ·show γ1.I g o=γ.I g o
       rw [hfr g o hg,hIe]
     refine ⟨γ',?_,hN'⟩
     have hus':VRs γ' true cs us:=⟨hus.1,fun i a v h1 h2=>VR.pureI (γ:=γ1) (γ':=γ') (fun g o v h=>h) (hus.2 i a v h1 h2) rfl⟩
     exact .sl false (M.nt + 2) n n cs us g q c hus'.1 hus'.2 hi hnc (by omega) fun k' hk'=>⟨rfl,x',by
      have:k'=M.nt:=by omega
      simp [γ',this],Nat.le_refl _,fun _=>⟨by show cs.length=n * z; rw [← hz]; exact y0,by
       show c=n∨(g=x.g∧q + cs.length=x.e∧q + c * z≤x.S)
       rw [← hz]; exact yor⟩⟩
    ·cases ha; exact back byval hp hI1
   ·cases ha; exact back byval hp hI1
  ·cases ha; exact back byval hp hI1
 ·simp only [Option.map_eq_some_iff] at ha
  obtain ⟨v2,hv2,he⟩:=ha
  cases he
  refine back (γ2:=γ1.withI fun g o=>if g < w.heap.size then I0 g o else w1.cell? ⟨g,o,none⟩) (frz_sound hN.inv ⟨fun g o v h=>?_,fun b x g hbx hρ o v hc=>?_⟩ hv hv2) hp fun g o v h=>?_
  ·have:=hI1 g o v h
   show (if g < w.heap.size then I0 g o else w1.cell? ⟨g,o,none⟩)=some v
   split
   ·rename_i hg; rw [if_pos hg] at this; exact this
   ·rename_i hg; rw [if_neg hg] at this; exact this
  ·have hbase:=(hN.inv.box b x g hbx hρ).base
   rw [hB] at hbase
   show (if g < w.heap.size then I0 g o else w1.cell? ⟨g,o,none⟩)=some v
   rw [if_neg (by omega)]
   exact hc
  ·have h:(if g < w.heap.size then I0 g o else w1.cell? ⟨g,o,none⟩)=some v:=h
   split
   ·rename_i hg; rw [if_pos hg] at h; exact h
   ·rename_i hg; rw [if_neg hg] at h; exact h
end Go.Sx
