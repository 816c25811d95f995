/- A part of the proof of TopSoundsDescribed (texts Ym Yn): an executor of the program's code, proved sound, and its runs. No condition. -/
import Derived.Test.YtdflipbphcmpoaaGreatDoorP11
set_option linter.unusedSimpArgs false
set_option linter.unusedVariables false
set_option maxRecDepth 100000
namespace Go.Sx
noncomputable section
def lkK (tm:Tm) (i:Nat):AV:=List.rec (motive:=fun _=>AV) .any (fun p _ ih=>Bool.rec (motive:=fun _=>AV) ih p.2 (Nat.beq p.1 i)) tm
theorem lkK_eq (tm:Tm) (i:Nat):lkK tm i=lk tm i:=by
 induction tm with
 | nil=>rfl
 | cons p r ih=>
  obtain ⟨j,v⟩:=p
  show Bool.rec (motive:=fun _=>AV) (lkK r i) v (Nat.beq j i)=lk ((j,v) :: r) i
  rw [ih]
  simp only [lk]
  cases Nat.beq j i <;> rfl
def keepK (tm:Tm) (ks:List Nat):Tm:=List.rec (motive:=fun _=>Tm) [] (fun i _ ih=>(i,lkK tm i) :: ih) ks
theorem keepK_eq (tm:Tm) (ks:List Nat):keepK tm ks=keepT tm ks:=by
 induction ks with
 | nil=>rfl
 | cons i r ih=>show (i,lkK tm i) :: keepK tm r=_; rw [ih,lkK_eq]; rfl
def cpO:Option (List AV)→Option AV:=Option.rec (motive:=fun _=>Option AV) none fun c=>some (.cp c)
def evxK (x:Opd):Env→Tm→Option AV:=Opd.rec (motive:=fun _=>Env→Tm→Option AV) (fun i _ tm=>some (lkK tm i)) (fun v _ _=>some v) (fun i E _=>cpO (E.glo i)) x
theorem evxK_eq (x:Opd) (E:Env) (tm:Tm):evxK x E tm=evx E tm x:=by
 cases x with
 | t i=>show some (lkK tm i)=_; rw [lkK_eq]; rfl
 | c v=>rfl
 | g i=>show cpO (E.glo i)=(E.glo i).map .cp; cases E.glo i <;> rfl
def consO (v:Option AV) (r:Option (List AV)):Option (List AV):=Option.rec (motive:=fun _=>Option (List AV)) none (fun v=>Option.rec (motive:=fun _=>Option (List AV)) none (fun r=>some (v :: r)) r) v
def evxsK (E:Env) (tm:Tm) (l:List Opd):Option (List AV):=List.rec (motive:=fun _=>Option (List AV)) (some []) (fun x _ ih=>consO (evxK x E tm) ih) l
theorem evxsK_eq (E:Env) (tm:Tm) (l:List Opd):evxsK E tm l=evxs E tm l:=by
 induction l with
 | nil=>rfl
 | cons x r ih=>
  show consO (evxK x E tm) (evxsK E tm r)=_
  rw [ih,evxK_eq]
  simp only [evxs]
  cases evx E tm x with
  | none=>rfl
  | some v=>cases evxs E tm r <;> rfl
def o1K (f:AV→Option Out) (a:Option AV):Option Out:=Option.rec (motive:=fun _=>Option Out) none f a
def o2K (f:AV→AV→Option Out) (a b:Option AV):Option Out:=Option.rec (motive:=fun _=>Option Out) none (fun a=>Option.rec (motive:=fun _=>Option Out) none (f a) b) a
theorem o1K_eq (f:AV→Option Out) (a:Option AV):o1K f a=o1 f a:=by cases a <;> rfl
theorem o2K_eq (f:AV→AV→Option Out) (a b:Option AV):o2K f a b=o2 f a b:=by cases a <;> cases b <;> rfl
def ckK (b:Bool) (r:Option Out):Option Out:=Bool.rec (motive:=fun _=>Option Out) none r b
theorem ckK_eq (b:Bool) (r:Option Out):ckK b r=ck b r:=by cases b <;> rfl
def getMK (M:Mem) (b:Nat):Option Box:=List.rec (motive:=fun _=>Option Box) none (fun p _ ih=>Bool.rec (motive:=fun _=>Option Box) ih (some p.2) (Nat.beq p.1 b)) M.boxes
theorem getMK_eq (M:Mem) (b:Nat):getMK M b=M.get b:=by
 show List.rec (motive:=fun _=>Option Box) none (fun p _ ih=>Bool.rec (motive:=fun _=>Option Box) ih (some p.2) (Nat.beq p.1 b)) M.boxes=lookB M.boxes b
 induction M.boxes with
 | nil=>rfl
 | cons p r ih=>
  obtain ⟨j,x⟩:=p
  simp only [lookB]
  cases Nat.beq j b with
  | false=>exact ih
  | true=>rfl
def setBK (l:List (Nat × Box)) (b:Nat) (x:Box):List (Nat × Box):=List.rec (motive:=fun _=>List (Nat × Box)) [] (fun p r ih=>Bool.rec (motive:=fun _=>List (Nat × Box)) (p :: ih) ((p.1,x) :: r) (Nat.beq p.1 b)) l
theorem setBK_eq (l:List (Nat × Box)) (b:Nat) (x:Box):setBK l b x=setB l b x:=by
 induction l with
 | nil=>rfl
 | cons p r ih=>
  obtain ⟨j,y⟩:=p
  show Bool.rec (motive:=fun _=>List (Nat × Box)) ((j,y) :: setBK r b x) ((j,x) :: r) (Nat.beq j b)=_
  rw [ih]
  simp only [setB]
  cases Nat.beq j b <;> rfl
def setMK (M:Mem) (b:Nat) (x:Box):Mem:=⟨M.nb,setBK M.boxes b x,M.nt,M.toks,M.nl + 1,b :: M.log⟩
theorem setMK_eq (M:Mem) (b:Nat) (x:Box):setMK M b x=M.set b x:=by simp only [setMK,setBK_eq]; rfl
def ldAGK (M:Mem) (n off:Nat):Option Box→Option Out
 | some (.cells l)=>ckK (geK (off + n) l) (some (.val (.agg (takeK n (dropK off l))) M))
 | _=>none
def ldAFK (M:Mem) (n:Nat):AV→Option Out
 | .ptr b off=>ldAGK M n off (getMK M b)
 | .cp cs=>ckK (geK n cs) (some (.val (.agg (takeK n cs)) M))
 | _=>none
theorem ldAFK_eq (M:Mem) (n:Nat) (v:AV):ldAFK M n v=ldAF M n v:=by
 cases v <;> simp only [ldAFK,ldAF,ckK_eq,geK_eq,takeK_eq,getMK_eq]
 rename_i b off
 cases M.get b with
 | none=>rfl
 | some x=>cases x <;> simp only [ldAGK,ldAG,ckK_eq,geK_eq,takeK_eq,dropK_eq]
def ld1GK (M:Mem) (off:Nat):Option Box→Option Out
 | some (.cells l)=>vv M (getK off l)
 | _=>none
def ld1FK (M:Mem):AV→Option Out
 | .ptr b off=>ld1GK M off (getMK M b)
 | .cp (c :: _)=>some (.val c M)
 | _=>none
theorem ld1FK_eq (M:Mem) (v:AV):ld1FK M v=ld1F M v:=by
 cases v <;> try rfl
 ·rename_i b off
  simp only [ld1FK,ld1F,getMK_eq]
  cases M.get b with
  | none=>rfl
  | some x=>cases x <;> simp only [ld1GK,ld1G,getK_eq]
 ·rename_i l
  cases l <;> rfl
def stGK (M:Mem) (n b off:Nat) (v:AV):Option Box→Option Out
 | some (.cells l)=>ckK (Nat.beq v.cells.length n) (ckK (geK (off + n) l) (ckK (allK v.cells) (some (.val .undef (setMK M b (.cells (updK off v.cells l)))))))
 | _=>none
def stFK (M:Mem) (n:Nat):AV→AV→Option Out
 | .ptr b off,v=>stGK M n b off v (getMK M b)
 | _,_=>none
theorem stFK_eq (M:Mem) (n:Nat) (a v:AV):stFK M n a v=stF M n a v:=by
 cases a <;> try rfl
 rename_i b off
 simp only [stFK,stF,getMK_eq]
 cases M.get b with
 | none=>rfl
 | some x=>
  cases x with
  | iter=>rfl
  | cells l=>
   simp only [stGK,stG,ckK_eq,geK_eq,allK_eq,updK_eq,setMK_eq]
   cases h1:Nat.beq v.cells.length n with
   | false=>rfl
   | true=>
    rw [Nat.eq_of_beq_eq_true h1]
    cases h2:Nat.ble (off + n) l.length with
    | false=>rfl
    | true=>cases v.cells.all oneA <;> rfl
def dropC (n:Nat) (l:List AV):List AV:=Nat.rec (motive:=fun _=>List AV→List AV) (dropK (n % 64)) (fun _ ih l=>ih (dropK 64 l)) (n / 64) l
theorem dropC_eq (n:Nat) (l:List AV):dropC n l=l.drop n:=by
 have:∀ (q:Nat) (l:List AV),Nat.rec (motive:=fun _=>List AV→List AV) (dropK (n % 64)) (fun _ ih l=>ih (dropK 64 l)) q l=l.drop (q * 64 + n % 64):=by
  intro q
  induction q with
  | zero=>intro l; show dropK (n % 64) l=_; rw [dropK_eq]; simp
  | succ q ih=>
   intro l
   show Nat.rec (motive:=fun _=>List AV→List AV) (dropK (n % 64)) (fun _ ih l=>ih (dropK 64 l)) q (dropK 64 l)=_
   rw [ih,dropK_eq,List.drop_drop]
   congr 1
   omega
 unfold dropC
 rw [this]
 congr 1
 omega
def isC (n:Nat) (l:List AV):Bool:=Nat.rec (motive:=fun _=>List AV→Bool) (isK (n % 64)) (fun _ ih l=>Bool.rec (motive:=fun _=>Bool) false (ih (dropK 64 l)) (geK 64 l)) (n / 64) l
theorem isK_iff (n:Nat) (l:List AV):isK n l=Nat.beq l.length n:=by
 cases h:isK n l with
 | true=>rw [isK_eq h,Nat.beq_refl]
 | false=>
  cases h2:Nat.beq l.length n with
  | false=>rfl
  | true=>
   have:=Nat.eq_of_beq_eq_true h2
   unfold isK at h
   rw [geK_eq,dropK_eq,this,List.drop_of_length_le (by omega),ble_true (Nat.le_refl n)] at h
   cases h
theorem isC_eq (n:Nat) (l:List AV):isC n l=Nat.beq l.length n:=by
 have:∀ (q:Nat) (l:List AV),Nat.rec (motive:=fun _=>List AV→Bool) (isK (n % 64)) (fun _ ih l=>Bool.rec (motive:=fun _=>Bool) false (ih (dropK 64 l)) (geK 64 l)) q l=Nat.beq l.length (q * 64 + n % 64):=by
  intro q
  induction q with
  | zero=>intro l; show isK (n % 64) l=_; rw [isK_iff]; simp
  | succ q ih=>
   intro l
   show Bool.rec (motive:=fun _=>Bool) false (Nat.rec (motive:=fun _=>List AV→Bool) (isK (n % 64)) (fun _ ih l=>Bool.rec (motive:=fun _=>Bool) false (ih (dropK 64 l)) (geK 64 l)) q (dropK 64 l)) (geK 64 l)=_
   rw [ih,geK_eq,dropK_eq]
   cases h:Nat.ble 64 l.length with
   | false=>
    have h1:¬ 64≤l.length:=fun h2=>by rw [ble_true h2] at h; cases h
    exact (beq_ne (by omega)).symm
   | true=>
    have h1:=Nat.le_of_ble_eq_true h
    show Nat.beq (l.drop 64).length (q * 64 + n % 64)=_
    rw [List.length_drop]
    by_cases he:l.length=(q + 1) * 64 + n % 64
    ·rw [he,Nat.beq_refl,show (q + 1) * 64 + n % 64 - 64=q * 64 + n % 64 by omega,Nat.beq_refl]
    ·rw [beq_ne he,beq_ne (by omega)]
 unfold isC
 rw [this]
 congr 1
 omega
def iaFK (M:Mem) (esz:Nat):AV→Nat→Option Out
 | .sl _ _ n cs,i=>ckK (Nat.ble (i + 1) n) (ckK (isC (n * esz) cs) (some (.val (.cp (dropC (i * esz) cs)) M)))
 | .ms b off n _,i=>ckK (Nat.ble (i + 1) n) (some (.val (.ptr b (off + i * esz)) M))
 | _,_=>none
theorem iaFK_eq (M:Mem) (esz:Nat) (v:AV) (i:Nat):iaFK M esz v i=iaF M esz v i:=by
 cases v <;> try rfl
 ·simp only [iaFK,iaF,ckK_eq,isC_eq,dropC_eq]
  rename_i n cs
  cases Nat.ble (i + 1) n <;> rfl
 ·simp only [iaFK,iaF,ckK_eq]
def ixAFK (M:Mem) (n:Nat):AV→Nat→Option Out
 | .agg cs,i=>ckK (Nat.ble (i + 1) n) (vv M (getK i cs))
 | _,_=>none
theorem ixAFK_eq (M:Mem) (n:Nat) (v:AV) (i:Nat):ixAFK M n v i=ixAF M n v i:=by
 cases v <;> try rfl
 simp only [ixAFK,ixAF,ckK_eq,getK_eq]
def opK (op:AOp):Env→Tm→Mem→Option Out:=
 AOp.rec (motive:=fun _=>Env→Tm→Mem→Option Out)
  (fun x E tm M=>o1K (vO M) (evxK x E tm))
  (fun c a b E tm M=>pickF M (evxK c E tm) (evxK a E tm) (evxK b E tm))
  (fun z E tm M=>some (.val (.ptr M.nb 0) (M.new (.cells z))))
  (fun x E tm M=>o1K (boxF M) (evxK x E tm))
  (fun z ps E tm M=>stepOp E tm M (.build z ps))
  (fun n z ps E tm M=>stepOp E tm M (.mkS n z ps))
  (fun n z ps E tm M=>stepOp E tm M (.mkSm n z ps))
  (fun n x E tm M=>o1K (ldAFK M n) (evxK x E tm))
  (fun x E tm M=>o1K (ld1FK M) (evxK x E tm))
  (fun n a x E tm M=>o2K (stFK M n) (evxK a E tm) (evxK x E tm))
  (fun x E tm M=>o1K (nckF M) (evxK x E tm))
  (fun op x y E tm M=>o2K (binF M op) (evxK x E tm) (evxK y E tm))
  (fun neg x y E tm M=>o2K (binBF M neg) (evxK x E tm) (evxK y E tm))
  (fun neg n x y E tm M=>o2K (eqF M neg n) (evxK x E tm) (evxK y E tm))
  (fun neg k x E tm M=>o1K (nilF M neg k) (evxK x E tm))
  (fun op x E tm M=>o1K (unF M op) (evxK x E tm))
  (fun k x E tm M=>o1K (cviF M k) (evxK x E tm))
  (fun x E tm M=>stepOp E tm M (.s2b x))
  (fun x E tm M=>stepOp E tm M (.b2s x))
  (fun x E tm M=>stepOp E tm M (.r2s x))
  (fun x E tm M=>stepOp E tm M (.rs2s x))
  (fun t x E tm M=>o1K (mkIF M t) (evxK x E tm))
  (fun f a b E tm M=>mkFF M f (evxsK E tm a) (evxsK E tm b))
  (fun e b z l c E tm M=>stepOp E tm M (.mkM e b z l c))
  (fun x lo hi E tm M=>stepOp E tm M (.slcS x lo hi))
  (fun e x lo hi mx E tm M=>stepOp E tm M (.slc e x lo hi mx))
  (fun n e x lo hi E tm M=>stepOp E tm M (.slcA n e x lo hi))
  (fun off x E tm M=>o1K (faF M off) (evxK x E tm))
  (fun esz x i E tm M=>oN (iaFK M esz) (evxK x E tm) (natO (evxK i E tm)))
  (fun n esz x i E tm M=>oN (iaAF M n esz) (evxK x E tm) (natO (evxK i E tm)))
  (fun x i E tm M=>oN (ixSF M) (evxK x E tm) (natO (evxK i E tm)))
  (fun n x i E tm M=>oN (ixAFK M n) (evxK x E tm) (natO (evxK i E tm)))
  (fun i x E tm M=>o1K (extF M i) (evxK x E tm))
  (fun st x E tm M=>o1K (lenF M st) (evxK x E tm))
  (fun x y E tm M=>stepOp E tm M (.min x y))
  (fun ad f args E tm M=>ol (callF ad f) (evxsK E tm args))
  (fun x args E tm M=>oL dynF (evxK x E tm) (evxsK E tm args))
  (fun mu e b x y E tm M=>o2K (appF mu M e b) (evxK x E tm) (evxK y E tm))
  (fun e b z x y E tm M=>stepOp E tm M (.appZ e b z x y))
  (fun x E tm M=>stepOp E tm M (.cap x))
  (fun e x y E tm M=>stepOp E tm M (.cpy e x y))
  (fun e z x E tm M=>stepOp E tm M (.clr e z x))
  (fun x E tm M=>stepOp E tm M (.cvb x))
  (fun x E tm M=>stepOp E tm M (.rng x))
  (fun x E tm M=>stepOp E tm M (.nxt x))
  (fun E tm M=>none)
  op
theorem opK_eq (op:AOp) (E:Env) (tm:Tm) (M:Mem):opK op E tm M=stepOp E tm M op:=by
 cases op with
 | mv x=>exact (by rw [so_mv,← o1K_eq,← evxK_eq]; rfl)
 | pick c a b=>exact (by rw [so_pick,← evxK_eq,← evxK_eq,← evxK_eq]; rfl)
 | alloc z=>rfl
 | box x=>exact (by rw [so_box,← o1K_eq,← evxK_eq]; rfl)
 | ldA n x=>exact (by rw [so_ldA,← o1K_eq,← evxK_eq,← (funext (ldAFK_eq M n))]; rfl)
 | ld1 x=>exact (by rw [so_ld1,← o1K_eq,← evxK_eq,← (funext (ld1FK_eq M))]; rfl)
 | st n a x=>exact (by rw [so_st,← o2K_eq,← evxK_eq,← evxK_eq,← (funext fun u=>funext (stFK_eq M n u))]; rfl)
 | nilck x=>exact (by rw [so_nilck,← o1K_eq,← evxK_eq]; rfl)
 | bin op x y=>exact (by rw [so_bin,← o2K_eq,← evxK_eq,← evxK_eq]; rfl)
 | binB neg x y=>exact (by rw [so_binB,← o2K_eq,← evxK_eq,← evxK_eq]; rfl)
 | eqA neg n x y=>exact (by rw [so_eqA,← o2K_eq,← evxK_eq,← evxK_eq]; rfl)
 | isnil neg k x=>exact (by rw [so_isnil,← o1K_eq,← evxK_eq]; rfl)
 | un op x=>exact (by rw [so_un,← o1K_eq,← evxK_eq]; rfl)
 | cvi k x=>exact (by rw [so_cvi,← o1K_eq,← evxK_eq]; rfl)
 | mkI t x=>exact (by rw [so_mkI,← o1K_eq,← evxK_eq]; rfl)
 | mkF f a b=>exact (by rw [so_mkF,← evxsK_eq,← evxsK_eq]; rfl)
 | fa off x=>exact (by rw [so_fa,← o1K_eq,← evxK_eq]; rfl)
 | ia e x i=>exact (by rw [so_ia,← evxK_eq,← evxK_eq,← (funext fun v=>funext (iaFK_eq M e v))]; rfl)
 | iaA n e x i=>exact (by rw [so_iaA,← evxK_eq,← evxK_eq]; rfl)
 | ixS x i=>exact (by rw [so_ixS,← evxK_eq,← evxK_eq]; rfl)
 | ixA n x i=>exact (by rw [so_ixA,← evxK_eq,← evxK_eq,← (funext fun v=>funext (ixAFK_eq M n v))]; rfl)
 | ext i x=>exact (by rw [so_ext,← o1K_eq,← evxK_eq]; rfl)
 | len st x=>exact (by rw [so_len,← o1K_eq,← evxK_eq]; rfl)
 | call ad f args=>exact (by rw [so_call,← evxsK_eq]; rfl)
 | dyn x args=>exact (by rw [so_dyn,← evxK_eq,← evxsK_eq]; rfl)
 | app mu e b x y=>exact (by rw [so_app,← o2K_eq,← evxK_eq,← evxK_eq]; rfl)
 | _=>rfl
abbrev Go':=J→Option Res
def onR (f:AV→Mem→Option Res) (g:AX→Tm→Mem→Option Res) (r:Option Res):Option Res:=Option.rec (motive:=fun _=>Option Res) none (fun r=>Res.rec (motive:=fun _=>Option Res) f g r) r
def fnNone (_:AV) (_:Mem):Option Res:=none
def codeNone (_:AX) (_:Tm) (_:Mem):Option Res:=none
def fnSome (v:AV) (M:Mem):Option Res:=some (.fn v M)
def ownK (ad:Bool) (args:List AV) (M:Mem) (v:AV) (M1:Mem):Option Res:=(adopt ad M1 M v).bind fun (v,M')=>if hasMs args && !(plain v) then none else some (.fn v M')
def ownG (ad:Bool) (id:Nat) (args:List AV) (M:Mem) (go:Go') (a:Option (List AV)):Option Res:=
 Option.rec (motive:=fun _=>Option Res) none (fun args'=>onR (ownK ad args M) codeNone (go (.b id args' .zero))) a
def modeG (ad:Bool) (id:Nat) (args:List AV) (M:Mem) (go:Go') (m:Mode):Option Res:=
 Mode.rec (motive:=fun _=>Option Res) (go (.b id args M)) (ownG ad id args M go (frzVs M args)) m
def fK (ad:Bool) (id:Nat) (args:List AV) (M:Mem) (E:Env) (go:Go'):Option Res:=
 Option.rec (motive:=fun _=>Option Res) (modeG ad id args M go (E.mode id)) (fun v=>some (.fn v M)) (E.orc id args)
def resK (rs:List ARes) (x:AX) (tm:Tm) (M':Mem):Option Res:=
 AX.rec (motive:=fun _=>Option Res) ((result tm M' rs).map fun v=>.fn v M') ((result tm M' rs).map fun v=>.fn v M') (fun _=>none) x
def bodyG (args:List AV) (M:Mem) (go:Go') (fn:AFun):Option Res:=
 Bool.rec (motive:=fun _=>Option Res) none (onR fnNone (resK fn.res) (go (.c fn.code (argTm 0 args) M))) (Nat.beq args.length fn.np)
def bK (id:Nat) (args:List AV) (M:Mem) (E:Env) (go:Go'):Option Res:=
 Option.rec (motive:=fun _=>Option Res) none (bodyG args M go) (E.fns id)
def keepG (ks:Option (List Nat)) (x:AX) (tm:Tm) (M:Mem):Option Res:=
 AX.rec (motive:=fun _=>Option Res) (some (.code .normal (Option.rec (motive:=fun _=>Tm) tm (keepK tm) ks) M)) none (fun _=>none) x
def seqG (go:Go') (b:AC) (x:AX) (tm:Tm) (M:Mem):Option Res:=
 AX.rec (motive:=fun _=>Option Res) (go (.c b tm M)) (some (.code .ret tm M)) (fun i=>some (.code (.exit i) tm M)) x
def condG (go:Go') (a b:AC) (tm:Tm) (M:Mem):Option AV→Option Res
 | some (.bool t)=>go (.c (Bool.rec (motive:=fun _=>AC) b a t) tm M)
 | _=>none
def blockG (id:Nat) (x:AX) (tm:Tm) (M:Mem):Option Res:=
 AX.rec (motive:=fun _=>Option Res) (some (.code .normal tm M)) (some (.code .ret tm M)) (fun j=>some (.code (Bool.rec (motive:=fun _=>AX) (.exit j) .normal (Nat.beq j id)) tm M)) x
def accG (go:Go') (c:AC) (tm:Tm) (M:Mem) (r:Option (AX × Tm × Mem)):Option Res:=
 Option.rec (motive:=fun _=>Option Res) (go (.c c tm M)) (fun r=>some (.code r.1 r.2.1 r.2.2)) r
def cK (code:AC):Tm→Mem→Env→Go'→Option Res:=
 AC.rec (motive:=fun _=>Tm→Mem→Env→Go'→Option Res)
  (fun tm M _ _=>some (.code .normal tm M))
  (fun dr l ks tm M _ go=>onR fnNone (keepG ks) (go (Bool.rec (motive:=fun _=>J) (.o l tm M) (.d l tm M []) dr)))
  (fun a b _ _ tm M _ go=>onR fnSome (seqG go b) (go (.c a tm M)))
  (fun c a b _ _ tm M E go=>condG go a b tm M (evxK c E tm))
  (fun id c _ tm M _ go=>onR fnSome (blockG id) (go (.c c tm M)))
  (fun c _ tm M _ go=>onR fnSome (seqG go (.loop c)) (go (.c c tm M)))
  (fun id tm M _ _=>some (.code (.exit id) tm M))
  (fun tm M _ _=>some (.code .ret tm M))
  (fun k c _ tm M E go=>accG go c tm M (E.acc k tm M))
  (fun _ _ _ _=>none)
  code
def putG (go:Go') (d:Option Nat) (rest:List AOper) (tm:Tm) (v:AV) (M:Mem):Option Res:=go (.o rest (put tm d v) M)
def outG (go:Go') (d:Option Nat) (rest:List AOper) (tm:Tm) (M:Mem) (r:Option Out):Option Res:=
 Option.rec (motive:=fun _=>Option Res) none (fun r=>Out.rec (motive:=fun _=>Option Res) (putG go d rest tm) (fun ad f args=>onR (putG go d rest tm) codeNone (go (.f ad f args M))) (fun id ts vs args=>onR (putG go d rest tm) codeNone (go (.y id ts vs args M))) r) r
def operG (E:Env) (go:Go') (tm:Tm) (M:Mem) (rest:List AOper) (q:AOper) (w:Option Bool):Option Res:=
 Option.rec (motive:=fun _=>Option Res) none (fun w=>Bool.rec (motive:=fun _=>Option Res) (go (.o rest (put tm q.dst .undef) M)) (outG go q.dst rest tm M (opK q.op E tm M)) w) w
def oK (l:List AOper) (tm:Tm) (M:Mem) (E:Env) (go:Go'):Option Res:=
 List.rec (motive:=fun _=>Option Res) (some (.code .normal tm M)) (fun q rest _=>operG E go tm M rest q (wants tm q.guard)) l
def oneRd (x:Opd) (E:Env) (tm:Tm) (_:Mem):List Nat:=boxAt E tm x
def noRd (_:Env) (_:Tm) (_:Mem):List Nat:=[]
def rdK (op:AOp):Env→Tm→Mem→List Nat:=
 AOp.rec (motive:=fun _=>Env→Tm→Mem→List Nat)
  (fun _=>noRd) (fun _ _ _=>noRd) (fun _ _ _ M=>[M.nb]) (fun _=>noRd) (fun _ _=>noRd) (fun _ _ _=>noRd) (fun _ _ _=>noRd)
  (fun _ x=>oneRd x) (fun x=>oneRd x) (fun _ _ _=>noRd) (fun _=>noRd) (fun _ _ _=>noRd) (fun _ _ _=>noRd) (fun _ _ _ _=>noRd) (fun _ _ _=>noRd)
  (fun _ _=>noRd) (fun _ _=>noRd) (fun _=>noRd) (fun x=>oneRd x) (fun _=>noRd) (fun x=>oneRd x) (fun _ _=>noRd) (fun _ _ _=>noRd) (fun _ _ _ _ _=>noRd)
  (fun _ _ _=>noRd) (fun _ _ _ _ _=>noRd) (fun _ _ _ _ _=>noRd) (fun _ _=>noRd) (fun _ _ _=>noRd) (fun _ _ _ _=>noRd) (fun _ _=>noRd) (fun _ _ _=>noRd)
  (fun _ _=>noRd) (fun _ _=>noRd) (fun _ _=>noRd) (fun _ _ _=>noRd) (fun _ _=>noRd) (fun _ _ _ _ y=>oneRd y) (fun _ _ _ _ _=>noRd) (fun _=>noRd)
  (fun _ _ y=>oneRd y) (fun _ _ _=>noRd) (fun _=>noRd) (fun _=>noRd) (fun _=>noRd) noRd op
theorem rdK_eq (op:AOp) (E:Env) (tm:Tm) (M:Mem):rdK op E tm M=readsOf E tm M op:=by cases op <;> rfl
abbrev Seen:=List (Nat × List Nat × List Nat)
def contG (go:Go') (q:AOper) (rest:List AOper) (tm:Tm) (v:AV) (M':Mem) (seen:Seen) (rd wr:List Nat):Option Res:=
 Bool.rec (motive:=fun _=>Option Res) none (go (.d rest (put tm q.dst v) M' ((q.idx,rd,wr) :: seen))) (clear seen rd wr q.un)
def retD (go:Go') (q:AOper) (rest:List AOper) (tm:Tm) (M:Mem) (seen:Seen) (v:AV) (M':Mem):Option Res:=contG go q rest tm v M' seen [] (wrOf M M')
def valD (go:Go') (q:AOper) (rest:List AOper) (tm:Tm) (M:Mem) (seen:Seen) (rd:List Nat) (v:AV) (M':Mem):Option Res:=contG go q rest tm v M' seen rd (wrOf M M')
def outD (go:Go') (q:AOper) (rest:List AOper) (tm:Tm) (M:Mem) (seen:Seen) (rd:List Nat) (r:Option Out):Option Res:=
 Option.rec (motive:=fun _=>Option Res) none (fun r=>Out.rec (motive:=fun _=>Option Res) (valD go q rest tm M seen rd) (fun ad f args=>onR (retD go q rest tm M seen) codeNone (go (.f ad f args M))) (fun id ts vs args=>onR (retD go q rest tm M seen) codeNone (go (.y id ts vs args M))) r) r
def operD (E:Env) (go:Go') (tm:Tm) (M:Mem) (seen:Seen) (rest:List AOper) (q:AOper) (w:Option Bool):Option Res:=
 Option.rec (motive:=fun _=>Option Res) none (fun w=>Bool.rec (motive:=fun _=>Option Res) (go (.d rest (put tm q.dst .undef) M ((q.idx,[],[]) :: seen))) (outD go q rest tm M seen (rdK q.op E tm M) (opK q.op E tm M)) w) w
def dK (l:List AOper) (tm:Tm) (M:Mem) (seen:Seen) (E:Env) (go:Go'):Option Res:=
 List.rec (motive:=fun _=>Option Res) (some (.code .normal tm M)) (fun q rest _=>operD E go tm M seen rest q (wants tm q.guard)) l
def stepK (j:J):Env→Go'→Option Res:=
 J.rec (motive:=fun _=>Env→Go'→Option Res)
  (fun ad id args M E go=>fK ad id args M E go)
  (fun id args M E go=>bK id args M E go)
  (fun code tm M E go=>cK code tm M E go)
  (fun l tm M E go=>oK l tm M E go)
  (fun l tm M seen E go=>dK l tm M seen E go)
  (fun id ts vs args M E go=>step E go (.y id ts vs args M))
  j
def evK (E:Env) (n:Nat):Go':=Nat.rec (motive:=fun _=>Go') (fun _=>none) (fun _ go j=>stepK j E go) n
theorem stepK_eq (E:Env) (go:Go') (j:J):stepK j E go=step E go j:=by
 cases j with
 | f ad id args M=>
  show fK ad id args M E go=_
  simp only [fK,step]
  cases E.orc id args with
  | some v=>rfl
  | none=>
   cases hm:E.mode id with
   | shared=>simp only [modeG]
   | own=>
    simp only [modeG,ownG]
    cases frzVs M args with
    | none=>rfl
    | some a=>
     simp only [onR,Option.bind_some]
     cases go (.b id a .zero) with
     | none=>rfl
     | some r=>cases r <;> rfl
 | b id args M=>
  show bK id args M E go=_
  simp only [bK,step]
  cases E.fns id with
  | none=>rfl
  | some fn=>
   simp only [bodyG,Option.bind_some]
   cases Nat.beq args.length fn.np with
   | false=>rfl
   | true=>
    simp only [onR,Bool.not_true,Bool.false_eq_true,if_false]
    cases go (.c fn.code (argTm 0 args) M) with
    | none=>rfl
    | some r=>
     cases r with
     | fn=>rfl
     | code x tm M'=>cases x <;> rfl
 | c code tm M=>
  cases code with
  | skip=>rfl
  | ops dr l ks=>
   cases dr with
   | false=>
    show onR fnNone (keepG ks) (go (.o l tm M))=_
    simp only [step,onR,Bool.false_eq_true,if_false]
    cases go (.o l tm M) with
    | none=>rfl
    | some r=>
     cases r with
     | fn=>rfl
     | code x tm' M'=>
      cases x with
      | normal=>
       cases ks with
       | none=>rfl
       | some ks=>
        simp only [Option.bind_some,keepG,keepK_eq]
      | _=>rfl
   | true=>
    show onR fnNone (keepG ks) (go (.d l tm M []))=_
    simp only [step,onR,if_true]
    cases go (.d l tm M []) with
    | none=>rfl
    | some r=>
     cases r with
     | fn=>rfl
     | code x tm' M'=>
      cases x with
      | normal=>
       cases ks with
       | none=>rfl
       | some ks=>
        simp only [Option.bind_some,keepG,keepK_eq]
      | _=>rfl
  | seq a b=>
   show onR fnSome (seqG go b) (go (.c a tm M))=_
   simp only [step,onR]
   cases go (.c a tm M) with
   | none=>rfl
   | some r=>
    cases r with
    | fn=>rfl
    | code x tm' M'=>cases x <;> rfl
  | cond c a b=>
   show condG go a b tm M (evxK c E tm)=_
   rw [evxK_eq]
   simp only [step]
   cases evx E tm c with
   | none=>rfl
   | some v=>
    cases v with
    | bool t=>cases t <;> rfl
    | _=>rfl
  | block id c=>
   show onR fnSome (blockG id) (go (.c c tm M))=_
   simp only [step,onR]
   cases go (.c c tm M) with
   | none=>rfl
   | some r=>
    cases r with
    | fn=>rfl
    | code x tm' M'=>
     cases x with
     | exit k=>
      simp only [Option.bind_some,blockG]
      by_cases hk:k=id
      ·subst hk; rw [if_pos rfl,Nat.beq_refl]
      ·rw [if_neg hk,beq_ne hk]
     | _=>rfl
  | loop c=>
   show onR fnSome (seqG go (.loop c)) (go (.c c tm M))=_
   simp only [step,onR]
   cases go (.c c tm M) with
   | none=>rfl
   | some r=>
    cases r with
    | fn=>rfl
    | code x tm' M'=>cases x <;> rfl
  | exit id=>rfl
  | ret=>rfl
  | acc k c=>
   show accG go c tm M (E.acc k tm M)=_
   simp only [step]
   cases E.acc k tm M <;> rfl
  | stop=>rfl
 | o l tm M=>
  cases l with
  | nil=>rfl
  | cons q rest=>
   show operG E go tm M rest q (wants tm q.guard)=_
   simp only [step,operG]
   cases wants tm q.guard with
   | none=>rfl
   | some w=>
    cases w with
    | false=>rfl
    | true=>
     simp only [opK_eq,outG,Option.bind_some,if_true]
     cases stepOp E tm M q.op with
     | none=>rfl
     | some r=>
      cases r with
      | val v M'=>rfl
      | call ad f args=>
       simp only [onR,Option.bind_some]
       cases go (.f ad f args M) with
       | none=>rfl
       | some r=>cases r <;> rfl
      | yield id ts vs args=>
       simp only [onR,Option.bind_some]
       cases go (.y id ts vs args M) with
       | none=>rfl
       | some r=>cases r <;> rfl
 | d l tm M seen=>
  cases l with
  | nil=>rfl
  | cons q rest=>
   show operD E go tm M seen rest q (wants tm q.guard)=_
   simp only [step,operD]
   cases wants tm q.guard with
   | none=>rfl
   | some w=>
    cases w with
    | false=>rfl
    | true=>
     simp only [opK_eq,rdK_eq,outD,Option.bind_some,if_true]
     cases stepOp E tm M q.op with
     | none=>rfl
     | some r=>
      cases r with
      | val v M'=>
       simp only [valD,contG,Option.bind_some]
       cases clear seen (readsOf E tm M q.op) (wrOf M M') q.un <;> rfl
      | call ad f args=>
       simp only [onR,Option.bind_some]
       cases go (.f ad f args M) with
       | none=>rfl
       | some r=>
        cases r with
        | fn v M'=>
         simp only [retD,contG,Option.bind_some]
         cases clear seen [] (wrOf M M') q.un <;> rfl
        | code=>rfl
      | yield id ts vs args=>
       simp only [onR,Option.bind_some]
       cases go (.y id ts vs args M) with
       | none=>rfl
       | some r=>
        cases r with
        | fn v M'=>
         simp only [retD,contG,Option.bind_some]
         cases clear seen [] (wrOf M M') q.un <;> rfl
        | code=>rfl
 | y id ts vs args M=>rfl
theorem evK_eq (E:Env):∀ (n:Nat),evK E n=evFuel E n
 | 0=>rfl
 | n + 1=>by
  funext j
  show stepK j E (evK E n)=step E (evFuel E n) j
  rw [stepK_eq,evK_eq E n]
theorem known {t:List (Nat × List AV × AV)} (ht:AllKnown t) {n id:Nat} {args args':List AV} {v:AV} (h:resV (evK (ET t) n (.b id args' .zero))=some v) (hf:∀ M,frzVs M args=some args') (hp:hasMs args=false):Known id args v:=by
 obtain ⟨u,M1,hr,ha⟩:=resV_inv h
 rw [evK_eq] at hr
 exact known_ev ht (by rw [ev_of hr]; exact (congrArg (Option.map (·.1)) (ha .zero)).trans rfl) hf hp
end
end Go.Sx
namespace Go.Sx
variable {E:Env}
def rowC (m:Nat):List AV:=(List.range 256).map fun i=>.bool (m.testBit i)
def cellsM:List Nat→List AV
 | []=>[]
 | m :: r=>rowC m ++ cellsM r
theorem rowC_len (m:Nat):(rowC m).length=256:=by simp [rowC]
theorem cellsM_len (ms:List Nat):(cellsM ms).length=ms.length * 256:=by
 induction ms with
 | nil=>rfl
 | cons m r ih=>simp [cellsM,rowC_len,ih]; omega
theorem cellsM_append (a b:List Nat):cellsM (a ++ b)=cellsM a ++ cellsM b:=by
 induction a with
 | nil=>rfl
 | cons m r ih=>simp [cellsM,ih]
theorem cellsM_split {ms:List Nat} {k m:Nat} (h:ms[k]?=some m):cellsM ms=cellsM (ms.take k) ++ (rowC m ++ cellsM (ms.drop (k + 1))):=by
 have hk:=(List.getElem?_eq_some_iff.1 h)
 obtain ⟨hlt,he⟩:=hk
 have:ms=ms.take k ++ m :: ms.drop (k + 1):=by
  rw [← he,List.getElem_cons_drop,List.take_append_drop]
 conv=>lhs; rw [this]
 rw [cellsM_append]
 rfl
theorem cellsM_pre {ms:List Nat} {k m:Nat} (h:ms[k]?=some m):(cellsM (ms.take k)).length=k * 256:=by
 have:=(List.getElem?_eq_some_iff.1 h).1
 rw [cellsM_len,List.length_take]
 congr 1
 omega
theorem cellsM_row {ms:List Nat} {k m:Nat} (h:ms[k]?=some m):((cellsM ms).drop (k * 256)).take 256=rowC m:=by
 rw [cellsM_split h,← cellsM_pre h,List.drop_left,← rowC_len m,List.take_left]
theorem cellsM_set {ms:List Nat} {k m x:Nat} (h:ms[k]?=some m):cellsM (ms.set k x)=cellsM (ms.take k) ++ (rowC x ++ cellsM (ms.drop (k + 1))):=by
 have hlt:=(List.getElem?_eq_some_iff.1 h).1
 rw [List.set_eq_take_append_cons_drop,if_pos hlt,cellsM_append]
 rfl
theorem orZ_rows {a b:Nat} {rest:List AV}:∀ (l:List Nat),orZ (l.map fun i=>.bool (a.testBit i)) ((l.map fun i=>.bool (b.testBit i)) ++ rest)=some ((l.map fun i=>.bool ((b ||| a).testBit i)) ++ rest)
 | []=>rfl
 | i :: r=>by
  simp only [List.map_cons,List.cons_append,orZ,orZ_rows r,Option.map_some,Nat.testBit_or]
theorem oneA_row (m:Nat):(rowC m).all oneA=true:=by
 rw [List.all_eq_true]
 intro x hx
 obtain ⟨i,_,rfl⟩:=List.mem_map.1 hx
 rfl
theorem purL0_bools:∀ {l:List AV},(∀ x∈l,∃ b,x=.bool b)→purL0 l=some l
 | [],_=>rfl
 | x :: r,h=>by
  obtain ⟨b,rfl⟩:=h x (List.mem_cons_self ..)
  simp only [purL0,purC0,Option.bind_some,purL0_bools fun y hy=>h y (List.mem_cons_of_mem _ hy),Option.map_some]
theorem rowC_bools (m:Nat):∀ x∈rowC m,∃ b,x=.bool b:=fun x hx=>by
 obtain ⟨i,_,rfl⟩:=List.mem_map.1 hx
 exact ⟨_,rfl⟩
theorem cellsM_bools:∀ (ms:List Nat),∀ x∈cellsM ms,∃ b,x=.bool b
 | [],x,h=>by cases h
 | m :: r,x,h=>by
  rcases List.mem_append.1 h with h | h
  ·exact rowC_bools m x h
  ·exact cellsM_bools r x h
theorem get_new_self {M:Mem} {x:Box}:(M.new x).get M.nb=some x:=by rw [Mem.get_new,if_pos rfl]
theorem get_new_lt {M:Mem} {x:Box} {j:Nat} (h:j < M.nb):(M.new x).get j=M.get j:=by rw [Mem.get_new,if_neg (by omega)]
theorem get_ns {M:Mem} {x y:Box}:((M.new x).set M.nb y).get M.nb=some y:=by rw [Mem.get_set,if_pos rfl,get_new_self]; rfl
theorem get_ns_lt {M:Mem} {x y:Box} {j:Nat} (h:j < M.nb):((M.new x).set M.nb y).get j=M.get j:=by rw [Mem.get_set,if_neg (by omega),get_new_lt h]
theorem nb_new {M:Mem} {x:Box}:(M.new x).nb=M.nb + 1:=rfl
theorem nb_set {M:Mem} {b:Nat} {x:Box}:(M.set b x).nb=M.nb:=rfl
theorem get_setN {m:Nat} {M:Mem} {b:Nat} {x y:Box} (h:M.get b=some y):(setN m M b x).get b=some x:=by
 show lookB (setB M.boxes b x) b=some x
 exact lookB_setS h
theorem get_setN_ne {m:Nat} {M:Mem} {b j:Nat} {x:Box} (h:b≠j):(setN m M b x).get j=M.get j:=by
 show lookB (setB M.boxes b x) j=lookB M.boxes j
 rw [lookB_set,if_neg h]
def L6:AC:=.seq (.ops false [⟨0,some 42,.bin .lss (.t 41) (.t 40),none,[]⟩] (some [1,3,6,27,28,31,32,33,39,40,41,42,63]))
 (.seq (.cond (.t 42) (.skip)
 (.exit 6))
 (.seq (.block 7 (.seq (.ops false [⟨0,some 43,.ia 1 (.t 39) (.t 41),none,[]⟩,⟨1,some 44,.ld1 (.t 43),none,[]⟩,⟨2,some 9,.mv (.t 44),none,[]⟩] (some [1,3,6,9,27,28,31,32,33,39,40,41,63]))
 (.seq (.ops false [⟨0,some 45,.mv (.t 3),none,[]⟩,⟨1,some 46,.mv (.t 9),none,[]⟩,⟨2,some 47,.ia 256 (.t 45) (.t 46),none,[]⟩,⟨3,some 48,.ldA 256 (.t 47),none,[]⟩,⟨4,some 49,.mv (.c (.int .i64 0)),none,[]⟩] (some [1,3,6,27,28,31,32,33,39,40,41,48,49,63]))
 (.acc 1 (.block 8 (.loop bodyA))))))
 (.ops false [⟨0,some 68,.bin .add (.t 41) (.c (.int .i64 1)),none,[]⟩,⟨1,some 41,.mv (.t 68),none,[]⟩] (some [1,3,6,27,28,31,32,33,39,40,41,63]))))
def L4:AC:=.seq (.ops false [⟨0,some 34,.bin .lss (.t 33) (.t 32),none,[]⟩] (some [1,3,27,28,31,32,33,34,63]))
 (.seq (.cond (.t 34) (.skip)
 (.exit 4))
 (.seq (.block 5 (.seq (.ops false [⟨0,some 35,.mv (.t 33),none,[]⟩,⟨1,some 36,.ia 12 (.t 31) (.t 33),none,[]⟩,⟨2,some 37,.ldA 12 (.t 36),none,[]⟩,⟨3,some 7,.alloc [.str [],.int .i64 0,.nils,.int .i64 0,.bool false,.int .i64 0,.int .i64 0,.int .i64 0,.int .i64 0,.int .i64 0,.nils,.nils],none,[]⟩,⟨4,some 6,.mv (.t 35),none,[]⟩,⟨5,none,.st 12 (.t 7) (.t 37),none,[]⟩] (some [1,3,6,7,27,28,31,32,33,63]))
 (.seq (.ops false [⟨0,some 38,.ldA 12 (.t 7),none,[]⟩,⟨1,some 39,.call false 157 [(.t 38)],none,[]⟩,⟨2,some 40,.len false (.t 39),none,[]⟩,⟨3,some 41,.mv (.c (.int .i64 0)),none,[]⟩] (some [1,3,6,27,28,31,32,33,39,40,41,63]))
 (.block 6 (.loop L6)))))
 (.ops false [⟨0,some 69,.bin .add (.t 33) (.c (.int .i64 1)),none,[]⟩,⟨1,some 33,.mv (.t 69),none,[]⟩] (some [1,3,27,28,31,32,33,63]))))
def L2:AC:=.seq (.ops false [⟨0,some 29,.bin .lss (.t 28) (.t 27),none,[]⟩] (some [1,3,27,28,29,63]))
 (.seq (.cond (.t 29) (.skip)
 (.exit 2))
 (.seq (.block 3 (.seq (.ops false [⟨0,some 30,.fa 0 (.t 1),none,[]⟩,⟨1,some 31,.ld1 (.t 30),none,[]⟩,⟨2,some 32,.len false (.t 31),none,[]⟩,⟨3,some 33,.mv (.c (.int .i64 0)),none,[]⟩] (some [1,3,27,28,31,32,33,63]))
 (.block 4 (.loop L4))))
 (.ops false [⟨0,some 70,.bin .add (.t 28) (.c (.int .i64 1)),none,[]⟩,⟨1,some 28,.mv (.t 70),none,[]⟩] (some [1,3,27,28,63]))))
def L0:AC:=.seq (.ops false [⟨0,some 16,.bin .lss (.t 15) (.t 14),none,[]⟩] (some [1,3,13,14,15,16,63]))
 (.seq (.cond (.t 16) (.skip)
 (.exit 0))
 (.seq (.block 1 (.seq (.ops false [⟨0,some 17,.ia 12 (.t 13) (.t 15),none,[]⟩,⟨1,some 18,.ldA 12 (.t 17),none,[]⟩,⟨2,some 5,.alloc [.str [],.int .i64 0,.nils,.int .i64 0,.bool false,.int .i64 0,.int .i64 0,.int .i64 0,.int .i64 0,.int .i64 0,.nils,.nils],none,[]⟩,⟨3,none,.st 12 (.t 5) (.t 18),none,[]⟩] (some [1,3,5,13,14,15,63]))
 (.ops false [⟨0,some 19,.mv (.t 3),none,[]⟩,⟨1,some 20,.ldA 12 (.t 5),none,[]⟩,⟨2,some 21,.call false 156 [(.t 20)],none,[]⟩,⟨3,some 22,.mkS 1 (List.replicate 256 (.bool false)) [(0,256,(.t 21))],none,[]⟩,⟨4,some 23,.app true 256 256 (.t 19) (.t 22),none,[]⟩,⟨5,some 3,.mv (.t 23),none,[]⟩] (some [1,3,13,14,15,63]))))
 (.ops false [⟨0,some 24,.bin .add (.t 15) (.c (.int .i64 1)),none,[]⟩,⟨1,some 15,.mv (.t 24),none,[]⟩] (some [1,3,13,14,15,63]))))
def code113:AC:=.seq (.ops false [⟨0,some 1,.box (.t 0),none,[]⟩,⟨1,some 2,.mv (.c .nils),none,[]⟩] (some [1,63]))
 (.seq (.ops false [⟨0,some 3,.mv (.c .nils),none,[]⟩] (some [1,3,63]))
 (.seq (.seq (.ops false [⟨0,some 12,.fa 0 (.t 1),none,[]⟩,⟨1,some 13,.ld1 (.t 12),none,[]⟩,⟨2,some 14,.len false (.t 13),none,[]⟩,⟨3,some 15,.mv (.c (.int .i64 0)),none,[]⟩] (some [1,3,13,14,15,63]))
 (.block 0 (.loop L0)))
 (.seq (.seq (.ops false [⟨0,some 25,.fa 0 (.t 1),none,[]⟩,⟨1,some 26,.ld1 (.t 25),none,[]⟩,⟨2,some 27,.len false (.t 26),none,[]⟩,⟨3,some 28,.mv (.c (.int .i64 0)),none,[]⟩] (some [1,3,27,28,63]))
 (.block 2 (.loop L2)))
 (.seq (.ops false [⟨0,some 71,.mv (.t 3),none,[]⟩,⟨1,some 2,.mv (.t 71),none,[]⟩] (some [2]))
 (.ret)))))
def tm6 (a1 a27 a28 a31 a32 a33 v39 x:AV) (b n k m j:Nat):Tm:=
 [(1,a1),(3,.ms b 0 n n),(6,.int .i64 k),(27,a27),(28,a28),(31,a31),(32,a32),(33,a33),(39,v39),(40,.int .i64 m),(41,.int .i64 j),(63,x)]
def Ints (v:AV) (is:List Nat):Prop:=lenK false v=some is.length∧∀ (j i:Nat),is[j]?=some i→∀ M,∃ r,iaF M 1 v j=some (.val (.cp (.int .i64 (i:Int) :: r)) M)
theorem round6 {a1 a27 a28 a31 a32 a33 v39 x:AV} {b n k j i mi mk:Nat} {is ms:List Nat} {M:Mem} (hacc:∀ k tm M,E.acc k tm M=none) (hv:Ints v39 is) (hi:is[j]?=some i) (hin:ms[i]?=some mi) (hkn:ms[k]?=some mk) (hn:ms.length=n) (hn2:n < 1000000) (hj:is.length < 1000000) (hg:M.get b=some (.cells (cellsM ms))) :
  ∃ x',ev E (.c L6 (tm6 a1 a27 a28 a31 a32 a33 v39 x b n k is.length j) M)=some (.code .normal (tm6 a1 a27 a28 a31 a32 a33 v39 x' b n k is.length (j + 1)) (setN 256 M b (.cells (cellsM (ms.set k (mk ||| mi)))))):=by
 have hlt:=(List.getElem?_eq_some_iff.1 hi).1
 have hilt:=(List.getElem?_eq_some_iff.1 hin).1
 have hklt:=(List.getElem?_eq_some_iff.1 hkn).1
 obtain ⟨r,hr⟩:=hv.2 j i hi M
 have hA:∀ k c tm M,ev E (.c (.acc k c) tm M)=ev E (.c c tm M):=fun k c tm M=>ev_acc (hacc k tm M)
 have hw:IntKind.i64.wrap ((j:Int) + 1)=((j + 1:Nat):Int):=by rw [wrap_i64] <;> omega
 have hl:(i * 256 + 256).ble (cellsM ms).length=true:=ble_true (by rw [cellsM_len]; omega)
 have hrow:=cellsM_row hin
 have hq:=orZ_rows (a:=mi) (b:=mk) (rest:=cellsM (ms.drop (k + 1))) (List.range 256)
 have hloop:=loopA (E:=E) (a1:=a1) (a27:=a27) (a28:=a28) (a31:=a31) (a32:=a32) (a33:=a33) (a39:=v39) (a40:=.int .i64 is.length) (a41:=.int .i64 j) (b:=b) (off:=0) (n:=n) (cc:=n) (k:=k) (cs:=rowC mi) (by omega) 256 0 x (cellsM (ms.take k)) (rowC mk ++ cellsM (ms.drop (k + 1))) _ (rowC mi) M rfl rfl (rowC_len mi) (by rw [← cellsM_split hkn]; exact hg) (by rw [cellsM_pre hkn]; omega) hq
 rw [show (List.map (fun i=>AV.bool ((mk ||| mi).testBit i)) (List.range 256))=rowC (mk ||| mi) from rfl,← cellsM_set hkn] at hloop
 simp only [tmA,endA,Int.natCast_zero] at hloop
 refine ⟨lastA x (rowC mi) (rowC mk ++ cellsM (ms.drop (k + 1))),?_⟩
 simp (maxSteps:=1000000) (disch:=omega) only [L6,tm6,EVa,oi,ou,wants,evx,evxs,evo,evparts,fillA,put,keepT,argTm,result,resAll,resOf,vO,boxF,binF,nilF,unF,lenF,callF,appF,mkIF,readsOf,boxAt,Nat.reduceEqDiff,reduceCtorEq,Nat.reduceBEq,Int.reduceToNat,hr,hA,hw,hl,hg,hrow,hloop,Int.natCast_zero,Int.reduceNeg]
def stepM (k:Nat) (ms:List Nat) (i:Nat):List Nat:=ms.set k (ms.getD k 0 ||| ms.getD i 0)
theorem stepM_len (k:Nat) (ms:List Nat) (i:Nat):(stepM k ms i).length=ms.length:=by simp [stepM]
theorem setN_setN {m c:Nat} {M:Mem} {b:Nat} {x y:Box}:setN m (setN c M b y) b x=setN (c + m) M b x:=by
 simp only [setN,setB_setB,← List.append_assoc,List.replicate_append_replicate,Nat.add_assoc,Nat.add_comm c m]
def end6 (a1 a27 a28 a31 a32 a33 v39 x:AV) (b n k m:Nat):Tm:=
 [(1,a1),(3,.ms b 0 n n),(6,.int .i64 k),(27,a27),(28,a28),(31,a31),(32,a32),(33,a33),(39,v39),(40,.int .i64 m),(41,.int .i64 m),(42,.bool false),(63,x)]
theorem loop6 {a1 a27 a28 a31 a32 a33 v39:AV} {b n k:Nat} {is:List Nat} (hacc:∀ k tm M,E.acc k tm M=none) (hv:Ints v39 is) (hin:∀ i∈is,i < n) (hkn:k < n) (hn2:n < 1000000) (hj:is.length < 1000000):∀ (r:List Nat) (j:Nat) (ms:List Nat) (M:Mem) (x:AV),is.drop j=r→j≤is.length→ms.length=n→M.get b=some (.cells (cellsM ms)) →
  ∃ x' c,ev E (.c (.loop L6) (tm6 a1 a27 a28 a31 a32 a33 v39 x b n k is.length j) M)=some (.code (.exit 6) (end6 a1 a27 a28 a31 a32 a33 v39 x' b n k is.length) (setN c M b (.cells (cellsM (r.foldl (stepM k) ms))))):=by
 intro r
 induction r with
 | nil=>
  intro j ms M x hr hjl hn hg
  have hj:j=is.length:=by
   have:=congrArg List.length hr
   simp at this
   omega
  subst hj
  refine ⟨x,0,?_⟩
  have h0:setN 0 M b (.cells (cellsM ms))=M:=by
   simp only [setN,List.replicate_zero,List.nil_append,Nat.add_zero]
   rw [setB_self hg]
  rw [ev_loop,List.foldl_nil,h0]
  simp (maxSteps:=1000000) (disch:=omega) only [L6,tm6,end6,EVa,oi,ou,wants,evx,evxs,evo,evparts,fillA,put,keepT,argTm,result,resAll,resOf,vO,boxF,binF,nilF,unF,lenF,callF,appF,mkIF,readsOf,boxAt,Nat.reduceEqDiff,reduceCtorEq,Nat.reduceBEq,Int.reduceToNat,Int.lt_irrefl,decide_false]
 | cons i r ih=>
  intro j ms M x hr hjl hn hg
  have hi:is[j]?=some i:=by
   have:=congrArg (·[0]?) hr
   simpa using this
  have hr':is.drop (j + 1)=r:=by rw [← List.drop_drop,hr]; rfl
  have hlt:=(List.getElem?_eq_some_iff.1 hi).1
  have hilt:i < ms.length:=by rw [hn]; exact hin i (List.mem_of_getElem? hi)
  have hklt:k < ms.length:=by rw [hn]; exact hkn
  obtain ⟨x1,h1⟩:=round6 (E:=E) (a1:=a1) (a27:=a27) (a28:=a28) (a31:=a31) (a32:=a32) (a33:=a33) (x:=x) (n:=n) hacc hv hi (List.getElem?_eq_getElem hilt) (List.getElem?_eq_getElem hklt) hn hn2 hj hg
  have hs:ms.set k (ms[k] ||| ms[i])=stepM k ms i:=by
   simp only [stepM,List.getD,List.getElem?_eq_getElem hilt,List.getElem?_eq_getElem hklt,Option.getD_some]
  rw [hs] at h1
  obtain ⟨x2,c,h2⟩:=ih (j + 1) (stepM k ms i) (setN 256 M b (.cells (cellsM (stepM k ms i)))) x1 hr' (by omega) (by rw [stepM_len,hn]) (get_setN hg)
  refine ⟨x2,256 + c,?_⟩
  rw [ev_loop,h1]
  show ev E (.c (.loop L6) _ _)=_
  rw [h2,setN_setN,List.foldl_cons]
def Kp (b:Nat) (M M':Mem):Prop:=M.nb≤M'.nb∧∀ j,j < M.nb→j≠b→M'.get j=M.get j
theorem Kp.trans {b:Nat} {M M1 M2:Mem} (h:Kp b M M1) (k:Kp b M1 M2):Kp b M M2:=
 ⟨Nat.le_trans h.1 k.1,fun j hj hb=>(k.2 j (Nat.lt_of_lt_of_le hj h.1) hb).trans (h.2 j hj hb)⟩
def tm4 (a1 a27 a28 x:AV) (rc:List AV) (b n k:Nat):Tm:=
 [(1,a1),(3,.ms b 0 n n),(27,a27),(28,a28),(31,.sl 0 0 n rc),(32,.int .i64 n),(33,.int .i64 k),(63,x)]
def end4 (a1 a27 a28 x:AV) (rc:List AV) (b n:Nat):Tm:=
 [(1,a1),(3,.ms b 0 n n),(27,a27),(28,a28),(31,.sl 0 0 n rc),(32,.int .i64 n),(33,.int .i64 n),(34,.bool false),(63,x)]
structure RulesOK (E:Env) (rc:List AV) (n:Nat) (rl:Nat→List AV) (bg:Nat→AV) (bl:Nat→List Nat) (ow:Nat→Nat):Prop where
 acc:∀ k tm M,E.acc k tm M=none
 len:rc.length=n * 12
 n2:n < 1000000
 n0:0 < n
 rule:∀ k,k < n→(rc.drop (k * 12)).take 12=rl k
 one:∀ k,k < n→(rl k).all oneA=true
 beg:∀ k,k < n→∀ M,ev E (.f false 157 [.agg (rl k)] M)=some (.fn (bg k) M)
 ints:∀ k,k < n→Ints (bg k) (bl k)
 lt:∀ k,k < n→∀ i∈bl k,i < n
 short:∀ k,k < n→(bl k).length < 1000000
 own:∀ k,k < n→∀ M,ev E (.f false 156 [.agg (rl k)] M)=some (.fn (.agg (rowC (ow k))) M)
section
variable {rc:List AV} {n:Nat} {rl:Nat→List AV} {bg:Nat→AV} {bl:Nat→List Nat} {ow:Nat→Nat} (H:RulesOK E rc n rl bg bl ow)
include H
theorem RulesOK.rlen {k:Nat} (hk:k < n):(rl k).length=12:=by
 have:=H.len
 rw [← H.rule k hk,List.length_take,List.length_drop]
 omega
theorem round4 {a1 a27 a28 x:AV} {b k:Nat} {ms:List Nat} {M:Mem} (hk:k < n) (hb:b < M.nb) (hn:ms.length=n) (hg:M.get b=some (.cells (cellsM ms))) :
  ∃ x' M',ev E (.c L4 (tm4 a1 a27 a28 x rc b n k) M)=some (.code .normal (tm4 a1 a27 a28 x' rc b n (k + 1)) M')∧Kp b M M'∧M'.get b=some (.cells (cellsM ((bl k).foldl (stepM k) ms))):=by
 let M1:Mem:=(M.new (.cells [.str [],.int .i64 0,.nils,.int .i64 0,.bool false,.int .i64 0,.int .i64 0,.int .i64 0,.int .i64 0,.int .i64 0,.nils,.nils])).set M.nb (.cells (rl k))
 have hg1:M1.get b=some (.cells (cellsM ms)):=by rw [get_ns_lt hb]; exact hg
 obtain ⟨x',c,h6⟩:=loop6 (E:=E) (a1:=a1) (a27:=a27) (a28:=a28) (a31:=.sl 0 0 n rc) (a32:=.int .i64 n) (a33:=.int .i64 k) (b:=b) H.acc (H.ints k hk) (H.lt k hk) hk H.n2 (H.short k hk) (bl k) 0 ms M1 x rfl (Nat.zero_le _) hn hg1
 refine ⟨x',setN c M1 b (.cells (cellsM ((bl k).foldl (stepM k) ms))),?_,⟨Nat.le_succ _,fun j hj hne=>?_⟩,get_setN hg1⟩
 ·have hw:IntKind.i64.wrap ((k:Int) + 1)=((k + 1:Nat):Int):=by have:=H.n2; rw [wrap_i64] <;> omega
  have hl:=H.len
  have e1:(k + 1).ble n=true:=ble_true hk
  have e2:Nat.beq rc.length (n * 12)=true:=by rw [hl]; exact Nat.beq_refl _
  have e3:Nat.ble 12 (rc.drop (k * 12)).length=true:=ble_true (by rw [List.length_drop,hl]; omega)
  have e4:=H.rule k hk
  have e5:=H.one k hk
  have e6:=H.rlen hk
  have e7:(rl k).take 12=rl k:=by rw [← e6,List.take_length]
  have e8:=H.beg k hk
  have e9:=(H.ints k hk).1
  simp only [tm6,end6,M1,Int.natCast_zero] at h6
  simp (maxSteps:=1000000) (disch:=omega) only [L4,tm4,EVa,oi,ou,wants,evx,evxs,evo,evparts,fillA,put,keepT,argTm,result,resAll,resOf,vO,boxF,binF,nilF,unF,lenF,callF,appF,mkIF,readsOf,boxAt,Nat.reduceEqDiff,reduceCtorEq,Nat.reduceBEq,Int.reduceToNat,hw,e1,e2,e3,e4,e5,e6,e7,e8,e9,h6,M1,AV.cells,List.length_cons,List.length_nil,Nat.reduceAdd,Nat.beq_refl,get_new_self,get_ns,nb_new,List.take_zero,List.nil_append,List.drop_succ_cons,List.drop_zero,List.append_nil,Int.natCast_zero]
 ·rw [get_setN_ne (fun e=>hne e.symm),get_ns_lt hj]
omit H in
theorem nb_zero:Mem.zero.nb=0:=rfl
def runK (bl:Nat→List Nat):Nat→Nat→List Nat→List Nat
 | 0,_,ms=>ms
 | m + 1,k,ms=>runK bl m (k + 1) ((bl k).foldl (stepM k) ms)
omit H in
theorem fold_len (k:Nat):∀ (is:List Nat) (ms:List Nat),(is.foldl (stepM k) ms).length=ms.length
 | [],_=>rfl
 | i :: r,ms=>by rw [List.foldl_cons,fold_len k r,stepM_len]
omit H in
theorem runK_len (bl:Nat→List Nat):∀ (m k:Nat) (ms:List Nat),(runK bl m k ms).length=ms.length
 | 0,_,_=>rfl
 | m + 1,k,ms=>by rw [runK,runK_len bl m,fold_len]
theorem loop4 {a1 a27 a28:AV} {b:Nat}:∀ (m k:Nat) (ms:List Nat) (M:Mem) (x:AV),k + m=n→b < M.nb→ms.length=n→M.get b=some (.cells (cellsM ms)) →
  ∃ x' M',ev E (.c (.loop L4) (tm4 a1 a27 a28 x rc b n k) M)=some (.code (.exit 4) (end4 a1 a27 a28 x' rc b n) M')∧Kp b M M'∧M'.get b=some (.cells (cellsM (runK bl m k ms))):=by
 intro m
 induction m with
 | zero=>
  intro k ms M x hk hb hn hg
  have hk:k=n:=by omega
  subst hk
  refine ⟨x,M,?_,⟨Nat.le_refl _,fun _ _ _=>rfl⟩,hg⟩
  rw [ev_loop]
  simp (maxSteps:=1000000) (disch:=omega) only [L4,tm4,end4,EVa,oi,ou,wants,evx,evxs,evo,evparts,fillA,put,keepT,argTm,result,resAll,resOf,vO,boxF,binF,nilF,unF,lenF,callF,appF,mkIF,readsOf,boxAt,Nat.reduceEqDiff,reduceCtorEq,Nat.reduceBEq,Int.reduceToNat,Int.lt_irrefl,decide_false]
 | succ m ih=>
  intro k ms M x hk hb hn hg
  obtain ⟨x1,M1,h1,hk1,hg1⟩:=round4 H (a1:=a1) (a27:=a27) (a28:=a28) (x:=x) (show k < n by omega) hb hn hg
  obtain ⟨x2,M2,h2,hk2,hg2⟩:=ih (k + 1) _ M1 x1 (by omega) (Nat.lt_of_lt_of_le hb hk1.1) (by rw [fold_len]; exact hn) hg1
  refine ⟨x2,M2,?_,hk1.trans hk2,hg2⟩
  rw [ev_loop,h1]
  exact h2
def tm2 (x:AV) (b n j:Nat):Tm:=[(1,.ptr 0 0),(3,.ms b 0 n n),(27,.int .i64 n),(28,.int .i64 j),(63,x)]
def end2 (x:AV) (b n:Nat):Tm:=[(1,.ptr 0 0),(3,.ms b 0 n n),(27,.int .i64 n),(28,.int .i64 n),(29,.bool false),(63,x)]
theorem round2 {x:AV} {b j:Nat} {ms:List Nat} {M:Mem} (hj:j < n) (hb0:b≠0) (hb:b < M.nb) (hn:ms.length=n) (hg:M.get b=some (.cells (cellsM ms))) (h0:M.get 0=some (.cells [.sl 0 0 n rc])) :
  ∃ x' M',ev E (.c L2 (tm2 x b n j) M)=some (.code .normal (tm2 x' b n (j + 1)) M')∧Kp b M M'∧M'.get b=some (.cells (cellsM (runK bl n 0 ms))):=by
 obtain ⟨x',M',h4,hk,hg'⟩:=loop4 H (a1:=.ptr 0 0) (a27:=.int .i64 n) (a28:=.int .i64 j) n 0 ms M x (by omega) hb hn hg
 refine ⟨x',M',?_,hk,hg'⟩
 have hw:IntKind.i64.wrap ((j:Int) + 1)=((j + 1:Nat):Int):=by have:=H.n2; rw [wrap_i64] <;> omega
 simp only [tm4,end4,Int.natCast_zero] at h4
 simp (maxSteps:=1000000) (disch:=omega) only [L2,tm2,EVa,oi,ou,wants,evx,evxs,evo,evparts,fillA,put,keepT,argTm,result,resAll,resOf,vO,boxF,binF,nilF,unF,lenF,callF,appF,mkIF,readsOf,boxAt,Nat.reduceEqDiff,reduceCtorEq,Nat.reduceBEq,Int.reduceToNat,hw,h0,h4,List.getElem?_cons_zero]
theorem loop2 {b:Nat} (hb0:b≠0):∀ (m j:Nat) (ms:List Nat) (M:Mem) (x:AV),j + m=n→b < M.nb→ms.length=n→M.get b=some (.cells (cellsM ms))→M.get 0=some (.cells [.sl 0 0 n rc]) →
  ∃ x' M',ev E (.c (.loop L2) (tm2 x b n j) M)=some (.code (.exit 2) (end2 x' b n) M')∧M'.get b=some (.cells (cellsM (Nat.repeat (runK bl n 0) m ms))):=by
 intro m
 induction m with
 | zero=>
  intro j ms M x hj hb hn hg h0
  have hj:j=n:=by omega
  subst hj
  refine ⟨x,M,?_,hg⟩
  rw [ev_loop]
  simp (maxSteps:=1000000) (disch:=omega) only [L2,tm2,end2,EVa,oi,ou,wants,evx,evxs,evo,evparts,fillA,put,keepT,argTm,result,resAll,resOf,vO,boxF,binF,nilF,unF,lenF,callF,appF,mkIF,readsOf,boxAt,Nat.reduceEqDiff,reduceCtorEq,Nat.reduceBEq,Int.reduceToNat,Int.lt_irrefl,decide_false]
 | succ m ih=>
  intro j ms M x hj hb hn hg h0
  obtain ⟨x1,M1,h1,hk1,hg1⟩:=round2 H (x:=x) (show j < n by omega) hb0 hb hn hg h0
  have hnb:0 < M.nb:=by omega
  obtain ⟨x2,M2,h2,hg2⟩:=ih (j + 1) _ M1 x1 (by omega) (Nat.lt_of_lt_of_le hb hk1.1) (by rw [runK_len]; exact hn) hg1 ((hk1.2 0 hnb (fun e=>hb0 e.symm)).trans h0)
  refine ⟨x2,M2,?_,?_⟩
  ·rw [ev_loop,h1]
   exact h2
  ·rw [hg2]
   have:∀ (f:List Nat→List Nat) (m:Nat) (a:List Nat),Nat.repeat f m (f a)=Nat.repeat f (m + 1) a:=fun f m=>by
    induction m with
    | zero=>intro a; rfl
    | succ m ih=>intro a; show f (Nat.repeat f m (f a))=f (Nat.repeat f (m + 1) a); rw [ih]
   rw [this]
def tm0 (rc:List AV) (v x:AV) (n i:Nat):Tm:=[(1,.ptr 0 0),(3,v),(13,.sl 0 0 n rc),(14,.int .i64 n),(15,.int .i64 i),(63,x)]
def end0 (rc:List AV) (v x:AV) (n:Nat):Tm:=[(1,.ptr 0 0),(3,v),(13,.sl 0 0 n rc),(14,.int .i64 n),(15,.int .i64 n),(16,.bool false),(63,x)]
def Inv0 (rc:List AV) (n:Nat) (ow:Nat→Nat) (i:Nat) (v:AV) (M:Mem):Prop:=
 M.get 0=some (.cells [.sl 0 0 n rc])∧0 < M.nb∧((i=0∧v=.nils)∨(0 < i∧∃ b,b≠0∧b < M.nb∧v=.ms b 0 i i∧M.get b=some (.cells (cellsM ((List.range i).map ow)))))
omit H in
theorem row_pur {m:Nat}:purL0 (rowC m)=some (rowC m):=purL0_bools (rowC_bools m)
omit H in
theorem elems_row {M:Mem} {m:Nat}:elems M 256 (.sl 1 0 1 (rowC m))=some (rowC m):=by
 have e1:Nat.beq (rowC m).length (1 * 256)=true:=by rw [rowC_len]; rfl
 simp only [elems,e1,if_true]
omit H in
theorem app_nil {M:Mem} {m:Nat}:appV true M 256 256 .nils 1 (rowC m)=some (.ms M.nb 0 1 1,M.new (.cells (rowC m))):=by
 simp [appV,oneA_row]
omit H in
theorem app_ms {M:Mem} {b i m:Nat} {ms:List Nat} (hi:0 < i) (hi2:i < 1000000) (hl:ms.length=i) (hg:M.get b=some (.cells (cellsM ms))):appV true M 256 256 (.ms b 0 i i) 1 (rowC m)=some (.ms M.nb 0 (i + 1) (i + 1),(M.kill b).new (.cells (cellsM (ms ++ [m])))):=by
 have h1:¬ i + 1≤i:=by omega
 have h2:(0=0∧i=i∧0 < i∧(cellsM ms).length=i * 256∧(i + 1) * 256≤140737488355328∧i + 1≤140737488355328):=⟨rfl,rfl,hi,by rw [cellsM_len,hl],by omega,by omega⟩
 unfold appV
 simp only [Nat.one_ne_zero,if_false,oneA_row,Bool.not_true,Bool.false_eq_true,hg]
 rw [if_neg h1,cellsM_append]
 simp only [true_and] at h2 ⊢
 rw [if_pos h2]
 simp [cellsM]
theorem round0 {v x:AV} {i:Nat} {M:Mem} (hi:i < n) (hI:Inv0 rc n ow i v M) :
  ∃ v' x' M',ev E (.c L0 (tm0 rc v x n i) M)=some (.code .normal (tm0 rc v' x' n (i + 1)) M')∧Inv0 rc n ow (i + 1) v' M':=by
 obtain ⟨h0,hnb,hv⟩:=hI
 let M1:Mem:=(M.new (.cells [.str [],.int .i64 0,.nils,.int .i64 0,.bool false,.int .i64 0,.int .i64 0,.int .i64 0,.int .i64 0,.int .i64 0,.nils,.nils])).set M.nb (.cells (rl i))
 have hn2:=H.n2
 have hw:IntKind.i64.wrap ((i:Int) + 1)=((i + 1:Nat):Int):=by rw [wrap_i64] <;> omega
 have hl:=H.len
 have e1:(i + 1).ble n=true:=ble_true hi
 have e2:Nat.beq rc.length (n * 12)=true:=by rw [hl]; exact Nat.beq_refl _
 have e3:Nat.ble 12 (rc.drop (i * 12)).length=true:=ble_true (by rw [List.length_drop,hl]; omega)
 have e4:=H.rule i hi
 have e5:=H.one i hi
 have e6:=H.rlen hi
 have e7:(rl i).take 12=rl i:=by rw [← e6,List.take_length]
 have e8:=H.own i hi
 obtain ⟨v',M',ha,hI'⟩:∃ v' M',appV true M1 256 256 v 1 (rowC (ow i))=some (v',M')∧Inv0 rc n ow (i + 1) v' M':=by
  have g0:M1.get 0=some (.cells [.sl 0 0 n rc]):=by rw [get_ns_lt hnb]; exact h0
  rcases hv with ⟨rfl,rfl⟩ | ⟨hpos,b,hb0,hb,rfl,hg⟩
  ·refine ⟨_,_,app_nil,?_,Nat.succ_pos _,.inr ⟨Nat.succ_pos _,M1.nb,by show M.nb + 1≠0; omega,Nat.lt_succ_self _,rfl,?_⟩⟩
   ·rw [get_new_lt (by show 0 < M.nb + 1; omega)]; exact g0
   ·rw [get_new_self]; simp [cellsM]
  ·have g1:M1.get b=some (.cells (cellsM ((List.range i).map ow))):=by rw [get_ns_lt hb]; exact hg
   refine ⟨_,_,app_ms hpos (by omega) (by simp) g1,?_,Nat.succ_pos _,.inr ⟨Nat.succ_pos _,M1.nb,by show M.nb + 1≠0; omega,Nat.lt_succ_self _,rfl,?_⟩⟩
   ·rw [Mem.get_new,if_neg (show ¬ (M1.kill b).nb=0 by show ¬ M.nb + 1=0; omega),Mem.get_kill,if_neg hb0]
    exact g0
   ·rw [Mem.get_new,if_pos (show (M1.kill b).nb=M1.nb from rfl),List.range_succ,List.map_append]
    rfl
 refine ⟨v',x,M',?_,hI'⟩
 simp only [M1] at ha
 simp (maxSteps:=1000000) (disch:=omega) only [L0,tm0,EVa,oi,ou,wants,evx,evxs,evo,evparts,fillA,put,keepT,argTm,result,resAll,resOf,vO,boxF,binF,nilF,unF,lenF,callF,appF,mkIF,readsOf,boxAt,Nat.reduceEqDiff,reduceCtorEq,Nat.reduceBEq,Int.reduceToNat,hw,e1,e2,e3,e4,e5,e6,e7,e8,M1,AV.cells,List.length_cons,List.length_nil,Nat.reduceAdd,Nat.beq_refl,get_new_self,get_ns,nb_new,List.take_zero,List.nil_append,List.drop_succ_cons,List.drop_zero,List.append_nil,rowC_len,oneA_row,List.length_replicate,List.drop_replicate,Nat.sub_self,List.replicate_zero,row_pur,elems_row,ha]
theorem loop0:∀ (m i:Nat) (v x:AV) (M:Mem),i + m=n→Inv0 rc n ow i v M →
  ∃ v' x' M',ev E (.c (.loop L0) (tm0 rc v x n i) M)=some (.code (.exit 0) (end0 rc v' x' n) M')∧Inv0 rc n ow n v' M':=by
 intro m
 induction m with
 | zero=>
  intro i v x M hi hI
  have hi:i=n:=by omega
  subst hi
  refine ⟨v,x,M,?_,hI⟩
  rw [ev_loop]
  simp (maxSteps:=1000000) (disch:=omega) only [L0,tm0,end0,EVa,oi,ou,wants,evx,evxs,evo,evparts,fillA,put,keepT,argTm,result,resAll,resOf,vO,boxF,binF,nilF,unF,lenF,callF,appF,mkIF,readsOf,boxAt,Nat.reduceEqDiff,reduceCtorEq,Nat.reduceBEq,Int.reduceToNat,Int.lt_irrefl,decide_false]
 | succ m ih=>
  intro i v x M hi hI
  obtain ⟨v1,x1,M1,h1,hI1⟩:=round0 H (v:=v) (x:=x) (show i < n by omega) hI
  obtain ⟨v2,x2,M2,h2,hI2⟩:=ih (i + 1) v1 x1 M1 (by omega) hI1
  refine ⟨v2,x2,M2,?_,hI2⟩
  rw [ev_loop,h1]
  exact h2
theorem firsts_code:∃ b M',ev E (.c code113 [(0,.agg [.sl 0 0 n rc])] .zero)=some (.code .ret [(2,.ms b 0 n n)] M')∧M'.get b=some (.cells (cellsM (Nat.repeat (runK bl n 0) n ((List.range n).map ow)))):=by
 let M1:Mem:=Mem.zero.new (.cells [.sl 0 0 n rc])
 have g0:M1.get 0=some (.cells [.sl 0 0 n rc]):=get_new_self
 obtain ⟨v,x,M2,h0,hI⟩:=loop0 H n 0 .nils .any M1 (by omega) ⟨g0,Nat.succ_pos _,.inl ⟨rfl,rfl⟩⟩
 obtain ⟨g2,hnb,hv⟩:=hI
 have hn0:=H.n0
 obtain ⟨b,hb0,hb,rfl,hg⟩:∃ b,b≠0∧b < M2.nb∧v=.ms b 0 n n∧M2.get b=some (.cells (cellsM ((List.range n).map ow))):=by
  rcases hv with ⟨e,_⟩ | ⟨_,h⟩
  ·omega
  ·exact h
 obtain ⟨x3,M3,h2,hg3⟩:=loop2 H hb0 n 0 _ M2 x (by omega) hb (by simp) hg g2
 refine ⟨b,M3,?_,hg3⟩
 simp only [tm0,end0,tm2,end2,M1,Int.natCast_zero] at h0 h2 g0
 simp (maxSteps:=1000000) (disch:=omega) only [code113,EVa,oi,ou,wants,evx,evxs,evo,evparts,fillA,put,keepT,argTm,result,resAll,resOf,vO,boxF,binF,nilF,unF,lenF,callF,appF,mkIF,readsOf,boxAt,Nat.reduceEqDiff,reduceCtorEq,Nat.reduceBEq,Int.reduceToNat,AV.cells,List.all_cons,List.all_nil,oneA,h0,h2,g0,g2,nb_zero,List.getElem?_cons_zero]
end
end Go.Sx
