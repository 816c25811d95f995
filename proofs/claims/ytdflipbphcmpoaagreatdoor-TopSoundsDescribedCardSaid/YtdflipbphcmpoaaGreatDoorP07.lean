/- A part of the proof of TopSoundsDescribed (texts Yi): an executor of the program's code, proved sound, and its runs. No condition. -/
import Derived.Test.YtdflipbphcmpoaaGreatDoorP06
set_option linter.unusedSimpArgs false
set_option linter.unusedVariables false
set_option maxRecDepth 100000
namespace Go.Sx
variable {P:Program} {E:Env}
def bodyA:AC:=(.seq (.ops false [⟨0,some 50,.bin .lss (.t 49) (.c (.int .i64 256)),none,[]⟩] (some [1,3,6,27,28,31,32,33,39,40,41,48,49,50,63]))
(.seq (.cond (.t 50) (.skip)
(.exit 8))
(.seq (.block 9 (.seq (.ops false [⟨0,some 51,.mv (.t 49),none,[]⟩,⟨1,some 52,.ixA 256 (.t 48) (.t 49),none,[]⟩,⟨2,some 10,.mv (.t 51),none,[]⟩,⟨3,some 11,.mv (.t 52),none,[]⟩] (some [1,3,6,10,11,27,28,31,32,33,39,40,41,48,49,63]))
(.ops true [⟨0,some 53,.mv (.t 3),none,[]⟩,⟨1,some 54,.mv (.t 6),none,[]⟩,⟨2,some 55,.mv (.t 10),none,[]⟩,⟨3,some 56,.mv (.t 3),none,[]⟩,⟨4,some 57,.mv (.t 6),none,[]⟩,⟨5,some 58,.mv (.t 10),none,[]⟩,⟨6,some 59,.ia 256 (.t 56) (.t 57),none,[]⟩,⟨7,some 60,.iaA 256 1 (.t 59) (.t 58),none,[]⟩,⟨8,some 61,.ld1 (.t 60),none,[]⟩,⟨9,some 62,.mv (.t 61),none,[]⟩,⟨10,some 63,.mv (.t 11),(some (some 62,false)),[]⟩,⟨11,some 64,.pick (.t 62) (.c (.bool true)) (.t 63),none,[]⟩,⟨12,some 65,.ia 256 (.t 53) (.t 54),none,[]⟩,⟨13,some 66,.iaA 256 1 (.t 65) (.t 55),none,[]⟩,⟨14,none,.st 1 (.t 66) (.t 64),none,[]⟩] (some [1,3,6,27,28,31,32,33,39,40,41,48,49,63]))))
(.ops false [⟨0,some 67,.bin .add (.t 49) (.c (.int .i64 1)),none,[]⟩,⟨1,some 49,.mv (.t 67),none,[]⟩] (some [1,3,6,27,28,31,32,33,39,40,41,48,49,63])))))
def tmA (a1 a27 a28 a31 a32 a33 a39 a40 a41 a63:AV) (b off n cc k:Nat) (cs:List AV) (c:Nat):Tm:=
 [(1,a1),(3,.ms b off n cc),(6,.int .i64 k),(27,a27),(28,a28),(31,a31),(32,a32),(33,a33),(39,a39),(40,a40),(41,a41),(48,.agg cs),(49,.int .i64 c),(63,a63)]
theorem roundA {a1 a27 a28 a31 a32 a33 a39 a40 a41 a63:AV} {b off n cc k c:Nat} {cs p q:List AV} {x y:Bool} {M:Mem} (hc:c < 256) (hx:cs[c]?=some (.bool x)) (hg:M.get b=some (.cells (p ++ .bool y :: q))) (hp:p.length=off + k * 256 + c) (hk:k < n) :
  ev E (.c bodyA (tmA a1 a27 a28 a31 a32 a33 a39 a40 a41 a63 b off n cc k cs c) M)=some (.code .normal (tmA a1 a27 a28 a31 a32 a33 a39 a40 a41 (if y then .undef else .bool x) b off n cc k cs (c + 1)) (M.set b (.cells (p ++ .bool (y || x) :: q)))):=by
 have hl:(p ++ AV.bool y :: q)[off + k * 256 + c]?=some (.bool y):=by rw [← hp]; simp
 have ht:(p ++ AV.bool y :: q).take (off + k * 256 + c)=p:=by rw [← hp]; simp
 have hd:(p ++ AV.bool y :: q).drop (off + k * 256 + c + 1)=q:=by rw [← hp]; simp
 have hn:(off + k * 256 + c + 1).ble (p ++ AV.bool y :: q).length=true:=ble_true (by simp; omega)
 have hw:IntKind.i64.wrap ((c:Int) + 1)=((c + 1:Nat):Int):=by rw [wrap_i64] <;> omega
 cases y <;> simp (maxSteps:=1000000) (disch:=omega) only [bodyA,tmA,EVa,oi,ou,wants,evx,evxs,evo,evparts,fillA,put,keepT,argTm,result,resAll,resOf,vO,boxF,binF,nilF,unF,lenF,callF,appF,mkIF,readsOf,boxAt,Nat.reduceEqDiff,reduceCtorEq,Nat.reduceBEq,Int.reduceToNat,hx,hg,hl,ht,hd,hn,hw,AV.cells,List.length_cons,List.length_nil,List.all_cons,List.all_nil,oneA,List.append_assoc,List.singleton_append,Bool.true_or,Bool.false_or,Nat.beq_refl,List.cons_append,List.nil_append]
noncomputable def dropK (n:Nat) (l:List AV):List AV:=Nat.rec (motive:=fun _=>List AV→List AV) (fun l=>l) (fun _ ih l=>List.rec (motive:=fun _=>List AV) [] (fun _ r _=>ih r) l) n l
theorem dropK_eq (n:Nat):∀ (l:List AV),dropK n l=l.drop n:=by
 induction n with
 | zero=>intro l; rfl
 | succ n ih=>
  intro l
  cases l with
  | nil=>rfl
  | cons x r=>exact ih r
noncomputable def takeK (n:Nat) (l:List AV):List AV:=Nat.rec (motive:=fun _=>List AV→List AV) (fun _=>[]) (fun _ ih l=>List.rec (motive:=fun _=>List AV) [] (fun x r _=>x :: ih r) l) n l
theorem takeK_eq (n:Nat):∀ (l:List AV),takeK n l=l.take n:=by
 induction n with
 | zero=>intro l; rfl
 | succ n ih=>
  intro l
  cases l with
  | nil=>rfl
  | cons x r=>
   show x :: takeK n r=_
   rw [ih r]
   rfl
noncomputable def geK (n:Nat) (l:List AV):Bool:=Nat.rec (motive:=fun _=>List AV→Bool) (fun _=>true) (fun _ ih l=>List.rec (motive:=fun _=>Bool) false (fun _ r _=>ih r) l) n l
theorem geK_eq (n:Nat):∀ (l:List AV),geK n l=Nat.ble n l.length:=by
 induction n with
 | zero=>intro l; rfl
 | succ n ih=>
  intro l
  cases l with
  | nil=>rfl
  | cons x r=>exact ih r
noncomputable def getK (n:Nat) (l:List AV):Option AV:=Nat.rec (motive:=fun _=>List AV→Option AV) (fun l=>List.rec (motive:=fun _=>Option AV) none (fun x _ _=>some x) l) (fun _ ih l=>List.rec (motive:=fun _=>Option AV) none (fun _ r _=>ih r) l) n l
theorem getK_eq (n:Nat):∀ (l:List AV),getK n l=l[n]?:=by
 induction n with
 | zero=>intro l; cases l <;> rfl
 | succ n ih=>
  intro l
  cases l with
  | nil=>rfl
  | cons x r=>exact ih r
noncomputable def overK (vs:List AV) (l:List AV):List AV:=List.rec (motive:=fun _=>List AV→List AV) (fun l=>l) (fun v _ ih l=>v :: ih (List.rec (motive:=fun _=>List AV) [] (fun _ r _=>r) l)) vs l
theorem overK_eq (vs:List AV):∀ (l:List AV),overK vs l=vs ++ l.drop vs.length:=by
 induction vs with
 | nil=>intro l; rfl
 | cons v r ih=>
  intro l
  show v :: overK r (List.rec (motive:=fun _=>List AV) [] (fun _ r _=>r) l)=_
  rw [ih]
  cases l with
  | nil=>simp
  | cons x l=>rfl
noncomputable def updK (off:Nat) (vs:List AV) (l:List AV):List AV:=Nat.rec (motive:=fun _=>List AV→List AV) (overK vs) (fun _ ih l=>List.rec (motive:=fun _=>List AV) vs (fun x r _=>x :: ih r) l) off l
theorem updK_eq (off:Nat) (vs:List AV):∀ (l:List AV),updK off vs l=l.take off ++ vs ++ l.drop (off + vs.length):=by
 induction off with
 | zero=>intro l; show overK vs l=_; rw [overK_eq,Nat.zero_add]; rfl
 | succ n ih=>
  intro l
  cases l with
  | nil=>show vs=_; simp
  | cons x r=>
   show x :: updK n vs r=_
   rw [ih]
   simp [Nat.add_right_comm]
noncomputable def allK (l:List AV):Bool:=List.rec (motive:=fun _=>Bool) true (fun x _ ih=>Bool.rec (motive:=fun _=>Bool) false ih (oneA x)) l
theorem allK_eq (l:List AV):allK l=l.all oneA:=by
 induction l with
 | nil=>rfl
 | cons x r ih=>
  show Bool.rec (motive:=fun _=>Bool) false (allK r) (oneA x)=_
  rw [ih,List.all_cons]
  cases oneA x <;> rfl
def orZ:List AV→List AV→Option (List AV)
 | [],q=>some q
 | .bool x :: r,.bool y :: q=>(orZ r q).map (.bool (y || x) :: ·)
 | _,_=>none
def setN (m:Nat) (M:Mem) (b:Nat) (x:Box):Mem:={ M with boxes:=setB M.boxes b x,nl:=M.nl + m,log:=List.replicate m b ++ M.log }
theorem lookB_setS {l:List (Nat × Box)} {b:Nat} {x y:Box} (h:lookB l b=some x):lookB (setB l b y) b=some y:=by
 induction l with
 | nil=>cases h
 | cons p r ih=>
  obtain ⟨j,z⟩:=p
  simp only [lookB,setB] at h ⊢
  cases hj:Nat.beq j b with
  | true=>simp only [hj,if_true,lookB]
  | false=>
   rw [hj] at h
   simp only [Bool.false_eq_true,if_false,lookB,hj] at h ⊢
   exact ih h
theorem setB_setB {l:List (Nat × Box)} {b:Nat} {x y:Box}:setB (setB l b x) b y=setB l b y:=by
 induction l with
 | nil=>rfl
 | cons p r ih=>
  obtain ⟨j,z⟩:=p
  simp only [setB]
  cases hj:Nat.beq j b with
  | true=>simp only [if_true,setB,hj]
  | false=>simp only [Bool.false_eq_true,if_false,setB,hj,ih]
theorem setB_self {l:List (Nat × Box)} {b:Nat} {x:Box} (h:lookB l b=some x):setB l b x=l:=by
 induction l with
 | nil=>rfl
 | cons p r ih=>
  obtain ⟨j,z⟩:=p
  simp only [lookB,setB] at h ⊢
  cases hj:Nat.beq j b with
  | true=>
   simp only [hj,if_true] at h ⊢
   cases h
   rfl
  | false=>
   rw [hj] at h
   simp only [Bool.false_eq_true,if_false] at h ⊢
   rw [ih h]
theorem setN_set {m:Nat} {M:Mem} {b:Nat} {x y:Box}:setN m (M.set b x) b y=setN (m + 1) M b y:=by
 simp only [setN,Mem.set,setB_setB]
 rw [List.replicate_succ',List.append_assoc,List.singleton_append,Nat.add_assoc,Nat.add_comm 1 m]
def lastA (a:AV):List AV→List AV→AV
 | .bool x :: r,.bool y :: q=>lastA (if y then .undef else .bool x) r q
 | _,_=>a
def endA (a1 a27 a28 a31 a32 a33 a39 a40 a41 a63:AV) (b off n cc k:Nat) (cs:List AV):Tm:=
 [(1,a1),(3,.ms b off n cc),(6,.int .i64 k),(27,a27),(28,a28),(31,a31),(32,a32),(33,a33),(39,a39),(40,a40),(41,a41),(48,.agg cs),(49,.int .i64 256),(50,.bool false),(63,a63)]
theorem loopA {a1 a27 a28 a31 a32 a33 a39 a40 a41:AV} {b off n cc k:Nat} {cs:List AV} (hk:k < n):∀ (m c:Nat) (a63:AV) (p q q' r:List AV) (M:Mem),c + m=256→cs.drop c=r→r.length=m→M.get b=some (.cells (p ++ q))→p.length=off + k * 256 + c→orZ r q=some q' →
  ev E (.c (.loop bodyA) (tmA a1 a27 a28 a31 a32 a33 a39 a40 a41 a63 b off n cc k cs c) M)=some (.code (.exit 8) (endA a1 a27 a28 a31 a32 a33 a39 a40 a41 (lastA a63 r q) b off n cc k cs) (setN m M b (.cells (p ++ q')))):=by
 intro m
 induction m with
 | zero=>
  intro c a63 p q q' r M hc hr hm hg hp ho
  have hr0:r=[]:=List.eq_nil_of_length_eq_zero hm
  subst hr0
  cases ho
  have hc:c=256:=by omega
  subst hc
  have h0:setN 0 M b (.cells (p ++ q))=M:=by
   simp only [setN,List.replicate_zero,List.nil_append,Nat.add_zero]
   rw [setB_self hg]
  rw [ev_loop,h0]
  simp (maxSteps:=1000000) (disch:=omega) only [bodyA,tmA,endA,lastA,EVa,oi,ou,wants,evx,evxs,evo,evparts,fillA,put,keepT,argTm,result,resAll,resOf,vO,boxF,binF,nilF,unF,lenF,callF,appF,mkIF,readsOf,boxAt,Nat.reduceEqDiff,reduceCtorEq,Nat.reduceBEq,Int.reduceToNat,Int.reduceLT,decide_false]
  rfl
 | succ m ih=>
  intro c a63 p q q' r M hc hr hm hg hp ho
  cases r with
  | nil=>simp at hm
  | cons z r=>
   cases z with
   | bool x=>
    cases q with
    | nil=>cases ho
    | cons u q=>
     cases u with
     | bool y=>
      simp only [orZ,Option.map_eq_some_iff] at ho
      obtain ⟨q1,ho,rfl⟩:=ho
      have hx:cs[c]?=some (.bool x):=by
       have:=congrArg (·[0]?) hr
       simpa using this
      rw [ev_loop,roundA (by omega) hx hg hp hk]
      show ev E (.c (.loop bodyA) _ _)=_
      have hr':cs.drop (c + 1)=r:=by
       rw [← List.drop_drop,hr]; rfl
      have hg':(M.set b (.cells (p ++ .bool (y || x) :: q))).get b=some (.cells ((p ++ [.bool (y || x)]) ++ q)):=by
       simp only [Mem.get,Mem.set,List.append_assoc,List.singleton_append]
       exact lookB_setS hg
      rw [ih (c + 1) _ (p ++ [.bool (y || x)]) q q1 r _ (by omega) hr' (by simpa using hm) hg' (by simp; omega) ho,setN_set]
      simp only [lastA,List.append_assoc,List.singleton_append]
     | _=>cases ho
   | _=>cases ho
noncomputable def nilB (l:List AV):Bool:=List.rec (motive:=fun _=>Bool) true (fun _ _ _=>false) l
noncomputable def isK (n:Nat) (l:List AV):Bool:=Bool.rec (motive:=fun _=>Bool) false (nilB (dropK n l)) (geK n l)
theorem isK_eq {n:Nat} {l:List AV} (h:isK n l=true):l.length=n:=by
 unfold isK at h
 rw [geK_eq,dropK_eq] at h
 cases hg:Nat.ble n l.length with
 | false=>rw [hg] at h; cases h
 | true=>
  rw [hg] at h
  have h1:=Nat.le_of_ble_eq_true hg
  have h2:l.drop n=[]:=by
   cases hd:l.drop n with
   | nil=>rfl
   | cons x r=>rw [hd] at h; cases h
  have:=congrArg List.length h2
  simp at this
  omega
end Go.Sx
