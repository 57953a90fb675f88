import PyProof.Rows.All
import Wide.All
import OpenK.AllK
import Wide.FinOn
import HandS.ForMost
import KE.KDictKeyed
import KE.KeyNested
import HandS.TupAny
import HandS.Style
import HandS.Conv
import HandS.Zip
import HandS.Rev
import HandS.Small
import HandS.RaiseMore
import HandS.Defaults
import HandS.ForExc
import HandS.Set
import HandS.SetFor
import HandS.More
import HandS.SortInts
import HandS.Text
import HandS.TupLe
import HandS.Deep
import HandS.IsInst
import KE.DataCmp
import HandS.Iter
import KE.GoesEnum
import KE.GoesEnumKw
import KE.GoesZip
import KE.KDictPairs
import HandS.OwnEq
import HandS.ListItems
import KE.KDictDisplayH
import HandS.HeadEnd
import HandS.Ends
import PyProof.ReprRoads
import HandS.Head0
import HandS.Head1
import HandS.Head2
import HandS.HeadHook1
import HandS.HeadHook2
import PyProof.Rows.RegStrFacts
import PyProof.Rows.ReprOcc
import PyProof.ReprReads
import KE.DataEq
import HandS.ClsMeth
import HandS.CallLocal
import HandS.HeadNt
import HandS.FStr
import HandS.StrMore
import HandS.TupMul
import KE.KDictZip
import HandS.Property
import PySem.Challenge.RW_veilhouse_k02_texts_of_rules
import HandS.Codes
set_option linter.all false
set_option maxRecDepth 100000
set_option Elab.async false
/-! Data trees over the abstract heap: what a value stands for, who owns which object. -/
namespace VH
open PySem PySem.Spec PyProof.Rows L2

/-- what of the module is told, the program and the world -/
structure Fk where
  K : PySem.W.Frag
  P : Program
  w : World
instance : Coe Fk PySem.W.Frag := ⟨Fk.K⟩
end VH
abbrev L2.Cx.fk (X : L2.Cx) : VH.Fk := ⟨X.K, X.prog, X.w⟩
namespace VH
open PySem PySem.Spec PyProof.Rows L2
/-- the head of a compound datum -/
inductive Hd where
  | tup | lst | st | sl | dK (ks : List Key) | dT (ks : List (List Key)) | dN (ks : List NestedKey) | ins (C : Addr) (ns : List Str)
  deriving DecidableEq
/-- a datum; m: its own object may be changed by whoever holds it -/
inductive D where
  | non | bl (b : Bool) | int (i : Int) | str (x : Str) | ref (a : Addr) | hole (v : V) | rsv (a : Addr) | any
  | nd (m : Bool) (h : Hd) (xs : List D)
namespace D
abbrev tup (xs : List D) : D := .nd false .tup xs
abbrev lst (xs : List D) : D := .nd false .lst xs
abbrev mls (xs : List D) : D := .nd true .lst xs
mutual
def fz : D → D
  | .nd _ h xs => .nd false h (fzL xs)
  | .rsv a => .ref a
  | d => d
def fzL : List D → List D
  | [] => []
  | x :: xs => x.fz :: fzL xs
end
mutual
def isFz : D → Bool
  | .nd m _ xs => !m && isFzL xs
  | .rsv _ => false
  | _ => true
def isFzL : List D → Bool
  | [] => true
  | x :: xs => x.isFz && isFzL xs
end
theorem fzL_map : ∀ xs : List D, fzL xs = xs.map fz
  | [] => rfl
  | x :: xs => by rw [fzL, fzL_map xs]; rfl
mutual
theorem fz_of : ∀ d : D, d.isFz = true → d.fz = d
  | .nd m h xs, e => by
    simp only [isFz, Bool.and_eq_true, Bool.not_eq_true'] at e
    rw [fz, fzL_of xs e.2, e.1]
  | .rsv _, e => by simp [isFz] at e
  | .non, _ => rfl
  | .bl _, _ => rfl
  | .int _, _ => rfl
  | .str _, _ => rfl
  | .ref _, _ => rfl
  | .hole _, _ => rfl
  | .any, _ => rfl
theorem fzL_of : ∀ xs : List D, isFzL xs = true → fzL xs = xs
  | [], _ => rfl
  | x :: xs, e => by
    simp only [isFzL, Bool.and_eq_true] at e
    rw [fzL, fz_of x e.1, fzL_of xs e.2]
end
mutual
theorem isFz_fz : ∀ d : D, d.fz.isFz = true
  | .nd m h xs => by simp [fz, isFz, isFzL_fzL xs]
  | .rsv _ => rfl
  | .non => rfl
  | .bl _ => rfl
  | .int _ => rfl
  | .str _ => rfl
  | .ref _ => rfl
  | .hole _ => rfl
  | .any => rfl
theorem isFzL_fzL : ∀ xs : List D, isFzL (fzL xs) = true
  | [] => rfl
  | x :: xs => by simp [fzL, isFzL, isFz_fz x, isFzL_fzL xs]
end
theorem isFzL_all : ∀ xs : List D, isFzL xs = true ↔ ∀ x ∈ xs, x.isFz = true
  | [] => by simp [isFzL]
  | x :: xs => by simp [isFzL, isFzL_all xs]
end D

inductive Atom : V → D → Prop
  | non : Atom .non .non
  | bl (b : Bool) : Atom (.bl b) (.bl b)
  | int (i : Int) : Atom (.int i) (.int i)
  | str (x : Str) : Atom (.str x) (.str x)
  | ref (a : Addr) : Atom (.ref a) (.ref a)
  | hole (v : V) : Atom v (.hole v)
  | any (v : V) : Atom v .any
/-- an entry of a dict whose keys are tuples of any depth: what its key is, where its key's tuple stands, its value -/
abbrev NE := NestedKey × Addr × V
def entH (w : World) (x : NestedKey × Addr × Value) : DictEntry := ⟨x.1.hash w, .ref x.2.1, x.2.2⟩
def NRel (p : NE) (q : NestedKey × Addr × Value) : Prop := p.1 = q.1 ∧ p.2.1 = q.2.1 ∧ RelV p.2.2 q.2.2
def nkoP (w : World) (a : Addr) (kvs : List NE) (h : Heap) : Prop := kvs.length ≤ sizeLine ∧ (a == sysModules) = false ∧ ∃ xs : List (NestedKey × Addr × Value), Paired NRel kvs xs ∧
  ∃ o es ep, h.get? a = some o ∧ o.ExactDict ∧ o.data = .dict es ep ∧ es.toList = xs.map (entH w) ∧ (xs.map (·.1)).Nodup
/-- such a dict -/
def nko (w : World) (a : Addr) (kvs : List NE) : HO := .ext (nkoP w a kvs)
/-- an object with these values within fits a head -/
inductive Fits (K : Fk) (a : Addr) : HO → Hd → List V → Prop
  | tup (vs : List V) : Fits K a (.tup vs) .tup vs
  | lst (vs : List V) : Fits K a (.lst vs) .lst vs
  | st (vs : List V) : Fits K a (.tup vs) .st vs
  | sl (vs : List V) : Fits K a (.lst vs) .sl vs
  | dK (kvs : List (Key × V)) : (kvs.map (·.1)).Nodup → Fits K a (.dK kvs) (.dK (kvs.map (·.1))) (kvs.map (·.2))
  | dT (kvs : List (List Key × V)) : (kvs.map (·.1)).Nodup → Fits K a (.dT kvs) (.dT (kvs.map (·.1))) (kvs.map (·.2))
  | ins (C dx : Addr) (fs : List (Str × V)) : Fits K a (.ins C dx fs) (.ins C (fs.map (·.1))) (fs.map (·.2))
  | dN (kvs : List NE) : (kvs.map (·.1)).Nodup → Fits K a (nko K.w a kvs) (.dN (kvs.map (·.1))) (kvs.map (fun p => .ref p.2.1) ++ kvs.map (·.2.2))
theorem rd_same {F F' : Hp} (e : Same F F') {a : Addr} {o : HO} (h : Rd F a o) : Rd F' a o := by
  rcases h with h | ⟨u, h⟩
  · exact .inl (e _ _ h)
  · exact .inr ⟨u, e _ _ h⟩
theorem sqT_same {K : Fk} {F F' : Hp} (e : Same F F') {a : Addr} {xs : List V} (h : SqT K F a xs) : SqT K F' a xs := by
  rcases h with h | h
  · exact .inl (rd_same e h)
  · exact .inr h
/-- to be read, and not to change any more; sl, st: a list, a tuple that may be locked or the module's own -/
def RdH (K : PySem.W.Frag) (F : Hp) (a : Addr) (o : HO) : Hd → Prop
  | .sl => ∃ xs, o = .lst xs ∧ SqL K F a xs
  | .st => ∃ xs, o = .tup xs ∧ SqT K F a xs
  | _ => F a = some o
theorem RdH.same {K : Fk} {F F' : Hp} (e : Same F F') {a : Addr} {o : HO} {h : Hd} (r : RdH K F a o h) : RdH K F' a o h := by
  cases h with
  | sl => obtain ⟨xs, rfl, q⟩ := r; exact ⟨xs, rfl, e.seq q⟩
  | st => obtain ⟨xs, rfl, q⟩ := r; exact ⟨xs, rfl, sqT_same e q⟩
  | tup => exact e _ _ r
  | lst => exact e _ _ r
  | dK ks => exact e _ _ r
  | dT ks => exact e _ _ r
  | dN ks => exact e _ _ r
  | ins C ns => exact e _ _ r
theorem RdH.of {K : Fk} {F : Hp} {a : Addr} {o : HO} {h : Hd} {vs : List V} (f : Fits K a o h vs) (e : F a = some o) : RdH K F a o h := by
  cases f with
  | st => exact ⟨_, rfl, SqT.of e⟩
  | sl => exact ⟨_, rfl, SqL.of e⟩
  | tup => exact e
  | lst => exact e
  | dK => exact e
  | dT => exact e
  | dN => exact e
  | ins => exact e
mutual
inductive Own (K : Fk) (F H : Hp) : V → D → List Addr → Prop
  | atom {v : V} {d : D} : Atom v d → Own K F H v d []
  | rsv {a : Addr} {o : HO} : H a = some o → Own K F H (.ref a) (.rsv a) [a]
  | own {a : Addr} {o : HO} {h : Hd} {ps : List (V × D)} {fp : List Addr} : H a = some o → Fits K a o h (ps.map (·.1)) → OwnL K F H ps fp → Own K F H (.ref a) (.nd true h (ps.map (·.2))) (a :: fp)
  | frz {a : Addr} {o : HO} {h : Hd} {ps : List (V × D)} {fp : List Addr} : RdH K F a o h → Fits K a o h (ps.map (·.1)) → OwnL K F H ps fp → Own K F H (.ref a) (.nd false h (ps.map (·.2))) fp
inductive OwnL (K : Fk) (F H : Hp) : List (V × D) → List Addr → Prop
  | nil : OwnL K F H [] []
  | cons {v : V} {d : D} {ps : List (V × D)} {f g : List Addr} : Own K F H v d f → OwnL K F H ps g → OwnL K F H ((v, d) :: ps) (f ++ g)
end
section
variable {K : Fk} {F F' H H' : Hp}
mutual
theorem Own.mono (e : Same F F') : ∀ {v d fp}, Own K F H v d fp → (∀ a ∈ fp, ∀ o, H a = some o → H' a = some o) → Own K F' H' v d fp
  | _, _, _, .atom h, _ => .atom h
  | _, _, _, .rsv h, k => .rsv (k _ List.mem_cons_self _ h)
  | _, _, _, .own h1 h2 h3, k => .own (k _ List.mem_cons_self _ h1) h2 (OwnL.mono e h3 fun a ha => k a (List.mem_cons_of_mem _ ha))
  | _, _, _, .frz h1 h2 h3, k => .frz (h1.same e) h2 (OwnL.mono e h3 k)
theorem OwnL.mono (e : Same F F') : ∀ {ps fp}, OwnL K F H ps fp → (∀ a ∈ fp, ∀ o, H a = some o → H' a = some o) → OwnL K F' H' ps fp
  | _, _, .nil, _ => .nil
  | _, _, .cons h1 h2, k => .cons (Own.mono e h1 fun a ha => k a (List.mem_append_left _ ha)) (OwnL.mono e h2 fun a ha => k a (List.mem_append_right _ ha))
end
mutual
theorem Own.dom : ∀ {v d fp}, Own K F H v d fp → ∀ a ∈ fp, ∃ o, H a = some o
  | _, _, _, .atom h, a, ha => nomatch ha
  | _, _, _, .rsv h, a, ha => by simp at ha; subst ha; exact ⟨_, h⟩
  | _, _, _, .own h1 h2 h3, a, ha => by
    rcases List.mem_cons.mp ha with rfl | ha
    · exact ⟨_, h1⟩
    · exact OwnL.dom h3 a ha
  | _, _, _, .frz h1 h2 h3, a, ha => OwnL.dom h3 a ha
theorem OwnL.dom : ∀ {ps fp}, OwnL K F H ps fp → ∀ a ∈ fp, ∃ o, H a = some o
  | _, _, .nil, a, ha => nomatch ha
  | _, _, .cons h1 h2, a, ha => by
    rcases List.mem_append.mp ha with ha | ha
    · exact Own.dom h1 a ha
    · exact OwnL.dom h2 a ha
end
mutual
/-- what is owned is frozen: it goes over to F' -/
theorem Own.fz (e : Same F F') : ∀ {v d fp}, Own K F H v d fp → (∀ a ∈ fp, F' a = H a) → Own K F' H v d.fz []
  | _, _, _, .atom h, _ => by cases h <;> exact .atom (by constructor)
  | _, _, _, .rsv h, _ => .atom (.ref _)
  | _, _, _, .own (a := a) (ps := ps) h1 h2 h3, k => by
    have z := OwnL.fz e h3 fun a ha => k a (List.mem_cons_of_mem _ ha)
    rw [D.fz, D.fzL_map, List.map_map]
    have q : ps.map (D.fz ∘ (·.2)) = (ps.map fun p => (p.1, p.2.fz)).map (·.2) := by rw [List.map_map]; rfl
    rw [q]
    exact .frz (RdH.of h2 ((k a List.mem_cons_self).trans h1)) (by rw [List.map_map]; exact h2) z
  | _, _, _, .frz (a := a) (ps := ps) h1 h2 h3, k => by
    have z := OwnL.fz e h3 k
    rw [D.fz, D.fzL_map, List.map_map]
    have q : ps.map (D.fz ∘ (·.2)) = (ps.map fun p => (p.1, p.2.fz)).map (·.2) := by rw [List.map_map]; rfl
    rw [q]
    exact .frz (h1.same e) (by rw [List.map_map]; exact h2) z
theorem OwnL.fz (e : Same F F') : ∀ {ps fp}, OwnL K F H ps fp → (∀ a ∈ fp, F' a = H a) → OwnL K F' H (ps.map fun p => (p.1, p.2.fz)) []
  | _, _, .nil, _ => .nil
  | _, _, .cons h1 h2, k => .cons (f := []) (Own.fz e h1 fun a ha => k a (List.mem_append_left _ ha)) (OwnL.fz e h2 fun a ha => k a (List.mem_append_right _ ha))
end
mutual
theorem Own.isFz : ∀ {v d fp}, Own K F H v d fp → d.isFz = true → fp = []
  | _, _, _, .atom h, _ => rfl
  | _, _, _, .rsv h, e => by simp [D.isFz] at e
  | _, _, _, .own h1 h2 h3, e => by simp [D.isFz] at e
  | _, _, _, .frz h1 h2 h3, e => OwnL.isFz h3 (by simpa [D.isFz] using e)
theorem OwnL.isFz : ∀ {ps fp}, OwnL K F H ps fp → D.isFzL (ps.map (·.2)) = true → fp = []
  | _, _, .nil, _ => rfl
  | _, _, .cons h1 h2, e => by
    simp only [List.map_cons, D.isFzL, Bool.and_eq_true] at e
    rw [Own.isFz h1 e.1, OwnL.isFz h2 e.2]
    rfl
end
theorem OwnL.append : ∀ {ps qs f g}, OwnL K F H ps f → OwnL K F H qs g → OwnL K F H (ps ++ qs) (f ++ g)
  | _, _, _, _, .nil, h => h
  | _, _, _, _, .cons h1 h2, h => by
    rw [List.append_assoc]
    exact .cons h1 (OwnL.append h2 h)
theorem OwnL.split : ∀ {ps qs fp}, OwnL K F H (ps ++ qs) fp → ∃ f g, OwnL K F H ps f ∧ OwnL K F H qs g ∧ fp = f ++ g
  | [], _, _, h => ⟨[], _, .nil, h, rfl⟩
  | p :: ps, qs, fp, h => by
    cases h with
    | cons h1 h2 =>
      obtain ⟨f, g, a, b, e⟩ := OwnL.split h2
      exact ⟨_, g, .cons h1 a, b, by rw [e, List.append_assoc]⟩
theorem OwnL.perm {ps qs : List (V × D)} (p : ps.Perm qs) : ∀ {fp}, OwnL K F H ps fp → ∃ fq, OwnL K F H qs fq ∧ fp.Perm fq := by
  induction p with
  | nil => intro fp h; exact ⟨fp, h, .refl _⟩
  | cons x p ih =>
    intro fp h
    cases h with
    | cons h1 h2 =>
      obtain ⟨fq, a, b⟩ := ih h2
      exact ⟨_, .cons h1 a, b.append_left _⟩
  | swap x y l =>
    intro fp h
    cases h with
    | cons h1 h2 =>
      cases h2 with
      | cons h2 h3 =>
        rename_i f1 f2 f3
        refine ⟨_, .cons h2 (.cons h1 h3), ?_⟩
        rw [← List.append_assoc, ← List.append_assoc]
        exact List.perm_append_comm.append_right _
  | trans _ _ ih1 ih2 =>
    intro fp h
    obtain ⟨fq, a, b⟩ := ih1 h
    obtain ⟨fr, c, d⟩ := ih2 a
    exact ⟨fr, c, b.trans d⟩
end

/-! ### what is known of the values at hand -/
def R (K : Fk) (H : Hp) (L : List (V × D)) : Prop := ∃ F fp, Same F H ∧ OwnL K F H L fp ∧ fp.Nodup ∧ ∀ a ∈ fp, F a = none
section
variable {K : Fk} {H H' : Hp} {L L' : List (V × D)} {v : V} {d : D}
theorem R.nil (K : Fk) (H : Hp) : R K H [] := by
  refine ⟨fun _ => none, [], fun _ _ e => ?_, OwnL.nil, List.nodup_nil, fun _ h => ?_⟩
  · cases e
  · cases h
theorem R.perm (p : L.Perm L') (h : R K H L) : R K H L' := by
  obtain ⟨F, fp, s, o, n, f⟩ := h
  obtain ⟨fq, o', q⟩ := o.perm p
  exact ⟨F, fq, s, o', q.nodup_iff.mp n, fun a ha => f a (q.mem_iff.mpr ha)⟩
theorem R.tail {p : V × D} (h : R K H (p :: L)) : R K H L := by
  obtain ⟨F, fp, s, o, n, f⟩ := h
  cases o with
  | cons a b => exact ⟨F, _, s, b, (List.nodup_append.mp n).2.1, fun x hx => f x (List.mem_append_right _ hx)⟩
theorem R.right (h : R K H (L ++ L')) : R K H L' := by
  induction L with
  | nil => exact h
  | cons p L ih => exact ih h.tail
theorem R.left (h : R K H (L ++ L')) : R K H L := (h.perm List.perm_append_comm).right
theorem R.same (s : Same H H') (h : R K H L) : R K H' L := by
  obtain ⟨F, fp, s', o, n, f⟩ := h
  exact ⟨F, fp, s'.trans s, o.mono (Same.refl _) fun a _ u e => s a u e, n, f⟩
/-- a thing that never changes may be used twice -/
theorem R.dup (h : R K H ((v, d) :: L)) (e : d.isFz = true) : R K H ((v, d) :: (v, d) :: L) := by
  obtain ⟨F, fp, s, o, n, f⟩ := h
  cases o with
  | cons a b =>
    have z := a.isFz e
    subst z
    exact ⟨F, _, s, .cons (f := []) a (.cons (f := []) a b), n, f⟩
theorem R.fz (h : R K H ((v, d) :: L)) : R K H ((v, d.fz) :: L) := by
  obtain ⟨F, fp, s, o, n, f⟩ := h
  cases o with
  | cons a b =>
    rename_i f1 f2
    classical
    have hF : Same F fun b => if b ∈ f1 then H b else F b := fun b o e => by
      have nb : ¬ b ∈ f1 := fun hb => by
        rw [f b (List.mem_append_left _ hb)] at e
        cases e
      show (if b ∈ f1 then H b else F b) = some o
      rw [if_neg nb]; exact e
    have n' := List.nodup_append.mp n
    refine ⟨fun b => if b ∈ f1 then H b else F b, f2, fun b o e => ?_, .cons (f := []) (a.fz hF fun x hx => if_pos hx) (b.mono hF fun _ _ _ e => e), n'.2.1, fun x hx => ?_⟩
    · have e' : (if b ∈ f1 then H b else F b) = some o := e
      by_cases hb : b ∈ f1
      · rw [if_pos hb] at e'; exact e'
      · rw [if_neg hb] at e'; exact s _ _ e'
    · have nx : ¬ x ∈ f1 := fun hb => n'.2.2 x hb x hx rfl
      show (if x ∈ f1 then H x else F x) = none
      rw [if_neg nx]
      exact f x (List.mem_append_right _ hx)
theorem R.fzL {ps : List (V × D)} : ∀ {L}, R K H (ps ++ L) → R K H (ps.map (fun p => (p.1, p.2.fz)) ++ L) := by
  induction ps with
  | nil => intro L h; exact h
  | cons p ps ih =>
    intro L h
    have h1 := R.fz (L := ps ++ L) h
    have h2 : R K H (ps ++ ((p.1, p.2.fz) :: L)) := h1.perm (by exact (List.perm_middle (l₁ := ps)).symm)
    have h3 := ih h2
    exact h3.perm List.perm_middle
/-- a thing of our own is opened: its object is ours, what is within is ours too -/
theorem R.open {h : Hd} {xs : List D} (r : R K H ((v, .nd true h xs) :: L)) : ∃ a o ps, v = .ref a ∧ xs = ps.map (·.2) ∧ H a = some o ∧ Fits K a o h (ps.map (·.1)) ∧ R K H ((.ref a, .rsv a) :: (ps ++ L)) := by
  obtain ⟨F, fp, s, o, n, f⟩ := r
  cases o with
  | cons a b =>
    cases a with
    | atom z => cases z
    | own h1 h2 h3 =>
      rename_i fp2 ad o ps fp1
      refine ⟨ad, o, ps, rfl, rfl, h1, h2, F, _, s, .cons (f := [ad]) (.rsv h1) (h3.append b), ?_, ?_⟩
      · simpa using n
      · intro x hx
        exact f x (by simpa using hx)
/-- .. and closed -/
theorem R.close {a : Addr} {o : HO} {h : Hd} {ps : List (V × D)} (r : R K H ((.ref a, .rsv a) :: (ps ++ L))) (ho : H a = some o) (hf : Fits K a o h (ps.map (·.1))) : R K H ((.ref a, .nd true h (ps.map (·.2))) :: L) := by
  obtain ⟨F, fp, s, ow, n, f⟩ := r
  cases ow with
  | cons z b =>
    cases z with
    | atom z => cases z
    | rsv h1 =>
      obtain ⟨f1, f2, o1, o2, rfl⟩ := b.split
      refine ⟨F, _, s, .cons (.own ho hf o1) o2, ?_, ?_⟩
      · simpa using n
      · intro x hx
        exact f x (by simpa using hx)
/-- a thing of ours is changed -/
theorem R.upd {a : Addr} {o : HO} (r : R K H ((.ref a, .rsv a) :: L)) : R K (upd H a o) ((.ref a, .rsv a) :: L) := by
  obtain ⟨F, fp, s, ow, n, f⟩ := r
  cases ow with
  | cons z b =>
    cases z with
    | atom z => cases z
    | rsv h1 =>
      rename_i g _
      have na : a ∉ g := by
        have := List.nodup_cons.mp n
        exact this.1
      have fa : F a = none := f a List.mem_cons_self
      refine ⟨F, _, fun b u e => ?_, .cons (f := [a]) (.rsv upd_same) (b.mono (Same.refl _) fun x hx u e => ?_), n, f⟩
      · have nb : b ≠ a := fun q => by rw [q, fa] at e; cases e
        rw [upd_ne nb]; exact s _ _ e
      · have nb : x ≠ a := fun q => na (q ▸ hx)
        rw [upd_ne nb]; exact e
/-- a new object -/
theorem R.new {a : Addr} {o : HO} (r : R K H L) (ha : H a = none) : R K (L2.upd H a o) ((.ref a, .rsv a) :: L) := by
  obtain ⟨F, fp, s, ow, n, f⟩ := r
  have fa : F a = none := Same.free s ha
  have na : a ∉ fp := fun hx => by
    obtain ⟨u, e⟩ := ow.dom a hx
    rw [ha] at e; cases e
  refine ⟨F, a :: fp, fun b u e => ?_, .cons (f := [a]) (.rsv upd_same) (ow.mono (Same.refl _) fun x hx u e => ?_), List.nodup_cons.mpr ⟨na, n⟩, fun x hx => ?_⟩
  · rw [upd_ne (ne_of_none (s _ _ e) ha)]; exact s _ _ e
  · rw [upd_ne (ne_of_none e ha)]; exact e
  · rcases List.mem_cons.mp hx with rfl | hx
    · exact fa
    · exact f x hx
theorem same_upd {a : Addr} {o : HO} (ha : H a = none) : Same H (L2.upd H a o) := fun b u e => by rw [upd_ne (ne_of_none e ha)]; exact e
/-- a new object with what it holds -/
theorem R.make {a : Addr} {o : HO} {h : Hd} {ps : List (V × D)} (r : R K H (ps ++ L)) (ha : H a = none) (hf : Fits K a o h (ps.map (·.1))) : R K (L2.upd H a o) ((.ref a, .nd true h (ps.map (·.2))) :: L) :=
  (r.new ha).close upd_same hf
end
end VH

namespace VH
open PySem L2
section
variable {K : Fk} {F F' H H' : Hp} {L L' : List (V × D)} {v : V} {d : D}
theorem R.val (h : R K H ((v, d) :: L)) : (d = .non → v = .non) ∧ (∀ b, d = .bl b → v = .bl b) ∧ (∀ i, d = .int i → v = .int i) ∧ (∀ x, d = .str x → v = .str x) ∧ (∀ a, d = .ref a → v = .ref a) ∧ ∀ w, d = .hole w → v = w := by
  obtain ⟨F, fp, s, o, n, f⟩ := h
  cases o with
  | cons a b =>
    refine ⟨?_, ?_, ?_, ?_, ?_, ?_⟩
    · rintro rfl; cases a with | atom z => cases z; rfl
    · rintro b rfl; cases a with | atom z => cases z; rfl
    · rintro b rfl; cases a with | atom z => cases z; rfl
    · rintro b rfl; cases a with | atom z => cases z; rfl
    · rintro b rfl; cases a with | atom z => cases z; rfl
    · rintro b rfl; cases a with | atom z => cases z; rfl
theorem R.vnon (h : R K H ((v, .non) :: L)) : v = .non := h.val.1 rfl
theorem R.vbl {b : Bool} (h : R K H ((v, .bl b) :: L)) : v = .bl b := h.val.2.1 b rfl
theorem R.vint {i : Int} (h : R K H ((v, .int i) :: L)) : v = .int i := h.val.2.2.1 i rfl
theorem R.vstr {x : Str} (h : R K H ((v, .str x) :: L)) : v = .str x := h.val.2.2.2.1 x rfl
theorem R.vref {a : Addr} (h : R K H ((v, .ref a) :: L)) : v = .ref a := h.val.2.2.2.2.1 a rfl
theorem R.vhole {w : V} (h : R K H ((v, .hole w) :: L)) : v = w := h.val.2.2.2.2.2 w rfl
theorem R.atom (h : R K H L) (a : Atom v d) : R K H ((v, d) :: L) := by
  obtain ⟨F, fp, s, o, n, f⟩ := h
  exact ⟨F, _, s, .cons (f := []) (.atom a) o, n, f⟩
theorem R.pnon (h : R K H L) : R K H ((.non, .non) :: L) := h.atom .non
theorem R.pbl {b : Bool} (h : R K H L) : R K H ((.bl b, .bl b) :: L) := h.atom (.bl b)
theorem R.pint {i : Int} (h : R K H L) : R K H ((.int i, .int i) :: L) := h.atom (.int i)
theorem R.pstr {x : Str} (h : R K H L) : R K H ((.str x, .str x) :: L) := h.atom (.str x)
theorem R.phole (h : R K H L) (w : V) : R K H ((w, .hole w) :: L) := h.atom (.hole w)
theorem pc3 {α : Type} (a b c : List α) : (a ++ (b ++ c)).Perm (b ++ (a ++ c)) := by
  rw [← List.append_assoc, ← List.append_assoc]
  exact List.perm_append_comm.append_right _
theorem map_mid : ∀ {ps : List (V × D)} {xs1 xs2 : List D}, xs1 ++ d :: xs2 = ps.map (·.2) → ∃ p1 w p2, ps = p1 ++ (w, d) :: p2 ∧ p1.map (·.2) = xs1 ∧ p2.map (·.2) = xs2
  | [], xs1, xs2, e => by simp at e
  | (w, c) :: ps, [], xs2, e => by
    simp at e
    exact ⟨[], w, ps, by rw [e.1]; rfl, rfl, e.2.symm⟩
  | (w, c) :: ps, x :: xs1, xs2, e => by
    simp at e
    obtain ⟨p1, u, p2, a, b, c'⟩ := map_mid e.2
    exact ⟨(w, c) :: p1, u, p2, by rw [a]; rfl, by simp [b, e.1], c'⟩
/-- a part is taken out of a thing -/
theorem R.focus {m : Bool} {h : Hd} {xs1 xs2 : List D} (r : R K H ((v, .nd m h (xs1 ++ d :: xs2)) :: L)) : ∃ w, R K H ((w, d) :: (v, .nd m h (xs1 ++ .hole w :: xs2)) :: L) := by
  obtain ⟨F, fp, s, o, n, f⟩ := r
  obtain ⟨f0, g, a, b, rfl⟩ : ∃ f0 g, Own K F H v (.nd m h (xs1 ++ d :: xs2)) f0 ∧ OwnL K F H L g ∧ fp = f0 ++ g := by
    cases o with | cons a b => exact ⟨_, _, a, b, rfl⟩
  generalize hx : D.nd m h (xs1 ++ d :: xs2) = D0 at a
  cases a with
  | atom z => cases z <;> cases hx
  | rsv z => cases hx
  | own h1 h2 h3 =>
    rename_i a o hd ps f1
    injection hx with e1 e2 e3
    subst e1; subst e2
    obtain ⟨p1, w, p2, rfl, rfl, rfl⟩ := map_mid e3
    obtain ⟨g1, g2, o1, o2, rfl⟩ := h3.split
    cases o2 with
    | cons o2 o3 =>
      rename_i gd g3
      have z : OwnL K F H (p1 ++ (w, .hole w) :: p2) (g1 ++ g3) := o1.append (.cons (f := []) (.atom (.hole w)) o3)
      have y : Own K F H (.ref a) (.nd true h ((p1 ++ (w, .hole w) :: p2).map (·.2))) (a :: (g1 ++ g3)) := .own h1 (by simpa using h2) z
      rw [List.map_append, List.map_cons] at y
      refine ⟨w, F, gd ++ (a :: (g1 ++ g3) ++ g), s, .cons o2 (.cons y b), ?_, ?_⟩
      · refine (List.Perm.nodup_iff ?_).mp n
        simp only [List.cons_append, List.append_assoc]
        exact (List.Perm.cons a (pc3 g1 gd _)).trans List.perm_middle.symm
      · intro x hx
        refine f x ?_
        simp only [List.mem_append, List.mem_cons] at hx ⊢
        rcases hx with hx | ((hx | hx | hx) | hx) <;> simp [hx]
  | frz h1 h2 h3 =>
    rename_i a o hd ps
    injection hx with e1 e2 e3
    subst e1; subst e2
    obtain ⟨p1, w, p2, rfl, rfl, rfl⟩ := map_mid e3
    obtain ⟨g1, g2, o1, o2, rfl⟩ := h3.split
    cases o2 with
    | cons o2 o3 =>
      rename_i gd g3
      have z : OwnL K F H (p1 ++ (w, .hole w) :: p2) (g1 ++ g3) := o1.append (.cons (f := []) (.atom (.hole w)) o3)
      have y : Own K F H (.ref a) (.nd false h ((p1 ++ (w, .hole w) :: p2).map (·.2))) (g1 ++ g3) := .frz h1 (by simpa using h2) z
      rw [List.map_append, List.map_cons] at y
      refine ⟨w, F, gd ++ (g1 ++ g3 ++ g), s, .cons o2 (.cons y b), ?_, ?_⟩
      · refine (List.Perm.nodup_iff ?_).mp n
        simp only [List.append_assoc]
        exact pc3 g1 gd _
      · intro x hx
        refine f x ?_
        simp only [List.mem_append] at hx ⊢
        rcases hx with hx | ((hx | hx) | hx) <;> simp [hx]
/-- .. and put back -/
theorem R.unfocus {m : Bool} {h : Hd} {xs1 xs2 : List D} {w : V} (r : R K H ((w, d) :: (v, .nd m h (xs1 ++ .hole w :: xs2)) :: L)) : R K H ((v, .nd m h (xs1 ++ d :: xs2)) :: L) := by
  obtain ⟨F, fp, s, o, n, f⟩ := r
  obtain ⟨gd, f0, g, od, a, b, rfl⟩ : ∃ gd f0 g, Own K F H w d gd ∧ Own K F H v (.nd m h (xs1 ++ .hole w :: xs2)) f0 ∧ OwnL K F H L g ∧ fp = gd ++ (f0 ++ g) := by
    cases o with | cons od o => cases o with | cons a b => exact ⟨_, _, _, od, a, b, rfl⟩
  generalize hx : D.nd m h (xs1 ++ .hole w :: xs2) = D0 at a
  cases a with
  | atom z => cases z <;> cases hx
  | rsv z => cases hx
  | own h1 h2 h3 =>
    rename_i a o hd ps f1
    injection hx with e1 e2 e3
    subst e1; subst e2
    obtain ⟨p1, u, p2, rfl, rfl, rfl⟩ := map_mid e3
    obtain ⟨g1, g2, o1, o2, rfl⟩ := h3.split
    cases o2 with
    | cons o2 o3 =>
      rename_i gu g3
      have eu : u = w ∧ gu = [] := by
        cases o2 with | atom z => cases z; exact ⟨rfl, rfl⟩
      obtain ⟨rfl, rfl⟩ := eu
      have z : OwnL K F H (p1 ++ (u, d) :: p2) (g1 ++ (gd ++ g3)) := o1.append (.cons od o3)
      have y : Own K F H (.ref a) (.nd true h ((p1 ++ (u, d) :: p2).map (·.2))) (a :: (g1 ++ (gd ++ g3))) := .own h1 (by simpa using h2) z
      rw [List.map_append, List.map_cons] at y
      refine ⟨F, a :: (g1 ++ (gd ++ g3)) ++ g, s, .cons y b, ?_, ?_⟩
      · refine (List.Perm.nodup_iff ?_).mp n
        simp only [List.cons_append, List.append_assoc, List.nil_append]
        exact List.perm_middle.trans (List.Perm.cons a (pc3 gd g1 _))
      · intro x hx
        refine f x ?_
        simp only [List.mem_append, List.mem_cons, List.nil_append] at hx ⊢
        rcases hx with ((hx | hx | hx | hx) | hx) <;> simp [hx]
  | frz h1 h2 h3 =>
    rename_i a o hd ps
    injection hx with e1 e2 e3
    subst e1; subst e2
    obtain ⟨p1, u, p2, rfl, rfl, rfl⟩ := map_mid e3
    obtain ⟨g1, g2, o1, o2, rfl⟩ := h3.split
    cases o2 with
    | cons o2 o3 =>
      rename_i gu g3
      have eu : u = w ∧ gu = [] := by
        cases o2 with | atom z => cases z; exact ⟨rfl, rfl⟩
      obtain ⟨rfl, rfl⟩ := eu
      have z : OwnL K F H (p1 ++ (u, d) :: p2) (g1 ++ (gd ++ g3)) := o1.append (.cons od o3)
      have y : Own K F H (.ref a) (.nd false h ((p1 ++ (u, d) :: p2).map (·.2))) (g1 ++ (gd ++ g3)) := .frz h1 (by simpa using h2) z
      rw [List.map_append, List.map_cons] at y
      refine ⟨F, g1 ++ (gd ++ g3) ++ g, s, .cons y b, ?_, ?_⟩
      · refine (List.Perm.nodup_iff ?_).mp n
        simp only [List.append_assoc, List.nil_append]
        exact pc3 gd g1 _
      · intro x hx
        refine f x ?_
        simp only [List.mem_append, List.nil_append] at hx ⊢
        rcases hx with ((hx | hx | hx) | hx) <;> simp [hx]
/-- a thing's own object as it is read -/
theorem R.look {m : Bool} {h : Hd} {xs : List D} (r : R K H ((v, .nd m h xs) :: L)) : ∃ a o vs, v = .ref a ∧ RdH K H a o h ∧ (m = true → H a = some o) ∧ Fits K a o h vs ∧ vs.length = xs.length := by
  obtain ⟨F, fp, s, o, n, f⟩ := r
  cases o with
  | cons a b =>
    cases a with
    | atom z => cases z
    | own h1 h2 h3 => exact ⟨_, _, _, rfl, RdH.of h2 h1, fun _ => h1, h2, by simp⟩
    | frz h1 h2 h3 => exact ⟨_, _, _, rfl, h1.same s, (fun e => nomatch e), h2, by simp⟩
/-- .. with a part, which is as it stands from now on -/
theorem R.child {m : Bool} {h : Hd} {xs1 xs2 : List D} (r : R K H ((v, .nd m h (xs1 ++ d :: xs2)) :: L)) : ∃ a o vs w, v = .ref a ∧ RdH K H a o h ∧ (m = true → H a = some o) ∧ Fits K a o h vs ∧ vs.length = (xs1 ++ d :: xs2).length ∧ vs[xs1.length]? = some w ∧
    R K H ((w, d.fz) :: (v, .nd m h (xs1 ++ d.fz :: xs2)) :: L) := by
  obtain ⟨w, q⟩ := r.focus
  have q' := q
  obtain ⟨F, fp, s, o, n, f⟩ := q'
  have key : ∃ a o vs, v = .ref a ∧ RdH K H a o h ∧ (m = true → H a = some o) ∧ Fits K a o h vs ∧ vs.length = (xs1 ++ d :: xs2).length ∧ vs[xs1.length]? = some w := by
    cases o with
    | cons od o =>
      cases o with
      | cons a b =>
        generalize hx : D.nd m h (xs1 ++ .hole w :: xs2) = D0 at a
        cases a with
        | atom z => cases z <;> cases hx
        | rsv z => cases hx
        | own h1 h2 h3 =>
          injection hx with e1 e2 e3
          subst e1; subst e2
          obtain ⟨p1, u, p2, rfl, rfl, rfl⟩ := map_mid e3
          obtain ⟨g1, g2, o1, o2, rfl⟩ := h3.split
          have eu : u = w := by
            cases o2 with | cons o2 o3 => cases o2 with | atom z => cases z; rfl
          subst eu
          refine ⟨_, _, _, rfl, RdH.of h2 h1, fun _ => h1, h2, by simp, ?_⟩
          simp
        | frz h1 h2 h3 =>
          injection hx with e1 e2 e3
          subst e1; subst e2
          obtain ⟨p1, u, p2, rfl, rfl, rfl⟩ := map_mid e3
          obtain ⟨g1, g2, o1, o2, rfl⟩ := h3.split
          have eu : u = w := by
            cases o2 with | cons o2 o3 => cases o2 with | atom z => cases z; rfl
          subst eu
          refine ⟨_, _, _, rfl, h1.same s, (fun e => nomatch e), h2, by simp, ?_⟩
          simp
  obtain ⟨a, o, vs, e1, e2, e3, e4, e5, e6⟩ := key
  refine ⟨a, o, vs, w, e1, e2, e3, e4, e5, e6, ?_⟩
  have q1 := q.fz.dup (D.isFz_fz d)
  have q2 : R K H ((w, d.fz) :: (v, .nd m h (xs1 ++ .hole w :: xs2)) :: (w, d.fz) :: L) := q1.perm ((List.Perm.swap _ _ _).cons _)
  exact q2.unfocus.perm (.swap _ _ _)
end
end VH

/-! What a term of rules does to data: readings and their plain functions. -/
namespace VH
open PySem L2

abbrev Env := List (Option D)
abbrev EM (α : Type) := Env → Option (α × Env)
/-- the slots' values stand for the data -/
inductive Sl : St → Env → List (V × D) → Prop
  | nil : Sl [] [] []
  | non {v : Option V} {σ : St} {env : Env} {l : List (V × D)} : Sl σ env l → Sl (v :: σ) (none :: env) l
  | som {v : V} {d : D} {σ : St} {env : Env} {l : List (V × D)} : Sl σ env l → Sl (some v :: σ) (some d :: env) ((v, d) :: l)
theorem Sl.len : ∀ {σ env l}, Sl σ env l → σ.length = env.length
  | _, _, _, .nil => rfl
  | _, _, _, .non h => by simp [h.len]
  | _, _, _, .som h => by simp [h.len]
theorem Sl.take : ∀ {σ env l} {i : Nat} {d : D}, Sl σ env l → env[i]? = some (some d) → ∃ v l', σ[i]? = some (some v) ∧ l.Perm ((v, d) :: l') ∧ Sl σ (env.set i none) l'
  | _, _, _, i, d, .nil, e => by simp at e
  | _, _, _, 0, d, .non h, e => by simp at e
  | _, _, _, 0, d, .som h, e => by
    simp at e; subst e
    exact ⟨_, _, rfl, .refl _, .non h⟩
  | _, _, _, i + 1, d, .non h, e => by
    obtain ⟨v, l', a, b, c⟩ := h.take (i := i) (d := d) (by simpa using e)
    exact ⟨v, l', by simpa using a, b, .non c⟩
  | _, _, _, i + 1, d, .som h, e => by
    obtain ⟨v, l', a, b, c⟩ := h.take (i := i) (d := d) (by simpa using e)
    exact ⟨v, _, by simpa using a, (b.cons _).trans (.swap _ _ _), .som c⟩
theorem Sl.drop (w : Option V) : ∀ {σ env l} (i : Nat), Sl σ env l → ∃ l1 l', l.Perm (l1 ++ l') ∧ Sl (σ.set i w) (env.set i none) l'
  | _, _, _, i, .nil => ⟨[], [], .refl _, by simpa using Sl.nil⟩
  | _, _, _, 0, .non h => ⟨[], _, .refl _, .non h⟩
  | _, _, _, 0, .som h => ⟨[_], _, .refl _, .non h⟩
  | _, _, _, i + 1, .non h => by
    obtain ⟨l1, l', a, b⟩ := Sl.drop w i h
    exact ⟨l1, l', a, .non b⟩
  | _, _, _, i + 1, .som h => by
    obtain ⟨l1, l', a, b⟩ := Sl.drop w i h
    exact ⟨l1, _, (a.cons _).trans List.perm_middle.symm, .som b⟩
theorem Sl.add (v : V) (d : D) : ∀ {σ env l} {i : Nat}, Sl σ env l → env[i]? = some none → ∃ l', l'.Perm ((v, d) :: l) ∧ Sl (σ.set i (some v)) (env.set i (some d)) l'
  | _, _, _, i, .nil, e => by simp at e
  | _, _, _, 0, .non h, e => ⟨_, .refl _, .som h⟩
  | _, _, _, 0, .som h, e => by simp at e
  | _, _, _, i + 1, .non h, e => by
    obtain ⟨l', a, b⟩ := Sl.add v d (i := i) h (by simpa using e)
    exact ⟨l', a, .non b⟩
  | _, _, _, i + 1, .som h, e => by
    obtain ⟨l', a, b⟩ := Sl.add v d (i := i) h (by simpa using e)
    exact ⟨_, (a.cons _).trans (.swap _ _ _), .som b⟩
/-- slots of which nothing is known may hold anything -/
theorem Sl.any : ∀ {σ env l} {σ' : St}, Sl σ env l → σ'.length = σ.length → (∀ (i : Nat) (d : D), env[i]? = some (some d) → σ'[i]? = σ[i]?) → Sl σ' env l
  | _, _, _, [], .nil, _, _ => .nil
  | _, _, _, _ :: _, .nil, e, _ => by simp at e
  | _, _, _, [], .non _, e, _ => by simp at e
  | _, _, _, [], .som _, e, _ => by simp at e
  | _, _, _, w :: σ', .non h, e, k => .non (Sl.any h (by simpa using e) fun i d q => by simpa using k (i + 1) d (by simpa using q))
  | _, _, _, w :: σ', .som h, e, k => by
    have z := k 0 _ rfl
    simp at z
    subst z
    exact .som (Sl.any h (by simpa using e) fun i d q => by simpa using k (i + 1) d (by simpa using q))

def RE (K : Fk) (H : Hp) (σ : St) (env : Env) (L : List (V × D)) : Prop := ∃ l, Sl σ env l ∧ R K H (l ++ L)
section
variable {K : Fk} {H H' : Hp} {σ σ' : St} {env : Env} {L L' : List (V × D)} {v : V} {d : D} {i : Nat}
theorem RE.perm (p : L.Perm L') (h : RE K H σ env L) : RE K H σ env L' := by
  obtain ⟨l, s, r⟩ := h
  exact ⟨l, s, r.perm (p.append_left _)⟩
theorem RE.len (h : RE K H σ env L) : σ.length = env.length := h.choose_spec.1.len
theorem RE.same (s : Same H H') (h : RE K H σ env L) : RE K H' σ env L := by
  obtain ⟨l, a, r⟩ := h
  exact ⟨l, a, r.same s⟩
theorem RE.tail {p : V × D} (h : RE K H σ env (p :: L)) : RE K H σ env L := by
  obtain ⟨l, a, r⟩ := h
  exact ⟨l, a, (r.perm List.perm_middle).tail⟩
theorem RE.right (h : RE K H σ env (L ++ L')) : RE K H σ env L' := by
  induction L with
  | nil => exact h
  | cons p L ih => exact ih h.tail
/-- all of it as one R, and back -/
theorem RE.to (h : RE K H σ env (L ++ L')) : ∃ l, R K H (L ++ (l ++ L')) ∧ ∀ {H' L1}, R K H' (L1 ++ (l ++ L')) → RE K H' σ env (L1 ++ L') := by
  obtain ⟨l, s, r⟩ := h
  have p : ∀ L1 : List (V × D), (l ++ (L1 ++ L')).Perm (L1 ++ (l ++ L')) := fun L1 => by
    rw [← List.append_assoc, ← List.append_assoc]
    exact List.perm_append_comm.append_right _
  exact ⟨l, r.perm (p L), fun r' => ⟨l, s, r'.perm (p _).symm⟩⟩
theorem RE.lift {L1 L2 : List (V × D)} (h : RE K H σ env (L1 ++ L)) (f : ∀ M, R K H (L1 ++ M) → R K H' (L2 ++ M)) : RE K H' σ env (L2 ++ L) := by
  obtain ⟨l, r, b⟩ := h.to
  exact b (f _ r)
theorem RE.fz (h : RE K H σ env ((v, d) :: L)) : RE K H σ env ((v, d.fz) :: L) := h.lift (L1 := [(v, d)]) (L2 := [(v, d.fz)]) fun _ r => r.fz
theorem RE.dup (h : RE K H σ env ((v, d) :: L)) (e : d.isFz = true) : RE K H σ env ((v, d) :: (v, d) :: L) := h.lift (L1 := [(v, d)]) (L2 := [(v, d), (v, d)]) fun _ r => r.dup e
theorem RE.take (h : RE K H σ env L) (e : env[i]? = some (some d)) : ∃ v, σ[i]? = some (some v) ∧ RE K H σ (env.set i none) ((v, d) :: L) := by
  obtain ⟨l, s, r⟩ := h
  obtain ⟨v, l', a, b, c⟩ := s.take e
  exact ⟨v, a, l', c, r.perm ((b.append_right L).trans List.perm_middle.symm)⟩
theorem lt_of {α : Type} {l : List α} {i : Nat} {a : α} (h : l[i]? = some a) : i < l.length := (List.getElem?_eq_some_iff.mp h).1
theorem set_self {α : Type} {l : List α} {i : Nat} {a : α} (h : l[i]? = some a) : l.set i a = l := by
  apply List.ext_getElem? ; intro j
  by_cases e : i = j
  · subst e; rw [List.getElem?_set_self (lt_of h), h]
  · rw [List.getElem?_set_ne e]
/-- a name is stored -/
theorem RE.store (h : RE K H σ env ((v, d) :: L)) : RE K H (σ.set i (some v)) (env.set i (some d)) L := by
  obtain ⟨l, s, r⟩ := h
  by_cases hi : i < env.length
  · obtain ⟨l1, l', a, b⟩ := s.drop none i
    have e : (env.set i none)[i]? = some none := List.getElem?_set_self hi
    obtain ⟨l2, p, q⟩ := b.add v d e
    rw [List.set_set, List.set_set] at q
    refine ⟨l2, q, ?_⟩
    have r1 : R K H (l1 ++ (l' ++ (v, d) :: L)) := by
      rw [← List.append_assoc]
      exact r.perm (a.append_right _)
    exact r1.right.perm (List.perm_middle.trans (p.append_right L).symm)
  · have e1 : env.set i (some d) = env := List.set_eq_of_length_le (by omega)
    have e2 : σ.set i (some v) = σ := List.set_eq_of_length_le (by rw [s.len]; omega)
    rw [e1, e2]
    exact RE.tail ⟨l, s, r⟩
/-- what was taken out of a slot is put back -/
theorem RE.back (h : RE K H σ env ((v, d) :: L)) (e : σ[i]? = some (some v)) : RE K H σ (env.set i (some d)) L := by
  have z := h.store (i := i)
  rw [set_self e] at z
  exact z
theorem RE.drop (h : RE K H σ env L) (w : Option V) : RE K H (σ.set i w) (env.set i none) L := by
  obtain ⟨l, s, r⟩ := h
  obtain ⟨l1, l', a, b⟩ := s.drop w i
  refine ⟨l', b, ?_⟩
  have r1 : R K H (l1 ++ (l' ++ L)) := by
    rw [← List.append_assoc]
    exact r.perm (a.append_right _)
  exact r1.right
def wipeE (env : Env) : List Nat → Env
  | [] => env
  | v :: vs => (wipeE env vs).set v none
theorem RE.wipe (h : RE K H σ env L) : ∀ vs, RE K H (wipe σ vs) (wipeE env vs) L
  | [] => h
  | v :: vs => (RE.wipe h vs).drop none
theorem wipeE_len (env : Env) : ∀ vs, (wipeE env vs).length = env.length
  | [] => rfl
  | v :: vs => by rw [wipeE, List.length_set, wipeE_len env vs]
theorem wipeE_at {env : Env} {i : Nat} {d : D} : ∀ {vs : List Nat}, (wipeE env vs)[i]? = some (some d) → i ∉ vs
  | [], _ => by simp
  | v :: vs, h => by
    rw [wipeE] at h
    by_cases e : v = i
    · subst e
      by_cases l : v < (wipeE env vs).length
      · rw [List.getElem?_set_self l] at h; cases h
      · rw [List.getElem?_eq_none_iff.mpr (by rw [List.length_set]; omega)] at h; cases h
    · rw [List.getElem?_set_ne e] at h
      have := wipeE_at h
      simp only [List.mem_cons, not_or]
      exact ⟨fun q => e q.symm, this⟩
theorem RE.any (h : RE K H σ env L) (e : σ'.length = σ.length) (k : ∀ (i : Nat) (d : D), env[i]? = some (some d) → σ'[i]? = σ[i]?) : RE K H σ' env L := by
  obtain ⟨l, s, r⟩ := h
  exact ⟨l, s.any e k, r⟩
/-- out of a comprehension: the slots of its own are as they were -/
theorem RE.unwipe {vs : List Nat} (h : RE K H (L2.wipe σ vs) (wipeE env vs) L) : RE K H σ (wipeE env vs) L := by
  refine h.any (wipe_length _ _).symm fun i d e => ?_
  exact (wipe_out (wipeE_at e)).symm
end

/-! ### expressions -/
def DenE (K : Fk) (t : TE) (m : EM D) : Prop := ∀ (σ : St) (H : Hp) (env : Env) (L : List (V × D)) (d : D) (env' : Env) (Q : VK), RE K H σ env L → m env = some (d, env') →
  (∀ v H', RE K H' σ env' ((v, d) :: L) → Q v H') → t σ H Q
def DenT (K : Fk) (t : TT) (m : EM Bool) : Prop := ∀ (σ : St) (H : Hp) (env : Env) (L : List (V × D)) (b : Bool) (env' : Env) (Q : Bool → Hp → Prop), RE K H σ env L → m env = some (b, env') →
  (∀ H', RE K H' σ env' L → Q b H') → t σ H Q
/-- a part of a thing: its head, what stands ahead of the part, the part, what stands behind -/
structure Part where
  m : Bool
  h : Hd
  l : List D
  r : List D
abbrev Sel := D → Option (D × Part)
def Part.fill (p : Part) (d : D) : D := .nd p.m p.h (p.l ++ d :: p.r)
def SelOk (f : Sel) : Prop := ∀ d c p, f d = some (c, p) → d = p.fill c
/-- an argument: a value; the thing in a slot itself; a part of it. The latter may come back changed -/
inductive Arg where
  | ex (m : EM D)
  | sl (i : Nat)
  | pt (i : Nat) (f : EM Sel)
def slTake (i : Nat) : EM D := fun env => match env[i]? with
  | some (some d) => some (d, env.set i none)
  | _ => none
theorem slTake_eq {i : Nat} {env env' : Env} {d : D} (h : slTake i env = some (d, env')) : env[i]? = some (some d) ∧ env' = env.set i none := by
  unfold slTake at h
  cases e : env[i]? with
  | none => rw [e] at h; cases h
  | some o =>
    cases o with
    | none => rw [e] at h; cases h
    | some d' => rw [e] at h; cases h; exact ⟨rfl, rfl⟩
def Arg.ev : Arg → Env → Option (D × Option Part × Env)
  | .ex m => fun env => match m env with
    | some (d, e) => some (d, none, e)
    | none => none
  | .sl i => fun env => match slTake i env with
    | some (d, e) => some (d, none, e)
    | none => none
  | .pt i f => fun env => match slTake i env with
    | some (d, e) => match f e with
      | some (sel, e1) => match sel d with
        | some (c, p) => some (c, some p, e1)
        | none => none
      | none => none
    | none => none
theorem ev_ex {m : EM D} {env e : Env} {d : D} {p : Option Part} (h : (Arg.ex m).ev env = some (d, p, e)) : m env = some (d, e) ∧ p = none := by
  simp only [Arg.ev] at h
  cases q : m env with
  | none => rw [q] at h; cases h
  | some x => obtain ⟨a, b⟩ := x; rw [q] at h; cases h; exact ⟨rfl, rfl⟩
theorem ev_sl {i : Nat} {env e : Env} {d : D} {p : Option Part} (h : (Arg.sl i).ev env = some (d, p, e)) : slTake i env = some (d, e) ∧ p = none := by
  simp only [Arg.ev] at h
  cases q : slTake i env with
  | none => rw [q] at h; cases h
  | some x => obtain ⟨a, b⟩ := x; rw [q] at h; cases h; exact ⟨rfl, rfl⟩
theorem ev_pt {i : Nat} {f : EM Sel} {env e : Env} {d : D} {p : Option Part} (h : (Arg.pt i f).ev env = some (d, p, e)) : ∃ d0 e0 sel p0, slTake i env = some (d0, e0) ∧ f e0 = some (sel, e) ∧ sel d0 = some (d, p0) ∧ p = some p0 := by
  simp only [Arg.ev] at h
  cases q : slTake i env with
  | none => rw [q] at h; cases h
  | some x =>
    obtain ⟨a, b⟩ := x
    rw [q] at h
    simp only at h
    cases q1 : f b with
    | none => rw [q1] at h; cases h
    | some y =>
      obtain ⟨sel, e1⟩ := y
      rw [q1] at h
      simp only at h
      cases q2 : sel a with
      | none => rw [q2] at h; cases h
      | some z => obtain ⟨c, p0⟩ := z; rw [q2] at h; cases h; exact ⟨a, b, sel, p0, rfl, q1, q2, rfl⟩
def evs : List Arg → Env → Option (List D × List (Option Part) × Env)
  | [], env => some ([], [], env)
  | a :: as, env => match a.ev env with
    | some (d, p, e1) => match evs as e1 with
      | some (ds, ps, e2) => some (d :: ds, p :: ps, e2)
      | none => none
    | none => none
def putB : List Arg → List (Option Part) → List D → Env → Env
  | .sl i :: as, _ :: ps, d :: ds, env => putB as ps ds (env.set i (some d))
  | .pt i _ :: as, some p :: ps, d :: ds, env => putB as ps ds (env.set i (some (p.fill d)))
  | _ :: as, _ :: ps, _ :: ds, env => putB as ps ds env
  | _, _, _, env => env
def mApp (fm : List D → Option (D × List D)) (as : List Arg) : EM D := fun env => match evs as env with
  | some (ds, ps, e1) => match fm ds with
    | some (d, os) => if os.length = ds.length then some (d, putB as ps os e1) else none
    | none => none
  | none => none
/-- how the arguments' values stand in the slots; M: the things whose parts are out -/
inductive SlOk (σ : St) : List Arg → List V → List (Option Part) → List (V × D) → Prop
  | nil : SlOk σ [] [] [] []
  | ex {m : EM D} {as : List Arg} {v : V} {vs : List V} {ps : List (Option Part)} {M : List (V × D)} : SlOk σ as vs ps M → SlOk σ (.ex m :: as) (v :: vs) (none :: ps) M
  | sl {i : Nat} {as : List Arg} {v : V} {vs : List V} {ps : List (Option Part)} {M : List (V × D)} : σ[i]? = some (some v) → SlOk σ as vs ps M → SlOk σ (.sl i :: as) (v :: vs) (none :: ps) M
  | pt {i : Nat} {f : EM Sel} {as : List Arg} {u v : V} {vs : List V} {p : Part} {ps : List (Option Part)} {M : List (V × D)} : σ[i]? = some (some u) → SlOk σ as vs ps M → SlOk σ (.pt i f :: as) (v :: vs) (some p :: ps) ((u, p.fill (.hole v)) :: M)
def DenArg (K : Fk) (t : TE) (a : Arg) : Prop := ∀ (σ : St) (H : Hp) (env : Env) (L : List (V × D)) (d : D) (p : Option Part) (env' : Env) (Q : VK), RE K H σ env L → a.ev env = some (d, p, env') →
  (∀ v M H', SlOk σ [a] [v] [p] M → RE K H' σ env' ((v, d) :: (M ++ L)) → Q v H') → t σ H Q
def DenA (K : Fk) (t : TA) (as : List Arg) : Prop := ∀ (σ : St) (H : Hp) (env : Env) (L : List (V × D)) (ds : List D) (ps : List (Option Part)) (env' : Env) (Q : List V → Hp → Prop), RE K H σ env L → evs as env = some (ds, ps, env') →
  (∀ vs M H', vs.length = ds.length → SlOk σ as vs ps M → RE K H' σ env' (vs.zip ds ++ (M ++ L)) → Q vs H') → t σ H Q
/-- an operation on values -/
def DenR (K : Fk) (r : List V → Hp → VK → Prop) (fm : List D → Option (D × List D)) : Prop := ∀ (vs : List V) (ds : List D) (H : Hp) (L : List (V × D)) (d : D) (os : List D) (Q : VK), vs.length = ds.length → R K H (vs.zip ds ++ L) →
  fm ds = some (d, os) → (∀ v H', R K H' ((v, d) :: (vs.zip os ++ L)) → Q v H') → r vs H Q
section
variable {K : Fk} {t ta tb : TE} {a b : Arg} {as : List Arg}
theorem DenE.arg {m : EM D} (h : DenE K t m) : DenArg K t (.ex m) := fun σ H env L d p env' Q re e k => by
  obtain ⟨q, rfl⟩ := ev_ex e
  exact h σ H env L _ _ Q re q fun v H' r => k v [] H' (.ex .nil) r
theorem den_sl {i : Nat} : DenArg K (tVar i) (.sl i) := by
  intro σ H env L d p env' Q re e k
  obtain ⟨q, rfl⟩ := ev_sl e
  obtain ⟨hd, rfl⟩ := slTake_eq q
  obtain ⟨v, hv, r⟩ := re.take hd
  exact ⟨v, hv, k v [] H (.sl hv .nil) r⟩
theorem da_nil : DenA K tNil [] := fun σ H env L ds ps env' Q re e k => by
  cases e
  exact k [] [] H rfl .nil re
theorem slOk_cons {σ : St} {v : V} {vs : List V} {p : Option Part} {ps : List (Option Part)} {M N : List (V × D)} (h1 : SlOk σ [a] [v] [p] M) (h2 : SlOk σ as vs ps N) : SlOk σ (a :: as) (v :: vs) (p :: ps) (M ++ N) := by
  cases h1 with
  | ex h => cases h; exact .ex h2
  | sl e h => cases h; exact .sl e h2
  | pt e h => cases h; exact .pt e h2
theorem da_cons {tr : TA} (h1 : DenArg K t a) (h2 : DenA K tr as) : DenA K (tCons t tr) (a :: as) := by
  intro σ H env L ds ps env' Q re e k
  unfold evs at e
  split at e
  · rename_i d p e1 ed
    split at e
    · rename_i ds1 ps1 e2 eds
      cases e
      refine h1 σ H env L d p e1 _ re ed fun v M H1 hs r1 => ?_
      refine h2 σ H1 e1 _ ds1 ps1 _ _ r1 eds fun vs N H2 hl hs2 r2 => ?_
      refine k (v :: vs) (M ++ N) H2 (by simp [hl]) (slOk_cons hs hs2) ?_
      refine RE.perm ?_ r2
      show (vs.zip ds1 ++ (N ++ (v, d) :: (M ++ L))).Perm ((v, d) :: (vs.zip ds1 ++ (M ++ N ++ L)))
      refine List.Perm.trans (List.Perm.append_left _ List.perm_middle) ?_
      refine List.Perm.trans List.perm_middle (List.Perm.cons _ (List.Perm.append_left _ ?_))
      rw [List.append_assoc]
      exact pc3 N M L
    · cases e
  · cases e
theorem RE.putB {K : Fk} {H : Hp} {σ : St} {L : List (V × D)} {as : List Arg} {vs : List V} {ps : List (Option Part)} {M : List (V × D)} (hs : SlOk σ as vs ps M) : ∀ {os : List D} {env : Env}, RE K H σ env (vs.zip os ++ (M ++ L)) → os.length = vs.length → RE K H σ (putB as ps os env) L := by
  induction hs with
  | nil =>
    intro os env h hl
    cases os with
    | nil => exact h
    | cons o os => cases hl
  | ex hs ih =>
    intro os env h hl
    cases os with
    | nil => cases hl
    | cons o os =>
      simp only [VH.putB]
      exact ih (RE.tail h) (by simpa using hl)
  | sl e hs ih =>
    intro os env h hl
    cases os with
    | nil => cases hl
    | cons o os =>
      simp only [VH.putB]
      exact ih (RE.back h e) (by simpa using hl)
  | pt e hs ih =>
    rename_i i f as u v vs p ps M
    intro os env h hl
    cases os with
    | nil => cases hl
    | cons o os =>
      simp only [VH.putB]
      have r : RE K H σ env ((u, p.fill o) :: (vs.zip os ++ (M ++ L))) := by
        refine RE.lift (L1 := [(v, o), (u, p.fill (.hole v))]) (L2 := [(u, p.fill o)]) (L := vs.zip os ++ (M ++ L)) (RE.perm ?_ h) fun N r => R.unfocus r
        show ((v, o) :: (vs.zip os ++ ((u, p.fill (.hole v)) :: M ++ L))).Perm ((v, o) :: (u, p.fill (.hole v)) :: (vs.zip os ++ (M ++ L)))
        exact List.Perm.cons _ List.perm_middle
      exact ih (r.back e) (by simpa using hl)
/-- a part of the thing in a slot -/
theorem RE.part {H : Hp} {σ : St} {env : Env} {L : List (V × D)} {u : V} {c : D} {p : Part} (h : RE K H σ env ((u, p.fill c) :: L)) : ∃ w, RE K H σ env ((w, c) :: (u, p.fill (.hole w)) :: L) := by
  obtain ⟨l, q, b⟩ := RE.to (L := [(u, p.fill c)]) h
  obtain ⟨w, r⟩ := R.focus q
  exact ⟨w, b (L1 := [(w, c), (u, p.fill (.hole w))]) r⟩
end
end VH

/-! The pieces of expressions, tests, statements. -/
namespace VH
open PySem L2
variable {K : Fk}

/-! ### names, constants, operations -/
/-- a name: what it holds is frozen, and used -/
def mVar (i : Nat) : EM D := fun env => match slTake i env with
  | some (d, _) => some (d.fz, env.set i (some d.fz))
  | none => none
theorem den_var {i : Nat} : DenE K (tVar i) (mVar i) := by
  intro σ H env L d env' Q re e k
  unfold mVar at e
  split at e
  · rename_i d0 e0 h0
    cases e
    obtain ⟨hd, rfl⟩ := slTake_eq h0
    obtain ⟨v, hv, r⟩ := re.take hd
    refine ⟨v, hv, k v H ?_⟩
    have r1 := r.fz.dup (D.isFz_fz d0)
    have r2 := r1.back hv
    rw [List.set_set] at r2
    exact r2
  · cases e
/-- a name whose thing is handed on and not used again -/
theorem den_mov {i : Nat} : DenE K (tVar i) (slTake i) := by
  intro σ H env L d env' Q re e k
  obtain ⟨hd, rfl⟩ := slTake_eq e
  obtain ⟨v, hv, r⟩ := re.take hd
  exact ⟨v, hv, k v H r⟩
def mC (d : D) : EM D := fun env => some (d, env)
theorem RE.atom {H : Hp} {σ : St} {env : Env} {L : List (V × D)} {v : V} {d : D} (h : RE K H σ env L) (a : Atom v d) : RE K H σ env ((v, d) :: L) :=
  h.lift (L1 := []) (L2 := [(v, d)]) fun _ r => r.atom a
theorem den_c {v : V} {d : D} (a : Atom v d) : DenE K (tC v) (mC d) := by
  intro σ H env L d' env' Q re e k
  cases e
  exact k v H (re.atom a)
theorem den_int {i : Int} : DenE K (tC (.int i)) (mC (.int i)) := den_c (.int i)
theorem den_bl {b : Bool} : DenE K (tC (.bl b)) (mC (.bl b)) := den_c (.bl b)
theorem den_str {x : Str} : DenE K (tC (.str x)) (mC (.str x)) := den_c (.str x)
theorem den_non : DenE K (tC .non) (mC .non) := den_c .non
theorem mApp_eq {fm : List D → Option (D × List D)} {as : List Arg} {env env' : Env} {d : D} (h : mApp fm as env = some (d, env')) : ∃ ds ps e1 os, evs as env = some (ds, ps, e1) ∧ fm ds = some (d, os) ∧ os.length = ds.length ∧ env' = putB as ps os e1 := by
  unfold mApp at h
  split at h
  · rename_i ds ps e1 h1
    split at h
    · rename_i d0 os h2
      split at h
      · rename_i hl
        cases h
        exact ⟨ds, ps, e1, os, h1, h2, hl, rfl⟩
      · cases h
    · cases h
  · cases h
/-- what is done with an argument list -/
theorem den_app {t : TA} {as : List Arg} {r : List V → Hp → VK → Prop} {fm : List D → Option (D × List D)} (ht : DenA K t as) (hr : DenR K r fm) : DenE K (tCB r t) (mApp fm as) := by
  intro σ H env L d env' Q re e k
  obtain ⟨ds, ps, e1, os, h1, h2, h3, rfl⟩ := mApp_eq e
  refine ht σ H env L ds ps e1 _ re h1 fun vs M H1 hl hs r1 => ?_
  obtain ⟨l, q, b⟩ := r1.to
  refine hr vs ds H1 _ d os Q hl q h2 fun v H2 q2 => k v H2 ?_
  have q3 : RE K H2 σ e1 (((v, d) :: vs.zip os) ++ (M ++ L)) := b (H' := H2) (L1 := (v, d) :: vs.zip os) (by simpa using q2)
  refine RE.putB hs (L := (v, d) :: L) (RE.perm ?_ q3) (h3.trans hl.symm)
  show ((v, d) :: (vs.zip os ++ (M ++ L))).Perm (vs.zip os ++ (M ++ (v, d) :: L))
  exact (List.Perm.append_left _ List.perm_middle).trans List.perm_middle |>.symm
abbrev r2L (r : R2) : List V → Hp → VK → Prop := fun vs H Q => match vs with
  | [x, y] => r x y H Q
  | _ => False
abbrev r1L (r : V → Hp → VK → Prop) : List V → Hp → VK → Prop := fun vs H Q => match vs with
  | [x] => r x H Q
  | _ => False
abbrev rML (r : V → List V → Hp → VK → Prop) : List V → Hp → VK → Prop := fun vs H Q => match vs with
  | x :: xs => r x xs H Q
  | _ => False
theorem den_op {ta tb : TE} {a b : Arg} {r : R2} {fm : List D → Option (D × List D)} (hr : DenR K (r2L r) fm) (ha : DenArg K ta a) (hb : DenArg K tb b) : DenE K (tOp r ta tb) (mApp fm [a, b]) := by
  intro σ H env L d env' Q re e k
  exact den_app (da_cons ha (da_cons hb da_nil)) hr σ H env L d env' Q re e k
theorem den_un {ta : TE} {a : Arg} {r : V → Hp → VK → Prop} {fm : List D → Option (D × List D)} (hr : DenR K (r1L r) fm) (ha : DenArg K ta a) : DenE K (tUn r ta) (mApp fm [a]) := by
  intro σ H env L d env' Q re e k
  exact den_app (da_cons ha da_nil) hr σ H env L d env' Q re e k
/-- a built-in's method -/
theorem den_bm {T : String} {to : TE} {t : TA} {a : Arg} {as : List Arg} {r : V → List V → Hp → VK → Prop} {fm : List D → Option (D × List D)}
    (hT : ∀ x d ds z H L, R K H ((x, d) :: L) → fm (d :: ds) = some z → tyV K T x H) (hr : DenR K (rML r) fm) (ho : DenArg K to a) (ht : DenA K t as) : DenE K (tBM K T r to t) (mApp fm (a :: as)) := by
  intro σ H env L d env' Q re e k
  obtain ⟨ds, ps, e1, os, h1, h2, hlo, rfl⟩ := mApp_eq e
  unfold evs at h1
  split at h1
  · rename_i d0 p0 e0 h0
    split at h1
    · rename_i ds0 ps0 e2 h3
      cases h1
      refine ho σ H env L d0 p0 e0 _ re h0 fun x M H1 hs1 r1 => ⟨?_, ?_⟩
      · obtain ⟨l, q, b⟩ := RE.to (L := [(x, d0)]) r1
        exact hT x d0 ds0 (d, os) H1 _ q h2
      · refine ht σ H1 e0 _ ds0 ps0 e1 _ r1 h3 fun vs N H2 hl hs2 r2 => ?_
        have r3 : RE K H2 σ e1 ((x :: vs).zip (d0 :: ds0) ++ ((M ++ N) ++ L)) := by
          refine RE.perm ?_ r2
          show (vs.zip ds0 ++ (N ++ (x, d0) :: (M ++ L))).Perm ((x, d0) :: (vs.zip ds0 ++ (M ++ N ++ L)))
          refine List.Perm.trans (List.Perm.append_left _ List.perm_middle) ?_
          refine List.Perm.trans List.perm_middle (List.Perm.cons _ (List.Perm.append_left _ ?_))
          rw [List.append_assoc]
          exact pc3 N M L
        obtain ⟨l, q, b⟩ := RE.to r3
        refine hr (x :: vs) (d0 :: ds0) H2 _ d os Q (by simp [hl]) q h2 fun v H3 q2 => k v H3 ?_
        have q3 := b (H' := H3) (L1 := (v, d) :: (x :: vs).zip os) (by simpa using q2)
        refine RE.putB (slOk_cons hs1 hs2) (L := (v, d) :: L) (RE.perm ?_ q3) (by simp [hlo, hl])
        show ((v, d) :: ((x :: vs).zip os ++ ((M ++ N) ++ L))).Perm ((x :: vs).zip os ++ ((M ++ N) ++ (v, d) :: L))
        exact (List.Perm.append_left _ List.perm_middle).trans List.perm_middle |>.symm
    · cases h1
  · cases h1
theorem den_bm0 {T : String} {to : TE} {a : Arg} {r : V → List V → Hp → VK → Prop} {fm : List D → Option (D × List D)}
    (hT : ∀ x d ds z H L, R K H ((x, d) :: L) → fm (d :: ds) = some z → tyV K T x H) (hr : DenR K (rML r) fm) (ho : DenArg K to a) : DenE K (tBM0 K T r to) (mApp fm [a]) := by
  intro σ H env L d env' Q re e k
  exact den_bm hT hr ho da_nil σ H env L d env' Q re e k
/-! ### values of one kind -/
theorem RE.val {H : Hp} {σ : St} {env : Env} {L : List (V × D)} {v : V} {d : D} (h : RE K H σ env ((v, d) :: L)) : ∃ M, R K H ((v, d) :: M) := by
  obtain ⟨l, q, b⟩ := RE.to (L := [(v, d)]) h
  exact ⟨_, q⟩
theorem RE.vbl {H : Hp} {σ : St} {env : Env} {L : List (V × D)} {v : V} {b : Bool} (h : RE K H σ env ((v, .bl b) :: L)) : v = .bl b := h.val.choose_spec.vbl
/-! ### tests -/
def mTest (m : EM D) : EM Bool := fun env => match m env with
  | some (.bl b, e) => some (b, e)
  | _ => none
theorem mTest_eq {m : EM D} {env env' : Env} {b : Bool} (h : mTest m env = some (b, env')) : m env = some (.bl b, env') := by
  unfold mTest at h
  split at h
  · cases h; assumption
  · cases h
theorem den_test {t : TE} {m : EM D} (h : DenE K t m) : DenT K (tTest t) (mTest m) := by
  intro σ H env L b env' Q re e k
  refine h σ H env L _ env' _ re (mTest_eq e) fun v H' r => ?_
  obtain rfl := r.vbl
  exact ⟨b, rfl, k H' r.tail⟩
theorem den_tB {t : TE} {m : EM D} (h : DenE K t m) : DenT K (tB t) (mTest m) := den_test h
/-- by truth -/
def D.tru : D → Option Bool
  | .non => some false
  | .bl b => some b
  | .int i => some (i != 0)
  | .str x => if x.length ≤ sizeLine then some (x.length != 0) else none
  | .nd _ .tup xs => some (!xs.isEmpty)
  | .nd _ .lst xs => some (!xs.isEmpty)
  | _ => none
def mAndT (m u : EM Bool) : EM Bool := fun env => match m env with
  | some (true, e) => u e
  | some (false, e) => some (false, e)
  | none => none
def mOrT (m u : EM Bool) : EM Bool := fun env => match m env with
  | some (true, e) => some (true, e)
  | some (false, e) => u e
  | none => none
def mNotT (m : EM Bool) : EM Bool := fun env => match m env with
  | some (b, e) => some (!b, e)
  | none => none
theorem den_and {t u : TT} {m n : EM Bool} (h1 : DenT K t m) (h2 : DenT K u n) : DenT K (tAnd t u) (mAndT m n) := by
  intro σ H env L b env' Q re e k
  unfold mAndT at e
  split at e
  · rename_i e1 q
    exact h1 σ H env L true e1 _ re q fun H' r => iteT (h2 σ H' e1 L b env' Q r e k)
  · rename_i e1 q
    cases e
    exact h1 σ H env L false _ _ re q fun H' r => iteF (k H' r)
  · cases e
theorem den_or {t u : TT} {m n : EM Bool} (h1 : DenT K t m) (h2 : DenT K u n) : DenT K (tOr t u) (mOrT m n) := by
  intro σ H env L b env' Q re e k
  unfold mOrT at e
  split at e
  · rename_i e1 q
    cases e
    exact h1 σ H env L true _ _ re q fun H' r => iteT (k H' r)
  · rename_i e1 q
    exact h1 σ H env L false e1 _ re q fun H' r => iteF (h2 σ H' e1 L b env' Q r e k)
  · cases e
theorem den_not {t : TT} {m : EM Bool} (h1 : DenT K t m) : DenT K (tNot t) (mNotT m) := by
  intro σ H env L b env' Q re e k
  unfold mNotT at e
  split at e
  · rename_i b1 e1 q
    cases e
    exact h1 σ H env L b1 _ _ re q fun H' r => k H' r
  · cases e
/-- and, or, not as values of tests -/
def mAndV (m n : EM D) : EM D := fun env => match m env with
  | some (.bl true, e) => n e
  | some (.bl false, e) => some (.bl false, e)
  | _ => none
def mOrV (m n : EM D) : EM D := fun env => match m env with
  | some (.bl true, e) => some (.bl true, e)
  | some (.bl false, e) => n e
  | _ => none
def mNotV (m : EM D) : EM D := fun env => match m env with
  | some (.bl b, e) => some (.bl (!b), e)
  | _ => none
theorem den_andV {t u : TE} {m n : EM D} (h1 : DenE K t m) (h2 : DenE K u n) : DenE K (tAndV t u) (mAndV m n) := by
  intro σ H env L d env' Q re e k
  unfold mAndV at e
  split at e
  · rename_i e1 q
    refine h1 σ H env L _ e1 _ re q fun v H' r => ?_
    obtain rfl := r.vbl
    exact ⟨true, rfl, iteT (h2 σ H' e1 L d env' Q r.tail e k)⟩
  · rename_i e1 q
    cases e
    refine h1 σ H env L _ _ _ re q fun v H' r => ?_
    obtain rfl := r.vbl
    exact ⟨false, rfl, iteF (k _ H' r)⟩
  · cases e
theorem den_orV {t u : TE} {m n : EM D} (h1 : DenE K t m) (h2 : DenE K u n) : DenE K (tOrV t u) (mOrV m n) := by
  intro σ H env L d env' Q re e k
  unfold mOrV at e
  split at e
  · rename_i e1 q
    cases e
    refine h1 σ H env L _ _ _ re q fun v H' r => ?_
    obtain rfl := r.vbl
    exact ⟨true, rfl, iteT (k _ H' r)⟩
  · rename_i e1 q
    refine h1 σ H env L _ e1 _ re q fun v H' r => ?_
    obtain rfl := r.vbl
    exact ⟨false, rfl, iteF (h2 σ H' e1 L d env' Q r.tail e k)⟩
  · cases e
theorem den_notV {t : TE} {m : EM D} (h1 : DenE K t m) : DenE K (tNotV t) (mNotV m) := by
  intro σ H env L d env' Q re e k
  unfold mNotV at e
  split at e
  · rename_i b e1 q
    cases e
    refine h1 σ H env L _ _ _ re q fun v H' r => ?_
    obtain rfl := r.vbl
    exact ⟨b, rfl, k _ H' (r.tail.atom (.bl _))⟩
  · cases e
def mIfE (c : EM Bool) (m n : EM D) : EM D := fun env => match c env with
  | some (true, e) => m e
  | some (false, e) => n e
  | none => none
theorem den_ifE {c : TT} {t u : TE} {mc : EM Bool} {m n : EM D} (h0 : DenT K c mc) (h1 : DenE K t m) (h2 : DenE K u n) : DenE K (tIf c t u) (mIfE mc m n) := by
  intro σ H env L d env' Q re e k
  unfold mIfE at e
  split at e
  · rename_i e1 q
    exact h0 σ H env L true e1 _ re q fun H' r => iteT (h1 σ H' e1 L d env' Q r e k)
  · rename_i e1 q
    exact h0 σ H env L false e1 _ re q fun H' r => iteF (h2 σ H' e1 L d env' Q r e k)
  · cases e
/-! ### statements -/
/-- how a statement ends -/
inductive O where
  | nx (e : Env) | bk (e : Env) | ct (e : Env) | rt (d : D) (e : Env)
abbrev SM := Env → Option O
/-- the protected slots hold what they held -/
def Pvs (pv : List (Nat × V)) (σ : St) : Prop := ∀ p ∈ pv, σ[p.1]? = some (some p.2)
def EndOk (K : Fk) (pv : List (Nat × V)) (L : List (V × D)) (Z : Ends) : O → Prop
  | .nx e => ∀ σ' H', RE K H' σ' e L → Pvs pv σ' → Z.nx σ' H'
  | .bk e => ∀ σ' H', RE K H' σ' e L → Pvs pv σ' → Z.bk σ' H'
  | .ct e => ∀ σ' H', RE K H' σ' e L → Pvs pv σ' → Z.ct σ' H'
  | .rt d e => ∀ v σ' H', RE K H' σ' e ((v, d) :: L) → Pvs pv σ' → Z.rt v H'
def DenS (K : Fk) (io : List Nat) (t : TS) (m : SM) : Prop := ∀ (pv : List (Nat × V)), pv.map (·.1) = io → ∀ (σ : St) (H : Hp) (env : Env) (L : List (V × D)) (o : O) (Z : Ends), RE K H σ env L → Pvs pv σ → m env = some o → EndOk K pv L Z o → t Z σ H
/-- what is kept by stores to the slots ix -/
def Kept (ix : List Nat) (P : St → Prop) : Prop := ∀ (σ : St) (i : Nat) (w : Option V), i ∈ ix → P σ → P (σ.set i w)
def DenG (K : Fk) (ix : List Nat) (g : TG) (m : D → Env → Option Env) : Prop := ∀ (P : St → Prop), Kept ix P → ∀ (v : V) (d : D) (σ : St) (H : Hp) (env : Env) (L : List (V × D)) (env' : Env) (Q : St → Hp → Prop), RE K H σ env ((v, d) :: L) → P σ → m d env = some env' →
  (∀ σ' H', RE K H' σ' env' L → P σ' → Q σ' H') → g v σ H Q
def DenGs (K : Fk) (ix : List Nat) (g : TGs) (m : List D → Env → Option Env) : Prop := ∀ (P : St → Prop), Kept ix P → ∀ (vs : List V) (ds : List D) (σ : St) (H : Hp) (env : Env) (L : List (V × D)) (env' : Env) (Q : St → Hp → Prop), vs.length = ds.length → RE K H σ env (vs.zip ds ++ L) → P σ → m ds env = some env' →
  (∀ σ' H', RE K H' σ' env' L → P σ' → Q σ' H') → g vs σ H Q
theorem Pvs.set {pv : List (Nat × V)} {σ : St} {i : Nat} {w : Option V} (h : Pvs pv σ) (n : i ∉ pv.map (·.1)) : Pvs pv (σ.set i w) := fun p hp => by
  have ne : i ≠ p.1 := fun e => n (e ▸ List.mem_map_of_mem hp)
  rw [List.getElem?_set_ne ne]
  exact h p hp
def gmName (i : Nat) : D → Env → Option Env := fun d env => some (env.set i (some d))
theorem dg_name {i : Nat} : DenG K [i] (gName i) (gmName i) := by
  intro P hp v d σ H env L env' Q re p e k
  cases e
  exact k _ H re.store (hp σ i _ (List.mem_singleton.mpr rfl) p)
def gmNil : List D → Env → Option Env := fun ds env => match ds with
  | [] => some env
  | _ => none
def gmCons (m : D → Env → Option Env) (n : List D → Env → Option Env) : List D → Env → Option Env := fun ds env => match ds with
  | d :: ds => match m d env with
    | some e => n ds e
    | none => none
  | [] => none
theorem dgs_nil : DenGs K [] gNil gmNil := by
  intro P hp vs ds σ H env L env' Q hl re p e k
  unfold gmNil at e
  split at e
  · cases e
    have : vs = [] := List.length_eq_zero_iff.mp hl
    subst this
    exact ⟨rfl, k σ H re p⟩
  · cases e
theorem dgs_cons {ix jx : List Nat} {g : TG} {u : TGs} {m : D → Env → Option Env} {n : List D → Env → Option Env} (h1 : DenG K ix g m) (h2 : DenGs K jx u n) : DenGs K (ix ++ jx) (gCons g u) (gmCons m n) := by
  intro P hp vs ds σ H env L env' Q hl re p e k
  unfold gmCons at e
  split at e
  · rename_i d ds
    split at e
    · rename_i e1 q
      cases vs with
      | nil => simp at hl
      | cons v vs =>
        refine ⟨v, vs, rfl, ?_⟩
        refine h1 P (fun σ i w h => hp σ i w (List.mem_append_left _ h)) v d σ H env _ e1 _ re p q fun σ1 H1 r1 P1 => ?_
        exact h2 P (fun σ i w h => hp σ i w (List.mem_append_right _ h)) vs ds σ1 H1 e1 L env' Q (by simpa using hl) r1 P1 e k
    · cases e
  · cases e
/-- a, b = a tuple -/
def gmTup (n : Nat) (m : List D → Env → Option Env) : D → Env → Option Env := fun d env => match d with
  | .nd b .tup xs => if xs.length = n then m xs env else none
  | _ => none
theorem R.tupAll {H : Hp} {L : List (V × D)} {v : V} {b : Bool} {h : Hd} {xs : List D} (r : R K H ((v, .nd b h xs) :: L)) : ∃ a o vs, v = .ref a ∧ RdH K H a o h ∧ Fits K a o h vs ∧ vs.length = xs.length ∧ R K H (vs.zip xs ++ L) := by
  obtain ⟨F, fp, s, o, n, f⟩ := r
  cases o with
  | cons a c =>
    cases a with
    | atom z => cases z
    | own h1 h2 h3 =>
      rename_i fp2 ad o ps fp1
      refine ⟨ad, o, ps.map (·.1), rfl, RdH.of h2 h1, h2, by simp, F, fp1 ++ fp2, s, ?_, ?_, ?_⟩
      · rw [List.zip_map', List.map_id']
        exact h3.append c
      · have n' : (fp1 ++ fp2).Nodup := (List.nodup_cons.mp (by simpa using n)).2
        exact n'
      · intro x hx
        exact f x (by simpa using Or.inr (by simpa using hx))
    | frz h1 h2 h3 =>
      rename_i fp1 fp2 ad o ps
      refine ⟨ad, o, ps.map (·.1), rfl, h1.same s, h2, by simp, F, _, s, ?_, n, f⟩
      rw [List.zip_map', List.map_id']
      exact h3.append c
theorem dg_tup {ix : List Nat} {n : Nat} {u : TGs} {m : List D → Env → Option Env} (h : DenGs K ix u m) : DenG K ix (gTup K n u) (gmTup n m) := by
  intro P hp v d σ H env L env' Q re p e k
  unfold gmTup at e
  split at e
  · rename_i b xs
    split at e
    · rename_i hn
      obtain ⟨l, q, back⟩ := RE.to (L := [(v, .nd b .tup xs)]) re
      obtain ⟨a, o, vs, rfl, hr, hf, hl, r⟩ := R.tupAll q
      cases hf
      refine ⟨a, vs, rfl, SqT.of hr, by rw [hl, hn], ?_⟩
      exact h P hp vs xs σ H env L env' Q hl (back (H' := H) (L1 := vs.zip xs) r) p e k
    · cases e
  · cases e
/-! blocks -/
def sNext : SM := fun env => some (.nx env)
def sSeq (m n : SM) : SM := fun env => match m env with
  | some (.nx e) => n e
  | o => o
theorem ds_next {io : List Nat} : DenS K io tNext sNext := by
  intro pv hp σ H env L o Z re P e k
  cases e
  exact k σ H re P
theorem ds_seq {io : List Nat} {t u : TS} {m n : SM} (h1 : DenS K io t m) (h2 : DenS K io u n) : DenS K io (tSeq t u) (sSeq m n) := by
  intro pv hp σ H env L o Z re P e k
  unfold sSeq at e
  split at e
  · rename_i e1 q
    refine h1 pv hp σ H env L _ _ re P q ?_
    intro σ1 H1 r1 P1
    exact h2 pv hp σ1 H1 e1 L o Z r1 P1 e k
  · rename_i x hx
    refine h1 pv hp σ H env L o _ re P e ?_
    cases o with
    | nx e1 => exact absurd e (hx e1)
    | bk e1 => exact k
    | ct e1 => exact k
    | rt d e1 => exact k
def sBreak : SM := fun env => some (.bk env)
def sCont : SM := fun env => some (.ct env)
theorem ds_break {io : List Nat} : DenS K io tBreak sBreak := by
  intro pv hp σ H env L o Z re P e k
  cases e
  exact k σ H re P
theorem ds_cont {io : List Nat} : DenS K io tCont sCont := by
  intro pv hp σ H env L o Z re P e k
  cases e
  exact k σ H re P
def sDrop (m : EM D) : SM := fun env => match m env with
  | some (_, e) => some (.nx e)
  | none => none
theorem ds_drop {io : List Nat} {t : TE} {m : EM D} (h : DenE K t m) : DenS K io (tDrop t) (sDrop m) := by
  intro pv hp σ H env L o Z re P e k
  unfold sDrop at e
  split at e
  · rename_i d e1 q
    cases e
    exact h σ H env L d e1 _ re q fun v H' r => k σ H' r.tail P
  · cases e
def sRet (m : EM D) : SM := fun env => match m env with
  | some (d, e) => some (.rt d e)
  | none => none
theorem ds_ret {io : List Nat} {t : TE} {m : EM D} (h : DenE K t m) : DenS K io (tRet t) (sRet m) := by
  intro pv hp σ H env L o Z re P e k
  unfold sRet at e
  split at e
  · rename_i d e1 q
    cases e
    exact h σ H env L d e1 _ re q fun v H' r => k v σ H' r P
  · cases e
def sRetN : SM := fun env => some (.rt .non env)
theorem ds_retN {io : List Nat} : DenS K io tRetN sRetN := by
  intro pv hp σ H env L o Z re P e k
  cases e
  exact k _ σ H (re.atom .non) P
def sIf (c : EM Bool) (m n : SM) : SM := fun env => match c env with
  | some (true, e) => m e
  | some (false, e) => n e
  | none => none
theorem ds_if {io : List Nat} {c : TT} {t u : TS} {mc : EM Bool} {m n : SM} (h0 : DenT K c mc) (h1 : DenS K io t m) (h2 : DenS K io u n) : DenS K io (tIfS c t u) (sIf mc m n) := by
  intro pv hp σ H env L o Z re P e k
  unfold sIf at e
  split at e
  · rename_i e1 q
    exact h0 σ H env L true e1 _ re q fun H' r => iteT (h1 pv hp σ H' e1 L o Z r P e k)
  · rename_i e1 q
    exact h0 σ H env L false e1 _ re q fun H' r => iteF (h2 pv hp σ H' e1 L o Z r P e k)
  · cases e
def sNever : SM := fun _ => none
theorem ds_never {io : List Nat} : DenS K io tNever sNever := by
  intro pv hp σ H env L o Z re P e k
  cases e
def sAsg (m : EM D) (g : D → Env → Option Env) : SM := fun env => match m env with
  | some (d, e) => match g d e with
    | some e' => some (.nx e')
    | none => none
  | none => none
def apart (ix io : List Nat) : Bool := ix.all fun i => !io.contains i
theorem kept_pvs {pv : List (Nat × V)} {io ix : List Nat} (hp : pv.map (·.1) = io) (hx : apart ix io = true) : Kept ix (Pvs pv) := fun σ i w hi p => p.set (by
  rw [hp]
  intro hm
  have z := List.all_eq_true.mp hx i hi
  rw [List.contains_iff_mem.mpr hm] at z
  cases z)
theorem ds_asg {io ix : List Nat} {t : TE} {g : TG} {m : EM D} {n : D → Env → Option Env} (h1 : DenE K t m) (h2 : DenG K ix g n) (hx : apart ix io = true) : DenS K io (tAsg t g) (sAsg m n) := by
  intro pv hp σ H env L o Z re P e k
  unfold sAsg at e
  split at e
  · rename_i d e1 q
    split at e
    · rename_i e2 q2
      cases e
      exact h1 σ H env L d e1 _ re q fun v H' r => h2 (Pvs pv) (kept_pvs hp hx) v d σ H' e1 L e2 _ r P q2 fun σ' H'' r' P' => k σ' H'' r' P'
    · cases e
  · cases e
/-- x op= e: as x = x op e by the operation's own rule -/
theorem ds_aug {io : List Nat} {i : Nat} {te : TE} {ti : TIp} {fm : List D → Option (D × List D)} {b : Arg} (n : apart [i] io = true) (hb : DenArg K te b) (hr : DenR K (r2L ti) fm) : DenS K io (tAug i te ti) (sAsg (mApp fm [.sl i, b]) (gmName i)) := by
  have key : DenE K (fun σ H Q => ∃ x, σ[i]? = some (some x) ∧ te σ H fun y H1 => ti x y H1 Q) (mApp fm [.sl i, b]) := by
    intro σ H env L d env' Q re e k
    exact den_app (da_cons den_sl (da_cons hb da_nil)) hr σ H env L d env' Q re e k
  intro pv hp σ H env L o Z re P e k
  exact ds_asg key dg_name n pv hp σ H env L o Z re P e k
end VH

/-! Loops, comprehensions, defs. -/
namespace VH
open PySem L2
variable {K : Fk}

/-- an iterator over data: S, what it reads, stands still -/
structure ItOk (K : Fk) (J : It) (S : List (V × D)) (ds : List D) : Prop where
  go : ∀ (i : Nat) (d : D) (H : Hp) (L : List (V × D)), ds[i]? = some d → R K H (S ++ L) → J.go i H ∧ ∀ x H', J.yld i H x H' → R K H' ((x, d) :: (S ++ L))
  stop : ∀ (i : Nat) (H : Hp) (L : List (V × D)), ds.length ≤ i → R K H (S ++ L) → J.stop i H
def DenI (K : Fk) (wi : TI) (m : EM (List D)) : Prop := ∀ (σ : St) (H : Hp) (env : Env) (L : List (V × D)) (ds : List D) (env' : Env) (Q : It → Hp → Prop), RE K H σ env L → m env = some (ds, env') →
  (∀ J S H', ItOk K J S ds → RE K H' σ env' (S ++ L) → Q J H') → wi σ H Q
theorem ItOk.goE {J : It} {S : List (V × D)} {ds : List D} (h : ItOk K J S ds) {i : Nat} {d : D} {H : Hp} {σ : St} {env : Env} {L : List (V × D)} (e : ds[i]? = some d) (r : RE K H σ env (S ++ L)) : J.go i H ∧ ∀ x H', J.yld i H x H' → RE K H' σ env ((x, d) :: (S ++ L)) := by
  obtain ⟨l, q, b⟩ := r.to
  obtain ⟨h1, h2⟩ := h.go i d H _ e q
  refine ⟨h1, fun x H' y => ?_⟩
  have := b (H' := H') (L1 := (x, d) :: S) (by simpa using h2 x H' y)
  simpa using this
theorem ItOk.stopE {J : It} {S : List (V × D)} {ds : List D} (h : ItOk K J S ds) {i : Nat} {H : Hp} {σ : St} {env : Env} {L : List (V × D)} (e : ds.length ≤ i) (r : RE K H σ env (S ++ L)) : J.stop i H := by
  obtain ⟨l, q, b⟩ := r.to
  exact h.stop i H _ e q

/-! ### for -/
def forL (g : D → Env → Option Env) (b : SM) : List D → SM
  | [], env => some (.nx env)
  | d :: ds, env => match g d env with
    | some e1 => match b e1 with
      | some (.nx e) => forL g b ds e
      | some (.ct e) => forL g b ds e
      | some (.bk e) => some (.nx e)
      | some (.rt d e) => some (.rt d e)
      | none => none
    | none => none
def sFor (it : EM (List D)) (g : D → Env → Option Env) (b : SM) : SM := fun env => match it env with
  | some (ds, e) => forL g b ds e
  | none => none
theorem drop_cons {α : Type} {l : List α} {i : Nat} (h : i < l.length) : l.drop i = l[i] :: l.drop (i + 1) := List.drop_eq_getElem_cons h
theorem ds_for {io ix : List Nat} {wi : TI} {g : TG} {tb : TS} {mi : EM (List D)} {mg : D → Env → Option Env} {mb : SM} (hi : DenI K wi mi) (hg : DenG K ix g mg) (hx : apart ix io = true) (hb : DenS K io tb mb) : DenS K io (tFor wi g tb) (sFor mi mg mb) := by
  intro pv hp σ H env L o Z re P e k
  unfold sFor at e
  split at e
  · rename_i ds e0 q
    refine hi σ H env L ds e0 _ re q fun J S H1 it r1 => ?_
    refine ⟨fun i m σ H => m = ds.length - i ∧ i ≤ ds.length ∧ ∃ env, RE K H σ env (S ++ L) ∧ Pvs pv σ ∧ forL mg mb (ds.drop i) env = some o, ⟨ds.length, by simp, Nat.zero_le _, e0, r1, P, by simpa using e⟩, ?_⟩
    rintro i m σ H ⟨rfl, hi, env, r, P, ef⟩
    by_cases hlt : i < ds.length
    · refine .inr ⟨(it.goE (List.getElem?_eq_getElem hlt) r).1, ?_⟩
      rw [drop_cons hlt] at ef
      unfold forL at ef
      refine ⟨fun σ' H' => ∃ env, RE K H' σ' env (S ++ L) ∧ Pvs pv σ' ∧ forL mg mb (ds.drop (i + 1)) env = some o, fun σ' H' ⟨env, a, b, c⟩ => ⟨ds.length - (i + 1), by omega, rfl, hlt, env, a, b, c⟩, fun x H' y => ?_⟩
      have r2 := (it.goE (List.getElem?_eq_getElem hlt) r).2 x H' y
      split at ef
      · rename_i e1 q1
        refine hg (Pvs pv) (kept_pvs hp hx) x _ σ H' env _ e1 _ r2 P q1 fun σ2 H2 r3 P2 => ?_
        split at ef
        · rename_i e2 q2
          exact hb pv hp σ2 H2 e1 _ _ _ r3 P2 q2 fun σ' H' r P => ⟨e2, r, P, ef⟩
        · rename_i e2 q2
          exact hb pv hp σ2 H2 e1 _ _ _ r3 P2 q2 fun σ' H' r P => ⟨e2, r, P, ef⟩
        · rename_i e2 q2
          cases ef
          exact hb pv hp σ2 H2 e1 _ _ _ r3 P2 q2 fun σ' H' r P => k σ' H' r.right P
        · rename_i d e2 q2
          cases ef
          exact hb pv hp σ2 H2 e1 _ _ _ r3 P2 q2 fun v σ' H' r P => k v σ' H' ((r.perm (by exact List.perm_middle.symm)).right) P
        · cases ef
      · cases ef
    · have hi' : i = ds.length := by omega
      subst hi'
      rw [List.drop_length] at ef
      cases ef
      exact .inl ⟨it.stopE (Nat.le_refl _) r, k σ H r.right P⟩
  · cases e
/-! ### while -/
def whileN (c : EM Bool) (b : SM) : Nat → SM
  | 0, _ => none
  | n + 1, env => match c env with
    | some (true, e) => match b e with
      | some (.nx e) => whileN c b n e
      | some (.ct e) => whileN c b n e
      | some (.bk e) => some (.nx e)
      | some (.rt d e) => some (.rt d e)
      | none => none
    | some (false, e) => some (.nx e)
    | none => none
theorem ds_while {io : List Nat} (n : Nat) {c : TT} {tb : TS} {mc : EM Bool} {mb : SM} (hc : DenT K c mc) (hb : DenS K io tb mb) : DenS K io (tWhile c tb) (whileN mc mb n) := by
  intro pv hp σ H env L o Z re P e k
  refine ⟨fun m σ H => ∃ env, RE K H σ env L ∧ Pvs pv σ ∧ whileN mc mb m env = some o, ⟨n, env, re, P, e⟩, ?_⟩
  rintro m σ H ⟨env, r, P, ef⟩
  cases m with
  | zero => cases ef
  | succ m =>
    unfold whileN at ef
    split at ef
    · rename_i e1 q1
      refine hc σ H env L true e1 _ r q1 fun H1 r1 => iteT ?_
      refine ⟨fun σ' H' => ∃ env, RE K H' σ' env L ∧ Pvs pv σ' ∧ whileN mc mb m env = some o, fun σ' H' h => ⟨m, Nat.lt_succ_self m, h⟩, ?_⟩
      split at ef
      · rename_i e2 q2
        exact hb pv hp σ H1 e1 _ _ _ r1 P q2 fun σ' H' r P => ⟨e2, r, P, ef⟩
      · rename_i e2 q2
        exact hb pv hp σ H1 e1 _ _ _ r1 P q2 fun σ' H' r P => ⟨e2, r, P, ef⟩
      · rename_i e2 q2
        cases ef
        exact hb pv hp σ H1 e1 _ _ _ r1 P q2 fun σ' H' r P => k σ' H' r P
      · rename_i d e2 q2
        cases ef
        exact hb pv hp σ H1 e1 _ _ _ r1 P q2 fun v σ' H' r P => k v σ' H' r P
      · cases ef
    · rename_i e1 q1
      cases ef
      exact hc σ H env L false _ _ r q1 fun H1 r1 => iteF (k σ H1 r1 P)
    · cases ef
/-! ### comprehensions -/
def compL (g : D → Env → Option Env) (c : EM Bool) (m : EM D) (vs : List Nat) : List D → Env → Option (List D × Env)
  | [], env => some ([], env)
  | d :: ds, env => match g d env with
    | some e1 => match c e1 with
      | some (true, e2) => match m e2 with
        | some (y, e3) => match compL g c m vs ds (wipeE e3 vs) with
          | some (ys, e4) => some (y :: ys, e4)
          | none => none
        | none => none
      | some (false, e2) => compL g c m vs ds (wipeE e2 vs)
      | none => none
    | none => none
def mComp (it : EM (List D)) (g : D → Env → Option Env) (c : EM Bool) (m : EM D) (vs : List Nat) : EM D := fun env => match it env with
  | some (ds, e0) => match compL g c m vs ds (wipeE e0 vs) with
    | some (ys, e1) => if ys.length ≤ sizeLine then some (.nd true .lst ys, e1) else none
    | none => none
  | none => none
theorem wipe_set {σ : St} {i : Nat} {w : Option V} : ∀ {vs : List Nat}, i ∈ vs → wipe (σ.set i w) vs = wipe σ vs
  | [], h => by cases h
  | v :: vs, h => by
    show (wipe (σ.set i w) vs).set v none = (wipe σ vs).set v none
    by_cases hv : i ∈ vs
    · rw [wipe_set hv]
    · have e : i = v := by
        rcases List.mem_cons.mp h with h | h
        · exact h
        · exact absurd h hv
      subst e
      apply List.ext_getElem?
      intro j
      by_cases hj : i = j
      · subst hj
        rw [List.getElem?_set, List.getElem?_set, wipe_length, wipe_length, List.length_set, if_pos rfl, if_pos rfl]
      · rw [List.getElem?_set_ne hj, List.getElem?_set_ne hj]
        by_cases hjv : j ∈ vs
        · have z : ∀ τ : St, τ.length = σ.length → (wipe τ vs)[j]? = if j < σ.length then some none else none := fun τ hl => by
            have key : ∀ {us : List Nat}, j ∈ us → (wipe τ us)[j]? = if j < σ.length then some none else none := by
              intro us
              induction us with
              | nil => intro h; cases h
              | cons u us ih =>
                intro h
                show ((wipe τ us).set u none)[j]? = _
                rw [List.getElem?_set, wipe_length, hl]
                by_cases hu : u = j
                · subst hu; rw [if_pos rfl]
                · rw [if_neg hu]
                  exact ih (by rcases List.mem_cons.mp h with h | h; exact absurd h.symm hu; exact h)
            exact key hjv
          rw [z _ (by rw [List.length_set]), z _ rfl]
        · rw [wipe_out hjv, wipe_out hjv, List.getElem?_set_ne hj]
/-- the env has nothing at the comprehension's own slots -/
def Bare (env : Env) (vs : List Nat) : Prop := ∀ (i : Nat) (d : D), env[i]? = some (some d) → i ∉ vs
theorem bare_wipe (env : Env) (vs : List Nat) : Bare (wipeE env vs) vs := fun _ _ e => wipeE_at e
theorem compL_bare {g : D → Env → Option Env} {c : EM Bool} {m : EM D} {vs : List Nat} : ∀ {ds : List D} {env : Env} {ys : List D} {env' : Env}, compL g c m vs ds env = some (ys, env') → Bare env vs → Bare env' vs
  | [], env, ys, env', e, b => by cases e; exact b
  | d :: ds, env, ys, env', e, b => by
    unfold compL at e
    split at e
    · split at e
      · split at e
        · split at e
          · rename_i q; cases e; exact compL_bare q (bare_wipe _ _)
          · cases e
        · cases e
      · exact compL_bare e (bare_wipe _ _)
      · cases e
    · cases e
theorem RE.unbare {H : Hp} {σ : St} {env : Env} {L : List (V × D)} {vs : List Nat} (h : RE K H (L2.wipe σ vs) env L) (b : Bare env vs) : RE K H σ env L :=
  h.any (wipe_length _ _).symm fun i d e => (wipe_out (b i d e)).symm
theorem R.sizeL {H : Hp} {L : List (V × D)} {v : V} {xs : List D} (r : R K H ((v, .nd true .lst xs) :: L)) : ∃ a vs, v = .ref a ∧ H a = some (.lst vs) ∧ vs.length = xs.length ∧ R K H ((.ref a, .rsv a) :: (vs.zip xs ++ L)) := by
  obtain ⟨a, o, ps, rfl, rfl, ho, hf, r1⟩ := r.open
  cases hf
  refine ⟨a, _, rfl, ho, by simp, ?_⟩
  rw [List.zip_map', List.map_id']
  exact r1
theorem map_zip1 : ∀ {vs : List V} {ds : List D}, vs.length = ds.length → (vs.zip ds).map (·.1) = vs
  | [], [], _ => rfl
  | v :: vs, d :: ds, h => by simp [map_zip1 (vs := vs) (ds := ds) (by simpa using h)]
  | [], _ :: _, h => by simp at h
  | _ :: _, [], h => by simp at h
theorem map_zip2 : ∀ {vs : List V} {ds : List D}, vs.length = ds.length → (vs.zip ds).map (·.2) = ds
  | [], [], _ => rfl
  | v :: vs, d :: ds, h => by simp [map_zip2 (vs := vs) (ds := ds) (by simpa using h)]
  | [], _ :: _, h => by simp at h
  | _ :: _, [], h => by simp at h
/-- one more at the end of a list of ours -/
theorem R.push {H : Hp} {L : List (V × D)} {a : Addr} {vs : List V} {xs : List D} {x : V} {d : D} (r : R K H ((x, d) :: (.ref a, .nd true .lst xs) :: L)) (ha : H a = some (.lst vs)) : vs.length = xs.length ∧ R K (L2.upd H a (.lst (vs ++ [x]))) ((.ref a, .nd true .lst (xs ++ [d])) :: L) := by
  obtain ⟨b, us, e, hb, hl, r1⟩ := R.sizeL (r.perm (.swap _ _ _))
  cases e
  rw [ha] at hb
  cases hb
  refine ⟨hl, ?_⟩
  have r2 : R K H ((.ref a, .rsv a) :: ((vs.zip xs ++ [(x, d)]) ++ L)) := r1.perm (List.Perm.cons _ (by simp))
  have r3 := r2.upd (o := .lst (vs ++ [x]))
  have e1 : (vs.zip xs ++ [(x, d)]).map (·.1) = vs ++ [x] := by rw [List.map_append, map_zip1 hl]; rfl
  have e2 : (vs.zip xs ++ [(x, d)]).map (·.2) = xs ++ [d] := by rw [List.map_append, map_zip2 hl]; rfl
  have r4 := r3.close (h := .lst) upd_same (by rw [e1]; exact .lst _)
  rw [e2] at r4
  exact r4
theorem den_comp {ix : List Nat} {wi : TI} {g : TG} {tt : TT} {te : TE} {vs : List Nat} {mi : EM (List D)} {mg : D → Env → Option Env} {mc : EM Bool} {me : EM D} (hi : DenI K wi mi) (hg : DenG K ix g mg) (hx : ix.all vs.contains = true) (hc : DenT K tt mc) (he : DenE K te me) :
    DenE K (tLc wi g tt te vs) (mComp mi mg mc me vs) := by
  intro σ H env L d env' Q re e k
  unfold mComp at e
  split at e
  · rename_i ds e0 q
    split at e
    · rename_i ys e1 q1
      split at e
      · rename_i hz
        cases e
        refine hi σ H env L ds e0 _ re q fun J S H1 it r1 => ?_
        intro Dp hD
        have hkept : Kept ix (fun τ : St => wipe τ vs = wipe σ vs) := fun τ i w h p => by
          have : i ∈ vs := List.contains_iff_mem.mp (List.all_eq_true.mp hx i h)
          show wipe (τ.set i w) vs = wipe σ vs
          rw [wipe_set this]; exact p
        refine ⟨fun i m H => m = ds.length - i ∧ i ≤ ds.length ∧ ∃ env done rest, RE K H (wipe σ vs) env (S ++ (.ref Dp, .nd true .lst done) :: L) ∧ compL mg mc me vs (ds.drop i) env = some (rest, env') ∧ done ++ rest = ys ∧ Bare env vs, ⟨ds.length, by simp, Nat.zero_le _, wipeE e0 vs, [], ys, ?_, by simpa using q1, rfl, bare_wipe _ _⟩, ?_⟩
        · have r2 : RE K (L2.upd H1 Dp (.lst [])) σ e0 ((.ref Dp, .nd true .lst []) :: (S ++ L)) := r1.lift (L1 := []) (L2 := [(.ref Dp, .nd true .lst [])]) fun M r => R.make (ps := []) (h := .lst) r hD (.lst [])
          exact (r2.wipe vs).perm (by exact List.perm_middle.symm)
        · rintro i m H ⟨rfl, hi, env, done, rest, r, ef, ey, hb⟩
          by_cases hlt : i < ds.length
          · refine .inr ⟨(it.goE (List.getElem?_eq_getElem hlt) r).1, ?_⟩
            rw [drop_cons hlt] at ef
            unfold compL at ef
            refine ⟨fun H => ∃ env done rest, RE K H (wipe σ vs) env (S ++ (.ref Dp, .nd true .lst done) :: L) ∧ compL mg mc me vs (ds.drop (i + 1)) env = some (rest, env') ∧ done ++ rest = ys ∧ Bare env vs, fun H' ⟨env, a, b, h⟩ => ⟨ds.length - (i + 1), by omega, rfl, hlt, env, a, b, h⟩, fun x H' y => ?_⟩
            have r2 := (it.goE (List.getElem?_eq_getElem hlt) r).2 x H' y
            split at ef
            · rename_i e2 q2
              refine hg _ hkept x _ (wipe σ vs) H' env _ e2 _ r2 (by
                have key : ∀ us : List Nat, (∀ u ∈ us, u ∈ vs) → wipe (wipe σ us) vs = wipe σ vs := by
                  intro us
                  induction us with
                  | nil => intro _; rfl
                  | cons u us ih =>
                    intro h
                    show wipe ((wipe σ us).set u none) vs = _
                    rw [wipe_set (h u List.mem_cons_self), ih fun w hw => h w (List.mem_cons_of_mem _ hw)]
                exact key vs fun _ h => h) q2 fun σ2 H2 r3 P2 => ⟨P2, ?_⟩
              split at ef
              · rename_i e3 q3
                refine hc σ2 H2 e2 _ true e3 _ r3 q3 fun H3 r4 => iteT ?_
                split at ef
                · rename_i y3 e4 q4
                  split at ef
                  · rename_i ys2 e5 q5
                    cases ef
                    refine he σ2 H3 e3 _ y3 e4 _ r4 q4 fun v H4 r5 => ?_
                    have r6 : RE K H4 σ2 e4 ([(v, y3), (.ref Dp, .nd true .lst done)] ++ (S ++ L)) := by
                      refine (r5.perm ?_)
                      exact List.Perm.cons _ (by exact List.perm_middle)
                    obtain ⟨l, q6, b6⟩ := r6.to
                    obtain ⟨a, us, ea, ha, hl, _⟩ := R.sizeL (q6.perm (.swap _ _ _))
                    cases ea
                    have hle : done.length < sizeLine := by
                      have : ys.length = done.length + (ys2.length + 1) := by rw [← ey]; simp
                      omega
                    refine ⟨us, ha, by omega, wipeE e4 vs, done ++ [y3], ys2, ?_, q5, by rw [← ey]; simp, bare_wipe _ _⟩
                    have r7 : RE K (L2.upd H4 Dp (.lst (us ++ [v]))) σ2 e4 ([(.ref Dp, .nd true .lst (done ++ [y3]))] ++ (S ++ L)) := b6 ((R.push q6 ha).2)
                    have r8 := r7.wipe vs
                    rw [P2] at r8
                    exact RE.perm (L := (.ref Dp, .nd true .lst (done ++ [y3])) :: (S ++ L)) (by exact List.perm_middle.symm) r8
                  · cases ef
                · cases ef
              · rename_i e3 q3
                refine hc σ2 H2 e2 _ false e3 _ r3 q3 fun H3 r4 => iteF ?_
                have r8 := r4.wipe vs
                rw [P2] at r8
                exact ⟨_, _, _, r8, ef, ey, bare_wipe _ _⟩
              · cases ef
            · cases ef
          · have hi' : i = ds.length := by omega
            subst hi'
            rw [List.drop_length] at ef
            cases ef
            rw [List.append_nil] at ey
            subst ey
            refine .inl ⟨it.stopE (Nat.le_refl _) r, k _ H ?_⟩
            exact r.right.unbare hb
      · cases e
    · cases e
  · cases e
/-! ### a def -/
/-- what the parameters at io hold behind the body -/
def outs (io : List Nat) : Nat → Nat → Env → List D
  | _, 0, _ => []
  | k, n + 1, env => (if io.contains k then (match env[k]? with | some (some d) => d | _ => .any) else .any) :: outs io (k + 1) n env
theorem outs_set {io : List Nat} {x : Option D} : ∀ {n k j : Nat} {env : Env}, j < k → outs io k n (env.set j x) = outs io k n env
  | 0, _, _, _, _ => rfl
  | n + 1, k, j, env, h => by
    unfold outs
    rw [outs_set (by omega), List.getElem?_set_ne (by omega)]
theorem RE.outs {io : List Nat} {H : Hp} {σ : St} : ∀ {vs : List V} {k : Nat} {env : Env} {L : List (V × D)}, RE K H σ env L → (∀ j v, io.contains (k + j) = true → vs[j]? = some v → σ[k + j]? = some (some v)) → RE K H σ env L → R K H (vs.zip (outs io k vs.length env) ++ L)
  | [], k, env, L, r, _, _ => by
    obtain ⟨l, s, q⟩ := r
    exact q.right
  | v :: vs, k, env, L, r, h, _ => by
    have h' : ∀ j u, io.contains (k + 1 + j) = true → vs[j]? = some u → σ[k + 1 + j]? = some (some u) := fun j u hj hu => by
      have := h (j + 1) u (by rw [show k + (j + 1) = k + 1 + j by omega]; exact hj) (by simpa using hu)
      rw [show k + (j + 1) = k + 1 + j by omega] at this
      exact this
    show R K H ((v, _) :: (vs.zip (VH.outs io (k + 1) vs.length env) ++ L))
    by_cases hk : io.contains k = true
    · rw [if_pos hk]
      split
      · rename_i d hd
        obtain ⟨u, hu, r1⟩ := r.take hd
        have : u = v := by
          have := h 0 v (by simpa using hk) rfl
          rw [Nat.add_zero, hu] at this
          cases this; rfl
        subst this
        have r2 := RE.outs (vs := vs) (k := k + 1) r1 h' r1
        rw [outs_set (by omega)] at r2
        exact r2.perm List.perm_middle
      · exact (RE.outs r h' r).atom (.any v)
    · rw [if_neg hk]
      exact (RE.outs r h' r).atom (.any v)
/-- a def of np parameters and nN names: what it gives, what its parameters hold behind it -/
def fnD (np nN : Nat) (io : List Nat) (m : SM) : List D → Option (D × List D) := fun ds => if ds.length = np then
    match m (ds.map some ++ List.replicate (nN - np) none) with
    | some (.rt d e) => some (d, outs io 0 np e)
    | some (.nx e) => some (.non, outs io 0 np e)
    | _ => none
  else none
/-- the promise of a def over data -/
def spD (K : Fk) (np : Nat) (fm : List D → Option (D × List D)) : Sp := fun vs H Q E => vs.length = np ∧ ∃ L ds d os, vs.length = ds.length ∧ R K H (vs.zip ds ++ L) ∧ fm ds = some (d, os) ∧ ∀ v H', R K H' ((v, d) :: (vs.zip os ++ L)) → Q v H'
theorem denR_sp {np : Nat} {fm : List D → Option (D × List D)} {E : XK} (hl : ∀ ds z, fm ds = some z → ds.length = np) : DenR K (fun vs H Q => spD K np fm vs H Q E) fm := by
  intro vs ds H L d os Q hlen r e k
  exact ⟨hlen.trans (hl ds _ e), L, ds, d, os, hlen, r, e, k⟩
theorem fnD_len {np nN : Nat} {io : List Nat} {m : SM} (ds : List D) (z : D × List D) (h : fnD np nN io m ds = some z) : ds.length = np := by
  unfold fnD at h
  split at h
  · assumption
  · cases h
theorem sl_start : ∀ {vs : List V} {ds : List D} {n : Nat}, vs.length = ds.length → Sl (vs.map some ++ List.replicate n none) (ds.map some ++ List.replicate n none) (vs.zip ds)
  | [], [], n, _ => by
    induction n with
    | zero => exact .nil
    | succ n ih => exact .non ih
  | v :: vs, d :: ds, n, h => .som (sl_start (by simpa using h))
  | [], _ :: _, _, h => by simp at h
  | _ :: _, [], _, h => by simp at h
/-- a body's reading from its plain function -/
theorem body_ok {np : Nat} {N : List Str} {io : List Nat} {t : TS} {m : SM} (h : DenS K io t m) (hio : io.all (· < np) = true) (hnd : io.Nodup) {vs : List V} {H : Hp} {Q : VK} {E : XK} (hs : spD K np (fnD np N.length io m) vs H Q E) :
    t { nx := fun _ H' => Q .non H', rt := Q } (L2.start N vs) H := by
  obtain ⟨hnp, L, ds, d, os, hl, r, e, k⟩ := hs
  unfold fnD at e
  rw [if_pos (hl.symm.trans hnp)] at e
  have hst : L2.start N vs = vs.map some ++ List.replicate (N.length - np) none := by unfold L2.start; rw [hnp]
  have re : RE K H (L2.start N vs) (ds.map some ++ List.replicate (N.length - np) none) L := ⟨vs.zip ds, by rw [hst]; exact sl_start hl, r⟩
  have hlt : ∀ i ∈ io, i < np := fun i hi => by simpa using List.all_eq_true.mp hio i hi
  have P : Pvs (io.map fun i => (i, vs.getD i .non)) (L2.start N vs) := fun p hp => by
    obtain ⟨i, hi, rfl⟩ := List.mem_map.mp hp
    have hi' : i < vs.length := by rw [hnp]; exact hlt i hi
    show (L2.start N vs)[i]? = some (some (vs.getD i .non))
    rw [hst, List.getElem?_append_left (by simpa using hi'), List.getElem?_map, List.getElem?_eq_getElem hi', List.getD_eq_getElem?_getD, List.getElem?_eq_getElem hi']
    rfl
  have hp : (io.map fun i => (i, vs.getD i .non)).map (·.1) = io := by rw [List.map_map]; exact List.map_id _
  have fin : ∀ {σ' : St} {H' : Hp} {e' : Env} {M : List (V × D)}, RE K H' σ' e' M → Pvs (io.map fun i => (i, vs.getD i .non)) σ' → R K H' (vs.zip (outs io 0 np e') ++ M) := fun {σ' H' e' M} r P => by
    have := RE.outs (io := io) (vs := vs) (k := 0) r (fun j v hj hv => by
      rw [Nat.zero_add] at hj ⊢
      have := P (j, vs.getD j .non) (List.mem_map.mpr ⟨j, List.contains_iff_mem.mp hj, rfl⟩)
      rw [List.getD_eq_getElem?_getD, hv] at this
      exact this) r
    rwa [hnp] at this
  split at e
  · rename_i d1 e1 q
    cases e
    refine h _ hp _ H _ L _ _ re P q ?_
    intro v σ' H' r' P'
    exact k v H' ((fin r' P').perm List.perm_middle)
  · rename_i e1 q
    cases e
    refine h _ hp _ H _ L _ _ re P q ?_
    intro σ' H' r' P'
    exact k .non H' ((fin r' P').atom .non)
  · cases e
end VH

/-! Operations over data. -/
namespace VH
open PySem L2
variable {K : Fk}
section
variable {H : Hp} {L : List (V × D)} {v : V} {d : D}
/-- the parts of a thing, the thing itself given up -/
theorem R.kids {m : Bool} {h : Hd} {xs : List D} (r : R K H ((v, .nd m h xs) :: L)) : ∃ a o vs, v = .ref a ∧ RdH K H a o h ∧ Fits K a o h vs ∧ vs.length = xs.length ∧ R K H (vs.zip xs ++ L) := r.tupAll
theorem R.makeN {a : Addr} {o : HO} {h : Hd} {vs : List V} {xs : List D} (hl : vs.length = xs.length) (r : R K H (vs.zip xs ++ L)) (ha : H a = none) (hf : Fits K a o h vs) : R K (L2.upd H a o) ((.ref a, .nd true h xs) :: L) := by
  have := R.make (ps := vs.zip xs) r ha (by rw [map_zip1 hl]; exact hf)
  rwa [map_zip2 hl] at this
theorem len1 {vs : List V} {a : D} (h : vs.length = [a].length) : ∃ x, vs = [x] := by
  match vs, h with
  | [x], _ => exact ⟨x, rfl⟩
theorem len2 {vs : List V} {a b : D} (h : vs.length = [a, b].length) : ∃ x y, vs = [x, y] := by
  match vs, h with
  | [x, y], _ => exact ⟨x, y, rfl⟩
theorem len3 {vs : List V} {a b c : D} (h : vs.length = [a, b, c].length) : ∃ x y z, vs = [x, y, z] := by
  match vs, h with
  | [x, y, z], _ => exact ⟨x, y, z, rfl⟩
end
/-! ### whole numbers, texts, lists: + - * // % ** -/
theorem OpR.or {X : Cx} {f : Value → Value → Sem Value} {r s : R2} (a : OpR X f r) (b : OpR X f s) : OpR X f (fun x y H Q => r x y H Q ∨ s x y H Q) := by
  intro pins st σ H x y v u Q I r1 r2 h
  rcases h with h | h
  · exact a pins st σ H x y v u Q I r1 r2 h
  · exact b pins st σ H x y v u Q I r1 r2 h
def rAddA (K : PySem.W.Frag) : R2 := fun x y H Q => rI0 (fun i j => .int (i + j)) x y H Q ∨ (∃ i j, x = .str i ∧ y = .str j ∧ i.length + j.length ≤ sizeLine ∧ Q (.str (i ++ j)) H) ∨ rCat x y H Q ∨ rCatA K x y H Q
theorem op_addA {X : Cx} : OpR X (binaryOp .Add) (rAddA X.K) := op_add.or (op_add_str.or (op_cat.or op_catA))
def fAdd : List D → Option (D × List D)
  | [.int i, .int j] => some (.int (i + j), [.any, .any])
  | [.str a, .str b] => if a.length + b.length ≤ sizeLine then some (.str (a ++ b), [.any, .any]) else none
  | [.nd _ .lst xs, .nd _ .lst ys] => if xs.length + ys.length ≤ sizeLine then some (.nd true .lst (xs ++ ys), [.any, .any]) else none
  | [.nd _ .tup xs, .nd _ .tup ys] => if xs.length + ys.length ≤ sizeLine then some (.nd false .tup (D.fzL xs ++ D.fzL ys), [.any, .any]) else none
  | _ => none
theorem R.any2 {H : Hp} {L : List (V × D)} {v x y : V} {d : D} (r : R K H ((v, d) :: L)) : R K H ((v, d) :: ([x, y].zip [.any, .any] ++ L)) :=
  ((r.atom (.any y)).atom (.any x)).perm (by
    refine List.Perm.trans (List.Perm.cons _ (List.Perm.swap _ _ _)) (List.Perm.swap _ _ _))
theorem R.any1 {H : Hp} {L : List (V × D)} {v x : V} {d : D} (r : R K H ((v, d) :: L)) : R K H ((v, d) :: ([x].zip [.any] ++ L)) := (r.atom (.any x)).perm (List.Perm.swap _ _ _)
theorem den_add : DenR K (r2L (rAddA K)) fAdd := by
  intro vs ds H L d os Q hl r e k
  unfold fAdd at e
  split at e
  · rename_i i j
    cases e
    obtain ⟨x, y, rfl⟩ := len2 hl
    obtain rfl := r.vint
    obtain rfl := r.tail.vint
    exact .inl ⟨i, j, rfl, rfl, k _ H (R.any2 (r.tail.tail.atom (.int _)))⟩
  · rename_i a b
    split at e
    · rename_i hz
      cases e
      obtain ⟨x, y, rfl⟩ := len2 hl
      obtain rfl := r.vstr
      obtain rfl := r.tail.vstr
      exact .inr (.inl ⟨a, b, rfl, rfl, hz, k _ H (R.any2 (r.tail.tail.atom (.str _)))⟩)
    · cases e
  · rename_i b1 xs b2 ys
    split at e
    · rename_i hz
      cases e
      obtain ⟨x, y, rfl⟩ := len2 hl
      obtain ⟨p, o, us, rfl, h1, f1, l1, r1⟩ := R.kids r
      have r1' : R K H ((y, .nd b2 .lst ys) :: (us.zip xs ++ L)) := r1.perm List.perm_middle
      obtain ⟨q, o2, ws, rfl, h2, f2, l2, r2⟩ := R.kids r1'
      cases f1
      cases f2
      refine .inr (.inr (.inl ⟨p, q, us, ws, rfl, rfl, h1, h2, by omega, fun a ha => ?_⟩))
      have hz2 : (us ++ ws).zip (xs ++ ys) = us.zip xs ++ ws.zip ys := List.zip_append l1
      have r3 : R K H ((us ++ ws).zip (xs ++ ys) ++ L) := by
        rw [hz2, List.append_assoc]
        exact r2.perm (pc3 _ _ _)
      exact k _ _ (R.any2 (R.makeN (by simp [l1, l2]) r3 ha (.lst _)))
    · cases e
  · rename_i b1 xs b2 ys
    split at e
    · rename_i hz
      cases e
      obtain ⟨x, y, rfl⟩ := len2 hl
      obtain ⟨p, o, us, rfl, h1, _, f1, l1⟩ := R.look r
      obtain ⟨q, o2, ws, rfl, h2, _, f2, l2⟩ := R.look r.tail
      cases f1
      cases f2
      refine .inr (.inr (.inr ⟨p, q, us, ws, rfl, rfl, SqT.of h1, SqT.of h2, by omega, fun z => ?_, fun _ z => ?_, fun _ _ a ha => ?_⟩))
      · subst z
        have : xs = [] := List.length_eq_zero_iff.mp l1.symm
        subst this
        exact k _ H (R.any2 r.tail.fz)
      · subst z
        have : ys = [] := List.length_eq_zero_iff.mp l2.symm
        subst this
        have := (r.perm (List.Perm.swap _ _ _)).tail.fz
        simp only [D.fz] at this
        refine k _ H (R.any2 ?_)
        rw [show D.fzL [] = [] from rfl, List.append_nil]
        exact this
      · obtain ⟨_, _, us', e1, h1', f1', l1', r1⟩ := R.kids r
        cases e1
        have r1' : R K H ((.ref q, .nd b2 .tup ys) :: (us'.zip xs ++ L)) := r1.perm List.perm_middle
        obtain ⟨_, _, ws', e2, h2', f2', l2', r2⟩ := R.kids r1'
        cases e2
        have eu : us' = us := by
          have z1 : H p = some (.tup us) := h1
          cases f1'
          have z2 : H p = some (.tup us') := h1'
          rw [z1] at z2; cases z2; rfl
        have ew : ws' = ws := by
          have z1 : H q = some (.tup ws) := h2
          cases f2'
          have z2 : H q = some (.tup ws') := h2'
          rw [z1] at z2; cases z2; rfl
        subst eu; subst ew
        have hz2 : (us' ++ ws').zip (xs ++ ys) = us'.zip xs ++ ws'.zip ys := List.zip_append l1
        have r3 : R K H ((us' ++ ws').zip (xs ++ ys) ++ L) := by
          rw [hz2, List.append_assoc]
          exact r2.perm (pc3 _ _ _)
        have := (R.makeN (by simp [l1, l2]) r3 ha (.tup _)).fz
        simp only [D.fz] at this
        rw [D.fzL_map, List.map_append, ← D.fzL_map, ← D.fzL_map] at this
        exact k _ _ (R.any2 this)
    · cases e
  · cases e
/-- two whole numbers under a condition -/
def fII (C : Int → Int → Bool) (g : Int → Int → D) : List D → Option (D × List D)
  | [.int i, .int j] => if C i j = true then some (g i j, [.any, .any]) else none
  | _ => none
theorem den_II {C : Int → Int → Prop} {g : Int → Int → V} {c : Int → Int → Bool} {f : Int → Int → D} (hc : ∀ i j, c i j = true → C i j) (hg : ∀ i j, Atom (g i j) (f i j)) : DenR K (r2L (rI C g)) (fII c f) := by
  intro vs ds H L d os Q hl r e k
  unfold fII at e
  split at e
  · rename_i i j
    split at e
    · rename_i h
      cases e
      obtain ⟨x, y, rfl⟩ := len2 hl
      obtain rfl := r.vint
      obtain rfl := r.tail.vint
      exact ⟨i, j, rfl, rfl, hc i j h, k _ H (R.any2 (r.tail.tail.atom (hg i j)))⟩
    · cases e
  · cases e
theorem den_II0 {g : Int → Int → V} {f : Int → Int → D} (hg : ∀ i j, Atom (g i j) (f i j)) : DenR K (r2L (rI0 g)) (fII (fun _ _ => true) f) := by
  intro vs ds H L d os Q hl r e k
  unfold fII at e
  split at e
  · rename_i i j
    split at e
    · rename_i h
      cases e
      obtain ⟨x, y, rfl⟩ := len2 hl
      obtain rfl := r.vint
      obtain rfl := r.tail.vint
      exact ⟨i, j, rfl, rfl, k _ H (R.any2 (r.tail.tail.atom (hg i j)))⟩
    · cases e
  · cases e
def fSub := fII (fun _ _ => true) fun i j => .int (i - j)
theorem den_sub : DenR K (r2L (rI0 fun i j => .int (i - j))) fSub := den_II0 fun _ _ => .int _
def cSmall (i : Int) : Bool := decide (-(2 ^ 64) < i) && decide (i < 2 ^ 64)
def fMulI := fII (fun i j => cSmall i || cSmall j) fun i j => .int (i * j)
theorem den_mulI : DenR K (r2L (rI CMul fun i j => .int (i * j))) fMulI := den_II (fun i j h => by
  simp only [cSmall, Bool.or_eq_true, Bool.and_eq_true, decide_eq_true_eq] at h
  exact h) fun _ _ => .int _
def fMod := fII (fun _ j => decide (0 < j)) fun i j => .int (i % j)
theorem den_mod : DenR K (r2L (rI (fun _ j => 0 < j) fun i j => .int (i % j))) fMod := den_II (fun i j h => by simpa using h) fun _ _ => .int _
def fDiv := fII (fun _ j => decide (j ≠ 0) && decide (j.natAbs < 1073741824)) fun i j => .int (i.fdiv j)
theorem den_fdiv : DenR K (r2L (rI CDivN fun i j => .int (i.fdiv j))) fDiv := den_II (fun i j h => by simpa [CDivN] using h) fun _ _ => .int _
def fPow := fII (fun i j => decide (0 ≤ j) && decide (j ≤ 1000000) && decide (i.natAbs < 2 ^ 64)) fun i j => .int (i ^ j.toNat)
theorem den_pow : DenR K (r2L (rI CPow fun i j => .int (i ^ j.toNat))) fPow := den_II (fun i j h => by
  simp only [Bool.and_eq_true, decide_eq_true_eq] at h
  exact ⟨h.1.1, h.1.2, h.2⟩) fun _ _ => .int _
/-! ### comparisons of numbers and texts -/
def rOrd (p : Int → Int → Bool) (q : Str → Str → Bool) : R2 := fun x y H Q => rI0 (fun i j => .bl (p i j)) x y H Q ∨ ∃ i j, x = .str i ∧ y = .str j ∧ Q (.bl (q i j)) H
def fOrd (p : Int → Int → Bool) (q : Str → Str → Bool) : List D → Option (D × List D)
  | [.int i, .int j] => some (.bl (p i j), [.any, .any])
  | [.str a, .str b] => some (.bl (q a b), [.any, .any])
  | _ => none
theorem den_ord {p : Int → Int → Bool} {q : Str → Str → Bool} : DenR K (r2L (rOrd p q)) (fOrd p q) := by
  intro vs ds H L d os Q hl r e k
  unfold fOrd at e
  split at e
  · rename_i i j
    cases e
    obtain ⟨x, y, rfl⟩ := len2 hl
    obtain rfl := r.vint
    obtain rfl := r.tail.vint
    exact .inl ⟨i, j, rfl, rfl, k _ H (R.any2 (r.tail.tail.atom (.bl _)))⟩
  · rename_i a b
    cases e
    obtain ⟨x, y, rfl⟩ := len2 hl
    obtain rfl := r.vstr
    obtain rfl := r.tail.vstr
    exact .inr ⟨a, b, rfl, rfl, k _ H (R.any2 (r.tail.tail.atom (.bl _)))⟩
  · cases e
abbrev strLt (a b : Str) : Bool := decide (a.cps.toList < b.cps.toList)
def fLt := fOrd (fun i j => decide (i < j)) strLt
theorem op_ltA {X : Cx} : OpR X (compareOp .Lt) (rOrd (fun i j => decide (i < j)) strLt) := op_lt.or op_lt_str
def fGt := fII (fun _ _ => true) fun i j => .bl (decide (j < i))
def fLe := fII (fun _ _ => true) fun i j => .bl (decide (i ≤ j))
def fGe := fII (fun _ _ => true) fun i j => .bl (decide (j ≤ i))
theorem den_gt : DenR K (r2L (rI0 fun i j => .bl (decide (j < i)))) fGt := den_II0 fun _ _ => .bl _
theorem den_le : DenR K (r2L (rI0 fun i j => .bl (decide (i ≤ j)))) fLe := den_II0 fun _ _ => .bl _
theorem den_ge : DenR K (r2L (rI0 fun i j => .bl (decide (j ≤ i)))) fGe := den_II0 fun _ _ => .bl _
/-! ### the data within -/
namespace D
mutual
def py : D → Option PyData
  | .non => some .none
  | .bl b => some (.bool b)
  | .int i => some (.int i)
  | .str x => some (.str x)
  | .nd _ .tup xs => (pyL xs).map .tuple
  | .nd _ .st xs => (pyL xs).map .tuple
  | .nd _ .lst xs => (pyL xs).map .list
  | .nd _ .sl xs => (pyL xs).map .list
  | _ => none
def pyL : List D → Option (List PyData)
  | [] => some []
  | x :: xs => match x.py, pyL xs with
    | some p, some ps => some (p :: ps)
    | _, _ => none
end
end D
section
variable {F H : Hp}
theorem sqL_of {a : Addr} {o : HO} {vs : List V} {h : Hd} (r : RdH K H a o h) (f : Fits K a o h vs) (hh : h = .lst ∨ h = .sl) : SqL K H a vs := by
  rcases hh with rfl | rfl
  · cases f; exact SqL.of r
  · cases f; obtain ⟨xs, e, q⟩ := r; cases e; exact q
theorem sqT_of {a : Addr} {o : HO} {vs : List V} {h : Hd} (r : RdH K H a o h) (f : Fits K a o h vs) (hh : h = .tup ∨ h = .st) : SqT K H a vs := by
  rcases hh with rfl | rfl
  · cases f; exact SqT.of r
  · cases f; obtain ⟨xs, e, q⟩ := r; cases e; exact q
mutual
theorem Own.dp (s : Same F H) : ∀ {v d fp p}, Own K F H v d fp → d.py = some p → Dp K H v p
  | _, _, _, _, .atom h, e => by
    cases h <;> simp only [D.py] at e <;> cases e
    · exact .non
    · exact .bl _
    · exact .int _
    · exact .str _
  | _, _, _, _, .rsv h, e => by simp [D.py] at e
  | _, _, _, p, .own (a := a) (h := h) (ps := ps) h1 h2 h3, e => by
    have key : (h = .tup ∨ h = .st) ∧ (∃ qs, D.pyL (ps.map (·.2)) = some qs ∧ p = .tuple qs) ∨ (h = .lst ∨ h = .sl) ∧ (∃ qs, D.pyL (ps.map (·.2)) = some qs ∧ p = .list qs) := by
      cases h <;> simp only [D.py, Option.map_eq_some_iff] at e
      · obtain ⟨qs, h, rfl⟩ := e; exact .inl ⟨.inl rfl, qs, h, rfl⟩
      · obtain ⟨qs, h, rfl⟩ := e; exact .inr ⟨.inl rfl, qs, h, rfl⟩
      · obtain ⟨qs, h, rfl⟩ := e; exact .inl ⟨.inr rfl, qs, h, rfl⟩
      · obtain ⟨qs, h, rfl⟩ := e; exact .inr ⟨.inr rfl, qs, h, rfl⟩
      all_goals cases e
    rcases key with ⟨hh, qs, hq, rfl⟩ | ⟨hh, qs, hq, rfl⟩
    · exact .tup (sqT_of (RdH.of h2 h1) h2 hh) (OwnL.dp s h3 hq)
    · exact .lst (sqL_of (RdH.of h2 h1) h2 hh) (OwnL.dp s h3 hq)
  | _, _, _, p, .frz (a := a) (h := h) (ps := ps) h1 h2 h3, e => by
    have key : (h = .tup ∨ h = .st) ∧ (∃ qs, D.pyL (ps.map (·.2)) = some qs ∧ p = .tuple qs) ∨ (h = .lst ∨ h = .sl) ∧ (∃ qs, D.pyL (ps.map (·.2)) = some qs ∧ p = .list qs) := by
      cases h <;> simp only [D.py, Option.map_eq_some_iff] at e
      · obtain ⟨qs, h, rfl⟩ := e; exact .inl ⟨.inl rfl, qs, h, rfl⟩
      · obtain ⟨qs, h, rfl⟩ := e; exact .inr ⟨.inl rfl, qs, h, rfl⟩
      · obtain ⟨qs, h, rfl⟩ := e; exact .inl ⟨.inr rfl, qs, h, rfl⟩
      · obtain ⟨qs, h, rfl⟩ := e; exact .inr ⟨.inr rfl, qs, h, rfl⟩
      all_goals cases e
    rcases key with ⟨hh, qs, hq, rfl⟩ | ⟨hh, qs, hq, rfl⟩
    · exact .tup (sqT_of (h1.same s) h2 hh) (OwnL.dp s h3 hq)
    · exact .lst (sqL_of (h1.same s) h2 hh) (OwnL.dp s h3 hq)
theorem OwnL.dp (s : Same F H) : ∀ {ps fp qs}, OwnL K F H ps fp → D.pyL (ps.map (·.2)) = some qs → DpAll K H (ps.map (·.1)) qs
  | _, _, _, .nil, e => by cases e; exact .nil
  | _, _, qs, .cons (d := d) (ps := ps) h1 h2, e => by
    simp only [List.map_cons, D.pyL] at e
    split at e
    · rename_i p ps1 e1 e2
      cases e
      exact .cons (Own.dp s h1 e1) (OwnL.dp s h2 e2)
    · cases e
end
theorem R.dp {L : List (V × D)} {v : V} {d : D} {p : PyData} (r : R K H ((v, d) :: L)) (e : d.py = some p) : Dp K H v p := by
  obtain ⟨F, fp, s, o, n, f⟩ := r
  cases o with
  | cons a b => exact a.dp s e
end
/-! ### == and != of data -/
def fEqB (neg : Bool) : List D → Option (D × List D)
  | [x, y] => match x.py, y.py with
    | some p, some q => if SeqAt.shaped p && SeqAt.shaped q then some (.bl (if neg then !PyData.eqv p q else PyData.eqv p q), [x, y]) else none
    | _, _ => none
  | _ => none
abbrev fEq := fEqB false
abbrev fNe := fEqB true
theorem den_eq : DenR K (r2L (rEqD K)) fEq := by
  intro vs ds H L d os Q hl r e k
  unfold fEq fEqB at e
  split at e
  · rename_i x y
    split at e
    · rename_i p q e1 e2
      split at e
      · rename_i h
        cases e
        simp only [Bool.and_eq_true] at h
        obtain ⟨a, b, rfl⟩ := len2 hl
        exact ⟨p, q, r.dp e1, r.tail.dp e2, h.1, h.2, k _ H (r.atom (.bl _))⟩
      · cases e
    · cases e
  · cases e
theorem den_ne : DenR K (r2L (rNeD K)) fNe := by
  intro vs ds H L d os Q hl r e k
  unfold fNe fEqB at e
  split at e
  · rename_i x y
    split at e
    · rename_i p q e1 e2
      split at e
      · rename_i h
        cases e
        simp only [Bool.and_eq_true] at h
        obtain ⟨a, b, rfl⟩ := len2 hl
        exact ⟨p, q, r.dp e1, r.tail.dp e2, h.1, h.2, k _ H (r.atom (.bl _))⟩
      · cases e
    · cases e
  · cases e
end VH

namespace VH
open PySem L2
variable {K : Fk}
/-! ### len -/
def fLen : List D → Option (D × List D)
  | [.str x] => if x.length ≤ sizeLine then some (.int x.length, [.str x]) else none
  | [.nd m .lst xs] => some (.int xs.length, [.nd m .lst xs])
  | [.nd m .tup xs] => some (.int xs.length, [.nd m .tup xs])
  | [.nd m .sl xs] => some (.int xs.length, [.nd m .sl xs])
  | [.nd m .st xs] => some (.int xs.length, [.nd m .st xs])
  | _ => none
theorem seq_of {H : Hp} {L : List (V × D)} {v : V} {m : Bool} {h : Hd} {xs : List D} (r : R K H ((v, .nd m h xs) :: L)) (hh : h = .lst ∨ h = .sl ∨ h = .tup ∨ h = .st) : ∃ a vs, v = .ref a ∧ vs.length = xs.length ∧ ((h = .lst ∨ h = .sl) ∧ SqL K H a vs ∨ (h = .tup ∨ h = .st) ∧ SqT K H a vs) := by
  obtain ⟨a, o, vs, rfl, h1, _, f, l⟩ := r.look
  refine ⟨a, vs, rfl, l, ?_⟩
  rcases hh with rfl | rfl | rfl | rfl
  · exact .inl ⟨.inl rfl, sqL_of h1 f (.inl rfl)⟩
  · exact .inl ⟨.inr rfl, sqL_of h1 f (.inr rfl)⟩
  · exact .inr ⟨.inl rfl, sqT_of h1 f (.inl rfl)⟩
  · exact .inr ⟨.inr rfl, sqT_of h1 f (.inr rfl)⟩
theorem den_len : DenR K (fun xs H Q => ∃ x n, xs = [x] ∧ LenV K x H n ∧ Q (.int n) H) fLen := by
  intro vs ds H L d os Q hl r e k
  have key : ∀ (m : Bool) (h : Hd) (xs : List D), (h = .lst ∨ h = .sl ∨ h = .tup ∨ h = .st) → ds = [.nd m h xs] → d = .int xs.length → os = [.nd m h xs] → ∃ x n, vs = [x] ∧ LenV K x H n ∧ Q (.int n) H := by
    rintro m h xs hh rfl rfl rfl
    obtain ⟨x, rfl⟩ := len1 hl
    obtain ⟨a, us, rfl, l, q⟩ := seq_of r hh
    refine ⟨_, xs.length, rfl, ?_, k _ H (r.atom (.int _))⟩
    rcases q with ⟨_, q⟩ | ⟨_, q⟩
    · exact .inl ⟨us, q, l.symm⟩
    · exact .inr ⟨us, q, l.symm⟩
  unfold fLen at e
  split at e
  · rename_i x
    split at e
    · rename_i hz
      cases e
      obtain ⟨v, rfl⟩ := len1 hl
      obtain rfl := r.vstr
      exact ⟨_, x.length, rfl, ⟨hz, rfl⟩, k _ H (r.atom (.int _))⟩
    · cases e
  · cases e; exact key _ _ _ (.inl rfl) rfl rfl rfl
  · cases e; exact key _ _ _ (.inr (.inr (.inl rfl))) rfl rfl rfl
  · cases e; exact key _ _ _ (.inr (.inl rfl)) rfl rfl rfl
  · cases e; exact key _ _ _ (.inr (.inr (.inr rfl))) rfl rfl rfl
  · cases e
/-! ### x[i] -/
theorem list_at {α : Type} {xs : List α} {j : Nat} {x : α} (h : xs[j]? = some x) : xs = xs.take j ++ x :: xs.drop (j + 1) ∧ (xs.take j).length = j := by
  obtain ⟨hj, e⟩ := List.getElem?_eq_some_iff.mp h
  refine ⟨?_, by simp; omega⟩
  have : xs.drop j = x :: xs.drop (j + 1) := by rw [List.drop_eq_getElem_cons hj, e]
  rw [← this, List.take_append_drop]
theorem list_set {α : Type} {xs : List α} {j : Nat} {x y : α} (h : xs[j]? = some x) : xs.set j y = xs.take j ++ y :: xs.drop (j + 1) := by
  obtain ⟨hj, e⟩ := List.getElem?_eq_some_iff.mp h
  rw [List.set_eq_take_append_cons_drop, if_pos hj]
/-- a part by its place -/
theorem R.childAt {H : Hp} {L : List (V × D)} {v : V} {d : D} {m : Bool} {h : Hd} {xs : List D} {j : Nat} (r : R K H ((v, .nd m h xs) :: L)) (e : xs[j]? = some d) : ∃ a o vs w, v = .ref a ∧ RdH K H a o h ∧ (m = true → H a = some o) ∧ Fits K a o h vs ∧ vs.length = xs.length ∧ vs[j]? = some w ∧
    R K H ((w, d.fz) :: (v, .nd m h (xs.set j d.fz)) :: L) := by
  obtain ⟨e1, e2⟩ := list_at e
  rw [e1] at r
  obtain ⟨a, o, vs, w, h1, h2, h3, h4, h5, h6, h7⟩ := r.child
  rw [e2] at h6
  refine ⟨a, o, vs, w, h1, h2, h3, h4, h5.trans (by rw [← e1]), h6, ?_⟩
  rw [list_set e]
  exact h7
def fIx : List D → Option (D × List D)
  | [.str z, .int i] => if z.length ≤ sizeLine then (match atI z.cps.toList i with
    | some c => some (.str ⟨#[c]⟩, [.str z, .int i])
    | none => none) else none
  | [.nd m h xs, .int i] => if h = .lst ∨ h = .sl ∨ h = .tup ∨ h = .st then (match ixN xs.length i with
    | some j => (match xs[j]? with
      | some d => some (d.fz, [.nd m h (xs.set j d.fz), .int i])
      | none => none)
    | none => none) else none
  | _ => none
theorem den_ix : DenR K (r2L (rIx K)) fIx := by
  intro vs ds H L d os Q hl r e k
  unfold fIx at e
  split at e
  · rename_i z i
    split at e
    · rename_i hz
      split at e
      · rename_i c hc
        cases e
        obtain ⟨x, y, rfl⟩ := len2 hl
        obtain rfl := r.vstr
        obtain rfl := r.tail.vint
        exact .inr (.inr ⟨z, i, c, rfl, rfl, hz, hc, k _ H (r.atom (.str _))⟩)
      · cases e
    · cases e
  · rename_i m h xs i
    split at e
    · rename_i hh
      split at e
      · rename_i j hj
        split at e
        · rename_i d0 hd
          cases e
          obtain ⟨x, y, rfl⟩ := len2 hl
          obtain rfl := r.tail.vint
          obtain ⟨a, o, us, w, rfl, h1, _, f, l, hw, r1⟩ := R.childAt r hd
          have hat : atI us i = some w := by unfold atI; rw [l, hj]; exact hw
          have fin := k w H r1
          rcases hh with rfl | rfl | rfl | rfl
          · exact .inl ⟨a, us, i, w, rfl, rfl, sqL_of h1 f (.inl rfl), hat, fin⟩
          · exact .inl ⟨a, us, i, w, rfl, rfl, sqL_of h1 f (.inr rfl), hat, fin⟩
          · exact .inr (.inl ⟨a, us, i, w, rfl, rfl, sqT_of h1 f (.inl rfl), hat, fin⟩)
          · exact .inr (.inl ⟨a, us, i, w, rfl, rfl, sqT_of h1 f (.inr rfl), hat, fin⟩)
        · cases e
      · cases e
    · cases e
  · cases e
/-! ### lists' methods -/
theorem tyV_list {H : Hp} {L : List (V × D)} {x : V} {m : Bool} {xs : List D} (r : R K H ((x, .nd m .lst xs) :: L)) : tyV K "list" x H := by
  obtain ⟨a, vs, rfl, l, q⟩ := seq_of r (.inl rfl)
  rcases q with ⟨_, q⟩ | ⟨z, _⟩
  · exact .inl ⟨rfl, _, q⟩
  · rcases z with z | z <;> cases z
def fAppend : List D → Option (D × List D)
  | [.nd true .lst xs, y] => if xs.length < sizeLine then some (.non, [.nd true .lst (xs ++ [y.fz]), .any]) else none
  | _ => none
theorem den_append : DenR K (rML rAppend) fAppend := by
  intro vs ds H L d os Q hl r e k
  unfold fAppend at e
  split at e
  · rename_i xs y
    split at e
    · rename_i hz
      cases e
      obtain ⟨x, z, rfl⟩ := len2 hl
      obtain ⟨a, us, rfl, ha, hlen, _⟩ := R.sizeL r
      have r1 : R K H ((z, y.fz) :: (.ref a, .nd true .lst xs) :: L) := (r.perm (List.Perm.swap _ _ _)).fz
      obtain ⟨_, r2⟩ := R.push r1 ha
      refine ⟨a, us, z, rfl, rfl, ha, by omega, k _ _ ?_⟩
      exact ((r2.atom (.any z)).perm (List.Perm.swap _ _ _)).atom .non
    · cases e
  · cases e
theorem ty_append : ∀ x d ds z H L, R K H ((x, d) :: L) → fAppend (d :: ds) = some z → tyV K "list" x H := by
  intro x d ds z H L r e
  unfold fAppend at e
  split at e
  · rename_i xs y q; cases q; exact tyV_list r
  · cases e
def fPop : List D → Option (D × List D)
  | [.nd true .lst xs] => match xs.getLast? with
    | some y => some (y, [.nd true .lst xs.dropLast])
    | none => none
  | _ => none
theorem zip_snoc {us : List V} {xs : List D} (hl : us.length = xs.length) (hne : xs ≠ []) : ∃ w y, us[us.length - 1]? = some w ∧ xs.getLast? = some y ∧ us.zip xs = us.dropLast.zip xs.dropLast ++ [(w, y)] := by
  have hu : us ≠ [] := fun z => hne (List.length_eq_zero_iff.mp (by rw [← hl, z]; rfl))
  refine ⟨us.getLast hu, xs.getLast hne, ?_, List.getLast?_eq_some_getLast hne, ?_⟩
  · rw [← List.getLast?_eq_getElem?, List.getLast?_eq_some_getLast hu]
  · have h1 := List.dropLast_concat_getLast hu
    have h2 := List.dropLast_concat_getLast hne
    have h3 : us.dropLast.length = xs.dropLast.length := by simp [hl]
    calc us.zip xs = (us.dropLast ++ [us.getLast hu]).zip (xs.dropLast ++ [xs.getLast hne]) := by rw [h1, h2]
      _ = _ := by rw [List.zip_append h3]; rfl
theorem den_pop : DenR K (rML rPop) fPop := by
  intro vs ds H L d os Q hl r e k
  unfold fPop at e
  split at e
  · rename_i xs
    split at e
    · rename_i y hy
      cases e
      obtain ⟨x, rfl⟩ := len1 hl
      obtain ⟨a, us, rfl, ha, hlen, r1⟩ := R.sizeL r
      have hne : xs ≠ [] := fun z => by rw [z] at hy; cases hy
      obtain ⟨w, y', hw, hy', hz⟩ := zip_snoc hlen hne
      rw [hy] at hy'
      cases hy'
      refine ⟨a, us, w, rfl, rfl, ha, hw, k _ _ ?_⟩
      rw [hz] at r1
      have r2 : R K H ((.ref a, .rsv a) :: (us.dropLast.zip xs.dropLast ++ ((w, d) :: L))) := r1.perm (List.Perm.cons _ (by simp))
      have r3 := r2.upd (o := .lst us.dropLast)
      have h3 : us.dropLast.length = xs.dropLast.length := by simp [hlen]
      have r4 := r3.close (h := .lst) upd_same (by rw [map_zip1 h3]; exact .lst _)
      rw [map_zip2 h3] at r4
      exact r4.perm (List.Perm.swap _ _ _)
    · cases e
  · cases e
theorem ty_pop : ∀ x d ds z H L, R K H ((x, d) :: L) → fPop (d :: ds) = some z → tyV K "list" x H := by
  intro x d ds z H L r e
  unfold fPop at e
  split at e
  · rename_i xs q; cases q; exact tyV_list r
  · cases e
/-- xs.pop(i) -/
def fPopAt : List D → Option (D × List D)
  | [.nd true .lst xs, .int i] => if 0 ≤ i ∧ i < 2 ^ 63 then (match xs[i.toNat]? with
    | some y => some (y, [.nd true .lst (xs.eraseIdx i.toNat), .any])
    | none => none) else none
  | _ => none
theorem zip_erase : ∀ {us : List V} {xs : List D} {j : Nat} {w : V} {y : D}, us.length = xs.length → us[j]? = some w → xs[j]? = some y → (us.zip xs).Perm ((w, y) :: (us.eraseIdx j).zip (xs.eraseIdx j))
  | [], _, _, _, _, _, h, _ => by simp at h
  | _ :: _, [], _, _, _, h, _, _ => by simp at h
  | u :: us, x :: xs, 0, w, y, _, h1, h2 => by simp at h1 h2; subst h1; subst h2; exact .refl _
  | u :: us, x :: xs, j + 1, w, y, hl, h1, h2 => by
    have := zip_erase (us := us) (xs := xs) (j := j) (by simpa using hl) (by simpa using h1) (by simpa using h2)
    exact (this.cons _).trans (.swap _ _ _)
theorem den_popAt : DenR K (rML rPopAt) fPopAt := by
  intro vs ds H L d os Q hl r e k
  unfold fPopAt at e
  split at e
  · rename_i xs i
    split at e
    · rename_i hi
      split at e
      · rename_i y hy
        cases e
        obtain ⟨x, z, rfl⟩ := len2 hl
        obtain rfl := r.tail.vint
        obtain ⟨a, us, rfl, ha, hlen, r1⟩ := R.sizeL r
        have hj : i.toNat < us.length := by rw [hlen]; exact lt_of hy
        have hw : us[i.toNat]? = some us[i.toNat] := List.getElem?_eq_getElem hj
        refine ⟨a, us, i, i.toNat, us[i.toNat], rfl, rfl, ha, by omega, hi.2, ?_, hw, k _ _ ?_⟩
        · have := ixN_seq (n := us.length) (i := i) (j := i.toNat) (by unfold ixN; rw [if_pos hi.1, if_pos (by omega)])
          exact this.1
        · have r2 : R K H ((.ref a, .rsv a) :: ((us.eraseIdx i.toNat).zip (xs.eraseIdx i.toNat) ++ ((us[i.toNat], d) :: (.int i, .any) :: L))) := by
            have r1' : R K H ((.ref a, .rsv a) :: (us.zip xs ++ ((.int i, .any) :: L))) := by
              have := (r1.perm (L' := (.int i, .int i) :: (.ref a, .rsv a) :: (us.zip xs ++ L)) (by
                exact (List.Perm.cons _ List.perm_middle).trans (List.Perm.swap _ _ _))).tail.atom (.any (.int i))
              exact this.perm ((List.Perm.swap _ _ _).trans (List.Perm.cons _ List.perm_middle.symm))
            refine r1'.perm (List.Perm.cons _ ?_)
            refine ((zip_erase hlen hw hy).append_right _).trans ?_
            exact List.perm_middle.symm
          have h3 : (us.eraseIdx i.toNat).length = (xs.eraseIdx i.toNat).length := by simp [List.length_eraseIdx, hlen]
          have r3 := r2.upd (o := .lst (us.eraseIdx i.toNat))
          have r4 := r3.close (h := .lst) upd_same (by rw [map_zip1 h3]; exact .lst _)
          rw [map_zip2 h3] at r4
          exact r4.perm (List.Perm.swap _ _ _)
      · cases e
    · cases e
  · cases e
theorem ty_popAt : ∀ x d ds z H L, R K H ((x, d) :: L) → fPopAt (d :: ds) = some z → tyV K "list" x H := by
  intro x d ds z H L r e
  unfold fPopAt at e
  split at e
  · rename_i xs i q; cases q; exact tyV_list r
  · cases e
theorem zip_fz : ∀ (ws : List V) (ys : List D), (ws.zip ys).map (fun p => (p.1, p.2.fz)) = ws.zip (D.fzL ys)
  | [], ys => rfl
  | w :: ws, [] => rfl
  | w :: ws, y :: ys => by
    show (w, y.fz) :: (ws.zip ys).map (fun p => (p.1, p.2.fz)) = (w, y.fz) :: ws.zip (D.fzL ys)
    rw [zip_fz ws ys]
def fExtend : List D → Option (D × List D)
  | [.nd true .lst xs, .nd _ .lst ys] => if xs.length + ys.length ≤ sizeLine then some (.non, [.nd true .lst (xs ++ D.fzL ys), .any]) else none
  | _ => none
theorem den_extend : DenR K (rML rExtend) fExtend := by
  intro vs ds H L d os Q hl r e k
  unfold fExtend at e
  split at e
  · rename_i xs m ys
    split at e
    · rename_i hz
      cases e
      obtain ⟨x, z, rfl⟩ := len2 hl
      have r0 : R K H ((z, .nd m .lst ys) :: (x, .nd true .lst xs) :: L) := r.perm (List.Perm.swap _ _ _)
      obtain ⟨b, o, ws, rfl, h2, f2, l2, r1⟩ := R.kids r0
      cases f2
      have r2 : R K H (ws.zip (D.fzL ys) ++ (x, .nd true .lst xs) :: L) := by
        have := R.fzL r1
        rwa [zip_fz] at this
      obtain ⟨a, us, e1, ha, hlen, r3⟩ := R.sizeL (r2.perm List.perm_middle)
      cases e1
      refine ⟨a, b, us, ws, rfl, rfl, ha, h2, by omega, k _ _ ?_⟩
      have hzz : (us ++ ws).zip (xs ++ D.fzL ys) = us.zip xs ++ ws.zip (D.fzL ys) := List.zip_append hlen
      have r4 : R K H ((.ref a, .rsv a) :: ((us ++ ws).zip (xs ++ D.fzL ys) ++ L)) := by
        rw [hzz, List.append_assoc]
        exact r3
      have r5 := r4.upd (o := .lst (us ++ ws))
      have h3 : (us ++ ws).length = (xs ++ D.fzL ys).length := by simp [hlen, l2, D.fzL_map]
      have r6 := r5.close (h := .lst) upd_same (by rw [map_zip1 h3]; exact .lst _)
      rw [map_zip2 h3] at r6
      exact ((r6.atom (.any (.ref b))).perm (List.Perm.swap _ _ _)).atom .non
    · cases e
  · cases e
theorem ty_extend : ∀ x d ds z H L, R K H ((x, d) :: L) → fExtend (d :: ds) = some z → tyV K "list" x H := by
  intro x d ds z H L r e
  unfold fExtend at e
  split at e
  · rename_i xs m ys q; cases q; exact tyV_list r
  · cases e
/-! ### displays -/
def mApps (g : List D → Option D) (as : List Arg) : EM D := mApp (fun ds => match g ds with
  | some d => some (d, List.replicate ds.length .any)
  | none => none) as
theorem R.anys {H : Hp} : ∀ (vs : List V) {L : List (V × D)} {v : V} {d : D}, R K H ((v, d) :: L) → R K H ((v, d) :: (vs.zip (List.replicate vs.length .any) ++ L))
  | [], _, _, _, r => r
  | w :: vs, L, v, d, r => by
    have := R.anys vs ((r.atom (.any w)).perm (List.Perm.swap _ _ _))
    exact this.perm (List.Perm.cons _ List.perm_middle)
/-- a new list, a new tuple of written items -/
def gLst (ds : List D) : Option D := if ds.length ≤ sizeLine then some (.nd true .lst ds) else none
def gTup (ds : List D) : Option D := if ds.length ≤ sizeLine then some (.tup (D.fzL ds)) else none
def gTupO (ds : List D) : Option D := if ds.length ≤ sizeLine then some (.nd true .tup ds) else none
theorem den_lst {t : TA} {as : List Arg} (ht : DenA K t as) : DenE K (tLst t) (mApps gLst as) := by
  refine den_app (r := fun xs H Q => xs.length ≤ sizeLine ∧ ∀ p, H p = none → Q (.ref p) (L2.upd H p (.lst xs))) ht ?_
  intro vs ds H L d os Q hl r e k
  simp only [gLst] at e
  split at e
  · rename_i d0 q
    cases e
    split at q
    · rename_i hz
      cases q
      refine ⟨by omega, fun p hp => k _ _ ?_⟩
      rw [← hl]
      exact R.anys vs (R.makeN hl r hp (.lst _))
    · cases q
  · cases e
theorem den_tupO {t : TA} {as : List Arg} (ht : DenA K t as) : DenE K (tTup t) (mApps gTupO as) := by
  refine den_app (r := fun xs H Q => xs.length ≤ sizeLine ∧ ∀ p, H p = none → Q (.ref p) (L2.upd H p (.tup xs))) ht ?_
  intro vs ds H L d os Q hl r e k
  simp only [gTupO] at e
  split at e
  · rename_i d0 q
    cases e
    split at q
    · rename_i hz
      cases q
      refine ⟨by omega, fun p hp => k _ _ ?_⟩
      rw [← hl]
      exact R.anys vs (R.makeN hl r hp (.tup _))
    · cases q
  · cases e
theorem den_tup {t : TA} {as : List Arg} (ht : DenA K t as) : DenE K (tTup t) (mApps gTup as) := by
  refine den_app (r := fun xs H Q => xs.length ≤ sizeLine ∧ ∀ p, H p = none → Q (.ref p) (L2.upd H p (.tup xs))) ht ?_
  intro vs ds H L d os Q hl r e k
  simp only [gTup] at e
  split at e
  · rename_i d0 q
    cases e
    split at q
    · rename_i hz
      cases q
      refine ⟨by omega, fun p hp => k _ _ ?_⟩
      rw [← hl]
      exact R.anys vs (R.makeN hl r hp (.tup _)).fz
    · cases q
  · cases e
end VH

namespace VH
open PySem L2
variable {K : Fk}
/-! ### dicts -/
/-- the place of a key -/
def kix {κ : Type} [DecidableEq κ] : List κ → κ → Option Nat
  | [], _ => none
  | a :: r, k => if a = k then some 0 else (kix r k).map (· + 1)
theorem kix_val {κ : Type} [DecidableEq κ] (k : κ) : ∀ (kvs : List (κ × V)), valV kvs k = (kix (kvs.map (·.1)) k).bind fun j => (kvs.map (·.2))[j]?
  | [] => rfl
  | (a, v) :: r => by
    by_cases e : a = k
    · rw [valV_pos (p := (a, v)) e]
      simp only [List.map_cons, kix, if_pos e]
      rfl
    · rw [valV_neg (p := (a, v)) e, kix_val k r]
      simp only [List.map_cons, kix, if_neg e]
      cases kix (r.map (·.1)) k <;> rfl
theorem kix_lt {κ : Type} [DecidableEq κ] {k : κ} : ∀ {ks : List κ} {j : Nat}, kix ks k = some j → j < ks.length ∧ ks[j]? = some k
  | [], _, h => by simp [kix] at h
  | a :: r, j, h => by
    unfold kix at h
    split at h
    · rename_i e; cases h; simp [e]
    · cases q : kix r k with
      | none => rw [q] at h; cases h
      | some i =>
        rw [q] at h; cases h
        have := kix_lt q
        exact ⟨by simpa using this.1, by simpa using this.2⟩
theorem kix_none {κ : Type} [DecidableEq κ] {k : κ} : ∀ {ks : List κ}, kix ks k = none → k ∉ ks
  | [], _ => by simp
  | a :: r, h => by
    unfold kix at h
    split at h
    · cases h
    · rename_i e
      cases q : kix r k with
      | some i => rw [q] at h; cases h
      | none =>
        have := kix_none q
        simp only [List.mem_cons, not_or]
        exact ⟨fun z => e z.symm, this⟩
theorem kix_put {κ : Type} [DecidableEq κ] (k : κ) (v : V) : ∀ (kvs : List (κ × V)), (kvs.map (·.1)).Nodup → ∀ j, kix (kvs.map (·.1)) k = some j → (putK kvs k v).map (·.1) = kvs.map (·.1) ∧ (putK kvs k v).map (·.2) = (kvs.map (·.2)).set j v
  | kvs, nd, j, h => by
    have hj := kix_lt h
    have hm : k ∈ kvs.map (·.1) := List.mem_of_getElem? hj.2
    have hany : (kvs.any fun kv => decide (kv.1 = k)) = true := by
      obtain ⟨p, hp, e⟩ := List.mem_map.mp hm
      exact List.any_eq_true.mpr ⟨p, hp, by simpa using e⟩
    unfold putK
    rw [if_pos hany]
    clear hany hm
    induction kvs generalizing j with
    | nil => simp [kix] at h
    | cons p r ih =>
      obtain ⟨a, u⟩ := p
      simp only [List.map_cons] at nd h hj ⊢
      have nd' := List.nodup_cons.mp nd
      unfold kix at h
      split at h
      · rename_i e
        cases h
        subst e
        have hr : ∀ q ∈ r, ¬ q.1 = a := fun q hq e => nd'.1 (List.mem_map.mpr ⟨q, hq, e⟩)
        have e1 : r.map (fun kv => if kv.1 = a then (kv.1, v) else kv) = r := by
          have : r.map (fun kv => if kv.1 = a then (kv.1, v) else kv) = r.map id := List.map_congr_left fun q hq => if_neg (hr q hq)
          rw [this, List.map_id]
        rw [e1]
        simp
      · rename_i e
        cases q : kix (r.map (·.1)) k with
        | none => rw [q] at h; cases h
        | some i =>
          rw [q] at h; cases h
          have := ih nd'.2 i q (kix_lt q)
          simp only [if_neg e, List.set_cons_succ]
          exact ⟨by rw [this.1], by rw [this.2]⟩
theorem kix_new {κ : Type} [DecidableEq κ] (k : κ) (v : V) (kvs : List (κ × V)) (h : kix (kvs.map (·.1)) k = none) : putK kvs k v = kvs ++ [(k, v)] := by
  have hm := kix_none h
  have hany : ¬ (kvs.any fun kv => decide (kv.1 = k)) = true := fun z => by
    obtain ⟨p, hp, e⟩ := List.any_eq_true.mp z
    exact hm (List.mem_map.mpr ⟨p, hp, by simpa using e⟩)
  unfold putK
  rw [if_neg hany]
def keyD : Key → D
  | .inl i => .int i
  | .inr x => .str x
def D.key : D → Option Key
  | .int i => some (.inl i)
  | .str x => some (.inr x)
  | _ => none
def keysD : List D → Option (List Key)
  | [] => some []
  | x :: xs => match x.key, keysD xs with
    | some k, some ks => some (k :: ks)
    | _, _ => none
theorem key_val {H : Hp} {L : List (V × D)} {v : V} {d : D} {k : Key} (r : R K H ((v, d) :: L)) (e : d.key = some k) : v = kV k := by
  cases d <;> simp only [D.key] at e <;> cases e
  · exact r.vint
  · exact r.vstr
theorem keys_val {H : Hp} : ∀ {L : List (V × D)} {vs : List V} {ds : List D} {ks : List Key}, vs.length = ds.length → R K H (vs.zip ds ++ L) → keysD ds = some ks → vs = ks.map kV
  | L, [], [], ks, _, _, e => by cases e; rfl
  | L, v :: vs, d :: ds, ks, hl, r, e => by
    simp only [keysD] at e
    split at e
    · rename_i k ks1 e1 e2
      cases e
      have r' : R K H ((v, d) :: (vs.zip ds ++ L)) := r
      rw [key_val r' e1, keys_val (by simpa using hl) r'.tail e2]
      rfl
    · cases e
  | L, [], _ :: _, ks, hl, _, _ => by cases hl
  | L, _ :: _, [], ks, hl, _, _ => by cases hl
theorem tkey_val {H : Hp} {L : List (V × D)} {v : V} {m : Bool} {xs : List D} {k : List Key} (r : R K H ((v, .nd m .tup xs) :: L)) (e : keysD xs = some k) : ∃ b, v = .ref b ∧ H b = some (.tup (k.map kV)) := by
  obtain ⟨a, o, us, rfl, h1, f1, l1, r1⟩ := R.kids r
  cases f1
  have := keys_val l1 r1 e
  subst this
  exact ⟨a, rfl, h1⟩
/-- where a key stands in a dict: the place, or none; no answer for what is no such key -/
def dix : D → D → Option (Option Nat)
  | .nd _ (.dK ks) _, y => match y.key with
    | some k => some (kix ks k)
    | none => none
  | .nd _ (.dT ks) _, .nd _ .tup xs => match keysD xs with
    | some k => some (kix ks k)
    | none => none
  | _, _ => none
theorem dix_get {H : Hp} {L : List (V × D)} {x y : V} {m : Bool} {h : Hd} {xs : List D} {e : D} {q : Option Nat} (r : R K H ((x, .nd m h xs) :: (y, e) :: L)) (hq : dix (.nd m h xs) e = some q) : ∃ a o us, x = .ref a ∧ H a = some o ∧ Fits K a o h us ∧ us.length = xs.length ∧ DGet H a y (q.bind fun j => us[j]?) := by
  obtain ⟨a, o, us, rfl, h1, _, f, l⟩ := r.look
  unfold dix at hq
  split at hq
  · rename_i d0 y0 m0 ks xs0 e0
    cases e0
    split at hq
    · rename_i k hk
      cases hq
      cases f
      rename_i kvs nd _
      obtain rfl := key_val r.tail hk
      have h1' : H a = some (.dK kvs) := h1
      refine ⟨a, _, _, rfl, h1', .dK _ nd, l, ?_⟩
      rw [← kix_val]
      exact DGet.k h1'
    · cases hq
  · rename_i d0 y0 m0 ks xs0 m1 zs e0
    cases e0
    split at hq
    · rename_i k hk
      cases hq
      cases f
      rename_i kvs nd _
      obtain ⟨b, rfl, hb⟩ := tkey_val r.tail hk
      have h1' : H a = some (.dT kvs) := h1
      refine ⟨a, _, _, rfl, h1', .dT _ nd, l, ?_⟩
      rw [← kix_val]
      exact DGet.t h1' hb
    · cases hq
  · cases hq
/-- d[k] -/
def fDGet : List D → Option (D × List D)
  | [.nd m h xs, y] => match dix (.nd m h xs) y with
    | some (some j) => match xs[j]? with
      | some d => some (d.fz, [.nd m h (xs.set j d.fz), y])
      | none => none
    | _ => none
  | _ => none
theorem fits_len {o : HO} {h : Hd} {us ws : List V} (hn : ∀ ks, h ≠ .dN ks) (f : Fits K a o h us) (g : Fits K a o h ws) : us = ws := by
  cases f with
  | dN => exact absurd rfl (hn _)
  | _ => cases g <;> rfl
theorem den_dgetR : DenR K (r2L fun x y H Q => ∃ a v, x = .ref a ∧ DGet H a y (some v) ∧ Q v H) fDGet := by
  intro vs ds H L d os Q hl r e k
  unfold fDGet at e
  split at e
  · rename_i m h xs y
    split at e
    · rename_i j hj
      split at e
      · rename_i d0 hd
        cases e
        obtain ⟨x, z, rfl⟩ := len2 hl
        obtain ⟨p, o, us, rfl, h1, f, l, g⟩ := dix_get r hj
        obtain ⟨_, o2, ws, w, e1, h2, _, f2, l2, hw, r2⟩ := R.childAt r hd
        cases e1
        have eo : o2 = o ∧ ws = us := by
          have : H p = some o2 := by
            have z : ∀ hh : Hd, (∃ q, dix (.nd m hh xs) y = some q) → RdH K H p o2 hh → H p = some o2 := by
              intro hh hq rr
              obtain ⟨q, hq⟩ := hq
              unfold dix at hq
              split at hq
              · rename_i e0; cases e0; exact rr
              · rename_i e0; cases e0; exact rr
              · cases hq
            exact z h ⟨_, hj⟩ h2
          rw [h1] at this
          cases this
          exact ⟨rfl, fits_len (fun ks e => by subst e; cases hj) f2 f⟩
        obtain ⟨rfl, rfl⟩ := eo
        have g' : DGet H p z (some w) := by
          have : ((some j).bind fun j => ws[j]?) = some w := hw
          rw [this] at g
          exact g
        exact ⟨p, w, rfl, g', k w H r2⟩
      · cases e
    · cases e
  · cases e
theorem den_dget {td ty : TE} {a b : Arg} (ha : DenArg K td a) (hb : DenArg K ty b) : DenE K (tDGet td ty) (mApp fDGet [a, b]) := by
  have hr := den_dgetR (K := K)
  intro σ H env L d env' Q re e k
  exact den_app (da_cons ha (da_cons hb da_nil)) hr σ H env L d env' Q re e k
/-- k in d, k not in d -/
def qok : Option Nat → Nat → Bool
  | some j, n => decide (j < n)
  | none, _ => true
def fDIn (neg : Bool) : List D → Option (D × List D)
  | [y, .nd m h xs] => match dix (.nd m h xs) y with
    | some q => if qok q xs.length = true then some (.bl (if neg then !q.isSome else q.isSome), [y, .nd m h xs]) else none
    | none => none
  | _ => none
theorem den_dinR (neg : Bool) : DenR K (r2L fun y x H Q => ∃ a o, x = .ref a ∧ DGet H a y o ∧ Q (.bl (if neg then !o.isSome else o.isSome)) H) (fDIn neg) := by
  intro vs ds H L d os Q hl r e k
  unfold fDIn at e
  split at e
  · rename_i y m h xs
    split at e
    · rename_i q hq
      split at e
      · rename_i hh
        cases e
        obtain ⟨x, z, rfl⟩ := len2 hl
        obtain ⟨p, o, us, rfl, h1, f, l, g⟩ := dix_get (r.perm (List.Perm.swap _ _ _)) hq
        refine ⟨p, _, rfl, g, ?_⟩
        have e : (q.bind fun j => us[j]?).isSome = q.isSome := by
          cases q with
          | none => rfl
          | some j =>
            have : j < us.length := by rw [l]; simpa [qok] using hh
            simp [this]
        rw [e]
        exact k _ H (r.atom (.bl _))
      · cases e
    · cases e
  · cases e
theorem den_din {td ty : TE} {a b : Arg} (hb : DenArg K ty b) (ha : DenArg K td a) : DenE K (tDIn ty td) (mApp (fDIn false) [b, a]) := by
  intro σ H env L d env' Q re e k
  exact den_app (da_cons hb (da_cons ha da_nil)) (den_dinR false) σ H env L d env' Q re e k
theorem den_dnotin {td ty : TE} {a b : Arg} (hb : DenArg K ty b) (ha : DenArg K td a) : DenE K (tDNotIn ty td) (mApp (fDIn true) [b, a]) := by
  intro σ H env L d env' Q re e k
  exact den_app (da_cons hb (da_cons ha da_nil)) (den_dinR true) σ H env L d env' Q re e k
/-- d[k] = v: the value first -/
def dput : Hd → List D → D → D → Option D
  | .dK ks, xs, y, v => match y.key with
    | some k => (match kix ks k with
      | some j => some (.nd true (.dK ks) (xs.set j v))
      | none => some (.nd true (.dK (ks ++ [k])) (xs ++ [v])))
    | none => none
  | .dT ks, xs, .nd _ .tup ys, v => match keysD ys with
    | some k => (match kix ks k with
      | some j => some (.nd true (.dT ks) (xs.set j v))
      | none => some (.nd true (.dT (ks ++ [k])) (xs ++ [v])))
    | none => none
  | _, _, _, _ => none
def fDPut : List D → Option (D × List D)
  | [v, .nd true h xs, y] => if xs.length < sizeLine then (match dput h xs y v.fz with
    | some d => some (.non, [.any, d, y])
    | none => none) else none
  | _ => none
theorem zip_set : ∀ {us : List V} {xs : List D} {j : Nat} {w u : V} {y c : D}, us.length = xs.length → us[j]? = some u → xs[j]? = some c → ((u, c) :: (us.set j w).zip (xs.set j y)).Perm ((w, y) :: us.zip xs)
  | [], _, _, _, _, _, _, _, h, _ => by simp at h
  | _ :: _, [], _, _, _, _, _, h, _, _ => by simp at h
  | u :: us, x :: xs, 0, w, u', y, c, _, h1, h2 => by simp at h1 h2; subst h1; subst h2; exact .swap _ _ _
  | u :: us, x :: xs, j + 1, w, u', y, c, hl, h1, h2 => by
    have := zip_set (us := us) (xs := xs) (j := j) (w := w) (y := y) (by simpa using hl) (by simpa using h1) (by simpa using h2)
    simp only [List.set_cons_succ, List.zip_cons_cons]
    exact (List.Perm.swap _ _ _).trans ((this.cons _).trans (.swap _ _ _))
theorem putK_nodup {κ : Type} [DecidableEq κ] {kvs : List (κ × V)} {k : κ} {v : V} (nd : (kvs.map (·.1)).Nodup) : ((putK kvs k v).map (·.1)).Nodup := by
  cases h : kix (kvs.map (·.1)) k with
  | some j => rw [(kix_put k v kvs nd j h).1]; exact nd
  | none =>
    rw [kix_new k v kvs h, List.map_append]
    exact List.nodup_append.mpr ⟨nd, by simp, fun a ha b hb e => by
      simp at hb
      subst hb; subst e
      exact kix_none h ha⟩
/-- the heap side of a store, whatever the keys -/
theorem put_core {κ : Type} [DecidableEq κ] {H : Hp} {L : List (V × D)} {p : Addr} {kvs : List (κ × V)} {mk : List (κ × V) → HO} {hk : List κ → Hd} {xs : List D} {k : κ} {w : V} {c : D} {o' : HO}
    (fit : ∀ kvs : List (κ × V), (kvs.map (·.1)).Nodup → Fits K p (mk kvs) (hk (kvs.map (·.1))) (kvs.map (·.2))) (nd : (kvs.map (·.1)).Nodup) (l : (kvs.map (·.2)).length = xs.length)
    (r : R K H ((.ref p, .rsv p) :: (((kvs.map (·.2)).zip xs) ++ (w, c) :: L))) (e : mk (putK kvs k w) = o') :
    R K (L2.upd H p o') ((.ref p, match kix (kvs.map (·.1)) k with | some j => .nd true (hk (kvs.map (·.1))) (xs.set j c) | none => .nd true (hk (kvs.map (·.1) ++ [k])) (xs ++ [c])) :: L) := by
  subst e
  cases h : kix (kvs.map (·.1)) k with
  | some j =>
    obtain ⟨e1, e2⟩ := kix_put k w kvs nd j h
    have hj := (kix_lt h).1
    have hj2 : j < (kvs.map (·.2)).length := by simpa using hj
    have hjx : j < xs.length := by rw [← l]; exact hj2
    have hu : (kvs.map (·.2))[j]? = some (kvs.map (·.2))[j] := List.getElem?_eq_getElem hj2
    have hc : xs[j]? = some xs[j] := List.getElem?_eq_getElem hjx
    have r1 : R K H ((.ref p, .rsv p) :: ((((kvs.map (·.2)).set j w).zip (xs.set j c)) ++ L)) := by
      have r2 : R K H (((kvs.map (·.2))[j], xs[j]) :: (.ref p, .rsv p) :: ((((kvs.map (·.2)).set j w).zip (xs.set j c)) ++ L)) := by
        refine r.perm ?_
        refine List.Perm.trans (List.Perm.cons _ List.perm_middle) ?_
        refine List.Perm.trans (List.Perm.cons _ ((zip_set (w := w) (y := c) l hu hc).symm.append_right L)) ?_
        exact List.Perm.swap _ _ _
      exact r2.tail
    have r3 := r1.upd (o := mk (putK kvs k w))
    have f := fit (putK kvs k w) (putK_nodup nd)
    rw [e1, e2] at f
    have hl : ((kvs.map (·.2)).set j w).length = (xs.set j c).length := by simpa using l
    have r4 := r3.close (h := hk (kvs.map (·.1))) upd_same (by rw [map_zip1 hl]; exact f)
    rw [map_zip2 hl] at r4
    exact r4
  | none =>
    have en := kix_new k w kvs h
    have r1 : R K H ((.ref p, .rsv p) :: (((kvs.map (·.2) ++ [w]).zip (xs ++ [c])) ++ L)) := by
      rw [List.zip_append l]
      refine r.perm (List.Perm.cons _ ?_)
      simp
    have r3 := r1.upd (o := mk (putK kvs k w))
    have f := fit (putK kvs k w) (putK_nodup nd)
    rw [en, List.map_append, List.map_append] at f
    have hl : (kvs.map (·.2) ++ [w]).length = (xs ++ [c]).length := by simp at l; simp [l]
    have r4 := r3.close (h := hk (kvs.map (·.1) ++ [k])) upd_same (by rw [map_zip1 hl, en]; exact f)
    rw [map_zip2 hl] at r4
    exact r4
theorem den_dputR : DenR K (fun vs H Q => match vs with
      | [v, x, y] => ∃ a H', x = .ref a ∧ DPut H a y v H' ∧ Q .non H'
      | _ => False) fDPut := by
  intro vs ds H L d os Q hl r e k
  unfold fDPut at e
  split at e
  · rename_i v h xs y
    split at e
    · rename_i hz
      split at e
      · rename_i d0 hd
        cases e
        obtain ⟨w, x, z, rfl⟩ := len3 hl
        have r0 : R K H ((x, .nd true h xs) :: (w, v.fz) :: (z, y) :: L) := (R.fz r).perm (List.Perm.swap _ _ _)
        obtain ⟨p, o, ps, rfl, rfl, hp, f, r1⟩ := r0.open
        have fin : ∀ {H' : Hp}, R K H' ((.ref p, d0) :: (z, y) :: L) → Q .non H' := fun {H'} q => k .non H' ((q.atom (.any w)).atom .non)
        have ry : R K H ((z, y) :: (w, v.fz) :: L) := (r.tail.tail.atom (.any w)).tail |> fun _ => by
          have := R.right (L := (.ref p, .rsv p) :: ps) r1
          exact this.perm (List.Perm.swap _ _ _)
        have hl' : (ps.map (·.1)).length = (ps.map (·.2)).length := by simp
        have hzip : ps = (ps.map (·.1)).zip (ps.map (·.2)) := by rw [List.zip_map', List.map_id']
        unfold dput at hd
        split at hd
        · rename_i y _ _ _ _ _
          cases hk : y.key with
          | none => rw [hk] at hd; cases hd
          | some kk =>
            rw [hk] at hd
            obtain rfl := key_val ry hk
            generalize hq : ps.map (·.1) = us at f
            cases f
            rename_i kvs nd
            refine ⟨p, _, rfl, DPut.k hp (by
              have : kvs.length = (ps.map (·.2)).length := by rw [← hl', hq]; simp
              omega), fin ?_⟩
            have r2 : R K H ((.ref p, .rsv p) :: ((kvs.map (·.2)).zip (ps.map (·.2)) ++ (w, v.fz) :: (kV kk, y) :: L)) := by
              rw [← hq, ← hzip]; exact r1
            have r3 := put_core (mk := HO.dK) (hk := Hd.dK) (fun kvs nd => .dK kvs nd) nd (by rw [← hq]; exact hl') r2 (k := kk) rfl
            simp only at hd
            cases hx : kix (kvs.map (·.1)) kk with
            | some j => rw [hx] at hd r3; cases hd; exact r3
            | none => rw [hx] at hd r3; cases hd; exact r3
        · rename_i ks ys v0 m2 zs
          cases hk : keysD zs with
          | none => rw [hk] at hd; cases hd
          | some kk =>
            rw [hk] at hd
            obtain ⟨b, rfl, hb⟩ := tkey_val ry hk
            generalize hq : ps.map (·.1) = us at f
            cases f
            rename_i kvs nd
            refine ⟨p, _, rfl, DPut.t hp hb (by
              have : kvs.length = (ps.map (·.2)).length := by rw [← hl', hq]; simp
              omega), fin ?_⟩
            have r2 : R K H ((.ref p, .rsv p) :: ((kvs.map (·.2)).zip (ps.map (·.2)) ++ (w, v.fz) :: (.ref b, .nd m2 .tup zs) :: L)) := by
              rw [← hq, ← hzip]; exact r1
            have r3 := put_core (mk := HO.dT) (hk := Hd.dT) (fun kvs nd => .dT kvs nd) nd (by rw [← hq]; exact hl') r2 (k := kk) rfl
            simp only at hd
            cases hx : kix (kvs.map (·.1)) kk with
            | some j => rw [hx] at hd r3; cases hd; exact r3
            | none => rw [hx] at hd r3; cases hd; exact r3
        · cases hd
      · cases e
    · cases e
  · cases e
theorem den_dput {td ty tv : TE} {a b c : Arg} (hc : DenArg K tv c) (ha : DenArg K td a) (hb : DenArg K ty b) (io : List Nat) : DenS K io (sDPut td ty tv) (sDrop (mApp fDPut [c, a, b])) := by
  have hr := den_dputR (K := K)
  have key : DenE K (fun σ H Q => tv σ H fun v H1 => td σ H1 fun x H2 => ty σ H2 fun y H3 => ∃ a H4, x = .ref a ∧ DPut H3 a y v H4 ∧ Q .non H4) (mApp fDPut [c, a, b]) := by
    intro σ H env L d env' Q re e k
    exact den_app (da_cons hc (da_cons ha (da_cons hb da_nil))) hr σ H env L d env' Q re e k
  intro pv hp σ H env L o Z re P e k
  exact ds_drop key pv hp σ H env L o Z re P e k
end VH

namespace VH
open PySem L2
variable {K : Fk}
/-! ### what is walked: a list, a tuple, a text -/
def iAny (K : PySem.W.Frag) (tl : TE) : TI := fun σ H R => tl σ H fun x H1 => (∃ a, x = .ref a ∧ (∃ xs, SqL K H1 a xs) ∧ R (Itl K a) H1) ∨ (∃ a, x = .ref a ∧ (∃ xs, SqT K H1 a xs) ∧ R (Itt K a) H1) ∨ ∃ z, x = .str z ∧ R (Its z) H1
theorem pi_any {X : Cx} {tg l : Expr} {tl : TE} (hl : PE X l tl) : PI X tg l (iAny X.K tl) := by
  refine ⟨fun pins s σ H R I h => ?_⟩
  refine thn (hl.run pins s σ H _ I h) fun v s1 ⟨x, H1, I1, r1, q1⟩ => ?_
  rcases q1 with ⟨a, e, ⟨xs, hq⟩, q⟩ | ⟨a, e, ⟨xs, hq⟩, q⟩ | ⟨z, e, q⟩
  · subst e
    cases r1
    obtain ⟨its, rv, p, hz⟩ := I1.list hq
    refine wpAny_pyIter_list p.isList ?_
    refine ⟨s1.heap.objs.size, [s1.heap.objs.size], _, _, H1, rfl, I1.kept (t' := s1.toks) fun b o e => Heap.get?_push_of_some _ e, turn_list a _, ⟨_, Heap.get?_push_size _ rfl, rfl, rfl⟩, fun b hb => ?_, q⟩
    have e : b = s1.heap.objs.size := by simpa using hb
    subst e
    exact I1.fpOk (Nat.le_refl _) (I1.hok.fresh (Nat.le_refl _))
  · subst e
    cases r1
    obtain ⟨its, rv, p, hz⟩ := I1.tuple hq
    refine wpAny_pyIter_tuple (show s1.heap.IsTuple a its.toArray from p) ?_
    refine ⟨s1.heap.objs.size, [s1.heap.objs.size], _, _, H1, rfl, I1.kept (t' := s1.toks) fun b o e => Heap.get?_push_of_some _ e, turn_tuple a _, ⟨_, Heap.get?_push_size _ rfl, rfl, rfl⟩, fun b hb => ?_, q⟩
    have e : b = s1.heap.objs.size := by simpa using hb
    subst e
    exact I1.fpOk (Nat.le_refl _) (I1.hok.fresh (Nat.le_refl _))
  · subst e
    obtain ⟨t, rfl⟩ := r1
    cases ha : z.cps.all (· < 128)
    · exact wpAny_pyIter_wide ha (pi_one (tk := s1.toks) I1 _ (turn_str _ z t "str_iterator" (.inr rfl)) ⟨_, Heap.get?_push_size _ rfl, rfl, rfl⟩ q)
    · exact wpAny_pyIter_ascii ha (pi_one (tk := s1.toks) I1 _ (turn_str _ z t "str_ascii_iterator" (.inl rfl)) ⟨_, Heap.get?_push_size _ rfl, rfl, rfl⟩ q)
/-- the signs of a text -/
def signsD (z : Str) : List D := z.cps.toList.map fun c => .str ⟨#[c]⟩
/-- the items that are walked, and the thing itself -/
def D.items : D → Option (List D)
  | .nd _ .lst xs => some (D.fzL xs)
  | .nd _ .sl xs => some (D.fzL xs)
  | .nd _ .tup xs => some (D.fzL xs)
  | .nd _ .st xs => some (D.fzL xs)
  | .str z => some (signsD z)
  | _ => none
def mIt (m : EM D) : EM (List D) := fun env => match m env with
  | some (d, e) => match d.items with
    | some ds => some (ds, e)
    | none => none
  | none => none
theorem itOk_seq {a : Addr} {h : Hd} {xs : List D} (fz : D.isFzL xs = true) : ((h = .lst ∨ h = .sl) → ItOk K (Itl K a) [(.ref a, .nd false h xs)] xs) ∧ ((h = .tup ∨ h = .st) → ItOk K (Itt K a) [(.ref a, .nd false h xs)] xs) := by
  have kid : ∀ {i : Nat} {d : D} {H : Hp} {L : List (V × D)}, xs[i]? = some d → R K H ((.ref a, .nd false h xs) :: L) → ∃ vs w, (∀ hh : h = .lst ∨ h = .sl, SqL K H a vs) ∧ (∀ hh : h = .tup ∨ h = .st, SqT K H a vs) ∧ vs[i]? = some w ∧ vs.length = xs.length ∧ R K H ((w, d) :: (.ref a, .nd false h xs) :: L) := by
    intro i d H L e r
    obtain ⟨b, o, vs, w, e1, h1, _, f, l, hw, r1⟩ := R.childAt r e
    cases e1
    have hd : d.fz = d := D.fz_of d ((D.isFzL_all xs).mp fz d (List.mem_of_getElem? e))
    rw [hd, set_self e] at r1
    exact ⟨vs, w, fun hh => sqL_of h1 f hh, fun hh => sqT_of h1 f hh, hw, l, r1⟩
  have all : ∀ {H : Hp} {L : List (V × D)}, R K H ((.ref a, .nd false h xs) :: L) → ∃ vs, (∀ hh : h = .lst ∨ h = .sl, SqL K H a vs) ∧ (∀ hh : h = .tup ∨ h = .st, SqT K H a vs) ∧ vs.length = xs.length := by
    intro H L r
    obtain ⟨b, o, vs, e1, h1, _, f, l⟩ := R.look r
    cases e1
    exact ⟨vs, fun hh => sqL_of h1 f hh, fun hh => sqT_of h1 f hh, l⟩
  refine ⟨fun hh => ⟨fun i d H L e r => ?_, fun i H L e r => ?_⟩, fun hh => ⟨fun i d H L e r => ?_, fun i H L e r => ?_⟩⟩
  · obtain ⟨vs, w, h1, _, hw, l, r1⟩ := kid e r
    exact ⟨⟨vs, w, h1 hh, hw⟩, fun x H' ⟨e1, y⟩ => by
      subst e1
      have := y vs (h1 hh)
      rw [hw] at this; cases this
      exact r1⟩
  · obtain ⟨vs, h1, _, l⟩ := all r
    exact ⟨vs, h1 hh, by omega⟩
  · obtain ⟨vs, w, _, h1, hw, l, r1⟩ := kid e r
    exact ⟨⟨vs, w, h1 hh, hw⟩, fun x H' ⟨e1, y⟩ => by
      subst e1
      have := y vs (h1 hh)
      rw [hw] at this; cases this
      exact r1⟩
  · obtain ⟨vs, _, h1, l⟩ := all r
    exact ⟨vs, h1 hh, by omega⟩
theorem itOk_str (z : Str) : ItOk K (Its z) [] (signsD z) := by
  have hsz : (signsD z).length = z.cps.size := by simp [signsD]
  refine ⟨fun i d H L e r => ⟨by have := lt_of e; show i < z.cps.size; omega, fun x H' ⟨e1, c, hc, hx⟩ => ?_⟩, fun i H L e r => by show z.cps.size ≤ i; omega⟩
  subst e1; subst hx
  have : d = .str ⟨#[c]⟩ := by
    unfold signsD at e
    rw [List.getElem?_map, Array.getElem?_toList, hc] at e
    exact (Option.some.inj e).symm
  subst this
  exact r.atom (.str _)
theorem den_it {t : TE} {m : EM D} (h : DenE K t m) : DenI K (iAny K t) (mIt m) := by
  intro σ H env L ds env' Q re e k
  unfold mIt at e
  split at e
  · rename_i d e2 q
    split at e
    · rename_i ds1 q1
      cases e
      refine h σ H env L d _ _ re q fun v H1 r => ?_
      have key : ∀ (m0 : Bool) (hd : Hd) (xs : List D), d = .nd m0 hd xs → (hd = .lst ∨ hd = .sl) ∨ (hd = .tup ∨ hd = .st) → ds = D.fzL xs → (∃ a, v = .ref a ∧ (∃ xs, SqL K H1 a xs) ∧ Q (Itl K a) H1) ∨ (∃ a, v = .ref a ∧ (∃ xs, SqT K H1 a xs) ∧ Q (Itt K a) H1) ∨ ∃ z, v = .str z ∧ Q (Its z) H1 := by
        rintro m0 hd xs rfl hh rfl
        have r1 := r.fz
        simp only [D.fz] at r1
        have e1 : ∃ a, v = .ref a := by
          obtain ⟨M, q⟩ := r1.val
          obtain ⟨a, o, vs, e1, _⟩ := R.look q
          exact ⟨a, e1⟩
        obtain ⟨a, rfl⟩ := e1
        obtain ⟨M, q⟩ := r1.val
        obtain ⟨b, o, vs, e1, h1, _, f, l⟩ := R.look q
        cases e1
        have ok := itOk_seq (K := K) (a := a) (h := hd) (D.isFzL_fzL xs)
        rcases hh with hh | hh
        · exact .inl ⟨a, rfl, ⟨vs, sqL_of h1 f hh⟩, k _ [(.ref a, .nd false hd (D.fzL xs))] H1 (ok.1 hh) r1⟩
        · exact .inr (.inl ⟨a, rfl, ⟨vs, sqT_of h1 f hh⟩, k _ [(.ref a, .nd false hd (D.fzL xs))] H1 (ok.2 hh) r1⟩)
      unfold D.items at q1
      split at q1
      · cases q1; exact key _ _ _ rfl (.inl (.inl rfl)) rfl
      · cases q1; exact key _ _ _ rfl (.inl (.inr rfl)) rfl
      · cases q1; exact key _ _ _ rfl (.inr (.inl rfl)) rfl
      · cases q1; exact key _ _ _ rfl (.inr (.inr rfl)) rfl
      · rename_i z
        cases q1
        obtain ⟨M, q⟩ := r.val
        obtain rfl := q.vstr
        exact .inr (.inr ⟨z, rfl, k _ [] H1 (itOk_str z) r.tail⟩)
      · cases q1
    · cases e
  · cases e
/-- range(n), range(a, b) -/
def rangeD (lo : Int) (n : Nat) : List D := (List.range n).map fun (i : Nat) => .int (lo + (i : Int))
theorem itOk_range (lo : Int) (n : Nat) : ItOk K (Itr lo n) [] (rangeD lo n) := by
  have hl : (rangeD lo n).length = n := by simp [rangeD]
  refine ⟨fun i d H L e r => ⟨by have := lt_of e; show i < n; omega, fun x H' ⟨e1, hx⟩ => ?_⟩, fun i H L e r => by show n ≤ i; omega⟩
  subst e1; subst hx
  have hi : i < n := by have := lt_of e; omega
  have : d = .int (lo + i) := by
    unfold rangeD at e
    rw [List.getElem?_map, List.getElem?_range hi] at e
    exact (Option.some.inj e).symm
  subst this
  exact r.atom (.int _)
def mArgs (as : List Arg) (g : List D → Option (List D)) : EM (List D) := fun env => match evs as env with
  | some (ds, ps, e) => match g ds with
    | some xs => some (xs, e)
    | none => none
  | none => none
def gRange1 : List D → Option (List D)
  | [.int j] => if -(2 ^ 62) ≤ j ∧ j < 2 ^ 62 then some (rangeD 0 j.toNat) else none
  | _ => none
def gRange2 : List D → Option (List D)
  | [.int i, .int j] => if -(2 ^ 62) ≤ i ∧ i < 2 ^ 62 ∧ -(2 ^ 62) ≤ j ∧ j < 2 ^ 62 then some (rangeD i (j - i).toNat) else none
  | _ => none
theorem mArgs_eq {as : List Arg} {g : List D → Option (List D)} {env env' : Env} {xs : List D} (h : mArgs as g env = some (xs, env')) : ∃ ds ps, evs as env = some (ds, ps, env') ∧ g ds = some xs := by
  unfold mArgs at h
  split at h
  · rename_i ds ps e q
    split at h
    · rename_i ys q1; cases h; exact ⟨ds, ps, q, q1⟩
    · cases h
  · cases h
theorem den_range1 {ta : TA} {as : List Arg} (h : DenA K ta as) : DenI K (iRng1 ta) (mArgs as gRange1) := by
  intro σ H env L ds env' Q re e k
  obtain ⟨cs, ps, q, g⟩ := mArgs_eq e
  refine h σ H env L cs ps env' _ re q fun vs M H1 hl hs r => ?_
  unfold gRange1 at g
  split at g
  · rename_i j
    split at g
    · rename_i hz
      cases g
      obtain ⟨x, rfl⟩ := len1 hl
      obtain ⟨N, z⟩ := RE.val (v := x) (d := .int j) r
      obtain rfl := z.vint
      exact ⟨j, rfl, hz.1, hz.2, k _ [] H1 (itOk_range 0 _) (RE.right (L := M) (RE.tail r))⟩
    · cases g
  · cases g
theorem den_range2 {ta : TA} {as : List Arg} (h : DenA K ta as) : DenI K (iRng2 ta) (mArgs as gRange2) := by
  intro σ H env L ds env' Q re e k
  obtain ⟨cs, ps, q, g⟩ := mArgs_eq e
  refine h σ H env L cs ps env' _ re q fun vs M H1 hl hs r => ?_
  unfold gRange2 at g
  split at g
  · rename_i i j
    split at g
    · rename_i hz
      cases g
      obtain ⟨x, y, rfl⟩ := len2 hl
      obtain ⟨N, z⟩ := RE.val (v := x) (d := .int i) r
      obtain rfl := z.vint
      obtain ⟨N, z⟩ := RE.val (v := y) (d := .int j) (RE.tail r)
      obtain rfl := z.vint
      exact ⟨i, j, rfl, hz, k _ [] H1 (itOk_range i _) (RE.right (L := M) (RE.tail (RE.tail r)))⟩
    · cases g
  · cases g
/-! ### slices -/
def DenO (K : Fk) (t : TO) (m : Env → Option (Option Int × Env)) : Prop := ∀ (σ : St) (H : Hp) (env : Env) (L : List (V × D)) (o : Option Int) (env' : Env) (Q : Option Int → Hp → Prop), RE K H σ env L → m env = some (o, env') → (∀ H', RE K H' σ env' L → Q o H') → t σ H Q
def oNone : Env → Option (Option Int × Env) := fun env => some (none, env)
def oSome (m : EM D) : Env → Option (Option Int × Env) := fun env => match m env with
  | some (.int i, e) => some (some i, e)
  | _ => none
theorem do_none : DenO K tNoPart oNone := by
  intro σ H env L o env' Q re e k
  cases e
  exact k H re
theorem do_some {t : TE} {m : EM D} (h : DenE K t m) : DenO K (tPart t) (oSome m) := by
  intro σ H env L o env' Q re e k
  unfold oSome at e
  split at e
  · rename_i i e1 q
    cases e
    refine h σ H env L _ _ _ re q fun v H' r => ?_
    obtain ⟨M, z⟩ := r.val
    obtain rfl := z.vint
    exact ⟨i, rfl, k H' r.tail⟩
  · cases e
/-- any a[lo:hi] -/
def cutL {α : Type} (xs : List α) (lo hi : Option Int) : List α := (xs.drop (HT.sIx xs.length 0 lo)).take (HT.sIx xs.length xs.length hi - HT.sIx xs.length 0 lo)
def gCut (lo hi : Option Int) : D → Option D
  | .str z => if z.length ≤ sizeLine then some (.str (cutS z lo hi)) else none
  | .nd _ .lst xs => some (.nd true .lst (cutL xs lo hi))
  | .nd _ .sl xs => some (.nd true .lst (cutL xs lo hi))
  | .nd _ .tup xs => some (.tup (cutL (D.fzL xs) lo hi))
  | .nd _ .st xs => if HT.sIx xs.length 0 lo = 0 ∧ HT.sIx xs.length xs.length hi = xs.length then some (.nd false .st (D.fzL xs)) else some (.tup (cutL (D.fzL xs) lo hi))
  | _ => none
def mSlice (m : EM D) (lo hi : Env → Option (Option Int × Env)) : EM D := fun env => match m env with
  | some (d, e1) => match lo e1 with
    | some (l, e2) => match hi e2 with
      | some (u, e3) => match gCut l u d with
        | some d' => some (d', e3)
        | none => none
      | none => none
    | none => none
  | none => none
theorem cutL_fz (xs : List D) (lo hi : Option Int) : D.fzL (cutL xs lo hi) = cutL (D.fzL xs) lo hi := by
  simp only [cutL, D.fzL_map, List.map_take, List.map_drop, List.length_map]
theorem zip_cut {us : List V} {xs : List D} (hl : us.length = xs.length) (lo hi : Option Int) : (cutV us lo hi).zip (cutL xs lo hi) = ((us.zip xs).drop (HT.sIx us.length 0 lo)).take (HT.sIx us.length us.length hi - HT.sIx us.length 0 lo) := by
  unfold cutV cutL
  rw [← hl]
  simp only [List.zip, List.take_zipWith, List.drop_zipWith]
theorem R.sub {H : Hp} {L ps : List (V × D)} (r : R K H (ps ++ L)) (i n : Nat) : R K H ((ps.drop i).take n ++ L) := by
  have h1 : R K H (ps.take i ++ (ps.drop i ++ L)) := by rw [← List.append_assoc, List.take_append_drop]; exact r
  have h2 := h1.right
  have h3 : R K H ((ps.drop i).drop n ++ ((ps.drop i).take n ++ L)) := by
    refine h2.perm ?_
    rw [← List.append_assoc]
    refine List.Perm.append_right _ ?_
    conv => lhs; rw [← List.take_append_drop n (ps.drop i)]
    exact List.perm_append_comm
  exact h3.right
def rSlAny (K : PySem.W.Frag) : V → Option Int → Option Int → Hp → VK → Prop := fun x lo hi H Q => rSlS x lo hi H Q ∨ rSlL K x lo hi H Q ∨ rSlA K x lo hi H Q
theorem sl_any {X : Cx} : SlR X (rSlAny X.K) := sl_str.or (sl_list.or sl_tupA)
theorem cut_len {us : List V} {xs : List D} (hl : us.length = xs.length) (lo hi : Option Int) : (cutV us lo hi).length = (cutL xs lo hi).length := by
  unfold cutV cutL
  simp [hl]
theorem cut_whole {α : Type} {xs : List α} {lo hi : Option Int} (h : HT.sIx xs.length 0 lo = 0 ∧ HT.sIx xs.length xs.length hi = xs.length) : cutL xs lo hi = xs := by
  unfold cutL
  rw [h.1, h.2]
  simp
theorem den_cut {H : Hp} {L : List (V × D)} {x : V} {d d' : D} {lo hi : Option Int} {Q : VK} (r : R K H ((x, d) :: L)) (e : gCut lo hi d = some d') (k : ∀ v H', R K H' ((v, d') :: L) → Q v H') : rSlAny K x lo hi H Q := by
  have lstC : ∀ (m : Bool) (h : Hd) (xs : List D), h = .lst ∨ h = .sl → d = .nd m h xs → d' = .nd true .lst (cutL xs lo hi) → rSlAny K x lo hi H Q := by
    rintro m h xs hh rfl rfl
    obtain ⟨a, o, us, rfl, h1, f, l, r1⟩ := R.kids r
    refine .inr (.inl ⟨a, us, rfl, sqL_of h1 f hh, fun p hp => k _ _ ?_⟩)
    have r2 := R.sub r1 (HT.sIx us.length 0 lo) (HT.sIx us.length us.length hi - HT.sIx us.length 0 lo)
    rw [← zip_cut l] at r2
    exact R.makeN (cut_len l lo hi) r2 hp (.lst _)
  have tupC : ∀ (m : Bool) (h : Hd) (xs : List D), h = .tup ∨ h = .st → d = .nd m h xs → (¬ (HT.sIx xs.length 0 lo = 0 ∧ HT.sIx xs.length xs.length hi = xs.length) → d' = .tup (cutL (D.fzL xs) lo hi)) → ((HT.sIx xs.length 0 lo = 0 ∧ HT.sIx xs.length xs.length hi = xs.length) → d' = .nd false h (D.fzL xs)) → rSlAny K x lo hi H Q := by
    rintro m h xs hh rfl n1 n2
    obtain ⟨a, o, us, rfl, h1, f, l, r1⟩ := R.kids r
    refine .inr (.inr ⟨a, us, rfl, sqT_of h1 f hh, fun w => ?_, fun w p hp => ?_⟩)
    · rw [l] at w
      rw [n2 w] at k
      have r1 := r.fz
      simp only [D.fz] at r1
      exact k _ H r1
    · rw [l] at w
      rw [n1 w] at k
      have r2 := R.sub r1 (HT.sIx us.length 0 lo) (HT.sIx us.length us.length hi - HT.sIx us.length 0 lo)
      rw [← zip_cut l] at r2
      have r3 := (R.makeN (cut_len l lo hi) r2 hp (.tup _)).fz
      simp only [D.fz, cutL_fz] at r3
      exact k _ _ r3
  unfold gCut at e
  split at e
  · rename_i z
    split at e
    · rename_i hz
      cases e
      obtain rfl := r.vstr
      exact .inl ⟨z, rfl, hz, k _ H (r.tail.atom (.str _))⟩
    · cases e
  · cases e; exact lstC _ _ _ (.inl rfl) rfl rfl
  · cases e; exact lstC _ _ _ (.inr rfl) rfl rfl
  · rename_i m xs
    cases e
    refine tupC _ _ _ (.inl rfl) rfl (fun _ => rfl) fun w => ?_
    have : HT.sIx (D.fzL xs).length 0 lo = 0 ∧ HT.sIx (D.fzL xs).length (D.fzL xs).length hi = (D.fzL xs).length := by
      have hlen : (D.fzL xs).length = xs.length := by rw [D.fzL_map]; simp
      rw [hlen]; exact w
    rw [cut_whole this]
  · split at e
    · rename_i w; cases e; exact tupC _ _ _ (.inr rfl) rfl (fun n => absurd w n) fun _ => rfl
    · rename_i w; cases e; exact tupC _ _ _ (.inr rfl) rfl (fun _ => rfl) fun n => absurd n w
  · cases e
end VH

/-! A piece of syntax with its reading and its plain function, in one. -/
namespace VH
open PySem L2

structure EJ (X : Cx) (e : Expr) (t : TE) (m : EM D) : Prop where
  p : PE X e t
  d : DenE X.fk t m
structure AJ (X : Cx) (e : Expr) (t : TE) (a : Arg) : Prop where
  p : PE X e t
  d : DenArg X.fk t a
structure LJ (X : Cx) (es : List Expr) (t : TA) (as : List Arg) : Prop where
  p : PA X es t
  d : DenA X.fk t as
structure TJ (X : Cx) (e : Expr) (t : TT) (m : EM Bool) : Prop where
  p : PT X e t
  d : DenT X.fk t m
structure WJ (X : Cx) (e : Expr) (t : TT) (m : EM Bool) : Prop where
  p : PW X e t
  d : DenT X.fk t m
structure TsJ (X : Cx) (es : List Expr) (t : TT) (m : EM Bool) : Prop where
  p : PTs X es t
  d : DenT X.fk t m
structure GJ (X : Cx) (e : Expr) (g : TG) (ix : List Nat) (m : D → Env → Option Env) : Prop where
  p : PG X e g
  d : DenG X.fk ix g m
structure GsJ (X : Cx) (es : List Expr) (g : TGs) (ix : List Nat) (m : List D → Env → Option Env) : Prop where
  p : PGs X es g
  d : DenGs X.fk ix g m
structure IJ (X : Cx) (tg it : Expr) (w : TI) (m : EM (List D)) : Prop where
  p : PI X tg it w
  d : DenI X.fk w m
structure OJ (X : Cx) (e : Option Expr) (t : TO) (m : Env → Option (Option Int × Env)) : Prop where
  p : PO X e t
  d : DenO X.fk t m
structure SJ (X : Cx) (io : List Nat) (s : Stmt) (t : TS) (m : SM) : Prop where
  p : PS X s t
  d : DenS X.fk io t m
structure BJ (X : Cx) (io : List Nat) (s : List Stmt) (t : TS) (m : SM) : Prop where
  p : PSs X s t
  d : DenS X.fk io t m
section
variable {X : Cx} {io : List Nat}
/-! names, constants -/
theorem j_var (i : Nat) {x : Str} {pos : Pos} (hN : X.N[i]? = some x := by rfl) (hv : Vis X.env.scope x := by first | exact Or.inl rfl | exact Or.inr (Or.inl rfl) | exact Or.inr (Or.inr rfl)) (hd : (x == ("__debug__" : Str)) = false := by decide)
    (hcd : (x == ("__classdict__" : Str)) = false := by decide) : EJ X (.Name x pos) (tVar i) (mVar i) := ⟨pe_var hN hv hd hcd, den_var⟩
theorem j_mov (i : Nat) {x : Str} {pos : Pos} (hN : X.N[i]? = some x := by rfl) (hv : Vis X.env.scope x := by first | exact Or.inl rfl | exact Or.inr (Or.inl rfl) | exact Or.inr (Or.inr rfl)) (hd : (x == ("__debug__" : Str)) = false := by decide)
    (hcd : (x == ("__classdict__" : Str)) = false := by decide) : EJ X (.Name x pos) (tVar i) (slTake i) := ⟨pe_var hN hv hd hcd, den_mov⟩
theorem a_sl (i : Nat) {x : Str} {pos : Pos} (hN : X.N[i]? = some x := by rfl) (hv : Vis X.env.scope x := by first | exact Or.inl rfl | exact Or.inr (Or.inl rfl) | exact Or.inr (Or.inr rfl)) (hd : (x == ("__debug__" : Str)) = false := by decide)
    (hcd : (x == ("__classdict__" : Str)) = false := by decide) : AJ X (.Name x pos) (tVar i) (.sl i) := ⟨pe_var hN hv hd hcd, den_sl⟩
theorem j_int {i j pos} : EJ X (.Constant (.int i) j pos) (tC (.int i)) (mC (.int i)) := ⟨pe_int, den_int⟩
theorem j_bl {b j pos} : EJ X (.Constant (.bool b) j pos) (tC (.bl b)) (mC (.bl b)) := ⟨pe_bl, den_bl⟩
theorem j_non {j pos} : EJ X (.Constant .none j pos) (tC .non) (mC .non) := ⟨pe_non, den_non⟩
theorem j_str {x j pos} : EJ X (.Constant (.str x) j pos) (tC (.str x)) (mC (.str x)) := ⟨pe_str, den_str⟩
/-- a module's constant -/
theorem j_glob {x : Str} {v : V} {d : D} {u : Value} {pos : Pos} (hm : X.mg x = some u) (r : RelV v u) (a : Atom v d) (hg : Gl X x := by rfl) (hd : (x == ("__debug__" : Str)) = false := by decide) : EJ X (.Name x pos) (tC v) (mC d) := ⟨pe_glob hg hm r hd, den_c a⟩
variable {e a b c : Expr} {es : List Expr} {t ta tb tc : TE} {tl : TA} {m ma mb mc : EM D} {A B C : Arg} {As : List Arg} {pos : Pos}
theorem a_e (h : EJ X e t m) : AJ X e t (.ex m) := ⟨h.p, h.d.arg⟩
theorem l_nil : LJ X [] tNil [] := ⟨pa_nil, da_nil⟩
theorem l_cons (h1 : AJ X e t A) (h2 : LJ X es tl As) (hs : starEach (e :: es) X.env = (false, eval e X.env) :: starEach es X.env := by rfl) : LJ X (e :: es) (tCons t tl) (A :: As) := ⟨pa_cons h1.p h2.p hs, da_cons h1.d h2.d⟩
/-! operators -/
theorem j_op {op : Operator} {r : R2} {fm : List D → Option (D × List D)} (ho : OpR X (binaryOp op) r) (hr : DenR X.fk (r2L r) fm) (ha : AJ X a ta A) (hb : AJ X b tb B) : EJ X (.BinOp a op b pos) (tOp r ta tb) (mApp fm [A, B]) := ⟨pe_op ho ha.p hb.p, den_op hr ha.d hb.d⟩
/-! comparisons -/
theorem j_cmp {op : CmpOp} {r : R2} {fm : List D → Option (D × List D)} (ho : OpR X (compareOp op) r) (hr : DenR X.fk (r2L r) fm) (hm : behindInMarks op b = false) (ha : AJ X a ta A) (hb : AJ X b tb B) : EJ X (.Compare a [op] [b] pos) (tOp r ta tb) (mApp fm [A, B]) := ⟨pe_cmpR ho ha.p hb.p hm, den_op hr ha.d hb.d⟩
theorem j_in (hu : X.A.units + 1 < cLine) (ha : AJ X a ta A) (hb : AJ X b tb B) (h1 : behindInMarks .In b = false := by rfl) : EJ X (.Compare a [.In] [b] pos) (tDIn ta tb) (mApp (fDIn false) [A, B]) := ⟨pe_cmp (pc_din hu ha.p hb.p) h1, den_din ha.d hb.d⟩
theorem j_notin (hu : X.A.units + 1 < cLine) (ha : AJ X a ta A) (hb : AJ X b tb B) (h1 : behindInMarks .NotIn b = false := by rfl) : EJ X (.Compare a [.NotIn] [b] pos) (tDNotIn ta tb) (mApp (fDIn true) [A, B]) := ⟨pe_cmp (pc_dnotin hu ha.p hb.p) h1, den_dnotin ha.d hb.d⟩
/-- a comparison as a test -/
theorem t_cmp {op : CmpOp} {r : R2} {fm : List D → Option (D × List D)} (ho : OpR X (compareOp op) r) (hr : DenR X.fk (r2L r) fm) (hm : behindInMarks op b = false) (ha : AJ X a ta A) (hb : AJ X b tb B) : TJ X (.Compare a [op] [b] pos) (tTest (tOp r ta tb)) (mTest (mApp fm [A, B])) := ⟨pt_cmpR ho ha.p hb.p hm, den_test (den_op hr ha.d hb.d)⟩
theorem t_in (hu : X.A.units + 1 < cLine) (ha : AJ X a ta A) (hb : AJ X b tb B) (h1 : behindInMarks .In b = false := by rfl) : TJ X (.Compare a [.In] [b] pos) (tB (tDIn ta tb)) (mTest (mApp (fDIn false) [A, B])) := ⟨pt_cmp (pc_din hu ha.p hb.p) h1, den_tB (den_din ha.d hb.d)⟩
theorem t_notin (hu : X.A.units + 1 < cLine) (ha : AJ X a ta A) (hb : AJ X b tb B) (h1 : behindInMarks .NotIn b = false := by rfl) : TJ X (.Compare a [.NotIn] [b] pos) (tB (tDNotIn ta tb)) (mTest (mApp (fDIn true) [A, B])) := ⟨pt_cmp (pc_dnotin hu ha.p hb.p) h1, den_tB (den_dnotin ha.d hb.d)⟩
theorem t_val (h : EJ X e t m) (he : ∀ whole, isTrue e X.env whole = (do let v ← whole; standAt e.pos; holding [v] (truthy v)) := by intro _; rfl) : TJ X e (tB t) (mTest m) := ⟨pt_val h.p he, den_tB h.d⟩
/-! tests -/
variable {tt tu : TT} {n u : EM Bool} {rest : List Expr}
theorem w_and1 (h : TJ X a tt n) : WJ X (.BoolOp .And [a] pos) tt n := ⟨pw_and1 h.p, h.d⟩
theorem w_or1 (h : TJ X a tt n) : WJ X (.BoolOp .Or [a] pos) tt n := ⟨pw_or1 h.p, h.d⟩
theorem w_and (h1 : TJ X a tt n) (h2 : WJ X (.BoolOp .And (b :: rest) pos) tu u) : WJ X (.BoolOp .And (a :: b :: rest) pos) (tAnd tt tu) (mAndT n u) := ⟨pw_and h1.p h2.p, den_and h1.d h2.d⟩
theorem w_or (h1 : TJ X a tt n) (h2 : WJ X (.BoolOp .Or (b :: rest) pos) tu u) : WJ X (.BoolOp .Or (a :: b :: rest) pos) (tOr tt tu) (mOrT n u) := ⟨pw_or h1.p h2.p, den_or h1.d h2.d⟩
theorem t_w (h : WJ X e tt n) : TJ X e tt n := ⟨h.p.pt, h.d⟩
theorem t_not (h : TJ X a tt n) : TJ X (.UnaryOp .Not a pos) (tNot tt) (mNotT n) := ⟨pt_not h.p, den_not h.d⟩
theorem j_one {op} (h : EJ X a t m) : EJ X (.BoolOp op [a] pos) t m := ⟨pe_one h.p, h.d⟩
theorem j_and (h1 : EJ X a ta ma) (h2 : EJ X (.BoolOp .And (b :: rest) pos) tb mb) : EJ X (.BoolOp .And (a :: b :: rest) pos) (tAndV ta tb) (mAndV ma mb) := ⟨pe_and h1.p h2.p, den_andV h1.d h2.d⟩
theorem j_or (h1 : EJ X a ta ma) (h2 : EJ X (.BoolOp .Or (b :: rest) pos) tb mb) : EJ X (.BoolOp .Or (a :: b :: rest) pos) (tOrV ta tb) (mOrV ma mb) := ⟨pe_or h1.p h2.p, den_orV h1.d h2.d⟩
theorem j_not (h : EJ X a t m) : EJ X (.UnaryOp .Not a pos) (tNotV t) (mNotV m) := ⟨pe_not h.p, den_notV h.d⟩
theorem j_if (h0 : TJ X c tt n) (h1 : EJ X a ta ma) (h2 : EJ X b tb mb) : EJ X (.IfExp c a b pos) (tIf tt ta tb) (mIfE n ma mb) := ⟨pe_ifExp h0.p h1.p h2.p, den_ifE h0.d h1.d h2.d⟩
theorem ts_nil : TsJ X [] tYes (fun env => some (true, env)) := ⟨pts_nil, fun σ H env L b env' Q re e k => by cases e; exact k H re⟩
theorem ts_one (h : TJ X c tt n) : TsJ X [c] tt n := ⟨pts_one h.p, h.d⟩
/-! items, slices, displays -/
theorem j_ix (ha : AJ X a ta A) (hb : AJ X b tb B) (hs : PlainIx b := by intro _ _; rfl) : EJ X (.Subscript a b pos) (tOp (rIx X.K) ta tb) (mApp fIx [A, B]) := ⟨pe_ix ix_seq ha.p hb.p hs, den_op den_ix ha.d hb.d⟩
theorem j_dget (hu : X.A.units + 1 < cLine) (ha : AJ X a ta A) (hb : AJ X b tb B) (hs : NoSl b := by intro _ _; rfl) : EJ X (.Subscript a b pos) (tDGet ta tb) (mApp fDGet [A, B]) := ⟨pe_dget hu ha.p hb.p hs, den_dget ha.d hb.d⟩
theorem o_none : OJ X none tNoPart oNone := ⟨po_none, do_none⟩
theorem o_some (h : EJ X e t m) : OJ X (some e) (tPart t) (oSome m) := ⟨po_some h.p, do_some h.d⟩
theorem den_slice {K : Fk} {te : TE} {tl th : TO} {m : EM D} {lo hi : Env → Option (Option Int × Env)} (h1 : DenE K te m) (h2 : DenO K tl lo) (h3 : DenO K th hi) : DenE K (tSl (rSlAny K) te tl th) (mSlice m lo hi) := by
  intro σ H env L d env' Q re e k
  unfold mSlice at e
  split at e
  · rename_i d0 e1 q1
    split at e
    · rename_i l e2 q2
      split at e
      · rename_i u e3 q3
        split at e
        · rename_i d1 q4
          cases e
          refine h1 σ H env L d0 e1 _ re q1 fun v H1 r1 => h2 σ H1 e1 _ l e2 _ r1 q2 fun H2 r2 => h3 σ H2 e2 _ u _ _ r2 q3 fun H3 r3 => ?_
          obtain ⟨M, q, b⟩ := RE.to (L := [(v, d0)]) r3
          exact den_cut q q4 fun w H' r => k w H' (b (L1 := [(w, d)]) r)
        · cases e
      · cases e
    · cases e
  · cases e
theorem j_slice {lo hi : Option Expr} {p2 : Pos} {tl th : TO} {ml mh : Env → Option (Option Int × Env)} (h1 : EJ X e t m) (h2 : OJ X lo tl ml) (h3 : OJ X hi th mh) : EJ X (.Subscript e (.Slice lo hi none p2) pos) (tSl (rSlAny X.K) t tl th) (mSlice m ml mh) := ⟨pe_slice sl_any h1.p h2.p h3.p, den_slice h1.d h2.d h3.d⟩
theorem j_lst (h : LJ X es tl As) : EJ X (.List es pos) (tLst tl) (mApps gLst As) := ⟨pe_lst h.p, den_lst h.d⟩
theorem j_tup {x1} (h : LJ X es tl As) : EJ X (.Tuple es x1 pos) (tTup tl) (mApps gTup As) := ⟨pe_tup h.p, den_tup h.d⟩
theorem j_tupO {x1} (h : LJ X es tl As) : EJ X (.Tuple es x1 pos) (tTup tl) (mApps gTupO As) := ⟨pe_tup h.p, den_tupO h.d⟩
/-! built-ins -/
theorem j_cb {id : String} {r : List V → Hp → VK → Prop} {fm : List D → Option (D × List D)} {x : Str} {p : Pos} (hc : CallR X (.builtin id) r) (hr : DenR X.fk r fm) (hm : X.mg x = none) (ha : LJ X (e :: es) tl As) (hg : Gl X x := by rfl) (hv : bootBuiltins x = some (.builtin id) := by decide +kernel) (hn : x ≠ "__name__" := by decide) (hdb : (x == ("__debug__" : Str)) = false := by decide)
    (he : starEach (e :: es) X.env = (false, eval e X.env) :: starEach es X.env := by rfl) (hpl : (backTo pos (starEach es X.env)).any (·.1) = false := by rfl) : EJ X (.Call (.Name x p) (e :: es) [] pos) (tCB r tl) (mApp fm As) := ⟨pe_callB hc hg hm hv ha.p hn hdb he hpl, den_app ha.d hr⟩
theorem j_ct {T : String} {r : List V → Hp → VK → Prop} {fm : List D → Option (D × List D)} {x : Str} {p : Pos} (hc : CallR X (.type T) r) (hr : DenR X.fk r fm) (hm : X.mg x = none) (ha : LJ X (e :: es) tl As) (hg : Gl X x := by rfl) (hv : bootBuiltins x = some (.type T) := by decide +kernel) (hn : x ≠ "__name__" := by decide) (hdb : (x == ("__debug__" : Str)) = false := by decide)
    (he : starEach (e :: es) X.env = (false, eval e X.env) :: starEach es X.env := by rfl) (hpl : (backTo pos (starEach es X.env)).any (·.1) = false := by rfl) : EJ X (.Call (.Name x p) (e :: es) [] pos) (tCB r tl) (mApp fm As) := ⟨pe_callTy hc hg hm hv ha.p hn hdb he hpl, den_app ha.d hr⟩
/-- a built-in's method -/
theorem j_bm {T : String} {id : String} {name : Str} {r : V → List V → Hp → VK → Prop} {fm : List D → Option (D × List D)} {o : Expr} {to : TE} {apos cpos : Pos} (pa : PlainAttrs T) (slot : Slot T name id) (hty : typeOf (.builtin id) = pure (.type "method_descriptor")) (hm : MtR X id r) (hr : DenR X.fk (rML r) fm)
    (hT : ∀ x d ds z H L, R X.fk H ((x, d) :: L) → fm (d :: ds) = some z → tyV X.K T x H) (ho : AJ X o to A) (ha : LJ X (e :: es) tl As)
    (hbase : attributeBase o name X.env (eval o X.env) = eval o X.env := by rfl)
    (hfew : ((backTo cpos (starEach (e :: es) X.env)).all (fun x => !x.1) && (backToKw cpos (keywordEach [] X.env)).all (fun x => x.1.isSome)
      && decide ((e :: es).length + ([] : List Keyword).length + (if ([] : List Keyword).isEmpty then 0 else 1) < 30)) = true := by rfl)
    (hline : (apos.endLine == cpos.line) = true := by rfl) (hs : starEach (e :: es) X.env = (false, eval e X.env) :: starEach es X.env := by rfl) (hplain : (backTo cpos (starEach es X.env)).any (·.1) = false := by rfl) :
    EJ X (.Call (.Attribute o name apos) (e :: es) [] cpos) (tBM X.K T r to tl) (mApp fm (A :: As)) := ⟨pe_bm pa slot hty hm ho.p ha.p hbase hfew hline hs hplain, den_bm hT hr ho.d ha.d⟩
theorem j_bm0 {T : String} {id : String} {name : Str} {r : V → List V → Hp → VK → Prop} {fm : List D → Option (D × List D)} {o : Expr} {to : TE} {apos cpos : Pos} (pa : PlainAttrs T) (slot : Slot T name id) (hty : typeOf (.builtin id) = pure (.type "method_descriptor")) (hm : MtR X id r) (hr : DenR X.fk (rML r) fm)
    (hT : ∀ x d ds z H L, R X.fk H ((x, d) :: L) → fm (d :: ds) = some z → tyV X.K T x H) (ho : AJ X o to A)
    (hbase : attributeBase o name X.env (eval o X.env) = eval o X.env := by rfl) (hline : (apos.endLine == cpos.line) = true := by rfl) :
    EJ X (.Call (.Attribute o name apos) [] [] cpos) (tBM0 X.K T r to) (mApp fm [A]) := ⟨pe_bm0 pa slot hty hm ho.p hbase hline, den_bm0 hT hr ho.d⟩
/-! defs -/
/-- a def of the text, known by what it does to data -/
structure Df (P : Program) (w : World) (K : PySem.W.Frag) (mg : Str → Option Value) (base : Heap) (x : Str) (np k : Nat) (fm : List D → Option (D × List D)) : Prop where
  ex : ∃ (f : Addr) (fd : FuncData) (ps : List Str), FnOk P w K mg base (L2.CX P w) k f fd ps (spD ⟨K, P, w⟩ np fm) ∧ mg x = some (.ref f) ∧ PySem.W.keepIn K (.ref f) = true ∧ Binds K fd ps []
  ln : ∀ ds z, fm ds = some z → ds.length = np
theorem Df.mono {P : Program} {w : World} {K : PySem.W.Frag} {mg : Str → Option Value} {base : Heap} {x : Str} {np k j : Nat} {fm : List D → Option (D × List D)} (F : Df P w K mg base x np k fm) (h : k ≤ j) : Df P w K mg base x np j fm := by
  obtain ⟨f, fd, ps, a, b⟩ := F.ex
  exact ⟨⟨f, fd, ps, a.mono h, b⟩, F.ln⟩
theorem j_call {x : Str} {p : Pos} {np k : Nat} {fm : List D → Option (D × List D)} (F : Df X.prog X.w X.K X.mg X.base x np k fm) (hr : Room k X.A) (ha : LJ X (e :: es) tl As) (hg : Gl X x := by rfl) (hdb : (x == ("__debug__" : Str)) = false := by decide)
    (he : starEach (e :: es) X.env = (false, eval e X.env) :: starEach es X.env := by rfl) (hpl : (backTo pos (starEach es X.env)).any (·.1) = false := by rfl) :
    EJ X (.Call (.Name x p) (e :: es) [] pos) (tCall (spD X.fk np fm) [] E0 tl) (mApp fm As) := by
  obtain ⟨f, fd, ps, F1, hm, hk, hb⟩ := F.ex
  refine ⟨pe_call F1 hr hg hm hk hb .nil passL ha.p hdb he hpl, ?_⟩
  intro σ H env L d env' Q re e k
  have z := den_app ha.d (denR_sp (K := X.fk) (E := E0) F.ln) σ H env L d env' Q re e k
  unfold tCB at z
  unfold tCall
  simp only [List.append_nil]
  exact z
/-! targets -/
theorem g_name (i : Nat) {x : Str} (hN : X.N.Nodup) (hi : X.N[i]? = some x := by rfl) (hx : Loc X.env.scope x := by first | exact Or.inl rfl | exact Or.inr rfl) (hf : X.fn x = true ∨ X.env.scope.names.lookup x = some .local := by first | exact .inl rfl | exact .inr rfl) : GJ X (.Name x pos) (gName i) [i] (gmName i) := ⟨pg_name hN hi hx hf, dg_name⟩
theorem gs_nil : GsJ X [] gNil [] gmNil := ⟨pgs_nil, dgs_nil⟩
theorem gs_cons {g : TG} {u : TGs} {ix jx : List Nat} {mg : D → Env → Option Env} {mgs : List D → Env → Option Env} (h1 : GJ X e g ix mg) (h2 : GsJ X es u jx mgs) (hs : (assignEach (e :: es) X.env).map (·.2) = assign e X.env :: (assignEach es X.env).map (·.2) := by rfl) : GsJ X (e :: es) (gCons g u) (ix ++ jx) (gmCons mg mgs) := ⟨pgs_cons h1.p h2.p hs, dgs_cons h1.d h2.d⟩
theorem g_tup {k : Nat} {u : TGs} {ix : List Nat} {mgs : List D → Env → Option Env} (n : Nat) (hc : X.calm = true) (h : GsJ X es u ix mgs) (hn : (assignEach es X.env).length = n := by rfl) (hst : (assignEach es X.env).findIdx? (·.1) = none := by rfl) : GJ X (.Tuple es k pos) (L2.gTup X.K n u) ix (gmTup n mgs) := ⟨pg_tup hc h.p hn hst, dg_tup h.d⟩
/-! what is walked -/
theorem i_any {tg : Expr} (h : EJ X e t m) : IJ X tg e (iAny X.K t) (mIt m) := ⟨pi_any h.p, den_it h.d⟩
theorem i_range1 {tg : Expr} {p : Pos} (hm : X.mg "range" = none) (h : LJ X [e] tl As) (hg : Gl X "range" := by rfl) (hs : starEach [e] X.env = [(false, eval e X.env)] := by rfl) : IJ X tg (.Call (.Name "range" p) [e] [] pos) (iRng1 tl) (mArgs As gRange1) := ⟨pi_range1 hg hm h.p hs, den_range1 h.d⟩
theorem i_range2 {tg : Expr} {p : Pos} (hm : X.mg "range" = none) (h : LJ X [a, b] tl As) (hg : Gl X "range" := by rfl) (hs : starEach [a, b] X.env = [(false, eval a X.env), (false, eval b X.env)] := by rfl) (hs2 : starEach [b] X.env = [(false, eval b X.env)] := by rfl) : IJ X tg (.Call (.Name "range" p) [a, b] [] pos) (iRng2 tl) (mArgs As gRange2) := ⟨pi_range2 hg hm h.p hs hs2, den_range2 h.d⟩
/-! comprehensions -/
theorem j_comp {elt tg iter : Expr} {ifs : List Expr} {scope : Scope} (own : List (Str × Nat)) {wi : TI} {g : TG} {ix : List Nat} {tt : TT} {te : TE} {mi : EM (List D)} {mg : D → Env → Option Env} {mc : EM Bool} {me : EM D} (hc : X.calm = true) (hN : X.N.Nodup) (ok : BlkOk X.N X.env.scope scope own) (hi : IJ X tg iter wi mi)
    (hg : ∀ (s : Shared) (H : Hp) (C : Addr) (cl : List (Str × Addr)) (fp : List Addr), GJ (X.blk s H scope (compEnvC scope cl C X.env) fp) tg g ix mg) (ht : ∀ (s : Shared) (H : Hp) (C : Addr) (cl : List (Str × Addr)) (fp : List Addr), TsJ (X.blk s H scope (compEnvC scope cl C X.env) fp) ifs tt mc)
    (he : ∀ (s : Shared) (H : Hp) (C : Addr) (cl : List (Str × Addr)) (fp : List Addr), EJ (X.blk s H scope (compEnvC scope cl C X.env) fp) elt te me) (hx : ix.all (own.map (·.2)).contains = true := by rfl) (hs : ∀ x, foldedSetIterable iter X.env x = pure x := by intro _; rfl) :
    EJ X (.ListComp elt [⟨tg, iter, ifs, 0⟩] scope pos) (tLc wi g tt te (own.map (·.2))) (mComp mi mg mc me (own.map (·.2))) :=
  ⟨pe_lc hc hN hi.p ok (fun s H C cl fp => (hg s H C cl fp).p) (fun s H C cl fp => (ht s H C cl fp).p) (fun s H C cl fp => (he s H C cl fp).p) hs,
   den_comp hi.d (hg X.s_0 X.H_0 0 [] []).d hx (ht X.s_0 X.H_0 0 [] []).d (he X.s_0 X.H_0 0 [] []).d⟩
theorem s_setLc (i : Nat) {y : Str} {py spos : Pos} {elt tg iter : Expr} {ifs : List Expr} {scope : Scope} (own : List (Str × Nat)) {wi : TI} {g : TG} {ix : List Nat} {tt : TT} {te : TE} {mi : EM (List D)} {mg : D → Env → Option Env} {mc : EM Bool} {me : EM D} (hc : X.calm = true) (hN : X.N.Nodup) (ok : BlkOk X.N X.env.scope scope own) (hi : IJ X tg iter wi mi)
    (hg : ∀ (s : Shared) (H : Hp) (C : Addr) (cl : List (Str × Addr)) (fp : List Addr), GJ (X.blk s H scope (compEnvC scope cl C X.env) fp) tg g ix mg) (ht : ∀ (s : Shared) (H : Hp) (C : Addr) (cl : List (Str × Addr)) (fp : List Addr), TsJ (X.blk s H scope (compEnvC scope cl C X.env) fp) ifs tt mc)
    (he : ∀ (s : Shared) (H : Hp) (C : Addr) (cl : List (Str × Addr)) (fp : List Addr), EJ (X.blk s H scope (compEnvC scope cl C X.env) fp) elt te me)
    (hsw : swapsWith (.ListComp elt [⟨tg, iter, ifs, 0⟩] scope pos) (some (.Name y py)) spos.line X.env = pure true) (hap : apart [i] io = true := by rfl) (hy : X.N[i]? = some y := by rfl) (hyl : X.env.scope.names.lookup y = some .local := by rfl) (hx : ix.all (own.map (·.2)).contains = true := by rfl) (hs : ∀ x, foldedSetIterable iter X.env x = pure x := by intro _; rfl) :
    SJ X io (.Assign [.Name y py] (.ListComp elt [⟨tg, iter, ifs, 0⟩] scope pos) spos) (tAsg (tLc wi g tt te (own.map (·.2))) (gName i)) (sAsg (mComp mi mg mc me (own.map (·.2))) (gmName i)) :=
  ⟨ps_setLc hc hN hy hyl hsw hi.p ok (fun s H C cl fp => (hg s H C cl fp).p) (fun s H C cl fp => (ht s H C cl fp).p) (fun s H C cl fp => (he s H C cl fp).p) hs,
   ds_asg (den_comp hi.d (hg X.s_0 X.H_0 0 [] []).d hx (ht X.s_0 X.H_0 0 [] []).d (he X.s_0 X.H_0 0 [] []).d) dg_name hap⟩
/-! statements -/
variable {st : Stmt} {sts body orelse : List Stmt} {ts us : TS} {ms ns : SM}
theorem b_nil : BJ X io [] tNext sNext := ⟨pss_nil, ds_next⟩
theorem b_one (h : SJ X io st ts ms) : BJ X io [st] ts ms := ⟨pss_one h.p, h.d⟩
theorem b_cons (h1 : SJ X io st ts ms) (h2 : BJ X io sts us ns) : BJ X io (st :: sts) (tSeq ts us) (sSeq ms ns) := ⟨pss_cons h1.p h2.p, ds_seq h1.d h2.d⟩
theorem s_set (i : Nat) {x : Str} {pos' : Pos} (hN : X.N.Nodup) (h : EJ X e t m) (hap : apart [i] io = true := by rfl) (hi : X.N[i]? = some x := by rfl) (hx : Loc X.env.scope x := by first | exact Or.inl rfl | exact Or.inr rfl) (hs : swapsWith e (some (.Name x pos')) pos.line X.env = pure false := by rfl) (hf : X.fn x = true ∨ X.env.scope.names.lookup x = some .local := by first | exact .inl rfl | exact .inr rfl) :
    SJ X io (.Assign [.Name x pos'] e pos) (tAsg t (gName i)) (sAsg m (gmName i)) := ⟨ps_set hN hi hx h.p hs hf, ds_asg h.d dg_name hap⟩
theorem s_asg {tg : Expr} {g : TG} {ix : List Nat} {mg : D → Env → Option Env} (h : EJ X e t m) (hg : GJ X tg g ix mg) (hap : apart ix io = true := by rfl) (hs : swapsWithSole [tg] e pos.line X.env = pure false := by rfl) (hw : swappedStores [tg] e X.env = pure none := by rfl)
    (h1 : (assignEach [tg] X.env).map (·.2) = [assign tg X.env] := by rfl) : SJ X io (.Assign [tg] e pos) (tAsg t g) (sAsg m mg) := ⟨ps_asg h.p hg.p hs hw h1, ds_asg h.d hg.d hap⟩
theorem s_dput {o i value : Expr} {to ti tv : TE} {pos' : Pos} (hu : X.A.units + 1 < cLine) (hv : AJ X value tv C) (ho : AJ X o to A) (hi : AJ X i ti B) (hs : swapsWith value (some (.Subscript o i pos')) pos.line X.env = pure false := by rfl) :
    SJ X io (.Assign [.Subscript o i pos'] value pos) (sDPut to ti tv) (sDrop (mApp fDPut [C, A, B])) := ⟨ps_dput hu ho.p hi.p hv.p hs, den_dput hv.d ho.d hi.d io⟩
theorem s_expr (h : EJ X e t m) (hs : swapsWith e none pos.line X.env = pure false := by rfl) : SJ X io (.Expr e pos) (tDrop t) (sDrop m) := ⟨ps_expr h.p hs, ds_drop h.d⟩
theorem s_ret (h : EJ X e t m) : SJ X io (.Return (some e) pos) (tRet t) (sRet m) := ⟨ps_ret h.p, ds_ret h.d⟩
theorem s_retN : SJ X io (.Return none pos) tRetN sRetN := ⟨ps_retN, ds_retN⟩
theorem s_if (h0 : TJ X c tt n) (h1 : BJ X io body ts ms) (h2 : BJ X io orelse us ns) : SJ X io (.If c body orelse pos) (tIfS tt ts us) (sIf n ms ns) := ⟨ps_if h0.p h1.p h2.p, ds_if h0.d h1.d h2.d⟩
theorem s_for {tg iter : Expr} {wi : TI} {g : TG} {ix : List Nat} {mi : EM (List D)} {mg : D → Env → Option Env} (hp : PassesOwn (model X.prog X.w) X.A X.env X.xe) (hc : X.calm = true) (hi : IJ X tg iter wi mi) (hg : GJ X tg g ix mg) (hb : BJ X io body ts ms) (hap : apart ix io = true := by rfl) (hs : ∀ x, foldedSetIterable iter X.env x = pure x := by intro _; rfl) :
    SJ X io (.For tg iter body [] pos) (tFor wi g ts) (sFor mi mg ms) := ⟨ps_for hp hc hi.p hg.p hb.p hs, ds_for hi.d hg.d hap hb.d⟩
theorem s_while (k : Nat) (hp : PassesOwn (model X.prog X.w) X.A X.env X.xe) (hc : TJ X c tt n) (hb : BJ X io body ts ms) : SJ X io (.While c body [] pos) (tWhile tt ts) (whileN n ms k) := ⟨ps_while hp hc.p hb.p, ds_while k hc.d hb.d⟩
theorem s_never : SJ X io st tNever sNever := ⟨ps_never, ds_never⟩
theorem s_pass : SJ X io (.Pass pos) tNext sNext := ⟨ps_pass, ds_next⟩
theorem s_break : SJ X io (.Break pos) tBreak sBreak := ⟨ps_break, ds_break⟩
theorem s_cont : SJ X io (.Continue pos) tCont sCont := ⟨ps_continue, ds_cont⟩
theorem s_aug (i : Nat) {x : Str} {op : Operator} {ti : TIp} {fm : List D → Option (D × List D)} {pos' : Pos} (hN : X.N.Nodup) (ho : PIp X op ti) (hr : DenR X.fk (r2L ti) fm) (hb : AJ X e t B) (hap : apart [i] io = true := by rfl) (hi : X.N[i]? = some x := by rfl) (hx : Loc X.env.scope x := by first | exact Or.inl rfl | exact Or.inr rfl) (hf : X.fn x = true ∨ X.env.scope.names.lookup x = some .local := by first | exact .inl rfl | exact .inr rfl) :
    SJ X io (.AugAssign (.Name x pos') op e pos) (tAug i t ti) (sAsg (mApp fm [.sl i, B]) (gmName i)) := ⟨ps_aug hN hi hx hb.p ho hf, ds_aug hap hb.d hr⟩
end
/-- a def's promise from its body -/
theorem df_mk {P : Program} {w : World} {K : PySem.W.Frag} {mg : Str → Option Value} {base : Heap} {x qual : Str} {params : Arguments} {body : List Stmt} {scope : Scope} {f : Addr} {fd : FuncData} {N ps : List Str} {np k : Nat} {io : List Nat} {m : SM}
    (F : FunD K x qual params body scope [] [] f fd) (S : FnScope N ps scope) (hnp : ps.length = np) (hio : io.all (· < np) = true) (hnd : io.Nodup)
    (hb : ∀ (cdv : Value) (A : Around) (outer : List PySem.Env) (s : Shared) (H : Hp) (E : XK), Room k (A.deeper (PyProof.Rows.envOfC qual scope s.heap.objs.size f cdv)) → ∃ t, BJ (cxOf (L2.CX P w) P w K mg base N qual scope f cdv A outer s H E).nox io body t m) :
    FnOk P w K mg base (L2.CX P w) (k + 1) f fd ps (spD ⟨K, P, w⟩ np (fnD np N.length io m)) := by
  refine F.ok S (fun vs H Q E h => h.1.trans hnp.symm) fun cdv A outer s H vs Q E hr h => ?_
  obtain ⟨t, b⟩ := hb cdv A outer s H E hr
  exact ⟨t, PSs.nox b.p, body_ok b.d hio hnd h⟩
theorem df_of {P : Program} {w : World} {K : PySem.W.Frag} {mg : Str → Option Value} {base : Heap} {x qual : Str} {params : Arguments} {body : List Stmt} {scope : Scope} {f : Addr} {fd : FuncData} {N ps : List Str} {np k : Nat} {io : List Nat} {m : SM}
    (F : FunD K x qual params body scope [] [] f fd) (S : FnScope N ps scope) (hm : mg x = some (.ref f)) (hb : Binds K fd ps []) (hnp : ps.length = np) (hio : io.all (· < np) = true) (hnd : io.Nodup)
    (h : ∀ (cdv : Value) (A : Around) (outer : List PySem.Env) (s : Shared) (H : Hp) (E : XK), Room k (A.deeper (PyProof.Rows.envOfC qual scope s.heap.objs.size f cdv)) → ∃ t, BJ (cxOf (L2.CX P w) P w K mg base N qual scope f cdv A outer s H E).nox io body t m) :
    Df P w K mg base x np (k + 1) (fnD np N.length io m) := ⟨⟨f, fd, ps, df_mk F S hnp hio hnd h, hm, F.kp, hb⟩, fun ds z h => fnD_len ds z h⟩
end VH

namespace VH
open PySem L2
variable {K : Fk}
/-! ### list(x), xs[::-1], int(n), str(n) -/
def fList : List D → Option (D × List D)
  | [.nd _ .lst xs] => some (.nd true .lst xs, [.any])
  | [.nd _ .sl xs] => some (.nd true .lst xs, [.any])
  | [.nd _ .tup xs] => some (.nd true .lst xs, [.any])
  | [.nd _ .st xs] => some (.nd true .lst xs, [.any])
  | _ => none
theorem den_list : DenR K (fun xs H Q => ∃ p ys, xs = [.ref p] ∧ (SqL K H p ys ∨ SqT K H p ys) ∧ ∀ l, H l = none → Q (.ref l) (L2.upd H l (.lst ys))) fList := by
  intro vs ds H L d os Q hl r e k
  have key : ∀ (m : Bool) (h : Hd) (xs : List D), (h = .lst ∨ h = .sl) ∨ (h = .tup ∨ h = .st) → ds = [.nd m h xs] → d = .nd true .lst xs → os = [.any] → ∃ p ys, vs = [.ref p] ∧ (SqL K H p ys ∨ SqT K H p ys) ∧ ∀ l, H l = none → Q (.ref l) (L2.upd H l (.lst ys)) := by
    rintro m h xs hh rfl rfl rfl
    obtain ⟨x, rfl⟩ := len1 hl
    obtain ⟨a, o, us, rfl, h1, f, l, r1⟩ := R.kids r
    refine ⟨a, us, rfl, ?_, fun p hp => k _ _ (R.any1 (R.makeN l r1 hp (.lst _)))⟩
    rcases hh with hh | hh
    · exact .inl (sqL_of h1 f hh)
    · exact .inr (sqT_of h1 f hh)
  unfold fList at e
  split at e
  · cases e; exact key _ _ _ (.inl (.inl rfl)) rfl rfl rfl
  · cases e; exact key _ _ _ (.inl (.inr rfl)) rfl rfl rfl
  · cases e; exact key _ _ _ (.inr (.inl rfl)) rfl rfl rfl
  · cases e; exact key _ _ _ (.inr (.inr rfl)) rfl rfl rfl
  · cases e
def fTuple : List D → Option (D × List D)
  | [.nd _ .lst xs] => some (.tup (D.fzL xs), [.any])
  | [.nd _ .sl xs] => some (.tup (D.fzL xs), [.any])
  | [.nd _ .tup xs] => some (.tup (D.fzL xs), [.any])
  | _ => none
theorem den_tuple : DenR K (fun xs H Q => ∃ p ys, xs = [.ref p] ∧ ((SqL K H p ys ∧ ∀ l, H l = none → Q (.ref l) (L2.upd H l (.tup ys))) ∨ (SqT K H p ys ∧ Q (.ref p) H))) fTuple := by
  intro vs ds H L d os Q hl r e k
  have key : ∀ (m : Bool) (h : Hd) (xs : List D), (h = .lst ∨ h = .sl) → ds = [.nd m h xs] → d = .tup (D.fzL xs) → os = [.any] → ∃ p ys, vs = [.ref p] ∧ ((SqL K H p ys ∧ ∀ l, H l = none → Q (.ref l) (L2.upd H l (.tup ys))) ∨ (SqT K H p ys ∧ Q (.ref p) H)) := by
    rintro m h xs hh rfl rfl rfl
    obtain ⟨x, rfl⟩ := len1 hl
    obtain ⟨a, o, us, rfl, h1, f, l, r1⟩ := R.kids r
    exact ⟨a, us, rfl, .inl ⟨sqL_of h1 f hh, fun p hp => k _ _ (R.any1 (R.makeN l r1 hp (.tup _)).fz)⟩⟩
  unfold fTuple at e
  split at e
  · cases e; exact key _ _ _ (.inl rfl) rfl rfl rfl
  · cases e; exact key _ _ _ (.inr rfl) rfl rfl rfl
  · rename_i m xs
    cases e
    obtain ⟨x, rfl⟩ := len1 hl
    obtain ⟨a, o, us, rfl, h1, _, f, l⟩ := R.look r
    have r1 := r.fz
    simp only [D.fz] at r1
    exact ⟨a, us, rfl, .inr ⟨sqT_of h1 f (.inl rfl), k _ H (R.any1 r1)⟩⟩
  · cases e
def fRev : List D → Option (D × List D)
  | [.nd _ .lst xs] => some (.nd true .lst xs.reverse, [.any])
  | [.nd _ .sl xs] => some (.nd true .lst xs.reverse, [.any])
  | _ => none
theorem den_revR : DenR K (r1L fun x H Q => ∃ a xs, x = .ref a ∧ SqL K H a xs ∧ ∀ p, H p = none → Q (.ref p) (L2.upd H p (.lst xs.reverse))) fRev := by
  intro vs ds H L d os Q hl r e k
  have key : ∀ (m : Bool) (h : Hd) (xs : List D) (x : V), vs = [x] → (h = .lst ∨ h = .sl) → ds = [.nd m h xs] → d = .nd true .lst xs.reverse → os = [.any] → ∃ a ys, x = .ref a ∧ SqL K H a ys ∧ ∀ p, H p = none → Q (.ref p) (L2.upd H p (.lst ys.reverse)) := by
    rintro m h xs x rfl hh rfl rfl rfl
    obtain ⟨a, o, us, rfl, h1, f, l, r1⟩ := R.kids r
    refine ⟨a, us, rfl, sqL_of h1 f hh, fun p hp => k _ _ (R.any1 (R.makeN (by simp [l]) ?_ hp (.lst _)))⟩
    have e : us.reverse.zip xs.reverse = (us.zip xs).reverse := by
      simp only [List.zip]
      exact (List.reverse_zipWith l).symm
    rw [e]
    exact r1.perm (List.Perm.append_right _ (List.reverse_perm _).symm)
  unfold fRev at e
  split at e
  · cases e
    obtain ⟨x, rfl⟩ := len1 hl
    exact key _ _ _ x rfl (.inl rfl) rfl rfl rfl
  · cases e
    obtain ⟨x, rfl⟩ := len1 hl
    exact key _ _ _ x rfl (.inr rfl) rfl rfl rfl
  · cases e
theorem j_rev {X : Cx} {e : Expr} {t : TE} {A : Arg} {k : Nat} {p1 p2 p3 pos : Pos} (h : AJ X e t A) : EJ X (.Subscript e (.Slice none none (some (.UnaryOp .USub (.Constant (.int 1) k p1) p2)) p3) pos) (tRevL X.K t) (mApp fRev [A]) :=
  ⟨pe_revL h.p, fun σ H env L d env' Q re e k => den_un den_revR h.d σ H env L d env' Q re e k⟩
def fInt : List D → Option (D × List D)
  | [.int i] => some (.int i, [.any])
  | [.bl b] => some (.int (if b then 1 else 0), [.any])
  | _ => none
theorem den_intR : DenR K (fun xs H Q => (∃ i, xs = [.int i] ∧ Q (.int i) H) ∨ ∃ k, xs = [.bl k] ∧ Q (.int (if k then 1 else 0)) H) fInt := by
  intro vs ds H L d os Q hl r e k
  unfold fInt at e
  split at e
  · rename_i i
    cases e
    obtain ⟨x, rfl⟩ := len1 hl
    obtain rfl := r.vint
    exact .inl ⟨i, rfl, k _ H (R.any1 (r.tail.atom (.int _)))⟩
  · rename_i b
    cases e
    obtain ⟨x, rfl⟩ := len1 hl
    obtain rfl := r.vbl
    exact .inr ⟨b, rfl, k _ H (R.any1 (r.tail.atom (.int _)))⟩
  · cases e
def fStrI : List D → Option (D × List D)
  | [.int i] => if i.natAbs.log2 < 1920 then some (.str (toString i), [.any]) else none
  | _ => none
theorem den_strI : DenR K (fun xs H Q => ∃ i, xs = [.int i] ∧ i.natAbs.log2 < 1920 ∧ Q (.str (toString i)) H) fStrI := by
  intro vs ds H L d os Q hl r e k
  unfold fStrI at e
  split at e
  · rename_i i
    split at e
    · rename_i h
      cases e
      obtain ⟨x, rfl⟩ := len1 hl
      obtain rfl := r.vint
      exact ⟨i, rfl, h, k _ H (R.any1 (r.tail.atom (.str _)))⟩
    · cases e
  · cases e
/-! ### {k: v, ..} -/
def mPairs : List (EM D × EM D) → EM (List D × List D)
  | [], env => some (([], []), env)
  | (a, b) :: r, env => match a env with
    | some (k, e1) => match b e1 with
      | some (v, e2) => match mPairs r e2 with
        | some ((ks, vs), e3) => some ((k :: ks, v :: vs), e3)
        | none => none
      | none => none
    | none => none
def mDisp (ps : List (EM D × EM D)) : EM D := fun env => match mPairs ps env with
  | some ((ks, vs), e) => match keysD ks with
    | some kk => if kk.Nodup ∧ kk.length ≤ 15 then some (.nd true (.dK kk) vs, e) else none
    | none => none
  | none => none
def DenPs (K : Fk) : List (TE × TE) → List (EM D × EM D) → Prop
  | [], [] => True
  | (t, u) :: r, (m, n) :: s => DenE K t m ∧ DenE K u n ∧ DenPs K r s
  | _, _ => False
theorem den_pairs : ∀ {trs : List (TE × TE)} {ps : List (EM D × EM D)}, DenPs K trs ps → ∀ (σ : St) (H : Hp) (env : Env) (L : List (V × D)) (ks vs : List D) (env' : Env) (Q : List (V × V) → Hp → Prop), RE K H σ env L → mPairs ps env = some ((ks, vs), env') →
    (∀ (xs ys : List V) (H' : Hp), xs.length = ks.length → ys.length = vs.length → ks.length = vs.length → RE K H' σ env' (xs.zip ks ++ (ys.zip vs ++ L)) → Q (xs.zip ys) H') → tPairs trs σ H Q
  | [], [], _, σ, H, env, L, ks, vs, env', Q, re, e, k => by
    cases e
    exact k [] [] H rfl rfl rfl re
  | (t, u) :: r, (m, n) :: s, h, σ, H, env, L, ks, vs, env', Q, re, e, k => by
    unfold mPairs at e
    split at e
    · rename_i kd e1 q1
      split at e
      · rename_i vd e2 q2
        split at e
        · rename_i ks1 vs1 e3 q3
          cases e
          refine h.1 σ H env L kd e1 _ re q1 fun x H1 r1 => h.2.1 σ H1 e1 _ vd e2 _ r1 q2 fun y H2 r2 => ?_
          refine den_pairs h.2.2 σ H2 e2 _ ks1 vs1 _ _ r2 q3 fun xs ys H3 l1 l2 l3 r3 => ?_
          refine k (x :: xs) (y :: ys) H3 (by simp [l1]) (by simp [l2]) (by simp [l3]) ?_
          refine RE.perm ?_ r3
          show (xs.zip ks1 ++ (ys.zip vs1 ++ (y, vd) :: (x, kd) :: L)).Perm ((x, kd) :: (xs.zip ks1 ++ ((y, vd) :: (ys.zip vs1 ++ L))))
          refine List.Perm.trans (List.Perm.append_left _ (List.perm_middle.trans (List.Perm.cons _ List.perm_middle))) ?_
          refine List.Perm.trans (List.Perm.append_left _ (List.Perm.swap _ _ _)) ?_
          exact List.perm_middle
        · cases e
      · cases e
    · cases e
  | [], _ :: _, h, _, _, _, _, _, _, _, _, _, _, _ => h.elim
  | _ :: _, [], h, _, _, _, _, _, _, _, _, _, _, _ => h.elim
theorem merge_id : ∀ (more kvs : List (Key × V)), (kvs.map (·.1) ++ more.map (·.1)).Nodup → mergeK kvs more = kvs ++ more
  | [], kvs, _ => by simp [mergeK]
  | (k, v) :: more, kvs, nd => by
    have hk : k ∉ kvs.map (·.1) := fun h => (List.nodup_append.mp nd).2.2 k h k (by simp) rfl
    have e : putK kvs k v = kvs ++ [(k, v)] := by
      refine kix_new k v kvs ?_
      cases q : kix (kvs.map (·.1)) k with
      | none => rfl
      | some j => exact absurd (List.mem_of_getElem? (kix_lt q).2) hk
    have z := merge_id more (kvs ++ [(k, v)]) (by simpa using nd)
    show mergeK (putK kvs k v) more = _
    rw [e, z]
    simp
theorem zip_keys : ∀ {ks : List Key} {ys : List V}, ks.length = ys.length → (ks.map kV).zip ys = (ks.zip ys).map fun kv => (kV kv.1, kv.2)
  | [], [], _ => rfl
  | k :: ks, y :: ys, h => by simp [zip_keys (ks := ks) (ys := ys) (by simpa using h)]
  | [], _ :: _, h => by cases h
  | _ :: _, [], h => by cases h
theorem keysD_len : ∀ {ds : List D} {ks : List Key}, keysD ds = some ks → ks.length = ds.length
  | [], ks, e => by cases e; rfl
  | d :: ds, ks, e => by
    unfold keysD at e
    split at e
    · rename_i k ks1 e1 e2; cases e; simp [keysD_len e2]
    · cases e
theorem fits_nil {o : HO} {h : Hd} {us : List V} (f : Fits K a o h us) (e : h = .dK []) : o = .dK [] := by
  cases f with
  | dK kvs nd =>
    have z : kvs.map (·.1) = [] := by injection e
    rw [List.map_eq_nil_iff.mp z]
  | tup => cases e
  | lst => cases e
  | st => cases e
  | sl => cases e
  | dT => cases e
  | dN => cases e
  | ins => cases e
theorem den_disp {trs : List (TE × TE)} {ps : List (EM D × EM D)} (h : DenPs K trs ps) : DenE K (tDisp trs) (mDisp ps) := by
  intro σ H env L d env' Q re e k
  unfold mDisp at e
  split at e
  · rename_i ks vs e1 q
    split at e
    · rename_i kk hk
      split at e
      · rename_i hn
        cases e
        intro p hp
        have r0 : RE K (L2.upd H p (.dK [])) σ env ((.ref p, .nd true (.dK []) []) :: L) := re.lift (L1 := []) (L2 := [(.ref p, .nd true (.dK []) [])]) fun M r => R.makeN (vs := []) (xs := []) rfl r hp (.dK [] List.nodup_nil)
        refine den_pairs h σ _ env _ ks vs _ _ r0 q fun xs ys H' l1 l2 l3 r1 => ?_
        obtain ⟨l, r2, b⟩ := RE.to (L := xs.zip ks ++ (ys.zip vs ++ [(.ref p, .nd true (.dK []) [])])) (L' := L) (RE.perm (by simp) r1)
        have ex : xs = kk.map kV := keys_val l1 (L := ys.zip vs ++ [(.ref p, .nd true (.dK []) [])] ++ (l ++ L)) (by rw [← List.append_assoc]; exact r2) hk
        have r3 : R K H' ((.ref p, .nd true (.dK []) []) :: (ys.zip vs ++ (l ++ L))) := by
          have r4 : R K H' (xs.zip ks ++ ((.ref p, .nd true (.dK []) []) :: (ys.zip vs ++ (l ++ L)))) := r2.perm (by
            rw [List.append_assoc]
            refine List.Perm.append_left _ ?_
            rw [List.append_assoc]
            exact List.perm_middle)
          exact r4.right
        obtain ⟨a, o, ps0, e1, e2, ho, f, r4⟩ := r3.open
        cases e1
        have hps : ps0 = [] := by
          cases ps0 with
          | nil => rfl
          | cons _ _ => cases e2
        subst hps
        have ho' : H' p = some (.dK []) := ho.trans (congrArg some (fits_nil f rfl))
        have lk : kk.length = ys.length := by rw [keysD_len hk, l3, l2]
        refine ⟨ho', kk.zip ys, by rw [ex]; exact zip_keys lk, by simp [lk]; omega, ?_⟩
        have nd : ((kk.zip ys).map (·.1)) = kk := by
          have : ∀ {as : List Key} {bs : List V}, as.length = bs.length → (as.zip bs).map (·.1) = as := by
            intro as
            induction as with
            | nil => intro bs h; rfl
            | cons a as ih =>
              intro bs h
              cases bs with
              | nil => cases h
              | cons b bs => simp [ih (bs := bs) (by simpa using h)]
          exact this lk
        have vals : ((kk.zip ys).map (·.2)) = ys := by
          have : ∀ {as : List Key} {bs : List V}, as.length = bs.length → (as.zip bs).map (·.2) = bs := by
            intro as
            induction as with
            | nil => intro bs h; cases bs with | nil => rfl | cons _ _ => cases h
            | cons a as ih =>
              intro bs h
              cases bs with
              | nil => cases h
              | cons b bs => simp [ih (bs := bs) (by simpa using h)]
          exact this lk
        have em : mergeK [] (kk.zip ys) = kk.zip ys := by
          rw [merge_id _ _ (by simpa [nd] using hn.1)]; rfl
        rw [em]
        refine k _ _ (b (L1 := [(.ref p, .nd true (.dK kk) vs)]) ?_)
        have r5 : R K H' ((.ref p, .rsv p) :: (ys.zip vs ++ (l ++ L))) := r4
        have r6 := (r5.upd (o := .dK (kk.zip ys))).close (h := .dK kk) upd_same (by
          rw [map_zip1 l2]
          have := Fits.dK (K := K) (a := p) (kk.zip ys) (by rw [nd]; exact hn.1)
          rw [nd, vals] at this
          exact this)
        rw [map_zip2 l2] at r6
        exact r6
      · cases e
    · cases e
  · cases e
end VH

namespace VH
open PySem L2
variable {K : Fk}
/-! ### a part under a written key -/
def selKey (k : Key) : Sel := fun d => match d with
  | .nd m (.dK ks) xs => match kix ks k with
    | some j => match xs[j]? with
      | some c => some (c, ⟨m, .dK ks, xs.take j, xs.drop (j + 1)⟩)
      | none => none
    | none => none
  | _ => none
def pKey (k : Key) : EM Sel := fun env => some (selKey k, env)
theorem kV_c (k : Key) : Atom (kV k) (keyD k) := by cases k <;> constructor
theorem den_key (i : Nat) (k : Key) : DenArg K (tDGet (tVar i) (tC (kV k))) (.pt i (pKey k)) := by
  intro σ H env L d p env' Q re e kk
  obtain ⟨d0, e0, sel, p0, h1, h2, h3, rfl⟩ := ev_pt e
  cases h2
  obtain ⟨hd, rfl⟩ := slTake_eq h1
  obtain ⟨v, hv, r⟩ := re.take hd
  refine ⟨v, hv, ?_⟩
  unfold selKey at h3
  split at h3
  · rename_i m ks xs
    split at h3
    · rename_i j hj
      split at h3
      · rename_i c hc
        cases h3
        obtain ⟨e1, e2⟩ := list_at hc
        have r1 : RE K H σ (env.set i none) ((v, (⟨m, .dK ks, xs.take j, xs.drop (j + 1)⟩ : Part).fill d) :: L) := by
          unfold Part.fill
          rw [← e1]; exact r
        obtain ⟨w, r2⟩ := r1.part
        obtain ⟨M, q⟩ := RE.val r
        obtain ⟨a, o, vs, ea, h1', _, f, l⟩ := R.look q
        subst ea
        obtain ⟨N, q2⟩ := RE.val r1
        have hw : vs[j]? = some w := by
          obtain ⟨M2, q3⟩ := (RE.perm (List.Perm.swap _ _ _) r2).val
          obtain ⟨a', o', vs', ea', h2', _, f', l'⟩ := R.look q3
          cases ea'
          cases f
          have z1 : H a = some _ := h1'
          obtain ⟨l0, q4, _⟩ := RE.to (L := [(w, d), (.ref a, (⟨m, .dK _, xs.take j, xs.drop (j + 1)⟩ : Part).fill (.hole w))]) r2
          have q5 : R K H ((.ref a, .nd m (.dK _) (xs.take j ++ .hole w :: xs.drop (j + 1))) :: (w, d) :: (l0 ++ L)) := q4.perm (List.Perm.swap _ _ _)
          obtain ⟨b, o2, us, u, eb, h3', _, f2, l2, hu, r3⟩ := R.child q5
          cases eb
          have z2 : H a = some o2 := h3'
          rw [z1] at z2
          cases z2
          rw [e2] at hu
          have : us = _ := fits_len (by intro ks e; cases e) f2 (.dK _ (by assumption))
          subst this
          have := r3.vhole
          subst this
          exact hu
        cases f
        rename_i kvs nd _
        have g : DGet H a (kV k) (some w) := by
          have := DGet.k (k := k) (show H a = some (.dK kvs) from h1')
          rw [kix_val, hj] at this
          have e3 : ((some j).bind fun j => (kvs.map (·.2))[j]?) = some w := hw
          rw [e3] at this
          exact this
        exact ⟨a, w, rfl, g, kk w [(.ref a, _)] H (.pt hv .nil) r2⟩
      · cases h3
    · cases h3
  · cases h3
theorem a_key {X : Cx} (i : Nat) {x : Str} {k : Key} {e : Expr} {pos p1 : Pos} (hu : X.A.units + 1 < cLine) (he : PE X e (tC (kV k))) (hN : X.N[i]? = some x := by rfl) (hv : Vis X.env.scope x := by first | exact Or.inl rfl | exact Or.inr (Or.inl rfl) | exact Or.inr (Or.inr rfl)) (hs : NoSl e := by intro _ _; rfl) (hd : (x == ("__debug__" : Str)) = false := by decide)
    (hcd : (x == ("__classdict__" : Str)) = false := by decide) : AJ X (.Subscript (.Name x p1) e pos) (tDGet (tVar i) (tC (kV k))) (.pt i (pKey k)) := ⟨pe_dget hu (pe_var hN hv hd hcd) he hs, den_key i k⟩
theorem a_keyS {X : Cx} (i : Nat) (z : Str) {x : Str} {j : Nat} {pos p1 p2 : Pos} (hu : X.A.units + 1 < cLine) (hN : X.N[i]? = some x := by rfl) (hv : Vis X.env.scope x := by first | exact Or.inl rfl | exact Or.inr (Or.inl rfl) | exact Or.inr (Or.inr rfl)) (hd : (x == ("__debug__" : Str)) = false := by decide)
    (hcd : (x == ("__classdict__" : Str)) = false := by decide) : AJ X (.Subscript (.Name x p1) (.Constant (.str z) j p2) pos) (tDGet (tVar i) (tC (kV (.inr z)))) (.pt i (pKey (.inr z))) := ⟨pe_dget hu (pe_var hN hv hd hcd) pe_str (by intro _ _; rfl), den_key i (.inr z)⟩
/-! ### a display of a dict -/
structure DJ (X : Cx) (pos : Pos) (ks : List (Option Expr)) (vs : List Expr) (trs : List (TE × TE)) (ps : List (EM D × EM D)) : Prop where
  p : PPs X pos ks vs trs
  d : DenPs X.fk trs ps
theorem d_nil {X : Cx} {pos : Pos} : DJ X pos [] [] [] [] := ⟨pps_nil, trivial⟩
theorem d_cons {X : Cx} {pos : Pos} {k v : Expr} {ks : List (Option Expr)} {vs : List Expr} {tk tv : TE} {mk mv : EM D} {trs : List (TE × TE)} {ps : List (EM D × EM D)} (hk : EJ X k tk mk) (hv : EJ X v tv mv) (h : DJ X pos ks vs trs ps) : DJ X pos (some k :: ks) (v :: vs) ((tk, tv) :: trs) ((mk, mv) :: ps) := ⟨pps_cons hk.p hv.p h.p, hk.d, hv.d, h.d⟩
theorem j_disp {X : Cx} {pos : Pos} {keys : List (Option Expr)} {values : List Expr} {trs : List (TE × TE)} {ps : List (EM D × EM D)} (h : DJ X pos keys values trs ps) (hall : keys.all (·.isSome) = true := by rfl) (hl : keys.length = values.length := by rfl) (h0 : keys ≠ [] := by intro z; cases z)
    (h15 : keys.length ≤ 15 := by decide) : EJ X (.Dict keys values pos) (tDisp trs) (mDisp ps) := ⟨pe_disp h.p hall hl h0 h15, den_disp h.d⟩
def mDNewK : EM D := fun env => some (.nd true (.dK []) [], env)
def mDNewT : EM D := fun env => some (.nd true (.dT []) [], env)
theorem j_dnewK {X : Cx} {pos : Pos} : EJ X (.Dict [] [] pos) tDNewK mDNewK := ⟨pe_dnewK, fun σ H env L d env' Q re e k => by
  cases e
  exact fun p hp => k _ _ (re.lift (L1 := []) (L2 := [(.ref p, .nd true (.dK []) [])]) fun M r => R.makeN (vs := []) (xs := []) rfl r hp (.dK [] List.nodup_nil))⟩
theorem j_dnewT {X : Cx} {pos : Pos} : EJ X (.Dict [] [] pos) tDNewT mDNewT := ⟨pe_dnewT, fun σ H env L d env' Q re e k => by
  cases e
  exact fun p hp => k _ _ (re.lift (L1 := []) (L2 := [(.ref p, .nd true (.dT []) [])]) fun M r => R.makeN (vs := []) (xs := []) rfl r hp (.dT [] List.nodup_nil))⟩
/-! ### a, b = x, y -/
def sPar2 (i j : Nat) (as : List Arg) : SM := fun env => match mArgs as (fun ds => some ds) env with
  | some ([a, b], e) => some (.nx ((e.set i (some a)).set j (some b)))
  | _ => none
def sPar3 (i j l : Nat) (as : List Arg) : SM := fun env => match mArgs as (fun ds => some ds) env with
  | some ([a, b, c], e) => some (.nx (((e.set i (some a)).set j (some b)).set l (some c)))
  | _ => none
theorem ds_par2 {io : List Nat} {i j : Nat} {ta : TA} {as : List Arg} (h : DenA K ta as) (n : apart [i, j] io = true) : DenS K io (tPar i j ta) (sPar2 i j as) := by
  intro pv hp σ H env L o Z re P e k
  unfold sPar2 at e
  split at e
  · rename_i a b e1 q
    cases e
    obtain ⟨ds, ps, q1, q2⟩ := mArgs_eq q
    cases q2
    refine h σ H env L [a, b] ps e1 _ re q1 fun vs M H1 hl hs r => ?_
    obtain ⟨x, y, rfl⟩ := len2 hl
    have r1 : RE K H1 σ e1 ((x, a) :: (y, b) :: L) := by
      have : RE K H1 σ e1 (M ++ ((x, a) :: (y, b) :: L)) := RE.perm (by
        show ((x, a) :: (y, b) :: (M ++ L)).Perm (M ++ (x, a) :: (y, b) :: L)
        exact (List.perm_middle.trans (List.Perm.cons _ List.perm_middle)).symm) r
      exact this.right
    have r2 : RE K H1 ((σ.set i (some x)).set j (some y)) ((e1.set i (some a)).set j (some b)) L := (RE.store (i := i) r1).store (i := j)
    have kp := kept_pvs hp n
    exact ⟨x, y, rfl, k _ H1 r2 (kp _ j _ (by simp) (kp _ i _ (by simp) P))⟩
  · cases e
theorem ds_par3 {io : List Nat} {i j l : Nat} {ta : TA} {as : List Arg} (h : DenA K ta as) (n : apart [i, j, l] io = true) : DenS K io (tPar3 i j l ta) (sPar3 i j l as) := by
  intro pv hp σ H env L o Z re P e k
  unfold sPar3 at e
  split at e
  · rename_i a b c e1 q
    cases e
    obtain ⟨ds, ps, q1, q2⟩ := mArgs_eq q
    cases q2
    refine h σ H env L [a, b, c] ps e1 _ re q1 fun vs M H1 hl hs r => ?_
    obtain ⟨x, y, z, rfl⟩ := len3 hl
    have r1 : RE K H1 σ e1 ((x, a) :: (y, b) :: (z, c) :: L) := by
      have : RE K H1 σ e1 (M ++ ((x, a) :: (y, b) :: (z, c) :: L)) := RE.perm (by
        show ((x, a) :: (y, b) :: (z, c) :: (M ++ L)).Perm (M ++ (x, a) :: (y, b) :: (z, c) :: L)
        exact (List.perm_middle.trans (List.Perm.cons _ (List.perm_middle.trans (List.Perm.cons _ List.perm_middle)))).symm) r
      exact this.right
    have r2 : RE K H1 (((σ.set i (some x)).set j (some y)).set l (some z)) (((e1.set i (some a)).set j (some b)).set l (some c)) L := ((RE.store (i := i) r1).store (i := j)).store (i := l)
    have kp := kept_pvs hp n
    exact ⟨x, y, z, rfl, k _ H1 r2 (kp _ l _ (by simp) (kp _ j _ (by simp) (kp _ i _ (by simp) P)))⟩
  · cases e
section
variable {X : Cx} {io : List Nat} {a b c : Expr} {ta : TA} {as : List Arg} {x y z : Str} {px py pz pt pos pt2 : Pos}
theorem s_par2 (i j : Nat) {kt k2} (hN : X.N.Nodup) (ha : LJ X [a, b] ta as) (hap : apart [i, j] io = true := by rfl) (hc : X.calm = true := by rfl) (hi : X.N[i]? = some x := by rfl) (hj : X.N[j]? = some y := by rfl) (hij : i ≠ j := by decide) (hx : X.env.scope.names.lookup x = some .local := by rfl) (hy : X.env.scope.names.lookup y = some .local := by rfl)
    (hw : swappedStores [.Tuple [.Name x px, .Name y py] kt pt] (.Tuple [a, b] k2 pt2) X.env = pure (some [x, y]) := by rfl)
    (hs : swapsWithSole [.Tuple [.Name x px, .Name y py] kt pt] (.Tuple [a, b] k2 pt2) pos.line X.env = pure false := by rfl) :
    SJ X io (.Assign [.Tuple [.Name x px, .Name y py] kt pt] (.Tuple [a, b] k2 pt2) pos) (tPar i j ta) (sPar2 i j as) := ⟨ps_par hc hN hi hj hij hx hy ha.p hw hs, ds_par2 ha.d hap⟩
theorem s_par3 (i j l : Nat) {kt k2} (hN : X.N.Nodup) (ha : LJ X [a, b, c] ta as) (hap : apart [i, j, l] io = true := by rfl) (hc : X.calm = true := by rfl) (hi : X.N[i]? = some x := by rfl) (hj : X.N[j]? = some y := by rfl) (hl : X.N[l]? = some z := by rfl) (hij : i ≠ j := by decide) (hil : i ≠ l := by decide) (hjl : j ≠ l := by decide)
    (hx : X.env.scope.names.lookup x = some .local := by rfl) (hy : X.env.scope.names.lookup y = some .local := by rfl) (hz : X.env.scope.names.lookup z = some .local := by rfl)
    (hw : swappedStores [.Tuple [.Name x px, .Name y py, .Name z pz] kt pt] (.Tuple [a, b, c] k2 pt2) X.env = pure (some [x, y, z]) := by rfl)
    (hs : swapsWithSole [.Tuple [.Name x px, .Name y py, .Name z pz] kt pt] (.Tuple [a, b, c] k2 pt2) pos.line X.env = pure false := by rfl) :
    SJ X io (.Assign [.Tuple [.Name x px, .Name y py, .Name z pz] kt pt] (.Tuple [a, b, c] k2 pt2) pos) (tPar3 i j l ta) (sPar3 i j l as) := ⟨ps_par3 hc hN hi hj hl hij hil hjl hx hy hz ha.p hw hs, ds_par3 ha.d hap⟩
end
end VH

/-! Sets of whole numbers and of texts: made of a list, measured, sorted. -/
namespace VH
open PySem PySem.Spec PyProof.Rows
section
variable {P : Program} {w : World} {κ : Type} [DecidableEq κ] [BEq κ] [LawfulBEq κ]
/-- how a member is read back -/
def Reads (knd : KeyKind P w κ) (key : Value → κ) : Prop := ∀ (k : κ) (v : Value), knd.is k v = true → key v = k
/-- the set at a has the members of l, which may have them more than once -/
def SetG (knd : KeyKind P w κ) (key : Value → κ) (h : Heap) (a : Addr) (l : List κ) : Prop :=
  ∃ o es ep t, h.get? a = some o ∧ o.ExactSet ∧ o.data = .set es ep t ∧ ElemsOf knd es.toList ∧ (es.toList.map fun e => key e.2).Nodup ∧ (∀ k, k ∈ (es.toList.map fun e => key e.2) ↔ k ∈ l) ∧
    es.size < scanBound ∧ t.fits es.size = true ∧ es.size ≤ l.length ∧ L2.Ris t.place.toList ∧ (w.params.followText "set-order" = true ∨ t.led = true)
variable {knd : KeyKind P w κ} {key : Value → κ} {h h' : Heap} {a : Addr} {l : List κ}
theorem SetG.keep (x : SetG knd key h a l) (k : ∀ o, h.get? a = some o → h'.get? a = some o) : SetG knd key h' a l := by
  obtain ⟨o, es, ep, t, ho, r⟩ := x
  exact ⟨o, es, ep, t, k o ho, r⟩
theorem setG_none (led : Bool) (hl : w.params.followText "set-order" = true ∨ led = true) (hg : h.get? a = some { cls := .type "set", dict := none, data := .set #[] 0 (.fresh 0 0 led) }) : SetG knd key h a [] :=
  ⟨_, #[], 0, _, hg, ⟨rfl, rfl, rfl⟩, rfl, (fun e he => by simp at he), (by simp), (fun k => by simp), (by decide), (by rfl), (by simp), List.Pairwise.nil, hl⟩
variable {A : Around} {E : Value → Shared → Prop} {s : Shared}
theorem elems_key (hk : Reads knd key) {es : List (Int × Value)} (g : ElemsOf knd es) {e : Int × Value} (he : e ∈ es) (k : κ) : knd.is k e.2 = true ↔ key e.2 = k := by
  obtain ⟨⟨k0, h0, _⟩, _⟩ := g e he
  refine ⟨fun h => hk k e.2 h, fun h => ?_⟩
  rw [hk k0 e.2 h0] at h
  rw [← h]; exact h0
/-- one more -/
theorem setG_put (hk : Reads knd key) {k : κ} {x : Value} (hx : knd.is k x = true) (hsc : x.scannable = true) (R : SetG knd key s.heap a l) (room : l.length + 1 < scanBound) {Q : Bool → Shared → Prop}
    (hQ : ∀ b h', Heap.SameBut a s.heap h' → SetG knd key h' a (l ++ [k]) → Q b { s with heap := h' }) : wpAny (model P w) A (setAddHashed a x (knd.hash k)) Q E s := by
  obtain ⟨o, es, ep, t, ho, hex, hd, hel, nd, hm, hb, hf, hn, hr, hl⟩ := R
  unfold setAddHashed setAddHashedIn
  refine wpAny_holding (wpAny_bind (wpAny_setState_of ho hd hf ?_))
  dsimp only
  rw [byScan_of hsc hb hel]
  simp only [↓reduceIte]
  unfold setAddByScan
  refine wpAny_bind (wpAny_bind (wpAny_rule (wpAny_bind (wpAny_setScan_of hx ho hd hf hel ?_))))
  cases q : List.findIdx? (fun e => knd.is k e.2) es.toList with
  | some j =>
    dsimp only
    obtain ⟨hj, pj, _⟩ := List.findIdx?_eq_some_iff_getElem.mp q
    have hin : k ∈ es.toList.map fun e => key e.2 := List.mem_map.mpr ⟨_, List.getElem_mem hj, hk _ _ pj⟩
    refine wpAny_pure (wpAny_pure (hQ _ s.heap (Heap.SameBut.refl a s.heap) ⟨o, es, ep, t, ho, hex, hd, hel, nd, fun i => ?_, hb, hf, ?_, hr, hl⟩))
    · rw [List.mem_append, List.mem_singleton, ← hm i]
      exact ⟨.inl, fun z => z.elim id fun e => e ▸ hin⟩
    · rw [List.length_append]; omega
  | none =>
    dsimp only
    have hnew : k ∉ es.toList.map fun e => key e.2 := fun z => by
      obtain ⟨e, he, ee⟩ := List.mem_map.mp z
      have c := List.findIdx?_eq_none_iff.mp q e he
      rw [(elems_key hk hel he k).mpr ee] at c
      cases c
    have gw : ∀ (b : Bool) {s₁ : Shared} {Q' : Unit → Shared → Prop}, Q' () s₁ → wpAny (model P w) A (match b with | true => rule "set.scan.the-table-gave-way" | false => pure ()) Q' E s₁ := fun b _ _ z => by
      cases b
      · exact wpAny_pure z
      · exact wpAny_rule z
    have pm := layNew_perm t es (knd.hash k) x
    have hf1 := layNew_fits t es (knd.hash k) x
    have hr1 := L2.layNew_ris t es (knd.hash k) x hr
    have hl1 := L2.layNew_led t es (knd.hash k) x
    generalize layNew t es (knd.hash k) x = Z at pm hf1 hr1 hl1 ⊢
    obtain ⟨es1, t1, wasD, gave⟩ := Z
    dsimp only at pm hf1 hr1 hl1 ⊢
    rw [Array.toList_push] at pm
    have hel1 : ElemsOf knd es1.toList := (hel.push hx hsc).perm pm
    have pk : (es1.toList.map fun e => key e.2).Perm (k :: es.toList.map fun e => key e.2) := by
      have z := pm.map fun e : Int × Value => key e.2
      rw [List.map_append, List.map_singleton] at z
      rw [← hk k x hx]
      exact z.trans (List.perm_append_singleton _ _)
    have nd1 := pk.nodup_iff.mpr (List.nodup_cons.mpr ⟨hnew, nd⟩)
    have hm1 : ∀ i, i ∈ (es1.toList.map fun e => key e.2) ↔ i ∈ l ++ [k] := fun i => by
      rw [pk.mem_iff, List.mem_cons, hm i, List.mem_append, List.mem_singleton]
      exact Or.comm
    have sz : es1.size = es.size + 1 := by rw [← Array.length_toList, pm.length_eq, List.length_append, Array.length_toList]; rfl
    have hb1 : es1.size < scanBound := by omega
    have hn1 : es1.size ≤ (l ++ [k]).length := by rw [List.length_append, sz]; simpa using hn
    have led1 : w.params.followText "set-order" = true ∨ t1.led = true := hl.imp id fun z => by rw [hl1]; exact z
    -- what is stored, and laid anew where it is too full
    have tail : ∀ {g : Bool → Sem Unit} {t2 : SetTable}, (∀ (b : Bool) (s₁ : Shared) (Q' : Unit → Shared → Prop), Q' () s₁ → wpAny (model P w) A (g b) Q' E s₁) → t2.fits es1.size = true → L2.Ris t2.place.toList → (w.params.followText "set-order" = true ∨ t2.led = true) →
        ∀ {wd : Bool} {R : Option Bool → Shared → Prop}, (∀ h', Heap.SameBut a s.heap h' → SetG knd key h' a (l ++ [k]) → R (some true) { s with heap := h' }) → wpAny (model P w) A (do
          storeSet a es1 t2
          if (!wd && t2.tooFull) = true then do
              g (relayAll t2 es1 (SetTable.grown es1.size)).2.2
              storeSet a (relayAll t2 es1 (SetTable.grown es1.size)).1 (relayAll t2 es1 (SetTable.grown es1.size)).2.1
              pure (some true)
            else pure (some true)) R E s := by
      intro g t2 hg hf2 hr2 hl2 wd R hR
      refine wpAny_bind (wpAny_storeSet_of ho hd ?_ (fits_of_scanBound hb1))
      have ho1 := L2.store_at (es' := es1) (t' := t2) ho hd
      have sb1 := Heap.SameBut.update s.heap a (Obj.putSet es1 t2)
      split
      · have p2 := relayAll_perm t2 es1 (SetTable.grown es1.size)
        have hf3 := relayAll_fits t2 es1 (SetTable.grown es1.size)
        have hr3 := L2.relayAll_ris t2 es1 (SetTable.grown es1.size)
        have hl3 := L2.relayAll_led t2 es1 (SetTable.grown es1.size)
        generalize relayAll t2 es1 (SetTable.grown es1.size) = Y at p2 hf3 hr3 hl3 ⊢
        obtain ⟨es2, t3, gave3⟩ := Y
        dsimp only at p2 hf3 hr3 hl3 ⊢
        have sz2 : es2.size = es1.size := by rw [← Array.length_toList, p2.length_eq, Array.length_toList]
        refine wpAny_bind (hg _ _ _ (wpAny_bind (wpAny_storeSet_of ho1 rfl ?_ (fits_of_scanBound (by omega)))))
        have ho2 := L2.store_at (es' := es2) (t' := t3) ho1 rfl
        have pkk := p2.map fun e : Int × Value => key e.2
        exact wpAny_pure (hR _ (sb1.trans (Heap.SameBut.update _ a _)) ⟨_, es2, _, t3, ho2, hex, rfl, hel1.perm p2, pkk.nodup_iff.mpr nd1, fun i => pkk.mem_iff.trans (hm1 i), by omega, hf3, by omega, hr3, hl2.imp id fun z => by rw [hl3]; exact z⟩)
      · exact wpAny_pure (hR _ sb1 ⟨_, es1, _, t2, ho1, hex, rfl, hel1, nd1, hm1, hb1, hf2, hn1, hr2, hl2⟩)
    refine wpAny_bind (gw _ ?_)
    split
    · refine wpAny_bind ?_
      rw [hashByValue_scannable 8 hsc]
      refine wpAny_pure (tail ?_ ?_ ?_ ?_ ?_)
      · intro b s₁ Q' z; cases b <;> first | exact wpAny_pure z | exact wpAny_rule z
      · first | (split <;> first | exact hf1 | exact SetTable.fits_plain_off hf1) | exact hf1
      · first | (split <;> exact hr1) | exact hr1
      · first | (split <;> exact led1) | exact led1
      · intro h' sb r; dsimp only; exact wpAny_pure (hQ _ h' sb r)
    · refine wpAny_bind (wpAny_pure ?_)
      simp only [↓reduceIte]
      refine tail ?_ hf1 hr1 led1 ?_
      · intro b s₁ Q' z; cases b <;> first | exact wpAny_pure z | exact wpAny_rule z
      · intro h' sb r; dsimp only; exact wpAny_pure (hQ _ h' sb r)
end
section
variable {P : Program} {w : World} {κ : Type} [DecidableEq κ] [BEq κ] [LawfulBEq κ] {knd : KeyKind P w κ} {key : Value → κ}
variable {A : Around} {R : Result → Shared → Prop} {I : Addr} {fp wr : List Addr} {G : Array GenState → Array GenState → Prop} {n : Nat} {Pv : Nat → Value → Prop} {St : Nat → Shared → Prop}
/-- the loop behind set(xs) -/
theorem setG_loop (hk : Reads knd key) (W : WalksS P w A.in1 I fp wr G n Pv St) (S : Addr) (off : S ∉ fp) (xs : List κ) (hn : n = xs.length) (room : xs.length + 1 < scanBound) (val : ∀ i v, Pv i v → ∃ k, xs[i]? = some k ∧ knd.is k v = true ∧ v.scannable = true) :
    ∀ (j i : Nat) (s : Shared), n - i = j → i ≤ n → St i s → SetG knd key s.heap S (xs.take i) → (∀ s', Moved (S :: wr) G s s' → SetG knd key s'.heap S xs → R (.ok (.ret .none)) s') →
      codeAny (model P w) A (.builtin "set.update.loop" ⟨[.ref S, .ref I], []⟩) R s := by
  have offw : S ∉ wr := fun h => off (W.sub _ h)
  have more : ∀ b ∈ wr, b ∈ S :: wr := fun b hb => List.mem_cons_of_mem _ hb
  intro j
  induction j with
  | zero =>
    intro i s e hi st hS hR
    obtain rfl : i = n := by omega
    refine codeAny_builtin F.entry_set_update_loop ?_
    rw [Around.under_plainId F.plain_set_update_loop _]
    show wpAny _ A.in1 (pyNext (.ref I) >>= _) _ _ s
    refine wpAny_bind (W.done s _ _ st fun s' hm => ?_)
    have hS' := hS.keep (h' := s'.heap) fun o q => hm.heap S o offw q
    rw [hn, List.take_length] at hS'
    exact wpAny_pure (hR s' (hm.mono more) hS')
  | succ j ih =>
    intro i s e hi st hS hR
    have hlt : i < n := by omega
    refine codeAny_builtin F.entry_set_update_loop ?_
    rw [Around.under_plainId F.plain_set_update_loop _]
    show wpAny _ A.in1 (pyNext (.ref I) >>= _) _ _ s
    refine wpAny_bind (W.item i s _ _ hlt st fun v s' hv st' hm => ?_)
    obtain ⟨k, hx, is, sc⟩ := val i v hv
    have hS' := hS.keep (h' := s'.heap) fun o q => hm.heap S o offw q
    show wpAny _ A.in1 (holding [v] (setAdd S v) >>= _) _ _ s'
    refine wpAny_bind (wpAny_holding ?_)
    unfold setAdd
    refine wpAny_holding (wpAny_bind (knd.pyHash is ?_))
    refine setG_put (s := { s' with toks := s'.toks + 1 }) hk is sc hS' (by rw [List.length_take]; omega) fun b h' sb hS2 => ?_
    have hS3 : SetG knd key h' S (xs.take (i + 1)) := by
      rw [List.take_add_one, hx]
      exact hS2
    refine wpAny_pure ⟨plainId_quiet F.plain_set_update_loop _, ih (i + 1) _ (by omega) hlt (W.frame _ s' _ _ st' (Nat.le_succ _) fun b hb o q => ?_) hS3 fun s'' hm2 hS4 => ?_⟩
    · rw [sb.2 b (fun z : b = S => off (by rw [← z]; exact hb))]; exact q
    · refine hR s'' (Moved.trans W.gtrans ((hm.mono more).then_heap (Nat.le_succ _) fun b o hb q => ?_) hm2) hS4
      rw [sb.2 b (fun z : b = S => hb (by rw [z]; exact List.mem_cons_self))]; exact q
end
section
variable {P : Program} {w : World} {κ : Type} [DecidableEq κ] [BEq κ] [LawfulBEq κ] {knd : KeyKind P w κ} {key : Value → κ}
variable {A : Around} {E : Value → Shared → Prop} {s : Shared}
abbrev setObj (w : World) : Obj := { cls := .type "set", dict := none, data := .set #[] 0 (.fresh 0 0 (!w.params.followText "set-order")) }
set_option maxHeartbeats 3200000 in
/-- set(xs), xs a list -/
theorem setG_of (hk : Reads knd key) {b : Addr} {its : Array Value} (xs : List κ) {Q : Value → Shared → Prop} (hh : A.handled = none) (hl : s.heap.IsList b its) (hi : its.size = xs.length) (room : xs.length + 1 < scanBound)
    (val : ∀ (i : Nat) (v : Value), its[i]? = some v → ∃ k, xs[i]? = some k ∧ knd.is k v = true ∧ v.scannable = true)
    (hQ : ∀ (h' : Heap) (tk : Nat), SetG knd key h' s.heap.objs.size xs → (∀ b o, s.heap.get? b = some o → h'.get? b = some o) → Q (.ref s.heap.objs.size) { s with heap := h', toks := tk }) : wpAny (model P w) A (call (.type "set") [.ref b]) Q E s := by
  obtain ⟨c, tl, m0⟩ := F.called_set.mro
  have m1 := F.called_set.made
  have m2 := F.called_set.sub
  have m3 := F.called_set.notType
  have m4 := F.called_set.canCreate
  have m5 := F.typeCall_set_1 (.ref b)
  refine wpAny_call (codeAny_of_tree ?_)
  show wpAny _ _ (callAny (.type "set") _) _ _ _
  refine wpAny_pure ⟨Code.quiet_builtin _ (by decide +kernel), codeAny_builtin F.entry_type_call ?_⟩
  rw [Around.under_plain (weight_type_call_type "set" [.ref b] []) rfl]
  repeat (any_goals (first | assumption | wp_step))
  refine codeAny_mono (L2.code_set_led1 (.ref b) (E := E) (Q₁ := fun obj s₁ => obj = .ref s.heap.objs.size ∧ s₁ = { s with heap := s.heap.push (setObj w) }) ⟨rfl, rfl⟩) fun r s₁ hr => ?_
  cases r with
  | error e => exact hr
  | ok fl =>
    cases fl with
    | ret obj =>
      obtain ⟨rfl, rfl⟩ := hr
      have gS : (s.heap.push (setObj w)).get? s.heap.objs.size = some (setObj w) := Heap.get?_push_size _ rfl
      have tS : Shared.TypeIs { s with heap := s.heap.push (setObj w) } (.ref s.heap.objs.size) "set" := ⟨_, gS, rfl⟩
      have m6 := F.called_set.init.lookup
      have m7 := F.called_set.init.bind (.ref s.heap.objs.size)
      repeat (any_goals (first | assumption | wp_step))
      refine codeAny_mono (codeAny_call_builtin (R := wants (fun r s₂ => r = .none ∧ ∃ h' tk, s₂ = { s with heap := h', toks := tk } ∧ SetG knd key h' s.heap.objs.size xs ∧ (∀ b o, s.heap.get? b = some o → h'.get? b = some o)) E)
        F.called_set.init.plain F.entry_set_init (check_set_init_1 tS ?_)) fun r₂ s₂ hr₂ => ?_
      · obtain ⟨ol, hol, hc, nl, hd⟩ := hl
        obtain ⟨oc, od, oda, os⟩ := ol
        simp only at hc hd
        subst hc; subst hd
        have hol' : (s.heap.push (setObj w)).get? b = some { cls := .type "list", dict := od, data := .seq its nl, slots := os } := Heap.get?_push_of_some _ hol
        have n1 := F.sub_list_set
        have n2 := F.sub_list_frozenset
        have n3 : (Value.type "list" == Value.type "dict") = false := by decide
        have hl1 : (s.heap.push (setObj w)).IsList b its := ⟨_, hol', rfl, nl, rfl⟩
        unfold Builtin.«set.__init__» noKeywords Builtin.Frozenset.updateFrom
        generalize hPI : pyIter = PI
        wp_walk
        subst hPI
        refine wpAny_pyIter_list hl1 (wpAny_bind (wpAny_runValue ?_))
        have lb : b < s.heap.objs.size := Heap.lt_size hol
        have z1 : (s.heap.push (setObj w)).objs.size = s.heap.objs.size + 1 := Heap.size_push ..
        have hne : b ≠ (s.heap.push (setObj w)).objs.size := by rw [z1]; exact Nat.ne_of_lt (Nat.lt_succ_of_lt lb)
        have off : s.heap.objs.size ∉ [(s.heap.push (setObj w)).objs.size, b] := by
          rw [z1]; simp only [List.mem_cons, List.not_mem_nil, or_false, not_or]
          exact ⟨Nat.ne_of_lt (Nat.lt_succ_self _), fun z => Nat.ne_of_lt lb z.symm⟩
        have hh3 : A.in1.in1.in1.handled = none := by simp [hh]
        refine setG_loop hk ((Walks.list hh3 _ b hne its).toS) s.heap.objs.size off xs hi room val (its.size - 0) 0 _ (by omega) (Nat.zero_le _) ⟨⟨_, Heap.get?_push_size _ rfl, rfl, rfl⟩, (hl1.push _)⟩ ?_ ?_
        · refine setG_none _ ?_ (Heap.get?_push_of_some _ gS)
          cases w.params.followText "set-order"
          · exact .inr rfl
          · exact .inl rfl
        · intro s' hm hS'
          obtain ⟨h', g', d', tk', os'⟩ := s'
          obtain rfl : g' = s.gens := hm.gens
          obtain rfl : d' = s.drawn := hm.drawn
          obtain rfl : os' = s.os := hm.os
          show wpAny _ _ _ _ _ _
          refine wpAny_pure ?_
          show wpAny _ _ (ret Value.none) _ _ _
          refine wpAny_pure ⟨rfl, h', tk', rfl, hS', fun b o e => ?_⟩
          have b0 : b < s.heap.objs.size := Heap.lt_size e
          refine hm.heap b o ?_ (Heap.get?_push_of_some _ (Heap.get?_push_of_some _ e))
          simp only [List.mem_cons, List.not_mem_nil, or_false, not_or]
          rw [z1]
          exact ⟨Nat.ne_of_lt b0, Nat.ne_of_lt (Nat.lt_succ_of_lt b0)⟩
      · cases r₂ with
        | error e => exact hr₂
        | ok fl₂ =>
          cases fl₂ with
          | ret r =>
            obtain ⟨rfl, h', tk, rfl, hS', hk'⟩ := hr₂
            repeat (any_goals (first | assumption | wp_step))
            exact hQ _ _ hS' hk'
          | _ => exact hr₂.elim
    | _ => exact hr.elim
end
end VH

/-! Sorted lists, plainly; sorted(set(xs)), len(set(xs)), sorted(d). -/
namespace VH
/-- a strict total order -/
structure STO {α : Type} (lt : α → α → Bool) : Prop where
  irr : ∀ a, lt a a = false
  tr : ∀ a b c, lt a b = true → lt b c = true → lt a c = true
  tri : ∀ a b, lt a b = false → lt b a = false → a = b
section
variable {α : Type} {lt : α → α → Bool}
def insD (lt : α → α → Bool) (k : α) : List α → List α
  | [] => [k]
  | x :: r => if lt k x then k :: x :: r else if lt x k then x :: insD lt k r else x :: r
/-- sorted, each once -/
def dsort (lt : α → α → Bool) : List α → List α
  | [] => []
  | x :: r => insD lt x (dsort lt r)
def insN (lt : α → α → Bool) (k : α) : List α → List α
  | [] => [k]
  | x :: r => if lt x k then x :: insN lt k r else k :: x :: r
/-- sorted -/
def nsort (lt : α → α → Bool) : List α → List α
  | [] => []
  | x :: r => insN lt x (nsort lt r)
theorem insD_mem (o : STO lt) (k y : α) : ∀ l : List α, y ∈ insD lt k l ↔ y = k ∨ y ∈ l
  | [] => by simp [insD]
  | x :: r => by
    unfold insD
    split
    · simp
    · rename_i h1
      split
      · simp only [List.mem_cons, insD_mem o k y r]
        constructor
        · rintro (h | h | h) <;> simp [h]
        · rintro (h | h | h) <;> simp [h]
      · rename_i h2
        have e : k = x := o.tri k x (by simpa using h1) (by simpa using h2)
        subst e
        simp
theorem insD_sorted (o : STO lt) (k : α) : ∀ l : List α, l.Pairwise (fun a b => lt a b = true) → (insD lt k l).Pairwise (fun a b => lt a b = true)
  | [], _ => by simp [insD]
  | x :: r, h => by
    obtain ⟨h1, h2⟩ := List.pairwise_cons.mp h
    unfold insD
    split
    · rename_i hk
      refine List.pairwise_cons.mpr ⟨fun y hy => ?_, h⟩
      rcases List.mem_cons.mp hy with rfl | hy
      · exact hk
      · exact o.tr _ _ _ hk (h1 y hy)
    · split
      · rename_i hx
        refine List.pairwise_cons.mpr ⟨fun y hy => ?_, insD_sorted o k r h2⟩
        rcases (insD_mem o k y r).mp hy with rfl | hy
        · exact hx
        · exact h1 y hy
      · exact h
theorem dsort_mem (o : STO lt) (y : α) : ∀ l : List α, y ∈ dsort lt l ↔ y ∈ l
  | [] => by simp [dsort]
  | x :: r => by rw [dsort, insD_mem o, dsort_mem o y r, List.mem_cons]
theorem dsort_sorted (o : STO lt) : ∀ l : List α, (dsort lt l).Pairwise (fun a b => lt a b = true)
  | [] => by simp [dsort]
  | x :: r => insD_sorted o x _ (dsort_sorted o r)
/-- two strictly sorted lists of the same members are one -/
theorem sorted_eq (o : STO lt) : ∀ {a b : List α}, a.Pairwise (fun a b => lt a b = true) → b.Pairwise (fun a b => lt a b = true) → (∀ k, k ∈ a ↔ k ∈ b) → a = b
  | [], [], _, _, _ => rfl
  | [], y :: b, _, _, h => absurd ((h y).mpr List.mem_cons_self) (by simp)
  | x :: a, [], _, _, h => absurd ((h x).mp List.mem_cons_self) (by simp)
  | x :: a, y :: b, ha, hb, h => by
    obtain ⟨a1, a2⟩ := List.pairwise_cons.mp ha
    obtain ⟨b1, b2⟩ := List.pairwise_cons.mp hb
    have exy : x = y := by
      rcases List.mem_cons.mp ((h x).mp List.mem_cons_self) with e | m1
      · exact e
      · rcases List.mem_cons.mp ((h y).mpr List.mem_cons_self) with e | m2
        · exact e.symm
        · have z1 := b1 x m1
          have z2 := a1 y m2
          have := o.tr _ _ _ z1 z2
          rw [o.irr] at this; cases this
    subst exy
    have : a = b := sorted_eq o a2 b2 fun k => by
      constructor
      · intro hk
        rcases List.mem_cons.mp ((h k).mp (List.mem_cons_of_mem _ hk)) with e | m
        · subst e; have := a1 k hk; rw [o.irr] at this; cases this
        · exact m
      · intro hk
        rcases List.mem_cons.mp ((h k).mpr (List.mem_cons_of_mem _ hk)) with e | m
        · subst e; have := b1 k hk; rw [o.irr] at this; cases this
        · exact m
    rw [this]
theorem dsort_eq (o : STO lt) {ys l : List α} (h1 : ys.Pairwise (fun a b => lt a b = true)) (h2 : ∀ k, k ∈ ys ↔ k ∈ l) : ys = dsort lt l :=
  sorted_eq o h1 (dsort_sorted o l) fun k => (h2 k).trans (dsort_mem o k l).symm
theorem insN_perm (k : α) : ∀ l : List α, (insN lt k l).Perm (k :: l)
  | [] => .refl _
  | x :: r => by
    unfold insN
    split
    · exact ((insN_perm k r).cons x).trans (.swap _ _ _)
    · exact .refl _
theorem nsort_perm : ∀ l : List α, (nsort lt l).Perm l
  | [] => .refl _
  | x :: r => (insN_perm x _).trans ((nsort_perm r).cons x)
theorem insN_sorted (o : STO lt) (k : α) : ∀ l : List α, l.Pairwise (fun a b => lt b a = false) → (insN lt k l).Pairwise (fun a b => lt b a = false)
  | [], _ => by simp [insN]
  | x :: r, h => by
    obtain ⟨h1, h2⟩ := List.pairwise_cons.mp h
    unfold insN
    split
    · rename_i hx
      refine List.pairwise_cons.mpr ⟨fun y hy => ?_, insN_sorted o k r h2⟩
      rcases List.mem_cons.mp ((insN_perm k r).mem_iff.mp hy) with rfl | hy
      · cases q : lt y x with
        | false => rfl
        | true =>
          have := o.tr _ _ _ hx q
          rw [o.irr] at this; cases this
      · exact h1 y hy
    · rename_i hx
      have hx' : lt x k = false := by simpa using hx
      refine List.pairwise_cons.mpr ⟨fun y hy => ?_, h⟩
      rcases List.mem_cons.mp hy with rfl | hy
      · exact hx'
      · cases q : lt y k with
        | false => rfl
        | true =>
          have z := h1 y hy
          cases q2 : lt x y with
          | true => have := o.tr _ _ _ q2 q; rw [hx'] at this; cases this
          | false =>
            have := o.tri x y q2 z
            subst this
            rw [hx'] at q; cases q
theorem nsort_sorted (o : STO lt) : ∀ l : List α, (nsort lt l).Pairwise (fun a b => lt b a = false)
  | [] => by simp [nsort]
  | x :: r => insN_sorted o x _ (nsort_sorted o r)
theorem nsorted_eq (o : STO lt) : ∀ {a b : List α}, a.Pairwise (fun a b => lt b a = false) → b.Pairwise (fun a b => lt b a = false) → a.Perm b → a = b
  | [], [], _, _, _ => rfl
  | [], y :: b, _, _, h => absurd h.length_eq (by simp)
  | x :: a, [], _, _, h => absurd h.length_eq (by simp)
  | x :: a, y :: b, ha, hb, h => by
    obtain ⟨a1, a2⟩ := List.pairwise_cons.mp ha
    obtain ⟨b1, b2⟩ := List.pairwise_cons.mp hb
    have exy : x = y := by
      rcases List.mem_cons.mp (h.mem_iff.mp List.mem_cons_self) with e | m1
      · exact e
      · rcases List.mem_cons.mp (h.mem_iff.mpr List.mem_cons_self) with e | m2
        · exact e.symm
        · exact o.tri x y (b1 x m1) (a1 y m2)
    subst exy
    rw [nsorted_eq o a2 b2 ((List.perm_cons x).mp h)]
theorem nsort_eq (o : STO lt) {ys l : List α} (h1 : ys.Pairwise (fun a b => lt b a = false)) (h2 : ys.Perm l) : ys = nsort lt l :=
  nsorted_eq o h1 (nsort_sorted o l) (h2.trans (nsort_perm l).symm)
/-- sorted lists of things that are each once -/
theorem dsort_nsort (o : STO lt) {l : List α} (h : l.Nodup) : nsort lt l = dsort lt l := by
  refine dsort_eq o ?_ fun k => (nsort_perm l).mem_iff
  have hn : (nsort lt l).Nodup := (nsort_perm l).nodup_iff.mpr h
  refine ((nsort_sorted o l).and hn).imp fun {a b} ⟨z, ne⟩ => ?_
  cases q : lt a b with
  | true => rfl
  | false => exact absurd (o.tri a b q z) ne
end
abbrev ltI (a b : Int) : Bool := decide (a < b)
abbrev ltS (a b : PySem.Str) : Bool := decide (a.cps.toList < b.cps.toList)
theorem stoI : STO ltI := ⟨fun a => by simp [ltI], fun a b c => by simp only [ltI, decide_eq_true_eq]; omega, fun a b => by simp only [ltI, decide_eq_false_iff_not]; omega⟩
theorem stoS : STO ltS where
  irr a := by simp only [ltS, decide_eq_false_iff_not]; exact List.lt_irrefl _
  tr a b c := by simp only [ltS, decide_eq_true_eq]; exact fun h1 h2 => List.lt_trans h1 h2
  tri a b := by
    simp only [ltS, decide_eq_false_iff_not]
    intro h1 h2
    have e : a.cps.toList = b.cps.toList := List.le_antisymm (List.not_lt.mp h2) (List.not_lt.mp h1)
    cases a with | mk x => cases b with | mk y => cases x; cases y; simp at e; rw [e]
open PySem PySem.Spec PyProof.Rows
theorem sortedS_pw : ∀ {l : List Str}, sortedS l = true → l.Pairwise (fun a b => ltS b a = false) := by
  have go : ∀ (p : Str) (l : List Str), risingS p l = true → (p :: l).Pairwise (fun a b => ltS b a = false) := by
    intro p l
    induction l generalizing p with
    | nil => intro _; simp
    | cons x r ih =>
      intro h
      simp only [risingS, Bool.and_eq_true, Bool.not_eq_true'] at h
      have h1 : ltS x p = false := by
        have := h.1
        rw [ltCps_eq] at this
        exact this
      have h2 := ih x h.2
      refine List.pairwise_cons.mpr ⟨fun y hy => ?_, h2⟩
      rcases List.mem_cons.mp hy with rfl | hy
      · exact h1
      · have z := (List.pairwise_cons.mp h2).1 y hy
        cases q : ltS y p with
        | false => rfl
        | true =>
          cases q2 : ltS p x with
          | true =>
            have := stoS.tr _ _ _ q q2
            rw [z] at this; cases this
          | false =>
            have := stoS.tri p x q2 h1
            subst this
            rw [z] at q; cases q
  intro l h
  cases l with
  | nil => exact List.Pairwise.nil
  | cons x r => exact go x r h
end VH

namespace VH
open PySem PySem.Spec PyProof.Rows L2
/-- the values of members in a list -/
structure KC (P : Program) (w : World) (κ : Type) [DecidableEq κ] where
  knd : KeyKind P w κ
  key : Value → κ
  out : κ → V
  rd : Reads knd key
  is : ∀ k v, RelV (out k) v → knd.is k v = true ∧ v.scannable = true
  of : ∀ k v, knd.is k v = true → RelV (out k) v
def kcI (P : Program) (w : World) : KC P w Int where
  knd := intKind P w
  key := fun v => match v with | .int k _ => k | _ => 0
  out := V.int
  rd := fun k v h => by obtain ⟨t, rfl⟩ := Value.isInt_shape h; rfl
  is := fun k v h => by obtain ⟨t, rfl⟩ := h; exact ⟨intKind_is P w k t, rfl⟩
  of := fun k v h => by obtain ⟨t, rfl⟩ := Value.isInt_shape h; exact ⟨t, rfl⟩
def kcS (P : Program) (w : World) : KC P w Str where
  knd := PySem.strKind P w
  key := fun v => match v with | .str k _ => k | _ => default
  out := V.str
  rd := fun k v h => by obtain ⟨t, rfl⟩ := Value.isStrOf_shape h; rfl
  is := fun k v h => by obtain ⟨t, rfl⟩ := h; exact ⟨strKind_is P w k t, rfl⟩
  of := fun k v h => by obtain ⟨t, rfl⟩ := Value.isStrOf_shape h; exact ⟨t, rfl⟩
section
variable {X : Cx} {κ : Type} [DecidableEq κ] [BEq κ] [LawfulBEq κ]
def setHO (C : KC X.prog X.w κ) (a : Addr) (l : List κ) : HO := .ext fun h => SetG C.knd C.key h a l
theorem setHO_ok {C : KC X.prog X.w κ} {H : Hp} {h : Heap} {a : Addr} {l : List κ} (R : SetG C.knd C.key h a l) : ObjOk X.prog X.w H h a (setHO C a l) := by
  have R' := R
  obtain ⟨o, _, _, _, ho, _⟩ := R'
  exact ⟨R, ⟨o, ho⟩, fun h1 h2 p k => SetG.keep p k⟩
theorem setHO_at {C : KC X.prog X.w κ} {pins : List (Addr × Obj)} {σ : L2.St} {H : Hp} {s : Shared} {a : Addr} {l : List κ} (I : Inv X pins σ H s) (ha : H a = some (setHO C a l)) : SetG C.knd C.key s.heap a l := (I.hok a _ ha).1
theorem vals_nth : ∀ {xs : List V} {us : List Value}, Vals xs us → ∀ (i : Nat) (u : Value), us[i]? = some u → ∃ x, xs[i]? = some x ∧ RelV x u
  | _, _, .nil, i, u, h => by simp at h
  | _, _, .cons r t, 0, u, h => by simp at h; subst h; exact ⟨_, rfl, r⟩
  | _, _, .cons r t, i + 1, u, h => by
    obtain ⟨x, a, b⟩ := vals_nth t i u (by simpa using h)
    exact ⟨x, by simpa using a, b⟩
/-- set(xs) -/
def rSetG (C : KC X.prog X.w κ) : List V → Hp → VK → Prop := fun xs H Q => ∃ p ks, xs = [V.ref p] ∧ SqL X.K H p (ks.map C.out) ∧ ks.length + 1 < scanBound ∧ ∀ a, H a = none → Q (.ref a) (upd H a (setHO C a ks))
theorem cr_setG (C : KC X.prog X.w κ) (hc : X.calm = true) : CallR X (.type "set") (rSetG C) := by
  intro pins s σ H xs us Q I r h
  obtain ⟨p, ks, rfl, hs, room, q⟩ := h
  obtain ⟨its, rv, pl, hz⟩ := I.list hs
  rw [Vals.ref1 r]
  have hl : its.toArray.size = ks.length := by rw [List.size_toArray, ← rv.length, List.length_map]
  refine setG_of C.rd (I.ok.hd hc) (pl.isList) (xs := ks) hl room (fun i v hv => ?_) fun h' tk R k => ?_
  · obtain ⟨x, hx, rx⟩ := vals_nth rv i v (by simpa using hv)
    rw [List.getElem?_map] at hx
    cases hk : ks[i]? with
    | none => rw [hk] at hx; cases hx
    | some y =>
      rw [hk] at hx
      cases hx
      exact ⟨y, rfl, C.is y v rx⟩
  · have hn : H s.heap.objs.size = none := I.hok.fresh (Nat.le_refl _)
    exact ⟨.ref s.heap.objs.size, _, I.laid (t' := tk) k (Nat.le_refl _) (setHO_ok R), rfl, q _ hn⟩
/-- the members, as the list that is to be sorted -/
theorem set_vals {C : KC X.prog X.w κ} {s : Shared} {a : Addr} {l : List κ} {A : Around} {E : Value → Shared → Prop} {Q : List Value → Shared → Prop} (R : SetG C.knd C.key s.heap a l) (hh : A.handled = none)
    (h : ∀ (s' : Shared) (vs : List Value) (ks : List κ), (∀ b o, s.heap.get? b = some o → s'.heap.get? b = some o) → s.heap.objs.size ≤ s'.heap.objs.size → s'.gens = s.gens → s'.os = s.os → Vals (ks.map C.out) vs → ks.Nodup → (∀ k, k ∈ ks ↔ k ∈ l) → ks.length ≤ l.length → Q vs s') :
    wpAny (model X.prog X.w) A (collect (.ref a)) Q E s := by
  obtain ⟨o, es, ep, t, ho, hex, hd, hel, nd, hm, hb, hf, hn, hr, hl⟩ := R
  refine L2.collect_set hh ⟨o, ho, hex.1, hd⟩ hf hb hr hl fun s' vs k1 hz g1 o1 pm => ?_
  have hmem : ∀ v ∈ vs, ∃ k, C.knd.is k v = true := fun v hv => by
    obtain ⟨e, he, q⟩ := List.mem_map.mp (pm.mem_iff.mp hv)
    obtain ⟨⟨k, hk, _⟩, _⟩ := hel e he
    exact ⟨k, by rw [← q]; exact hk⟩
  have pk : (vs.map C.key).Perm (es.toList.map fun e => C.key e.2) := by
    have := pm.map C.key
    rwa [List.map_map] at this
  refine h s' vs (vs.map C.key) k1 hz g1 o1 ?_ (pk.nodup_iff.mpr nd) (fun k => pk.mem_iff.trans (hm k)) ?_
  · clear pk pm
    induction vs with
    | nil => exact .nil
    | cons v vs ih =>
      obtain ⟨k, hk⟩ := hmem v List.mem_cons_self
      refine .cons ?_ (ih fun u hu => hmem u (List.mem_cons_of_mem _ hu))
      rw [C.rd k v hk]
      exact C.of k v hk
  · rw [pk.length_eq, List.length_map, Array.length_toList]; exact hn
/-- sorted(set) -/
def rSortG (C : KC X.prog X.w κ) (lt : κ → κ → Bool) : List V → Hp → VK → Prop := fun vs H Q => ∃ (a : Addr) (l : List κ), vs = [V.ref a] ∧ H a = some (setHO C a l) ∧ l.length < 64 ∧ ∀ p, H p = none → Q (.ref p) (upd H p (.lst ((dsort lt l).map C.out)))
theorem cr_sortG {C : KC X.prog X.w κ} {lt : κ → κ → Bool} (o : STO lt) (hc : X.calm = true)
    (tree : ∀ {s : Shared} {a : Addr} {vs : List Value} {ks : List κ} {n : Nat} {A : Around} {E : Value → Shared → Prop} {P : PySem.Fin → Shared → Prop}, s.heap.get? a = some (seqObj "list" vs.toArray n) → Vals (ks.map C.out) vs → vs.length < 64 →
      (∀ (out : Array Value) (ys : List κ), Vals (ys.map C.out) out.toList → ys.Perm ks → ys.Pairwise (fun a b => lt b a = false) → P (.done (.ret .none)) { s with heap := sortedHeap s.heap a vs out }) → wpAny (model X.prog X.w) A (Builtin.«list.sort» ⟨[.ref a], []⟩) P E s) :
    CallR X (.builtin "sorted") (rSortG C lt) := by
  intro pins s σ H vs us Q I r h
  obtain ⟨a, l, rfl, ha, h64, q⟩ := h
  rw [Vals.ref1 r]
  refine Calls.call_function_entry kind_sorted plain_sorted entry_sorted (args_sorted1 _) ?_
  unfold Builtin.«sorted»
  refine wpAny_bind (m := checkCount "sorted" 1 1 _) (wpAny_pure ?_)
  refine wpAny_bind (set_vals (A := X.A.in1) (setHO_at I ha) (I.ok.hd hc) fun s1 vs ks k1 hz g1 o1 hv nd hm hle => ?_)
  have hvl : vs.length = ks.length := by rw [← hv.length, List.length_map]
  refine wpAny_bind (wpAny_newList ?_ (by rw [hvl, sizeLine_eq]; omega))
  have hoL : (s1.heap.push (seqObj "list" vs.toArray 0)).get? s1.heap.objs.size = some (seqObj "list" vs.toArray 0) := Heap.get?_push_size _ rfl
  refine wpAny_bind (wpAny_holding (wpAny_call_entry slot_list_sort ⟨_, hoL, rfl⟩ entry_list_sort (tree hoL hv (by omega) fun out ys a1 a2 a3 => ⟨_, rfl, ?_⟩) (args_list_sort _)))
  obtain ⟨c, he⟩ := sortedHeap_at (vs := vs) (out := out) hoL
  have ey : ys = dsort lt l := by
    have hn : ys.Nodup := a2.nodup_iff.mpr nd
    refine dsort_eq o ((a3.and hn).imp fun {a b} ⟨z, ne⟩ => ?_) fun k => a2.mem_iff.trans (hm k)
    cases q : lt a b with
    | true => rfl
    | false => exact absurd (o.tri a b q z) ne
  subst ey
  have hlen : ((dsort lt l).map C.out).length ≤ sizeLine := by rw [List.length_map, a2.length_eq, sizeLine_eq]; omega
  have hn : H s1.heap.objs.size = none := I.hok.fresh hz
  have kk : ∀ b u, s.heap.get? b = some u → (sortedHeap (s1.heap.push (seqObj "list" vs.toArray 0)) s1.heap.objs.size vs out).get? b = some u := fun b u e => by
    have q := k1 b u e
    have hlt := Heap.lt_size q
    rw [sortedHeap_old (Nat.ne_of_lt hlt) (by rw [size_push']; exact Nat.lt_succ_of_lt hlt)]
    exact Heap.get?_push_of_some _ q
  have J : Inv X pins σ (upd H s1.heap.objs.size (.lst ((dsort lt l).map C.out))) { s with heap := sortedHeap (s1.heap.push (seqObj "list" vs.toArray 0)) s1.heap.objs.size vs out, gens := s1.gens, drawn := s1.drawn, toks := s1.toks } :=
    I.call (ch := []) (Un.laid kk hz hn) (I.hok.laid kk hz ⟨hlen, out.toList, c, a1, by rw [Array.toArray_toList]; exact he⟩) (by rw [g1]; exact I.bare) (fun _ z => nomatch z)
  refine wpAny_pure ⟨_, rfl, .ref s1.heap.objs.size, _, ?_, rfl, q _ hn⟩
  have e : s1 = { s with heap := s1.heap, gens := s1.gens, drawn := s1.drawn, toks := s1.toks } := by
    cases s1
    cases s
    cases o1
    rfl
  rw [e]
  exact J
theorem cr_sortGI (hc : X.calm = true) : CallR X (.builtin "sorted") (rSortG (kcI X.prog X.w) ltI) :=
  cr_sortG stoI hc fun {s a vs ks n A E P} ho hv h64 h => list_sort_tree ho hv.ints h64 fun out ys h1 h2 h3 => h out ys (vals_of_ints h1) h2 (h3.imp fun {a b} z => by simp only [ltI, decide_eq_false_iff_not]; omega)
theorem cr_sortGS (hc : X.calm = true) : CallR X (.builtin "sorted") (rSortG (kcS X.prog X.w) ltS) :=
  cr_sortG stoS hc fun {s a vs ks n A E P} ho hv h64 h => list_sort_treeK strKind_oneLt ho hv.strs.keysOf (fun v₁ v₂ rest e => keyKind_strs (by rw [← e]; exact hv.strs)) h64 fun st' hp hs => by
    obtain ⟨ys, g1, g2, g3⟩ := sorted_out_str hv.strs hp hs
    exact h _ ys (vals_of_strs g1) g2 (sortedS_pw g3)
/-- len(set) -/
def rLenG (C : KC X.prog X.w κ) : List V → Hp → VK → Prop := fun vs H Q => ∃ (a : Addr) (l : List κ), vs = [V.ref a] ∧ H a = some (setHO C a l) ∧ ∀ ks : List κ, ks.Nodup → (∀ k, k ∈ ks ↔ k ∈ l) → Q (.int ks.length) H
theorem cr_lenG {C : KC X.prog X.w κ} : CallR X (.builtin "len") (rLenG C) := by
  intro pins s σ H vs us Q I r h
  obtain ⟨a, l, rfl, ha, q⟩ := h
  rw [Vals.ref1 r]
  obtain ⟨o, es, ep, t, ho, hex, hd, hel, nd, hm, hb, hf, hn, hr, hl⟩ := setHO_at I ha
  have hsz : es.size = (es.toList.map fun e => C.key e.2).length := by rw [List.length_map, Array.length_toList]
  refine call_len_set ho hex hd hf (by have : scanBound = 4096 := rfl; omega) ⟨.int es.size, H, I.tok _, ⟨_, rfl⟩, ?_⟩
  rw [hsz]
  exact q _ nd hm
end
end VH

namespace VH
open PySem L2
variable {K : Fk}
/-! ### lists of plain values of one kind -/
structure AC (κ : Type) where
  v : κ → V
  d : κ → D
  of : D → Option κ
  at_ : ∀ k, Atom (v k) (d k)
  eq_ : ∀ x k, of x = some k → x = d k
  on : ∀ k, of (d k) = some k
  un : ∀ {K : Fk} {H : Hp} {L : List (V × D)} {x : V} {k : κ}, R K H ((x, d k) :: L) → x = v k
  fz_ : ∀ k, (d k).fz = d k
def acI : AC Int where
  v := .int
  d := .int
  of := fun x => match x with | .int i => some i | _ => none
  at_ := .int
  eq_ := fun x k h => by cases x <;> cases h; rfl
  on := fun _ => rfl
  un := fun r => r.vint
  fz_ := fun _ => rfl
def acS : AC Str where
  v := .str
  d := .str
  of := fun x => match x with | .str i => some i | _ => none
  at_ := .str
  eq_ := fun x k h => by cases x <;> cases h; rfl
  on := fun _ => rfl
  un := fun r => r.vstr
  fz_ := fun _ => rfl
def acB : AC Bool where
  v := .bl
  d := .bl
  of := fun x => match x with | .bl i => some i | _ => none
  at_ := .bl
  eq_ := fun x k h => by cases x <;> cases h; rfl
  on := fun _ => rfl
  un := fun r => r.vbl
  fz_ := fun _ => rfl
def AC.all {κ : Type} (C : AC κ) : List D → Option (List κ)
  | [] => some []
  | x :: xs => match C.of x, C.all xs with
    | some k, some ks => some (k :: ks)
    | _, _ => none
theorem AC.all_map {κ : Type} (C : AC κ) : ∀ ks : List κ, C.all (ks.map C.d) = some ks
  | [] => rfl
  | k :: ks => by simp only [List.map_cons, AC.all, C.on, AC.all_map C ks]
theorem AC.all_eq {κ : Type} (C : AC κ) : ∀ {xs : List D} {ks : List κ}, C.all xs = some ks → xs = ks.map C.d
  | [], ks, e => by cases e; rfl
  | x :: xs, ks, e => by
    unfold AC.all at e
    split at e
    · rename_i k ks1 e1 e2
      cases e
      rw [List.map_cons, C.eq_ _ _ e1, AC.all_eq C e2]
    · cases e
theorem AC.vals {κ : Type} (C : AC κ) {H : Hp} : ∀ {L : List (V × D)} {vs : List V} {ks : List κ}, vs.length = (ks.map C.d).length → R K H (vs.zip (ks.map C.d) ++ L) → vs = ks.map C.v
  | L, [], [], _, _ => rfl
  | L, v :: vs, k :: ks, hl, r => by
    have r' : R K H ((v, C.d k) :: (vs.zip (ks.map C.d) ++ L)) := r
    rw [C.un r', AC.vals C (by simpa using hl) r'.tail]
    rfl
  | L, [], _ :: _, hl, _ => by simp at hl
  | L, _ :: _, [], hl, _ => by simp at hl
theorem AC.push {κ : Type} (C : AC κ) {H : Hp} {L : List (V × D)} (r : R K H L) : ∀ ks : List κ, R K H ((ks.map C.v).zip (ks.map C.d) ++ L)
  | [] => r
  | k :: ks => (AC.push C r ks).atom (C.at_ k)
theorem AC.fzL_ {κ : Type} (C : AC κ) : ∀ ks : List κ, D.fzL (ks.map C.d) = ks.map C.d
  | [] => rfl
  | k :: ks => by rw [List.map_cons, D.fzL, C.fz_, AC.fzL_ C ks]
/-- a list of such values, read -/
theorem AC.list {κ : Type} (C : AC κ) {H : Hp} {L : List (V × D)} {x : V} {m : Bool} {h : Hd} {ks : List κ} (r : R K H ((x, .nd m h (ks.map C.d)) :: L)) (hh : h = .lst ∨ h = .sl) : ∃ a, x = .ref a ∧ SqL K H a (ks.map C.v) := by
  obtain ⟨a, o, us, rfl, h1, f, l, r1⟩ := R.kids r
  have e := C.vals l r1
  subst e
  exact ⟨a, rfl, sqL_of h1 f hh⟩
theorem AC.tuple {κ : Type} (C : AC κ) {H : Hp} {L : List (V × D)} {x : V} {m : Bool} {h : Hd} {ks : List κ} (r : R K H ((x, .nd m h (ks.map C.d)) :: L)) (hh : h = .tup ∨ h = .st) : ∃ a, x = .ref a ∧ SqT K H a (ks.map C.v) := by
  obtain ⟨a, o, us, rfl, h1, f, l, r1⟩ := R.kids r
  have e := C.vals l r1
  subst e
  exact ⟨a, rfl, sqT_of h1 f hh⟩
theorem AC.make {κ : Type} (C : AC κ) {H : Hp} {L : List (V × D)} {p : Addr} (r : R K H L) (hp : H p = none) (ks : List κ) : R K (L2.upd H p (.lst (ks.map C.v))) ((.ref p, .nd true .lst (ks.map C.d)) :: L) :=
  R.makeN (by simp) (C.push r ks) hp (.lst _)
/-! ### sorted, set -/
theorem CallR.or {X : Cx} {f : Value} {r s : List V → Hp → VK → Prop} (a : CallR X f r) (b : CallR X f s) : CallR X f (fun vs H Q => r vs H Q ∨ s vs H Q) := by
  intro pins st σ H vs us Q I rv h
  rcases h with h | h
  · exact a pins st σ H vs us Q I rv h
  · exact b pins st σ H vs us Q I rv h
def rSortAny (X : Cx) : List V → Hp → VK → Prop := fun vs H Q => (rSortG (kcI X.prog X.w) ltI vs H Q ∨ rSortG (kcS X.prog X.w) ltS vs H Q) ∨ (rSortedI X.K vs H Q ∨ rSortedS X.K vs H Q) ∨
  (∃ (a : Addr) (kvs : List (Key × V)) (ks : List Int), vs = [.ref a] ∧ Rd H a (.dK kvs) ∧ kvs.map (·.1) = ks.map Sum.inl ∧ ks.length < 64 ∧ ∀ (ys : List Int) (p : Addr), ys.Perm ks → ys.Pairwise (· ≤ ·) → H p = none → Q (.ref p) (L2.upd H p (.lst (ys.map V.int)))) ∨
  (∃ (a : Addr) (kvs : List (Key × V)) (ks : List Str), vs = [.ref a] ∧ Rd H a (.dK kvs) ∧ kvs.map (·.1) = ks.map Sum.inr ∧ ks.length < 64 ∧ ∀ ys p, ys.Perm ks → PyProof.Rows.sortedS ys = true → H p = none → Q (.ref p) (L2.upd H p (.lst (ys.map V.str))))
theorem cr_sortAny {X : Cx} (hc : X.calm = true) : CallR X (.builtin "sorted") (rSortAny X) :=
  ((cr_sortGI hc).or (cr_sortGS hc)).or ((cr_sortedI.or cr_sortedS).or ((call_sortedDI hc).or (call_sortedD hc)))
def rSetAny (X : Cx) : List V → Hp → VK → Prop := fun vs H Q => rSetG (kcI X.prog X.w) vs H Q ∨ rSetG (kcS X.prog X.w) vs H Q
theorem cr_setAny {X : Cx} (hc : X.calm = true) : CallR X (.type "set") (rSetAny X) := (cr_setG _ hc).or (cr_setG _ hc)
def keysI : List Key → Option (List Int)
  | [] => some []
  | .inl i :: r => (keysI r).map (i :: ·)
  | .inr _ :: _ => none
def keysS : List Key → Option (List Str)
  | [] => some []
  | .inr i :: r => (keysS r).map (i :: ·)
  | .inl _ :: _ => none
theorem keysI_eq : ∀ {ks : List Key} {is : List Int}, keysI ks = some is → ks = is.map Sum.inl
  | [], is, e => by cases e; rfl
  | .inl i :: r, is, e => by
    simp only [keysI, Option.map_eq_some_iff] at e
    obtain ⟨js, h, rfl⟩ := e
    rw [keysI_eq h]; rfl
  | .inr _ :: _, is, e => by cases e
theorem keysS_eq : ∀ {ks : List Key} {is : List Str}, keysS ks = some is → ks = is.map Sum.inr
  | [], is, e => by cases e; rfl
  | .inr i :: r, is, e => by
    simp only [keysS, Option.map_eq_some_iff] at e
    obtain ⟨js, h, rfl⟩ := e
    rw [keysS_eq h]; rfl
  | .inl _ :: _, is, e => by cases e
def fSorted : List D → Option (D × List D)
  | [.nd m .lst xs] => match acI.all xs with
    | some ks => some (.nd true .lst ((nsort ltI ks).map .int), [.nd m .lst xs])
    | none => match acS.all xs with
      | some ks => if ks.length < 64 then some (.nd true .lst ((nsort ltS ks).map .str), [.nd m .lst xs]) else none
      | none => none
  | [.nd m (.dK ks) xs] => match keysI ks with
    | some is => if is.length < 64 then some (.nd true .lst ((nsort ltI is).map .int), [.nd m (.dK ks) xs]) else none
    | none => match keysS ks with
      | some is => if is.length < 64 then some (.nd true .lst ((nsort ltS is).map .str), [.nd m (.dK ks) xs]) else none
      | none => none
  | _ => none
theorem le_pw {l : List Int} (h : l.Pairwise (· ≤ ·)) : l.Pairwise (fun a b => ltI b a = false) := h.imp fun {a b} z => by simp only [ltI, decide_eq_false_iff_not]; omega
theorem den_sorted {X : Cx} : DenR X.fk (rSortAny X) fSorted := by
  intro vs ds H L d os Q hl r e k
  unfold fSorted at e
  split at e
  · rename_i m xs
    split at e
    · rename_i ks hk
      cases e
      obtain ⟨x, rfl⟩ := len1 hl
      have e1 := acI.all_eq hk
      subst e1
      obtain ⟨a, rfl, hs⟩ := acI.list r (.inl rfl)
      refine .inr (.inl (.inl ⟨a, ks, rfl, hs, fun ys p h1 h2 hp => ?_⟩))
      rw [nsort_eq stoI (le_pw h2) h1]
      exact k _ _ (acI.make r hp _)
    · split at e
      · rename_i ks hk
        split at e
        · rename_i h64
          cases e
          obtain ⟨x, rfl⟩ := len1 hl
          have e1 := acS.all_eq hk
          subst e1
          obtain ⟨a, rfl, hs⟩ := acS.list r (.inl rfl)
          refine .inr (.inl (.inr ⟨a, ks, rfl, hs, h64, fun ys p h1 h2 hp => ?_⟩))
          rw [nsort_eq stoS (sortedS_pw h2) h1]
          exact k _ _ (acS.make r hp _)
        · cases e
      · cases e
  · rename_i m ks xs
    have look : ∀ {x : V}, R X.fk H ((x, .nd m (.dK ks) xs) :: L) → ∃ a kvs, x = .ref a ∧ H a = some (.dK kvs) ∧ kvs.map (·.1) = ks := by
      intro x r
      obtain ⟨a, o, us, rfl, h1, _, f, l⟩ := R.look r
      cases f
      exact ⟨a, _, rfl, h1, rfl⟩
    split at e
    · rename_i is hk
      split at e
      · rename_i h64
        cases e
        obtain ⟨x, rfl⟩ := len1 hl
        obtain ⟨a, kvs, rfl, h1, hks⟩ := look r
        refine .inr (.inr (.inl ⟨a, kvs, is, rfl, .inl h1, hks.trans (keysI_eq hk), h64, fun ys p h2 h3 hp => ?_⟩))
        rw [nsort_eq stoI (le_pw h3) h2]
        exact k _ _ (acI.make r hp _)
      · cases e
    · split at e
      · rename_i is hk
        split at e
        · rename_i h64
          cases e
          obtain ⟨x, rfl⟩ := len1 hl
          obtain ⟨a, kvs, rfl, h1, hks⟩ := look r
          refine .inr (.inr (.inr ⟨a, kvs, is, rfl, .inl h1, hks.trans (keysS_eq hk), h64, fun ys p h2 h3 hp => ?_⟩))
          rw [nsort_eq stoS (sortedS_pw h3) h2]
          exact k _ _ (acS.make r hp _)
        · cases e
      · cases e
  · cases e
/-- sorted(set(xs)) -/
def rSortSet (X : Cx) : List V → Hp → VK → Prop := fun vs H Q => rSetAny X vs H fun v H1 => rSortAny X [v] H1 Q
def fSortSet : List D → Option (D × List D)
  | [.nd m .lst xs] => match acI.all xs with
    | some ks => if ks.length < 64 then some (.nd true .lst ((dsort ltI ks).map .int), [.nd m .lst xs]) else none
    | none => match acS.all xs with
      | some ks => if ks.length < 64 then some (.nd true .lst ((dsort ltS ks).map .str), [.nd m .lst xs]) else none
      | none => none
  | _ => none
theorem den_sortSet {X : Cx} : DenR X.fk (rSortSet X) fSortSet := by
  intro vs ds H L d os Q hl r e k
  unfold fSortSet at e
  split at e
  · rename_i m xs
    split at e
    · rename_i ks hk
      split at e
      · rename_i h64
        cases e
        obtain ⟨x, rfl⟩ := len1 hl
        have e1 := acI.all_eq hk
        subst e1
        obtain ⟨a, rfl, hs⟩ := acI.list r (.inl rfl)
        refine .inl ⟨a, ks, rfl, hs, by have : scanBound = 4096 := rfl; omega, fun p hp => .inl (.inl ⟨p, ks, rfl, upd_same, h64, fun q hq => ?_⟩)⟩
        exact k _ _ (acI.make (r.same (same_upd hp)) hq _)
      · cases e
    · split at e
      · rename_i ks hk
        split at e
        · rename_i h64
          cases e
          obtain ⟨x, rfl⟩ := len1 hl
          have e1 := acS.all_eq hk
          subst e1
          obtain ⟨a, rfl, hs⟩ := acS.list r (.inl rfl)
          refine .inr ⟨a, ks, rfl, hs, by have : scanBound = 4096 := rfl; omega, fun p hp => .inl (.inr ⟨p, ks, rfl, upd_same, h64, fun q hq => ?_⟩)⟩
          exact k _ _ (acS.make (r.same (same_upd hp)) hq _)
        · cases e
      · cases e
  · cases e
/-- len(set(xs)) -/
def rLenAny (X : Cx) : List V → Hp → VK → Prop := fun vs H Q => rLenG (kcI X.prog X.w) vs H Q ∨ rLenG (kcS X.prog X.w) vs H Q
theorem cr_lenAny {X : Cx} : CallR X (.builtin "len") (rLenAny X) := (cr_lenG (C := kcI X.prog X.w)).or (cr_lenG (C := kcS X.prog X.w))
def rLenSet (X : Cx) : List V → Hp → VK → Prop := fun vs H Q => rSetAny X vs H fun v H1 => rLenAny X [v] H1 Q
def fLenSet : List D → Option (D × List D)
  | [.nd m .lst xs] => match acI.all xs with
    | some ks => if ks.length < 4000 then some (.int (dsort ltI ks).length, [.nd m .lst xs]) else none
    | none => match acS.all xs with
      | some ks => if ks.length < 4000 then some (.int (dsort ltS ks).length, [.nd m .lst xs]) else none
      | none => none
  | _ => none
theorem same_len {α : Type} [BEq α] [LawfulBEq α] {lt : α → α → Bool} (o : STO lt) {ks l : List α} (h1 : ks.Nodup) (h2 : ∀ k, k ∈ ks ↔ k ∈ l) : ks.length = (dsort lt l).length := by
  have e : dsort lt ks = dsort lt l := dsort_eq o (dsort_sorted o ks) fun k => (dsort_mem o k ks).trans (h2 k)
  rw [← e, ← dsort_nsort o h1, (nsort_perm ks).length_eq]
theorem den_lenSet {X : Cx} : DenR X.fk (rLenSet X) fLenSet := by
  intro vs ds H L d os Q hl r e k
  unfold fLenSet at e
  split at e
  · rename_i m xs
    split at e
    · rename_i ks hk
      split at e
      · rename_i hz
        cases e
        obtain ⟨x, rfl⟩ := len1 hl
        have e1 := acI.all_eq hk
        subst e1
        obtain ⟨a, rfl, hs⟩ := acI.list r (.inl rfl)
        refine .inl ⟨a, ks, rfl, hs, by have : scanBound = 4096 := rfl; omega, fun p hp => .inl ⟨p, ks, rfl, upd_same, fun ys h1 h2 => ?_⟩⟩
        rw [same_len stoI h1 h2]
        exact k _ _ ((r.same (same_upd hp)).atom (.int _))
      · cases e
    · split at e
      · rename_i ks hk
        split at e
        · rename_i hz
          cases e
          obtain ⟨x, rfl⟩ := len1 hl
          have e1 := acS.all_eq hk
          subst e1
          obtain ⟨a, rfl, hs⟩ := acS.list r (.inl rfl)
          refine .inr ⟨a, ks, rfl, hs, by have : scanBound = 4096 := rfl; omega, fun p hp => .inr ⟨p, ks, rfl, upd_same, fun ys h1 h2 => ?_⟩⟩
          rw [same_len stoS h1 h2]
          exact k _ _ ((r.same (same_upd hp)).atom (.int _))
        · cases e
      · cases e
  · cases e
/-- two built-ins, one in the other -/
theorem j_nest {X : Cx} {id T : String} {r s : List V → Hp → VK → Prop} {fm : List D → Option (D × List D)} {x y : Str} {p p2 q pos : Pos} {e : Expr} {es : List Expr} {tl : TA} {As : List Arg} (hc : CallR X (.builtin id) r) (hs : CallR X (.type T) s) (hr : DenR X.fk (fun vs H Q => s vs H fun v H1 => r [v] H1 Q) fm)
    (hm : X.mg x = none) (hm2 : X.mg y = none) (ha : LJ X (e :: es) tl As) (hg : Gl X x := by rfl) (hg2 : Gl X y := by rfl) (hv : bootBuiltins x = some (.builtin id) := by decide +kernel) (hv2 : bootBuiltins y = some (.type T) := by decide +kernel)
    (hn : x ≠ "__name__" := by decide) (hdb : (x == ("__debug__" : Str)) = false := by decide) (hn2 : y ≠ "__name__" := by decide) (hdb2 : (y == ("__debug__" : Str)) = false := by decide)
    (he : starEach (e :: es) X.env = (false, eval e X.env) :: starEach es X.env := by rfl) (hpl : (backTo q (starEach es X.env)).any (·.1) = false := by rfl)
    (he2 : starEach [Expr.Call (.Name y p2) (e :: es) [] q] X.env = [(false, eval (Expr.Call (.Name y p2) (e :: es) [] q) X.env)] := by rfl) : EJ X (.Call (.Name x p) [.Call (.Name y p2) (e :: es) [] q] [] pos) (tCB r (tCons (tCB s tl) tNil)) (mApp fm As) :=
  ⟨pe_callB hc hg hm hv (pa_cons (pe_callTy hs hg2 hm2 hv2 ha.p hn2 hdb2 he hpl) pa_nil he2) hn hdb he2 (by rfl), fun σ H env L d env' Q re e k => den_app (r := fun vs H Q => s vs H fun v H1 => r [v] H1 Q) ha.d hr σ H env L d env' Q re e k⟩
end VH

namespace VH
open PySem L2
variable {K : Fk}
/-! ### is, is not -/
def rIsA : R2 := fun x y H Q => (y = .non ∧ Q (.bl (decide (x = .non))) H) ∨ ∃ a b, x = .bl a ∧ y = .bl b ∧ Q (.bl (decide (a = b))) H
def rIsnA : R2 := fun x y H Q => (y = .non ∧ Q (.bl (!decide (x = .non))) H) ∨ ∃ a b, x = .bl a ∧ y = .bl b ∧ Q (.bl (!decide (a = b))) H
theorem op_isA {X : Cx} : OpR X (compareOp .Is) rIsA := op_isN.or op_is_bl
theorem op_isnA {X : Cx} : OpR X (compareOp .IsNot) rIsnA := op_notN.or op_isnot_bl
def D.isN : D → Option Bool
  | .non => some true
  | .bl _ => some false
  | .int _ => some false
  | .str _ => some false
  | .ref _ => some false
  | .nd _ _ _ => some false
  | _ => none
theorem isN_val {H : Hp} {L : List (V × D)} {v : V} {d : D} {b : Bool} (r : R K H ((v, d) :: L)) (e : d.isN = some b) : decide (v = .non) = b := by
  cases d <;> simp only [D.isN] at e <;> cases e
  · rw [r.vnon]; rfl
  · rw [r.vbl]; rfl
  · rw [r.vint]; rfl
  · rw [r.vstr]; rfl
  · rw [r.vref]; rfl
  · obtain ⟨a, _, _, e, _⟩ := r.look
    rw [e]; rfl
def fIs (neg : Bool) : List D → Option (D × List D)
  | [x, .non] => match x.isN with
    | some b => some (.bl (if neg then !b else b), [x, .any])
    | none => none
  | [.bl a, .bl b] => some (.bl (if neg then !decide (a = b) else decide (a = b)), [.any, .any])
  | _ => none
theorem den_is : DenR K (r2L rIsA) (fIs false) := by
  intro vs ds H L d os Q hl r e k
  unfold fIs at e
  split at e
  · rename_i x
    split at e
    · rename_i b hb
      cases e
      obtain ⟨u, v, rfl⟩ := len2 hl
      obtain rfl := r.tail.vnon
      refine .inl ⟨rfl, ?_⟩
      rw [isN_val r hb]
      exact k _ H (R.atom (R.perm (List.Perm.swap _ _ _) ((R.perm (List.Perm.swap _ _ _) r).tail.atom (.any _))) (.bl b))
    · cases e
  · rename_i a b
    cases e
    obtain ⟨u, v, rfl⟩ := len2 hl
    obtain rfl := r.vbl
    obtain rfl := r.tail.vbl
    exact .inr ⟨a, b, rfl, rfl, k _ H (R.any2 (r.tail.tail.atom (.bl _)))⟩
  · cases e
theorem den_isn : DenR K (r2L rIsnA) (fIs true) := by
  intro vs ds H L d os Q hl r e k
  unfold fIs at e
  split at e
  · rename_i x
    split at e
    · rename_i b hb
      cases e
      obtain ⟨u, v, rfl⟩ := len2 hl
      obtain rfl := r.tail.vnon
      refine .inl ⟨rfl, ?_⟩
      rw [isN_val r hb]
      exact k _ H (R.atom (R.perm (List.Perm.swap _ _ _) ((R.perm (List.Perm.swap _ _ _) r).tail.atom (.any _))) (.bl (!b)))
    · cases e
  · rename_i a b
    cases e
    obtain ⟨u, v, rfl⟩ := len2 hl
    obtain rfl := r.vbl
    obtain rfl := r.tail.vbl
    exact .inr ⟨a, b, rfl, rfl, k _ H (R.any2 (r.tail.tail.atom (.bl _)))⟩
  · cases e
/-! ### max(i, j), += -/
def fMax2 : List D → Option (D × List D)
  | [.int i, .int j] => some (.int (if j > i then j else i), [.any, .any])
  | _ => none
theorem den_max2 : DenR K (fun xs H Q => ∃ i j, xs = [.int i, .int j] ∧ Q (.int (if j > i then j else i)) H) fMax2 := by
  intro vs ds H L d os Q hl r e k
  unfold fMax2 at e
  split at e
  · rename_i i j
    cases e
    obtain ⟨u, v, rfl⟩ := len2 hl
    obtain rfl := r.vint
    obtain rfl := r.tail.vint
    exact ⟨i, j, rfl, k _ H (R.any2 (r.tail.tail.atom (.int _)))⟩
  · cases e
def fAddI := fII (fun _ _ => true) fun i j => .int (i + j)
theorem den_addI : DenR K (r2L (ipI fun i j => i + j)) fAddI := den_II0 (g := fun i j => .int (i + j)) fun _ _ => .int _
theorem den_subI : DenR K (r2L (ipI fun i j => i - j)) fSub := den_II0 (g := fun i j => .int (i - j)) fun _ _ => .int _
/-! ### a sign in a text, a thing in a list -/
def rInS (neg : Bool) : R2 := fun x y H Q => ∃ (c : Nat) (z : Str), x = .str ⟨#[c]⟩ ∧ y = .str z ∧ Q (.bl (if neg then !decide (c ∈ z.cps.toList) else decide (c ∈ z.cps.toList))) H
def fInS (neg : Bool) : List D → Option (D × List D)
  | [.str ⟨⟨[c]⟩⟩, .str z] => some (.bl (if neg then !decide (c ∈ z.cps.toList) else decide (c ∈ z.cps.toList)), [.any, .any])
  | _ => none
theorem den_inS (neg : Bool) : DenR K (r2L (rInS neg)) (fInS neg) := by
  intro vs ds H L d os Q hl r e k
  unfold fInS at e
  split at e
  · rename_i c z
    cases e
    obtain ⟨u, v, rfl⟩ := len2 hl
    obtain rfl := r.vstr
    obtain rfl := r.tail.vstr
    exact ⟨c, z, rfl, rfl, k _ H (R.any2 (r.tail.tail.atom (.bl _)))⟩
  · cases e
theorem op_inS {X : Cx} : OpR X (compareOp .In) (rInS false) := op_in_sign
theorem op_notInS {X : Cx} : OpR X (compareOp .NotIn) (rInS true) := op_notIn_sign
def fInD (neg : Bool) : List D → Option (D × List D)
  | [x, y] => match x.py, y.py with
    | some p, some (.list qs) => if SeqAt.shaped p && SeqAt.shaped (.list qs) then some (.bl (if neg then !qs.any (fun z => PyData.eqv z p) else qs.any (fun z => PyData.eqv z p)), [x, y]) else none
    | _, _ => none
  | _ => none
def rInA (K : PySem.W.Frag) (neg : Bool) : R2 := fun x y H Q => ∃ d ds, Dp K H x d ∧ Dp K H y (.list ds) ∧ SeqAt.shaped d = true ∧ SeqAt.shaped (.list ds) = true ∧ Q (.bl (if neg then !(ds.any fun z => PyData.eqv z d) else ds.any fun z => PyData.eqv z d)) H
theorem den_inD (neg : Bool) : DenR K (r2L (rInA K neg)) (fInD neg) := by
  intro vs ds H L d os Q hl r e k
  unfold fInD at e
  split at e
  · rename_i x y
    split at e
    · rename_i p qs e1 e2
      split at e
      · rename_i h
        cases e
        simp only [Bool.and_eq_true] at h
        obtain ⟨a, b, rfl⟩ := len2 hl
        exact ⟨p, qs, r.dp e1, r.tail.dp e2, h.1, h.2, k _ H (r.atom (.bl _))⟩
      · cases e
    · cases e
  · cases e
theorem op_inDA {X : Cx} (hu : X.A.units + 65 < cLine) : OpR X (compareOp .In) (rInA X.K false) := op_inD hu
theorem op_notInDA {X : Cx} (hu : X.A.units + 65 < cLine) : OpR X (compareOp .NotIn) (rInA X.K true) := op_notInD hu
/-! ### all(xs), sep.join(xs) -/
def fAll : List D → Option (D × List D)
  | [.nd m .lst xs] => match acB.all xs with
    | some bs => some (.bl (bs.all id), [.nd m .lst xs])
    | none => none
  | _ => none
theorem den_all : DenR K (rAll K) fAll := by
  intro vs ds H L d os Q hl r e k
  unfold fAll at e
  split at e
  · rename_i m xs
    split at e
    · rename_i bs hb
      cases e
      obtain ⟨x, rfl⟩ := len1 hl
      have e1 := acB.all_eq hb
      subst e1
      obtain ⟨a, rfl, hs⟩ := acB.list r (.inl rfl)
      exact ⟨a, bs, rfl, hs, k _ H (r.atom (.bl _))⟩
    · cases e
  · cases e
def fAny : List D → Option (D × List D)
  | [.nd m .lst xs] => match acB.all xs with
    | some bs => some (.bl (bs.any id), [.nd m .lst xs])
    | none => none
  | _ => none
theorem den_any : DenR K (rAny K) fAny := by
  intro vs ds H L d os Q hl r e k
  unfold fAny at e
  split at e
  · rename_i m xs
    split at e
    · rename_i bs hb
      cases e
      obtain ⟨x, rfl⟩ := len1 hl
      have e1 := acB.all_eq hb
      subst e1
      obtain ⟨a, rfl, hs⟩ := acB.list r (.inl rfl)
      exact ⟨a, bs, rfl, hs, k _ H (r.atom (.bl _))⟩
    · cases e
  · cases e
def fJoin : List D → Option (D × List D)
  | [.str a, .nd m .lst xs] => match acS.all xs with
    | some ys => if (ys.map (·.length)).sum + ys.length * a.length ≤ 16777216 then some (.str (Txt.join a ys), [.str a, .nd m .lst xs]) else none
    | none => none
  | _ => none
theorem den_join : DenR K (rML fun x xs H Q => ∃ a p, ∃ ys : List Str, x = .str a ∧ xs = [.ref p] ∧ (SqL K H p (ys.map V.str) ∨ SqT K H p (ys.map V.str)) ∧ (ys.map (·.length)).sum + ys.length * a.length ≤ 16777216 ∧ Q (.str (Txt.join a ys)) H) fJoin := by
  intro vs ds H L d os Q hl r e k
  unfold fJoin at e
  split at e
  · rename_i a m xs
    split at e
    · rename_i ys hy
      split at e
      · rename_i hz
        cases e
        obtain ⟨u, v, rfl⟩ := len2 hl
        obtain rfl := r.vstr
        have e1 := acS.all_eq hy
        subst e1
        obtain ⟨p, rfl, hs⟩ := acS.list r.tail (.inl rfl)
        exact ⟨a, p, ys, rfl, rfl, .inl hs, hz, k _ H (r.atom (.str _))⟩
      · cases e
    · cases e
  · cases e
/-- a text's method of one argument -/
theorem j_m1 {X : Cx} {id : String} {name : Str} {o e : Expr} {to te : TE} {A B : Arg} {apos pos : Pos} {r : V → List V → Hp → VK → Prop} {fm : List D → Option (D × List D)} (slot : Slot "str" name id) (ty : typeOf (.builtin id) = pure (.type "method_descriptor")) (rule : MtR X id r) (hr : DenR X.fk (rML r) fm)
    (hT : ∀ d ds z, fm (d :: ds) = some z → ∃ a, d = .str a) (ho : AJ X o to A) (he : AJ X e te B)
    (hs : starEach [e] X.env = [(false, eval e X.env)] := by rfl) (hbase : attributeBase o name X.env (eval o X.env) = eval o X.env := by rfl) (hline : (apos.endLine == pos.line) = true := by rfl) : EJ X (.Call (.Attribute o name apos) [e] [] pos) (tM1 r to te) (mApp fm [A, B]) := by
  refine ⟨pe_m1 slot ty rule ho.p he.p hs hbase hline, ?_⟩
  intro σ H env L d env' Q re e k
  obtain ⟨ds, ps, e1, os, h1, h2, hlo, rfl⟩ := mApp_eq e
  unfold evs at h1
  split at h1
  · rename_i d0 p0 e0 h0
    split at h1
    · rename_i ds0 ps0 e2 h3
      cases h1
      refine ho.d σ H env L d0 p0 e0 _ re h0 fun x M H1 hs1 r1 => ?_
      obtain ⟨a, rfl⟩ := hT _ _ _ h2
      obtain ⟨l, q, b⟩ := RE.to (L := [(x, D.str a)]) r1
      obtain rfl := q.vstr
      refine ⟨⟨a, rfl⟩, da_cons he.d da_nil σ H1 e0 _ ds0 ps0 e1 (fun vs H2 => r (V.str a) vs H2 Q) r1 h3 fun vs N H2 hl hs2 r2 => ?_⟩
      have r3 : RE X.fk H2 σ e1 ((V.str a :: vs).zip (D.str a :: ds0) ++ ((M ++ N) ++ L)) := by
        refine RE.perm ?_ r2
        show (vs.zip ds0 ++ (N ++ (V.str a, D.str a) :: (M ++ L))).Perm ((V.str a, D.str a) :: (vs.zip ds0 ++ (M ++ N ++ L)))
        refine List.Perm.trans (List.Perm.append_left _ List.perm_middle) ?_
        refine List.Perm.trans List.perm_middle (List.Perm.cons _ (List.Perm.append_left _ ?_))
        rw [List.append_assoc]
        exact pc3 N M L
      obtain ⟨l2, q2, b2⟩ := RE.to r3
      have fin : (rML r) (V.str a :: vs) H2 Q := hr (V.str a :: vs) (D.str a :: ds0) H2 _ d os Q (by simp [hl]) q2 h2 fun v H3 q3 => k v H3 (by
        have q4 := b2 (H' := H3) (L1 := (v, d) :: (V.str a :: vs).zip os) (by simpa using q3)
        refine RE.putB (slOk_cons hs1 hs2) (L := (v, d) :: L) (RE.perm ?_ q4) (by simp [hlo, hl])
        show ((v, d) :: ((V.str a :: vs).zip os ++ ((M ++ N) ++ L))).Perm ((V.str a :: vs).zip os ++ ((M ++ N) ++ (v, d) :: L))
        exact (List.Perm.append_left _ List.perm_middle).trans List.perm_middle |>.symm)
      exact fin
    · cases h1
  · cases h1
end VH

namespace VH
open PySem L2
variable {K : Fk}
/-! ### a op b op c of whole numbers -/
def mChain (p q : Int → Int → Bool) (ma mb mc : EM D) : EM D := fun env => match ma env with
  | some (.int i, e1) => match mb e1 with
    | some (.int j, e2) => if p i j then (match mc e2 with
      | some (.int l, e3) => some (.bl (q j l), e3)
      | _ => none) else some (.bl false, e2)
    | _ => none
  | _ => none
theorem RE.vint {H : Hp} {σ : St} {env : Env} {L : List (V × D)} {v : V} {i : Int} (h : RE K H σ env ((v, .int i) :: L)) : v = .int i := h.val.choose_spec.vint
theorem RE.vstr {H : Hp} {σ : St} {env : Env} {L : List (V × D)} {v : V} {i : Str} (h : RE K H σ env ((v, .str i) :: L)) : v = .str i := h.val.choose_spec.vstr
theorem den_chain {r r' : R2} {p q : Int → Int → Bool} {ta tb tc : TE} {ma mb mc : EM D} (hr : ∀ i j H Q, Q (.bl (p i j)) H → r (.int i) (.int j) H Q) (hr' : ∀ i j H Q, Q (.bl (q i j)) H → r' (.int i) (.int j) H Q)
    (ha : DenE K ta ma) (hb : DenE K tb mb) (hc : DenE K tc mc) : DenE K (tChain r r' ta tb tc) (mChain p q ma mb mc) := by
  intro σ H env L d env' Q re e k
  unfold mChain at e
  split at e
  · rename_i i e1 h1
    split at e
    · rename_i j e2 h2
      refine ha σ H env L _ e1 _ re h1 fun x H1 r1 => ?_
      obtain rfl := r1.vint
      refine hb σ H1 e1 _ _ e2 _ r1.tail h2 fun y H2 r2 => ?_
      obtain rfl := r2.vint
      refine hr i j H2 _ ⟨p i j, rfl, ?_⟩
      split at e
      · rename_i hp
        rw [hp]
        refine iteT ?_
        split at e
        · rename_i l e3 h3
          cases e
          refine hc σ H2 e2 _ _ _ _ r2.tail h3 fun z H3 r3 => ?_
          obtain rfl := r3.vint
          exact hr' j l H3 _ (k _ H3 (r3.tail.atom (.bl _)))
        · cases e
      · rename_i hp
        cases e
        have hp' : p i j = false := by simpa using hp
        rw [hp']
        exact iteF (k _ H2 (r2.tail.atom (.bl _)))
    · cases e
  · cases e
theorem j_chain {X : Cx} {a b c : Expr} {op op' : CmpOp} {r r' : R2} {p q : Int → Int → Bool} {ta tb tc : TE} {ma mb mc : EM D} {pos : Pos} (ho : OpR X (compareOp op) r) (ho' : OpR X (compareOp op') r') (hr : ∀ i j H Q, Q (.bl (p i j)) H → r (.int i) (.int j) H Q) (hr' : ∀ i j H Q, Q (.bl (q i j)) H → r' (.int i) (.int j) H Q)
    (ha : EJ X a ta ma) (hb : EJ X b tb mb) (hc : EJ X c tc mc) (hm : lastMarks [op, op'] [b, c] = false := by with_unfolding_all rfl) : EJ X (.Compare a [op, op'] [b, c] pos) (tChain r r' ta tb tc) (mChain p q ma mb mc) :=
  ⟨pe_chain ho ho' ha.p hb.p hc.p hm, den_chain hr hr' ha.d hb.d hc.d⟩
theorem t_chain {X : Cx} {a b c : Expr} {op op' : CmpOp} {r r' : R2} {p q : Int → Int → Bool} {ta tb tc : TE} {ma mb mc : EM D} {pos : Pos} (ho : OpR X (compareOp op) r) (ho' : OpR X (compareOp op') r') (hr : ∀ i j H Q, Q (.bl (p i j)) H → r (.int i) (.int j) H Q) (hr' : ∀ i j H Q, Q (.bl (q i j)) H → r' (.int i) (.int j) H Q)
    (ha : EJ X a ta ma) (hb : EJ X b tb mb) (hc : EJ X c tc mc) (hm : lastMarks [op, op'] [b, c] = false := by with_unfolding_all rfl) : TJ X (.Compare a [op, op'] [b, c] pos) (tTest (tChain r r' ta tb tc)) (mTest (mChain p q ma mb mc)) :=
  ⟨pt_chain ho ho' ha.p hb.p hc.p hm, den_test (den_chain hr hr' ha.d hb.d hc.d)⟩
theorem rI0_bl {p : Int → Int → Bool} (i j : Int) (H : Hp) (Q : VK) (h : Q (.bl (p i j)) H) : rI0 (fun i j => .bl (p i j)) (.int i) (.int j) H Q := ⟨i, j, rfl, rfl, h⟩
/-! ### the order of data -/
def rLtD (K : PySem.W.Frag) : R2 := fun x y H Q => ∃ p q, Dp K H x p ∧ Dp K H y q ∧ PySem.W.alike p q = true ∧ p ≠ .none ∧ min p.depth q.depth ≤ 32 ∧ Q (.bl (PySem.W.dataLt p q)) H
def rLeD (K : PySem.W.Frag) : R2 := fun x y H Q => ∃ p q, Dp K H x p ∧ Dp K H y q ∧ PySem.W.alike p q = true ∧ p ≠ .none ∧ min p.depth q.depth ≤ 32 ∧ Q (.bl (!PySem.W.dataLt q p)) H
theorem op_ltD {X : Cx} (hu : X.A.units + 64 < cLine) : OpR X (compareOp .Lt) (rLtD X.K) := by
  intro pins s σ H x y v u Q I rx ry h
  obtain ⟨p, q, hd, he, ha, hn, hz, q⟩ := h
  obtain ⟨as, r1⟩ := Dp.reads I _ x v hd rx
  obtain ⟨bs, r2⟩ := Dp.reads I _ y u he ry
  exact PySem.W.lt_data r1 r2 ha hn (by omega) ⟨.bl _, H, I, rfl, q⟩
theorem op_leD {X : Cx} (hu : X.A.units + 64 < cLine) : OpR X (compareOp .LtE) (rLeD X.K) := by
  intro pins s σ H x y v u Q I rx ry h
  obtain ⟨p, q, hd, he, ha, hn, hz, q⟩ := h
  obtain ⟨as, r1⟩ := Dp.reads I _ x v hd rx
  obtain ⟨bs, r2⟩ := Dp.reads I _ y u he ry
  exact PySem.W.le_data r1 r2 ha hn (by omega) ⟨.bl _, H, I, rfl, q⟩
def pyN : PyData → Bool
  | .none => true
  | _ => false
theorem pyN_ne {p : PyData} (h : pyN p = false) : p ≠ .none := by rintro rfl; cases h
def fLtD : List D → Option (D × List D)
  | [x, y] => match x.py, y.py with
    | some p, some q => if PySem.W.alike p q = true ∧ pyN p = false ∧ min p.depth q.depth ≤ 32 then some (.bl (PySem.W.dataLt p q), [x, y]) else none
    | _, _ => none
  | _ => none
def fLeD : List D → Option (D × List D)
  | [x, y] => match x.py, y.py with
    | some p, some q => if PySem.W.alike p q = true ∧ pyN p = false ∧ min p.depth q.depth ≤ 32 then some (.bl (!PySem.W.dataLt q p), [x, y]) else none
    | _, _ => none
  | _ => none
theorem den_ltD : DenR K (r2L (rLtD K)) fLtD := by
  intro vs ds H L d os Q hl r e k
  unfold fLtD at e
  split at e
  · rename_i x y
    split at e
    · rename_i p q e1 e2
      split at e
      · rename_i h
        cases e
        obtain ⟨a, b, rfl⟩ := len2 hl
        exact ⟨p, q, r.dp e1, r.tail.dp e2, h.1, pyN_ne h.2.1, h.2.2, k _ H (r.atom (.bl _))⟩
      · cases e
    · cases e
  · cases e
theorem den_leD : DenR K (r2L (rLeD K)) fLeD := by
  intro vs ds H L d os Q hl r e k
  unfold fLeD at e
  split at e
  · rename_i x y
    split at e
    · rename_i p q e1 e2
      split at e
      · rename_i h
        cases e
        obtain ⟨a, b, rfl⟩ := len2 hl
        exact ⟨p, q, r.dp e1, r.tail.dp e2, h.1, pyN_ne h.2.1, h.2.2, k _ H (r.atom (.bl _))⟩
      · cases e
    · cases e
  · cases e
/-! ### isinstance of a built-in type -/
def D.ty : D → Option String
  | .non => some "NoneType"
  | .bl _ => some "bool"
  | .int _ => some "int"
  | .str _ => some "str"
  | .nd _ .lst _ => some "list"
  | .nd _ .tup _ => some "tuple"
  | .nd _ (.dK _) _ => some "dict"
  | .nd _ (.dT _) _ => some "dict"
  | _ => none
/-- the types that are asked for -/
def tyIn (a b : String) : Option Bool := if b = "str" ∨ b = "int" ∨ b = "bool" ∨ b = "tuple" ∨ b = "list" ∨ b = "dict" then some (a == b || (a == "bool" && b == "int")) else none
theorem tyIn_ok : ∀ d : D, ∀ a b r, d.ty = some a → tyIn a b = some r → kitB a b = some r := by
  have all : ∀ a ∈ ["NoneType", "bool", "int", "str", "list", "tuple", "dict"], ∀ b ∈ ["str", "int", "bool", "tuple", "list", "dict"], kitB a b = some (a == b || (a == "bool" && b == "int")) := by decide +kernel
  intro d a b r ha hb
  unfold tyIn at hb
  split at hb
  · rename_i h
    cases hb
    refine all a ?_ b ?_
    · cases d <;> simp only [D.ty] at ha
      case nd m h xs => cases h <;> cases ha <;> decide
      all_goals (cases ha; try decide)
    · simpa using h
  · cases hb
def fIsi : List D → Option (D × List D)
  | [x, .hole (.ty T)] => match x.ty with
    | some a => match tyIn a T with
      | some b => some (.bl b, [x, .any])
      | none => none
    | none => none
  | _ => none
theorem den_isi : DenR K (rIsi K) fIsi := by
  intro vs ds H L d os Q hl r e k
  unfold fIsi at e
  split at e
  · rename_i x T
    split at e
    · rename_i a ha
      split at e
      · rename_i b hb
        cases e
        obtain ⟨u, v, rfl⟩ := len2 hl
        obtain rfl := r.tail.vhole
        have kk : R K H ((.bl b, .bl b) :: ([u, .ty T].zip [x, .any] ++ L)) := R.atom (R.perm (List.Perm.swap _ _ _) ((R.perm (List.Perm.swap _ _ _) r).tail.atom (.any _))) (.bl b)
        refine ⟨u, .ty T, .type a, .type T, b, rfl, .ty T, ?_, kit_ty (tyIn_ok x a T b ha hb), k _ H kk⟩
        cases x <;> simp only [D.ty] at ha
        case non => cases ha; rw [r.vnon]; exact .base .non
        case bl => cases ha; rw [r.vbl]; exact .base (.bl _)
        case int => cases ha; rw [r.vint]; exact .base (.int _)
        case str => cases ha; rw [r.vstr]; exact .base (.str _)
        case nd m h xs =>
          obtain ⟨p, o, us, rfl, h1, _, f, l⟩ := R.look r
          cases h <;> cases ha
          · cases f; exact .base (.tup h1)
          · cases f; exact .base (.lst h1)
          · cases f; exact .base (.dK h1)
          · cases f; exact .base (.dT h1)
        all_goals cases ha
      · cases e
    · cases e
  · cases e
theorem j_ty {X : Cx} {x : Str} {T : String} {pos : Pos} (hm : X.mg x = none) (hv : bootBuiltins x = some (.type T)) (hg : Gl X x := by rfl) (hn : x ≠ "__name__" := by decide) (hd : (x == ("__debug__" : Str)) = false := by decide) : EJ X (.Name x pos) (tC (.ty T)) (mC (.hole (.ty T))) :=
  ⟨pe_bltn hg hm hv rfl hn hd, den_c (.hole _)⟩
/-! ### a list times a number -/
def fRep : List D → Option (D × List D)
  | [.nd _ .lst xs, .int k] => if D.isFzL xs = true ∧ -(2 ^ 63) ≤ k ∧ k < 2 ^ 63 ∧ xs.length * k.toNat ≤ sizeLine then some (.nd true .lst (List.replicate k.toNat xs).flatten, [.any, .any]) else none
  | _ => none
theorem R.rep {H : Hp} {L : List (V × D)} {vs : List V} {xs : List D} (hl : vs.length = xs.length) (hf : D.isFzL xs = true) (r : R K H (vs.zip xs ++ L)) : ∀ n : Nat, R K H ((List.replicate n vs).flatten.zip (List.replicate n xs).flatten ++ (vs.zip xs ++ L))
  | 0 => r
  | n + 1 => by
    have dupL : ∀ {vs : List V} {xs : List D} {L : List (V × D)}, D.isFzL xs = true → R K H (vs.zip xs ++ L) → R K H (vs.zip xs ++ (vs.zip xs ++ L)) := by
      intro vs
      induction vs with
      | nil => intro xs L _ r; exact r
      | cons v vs ih =>
        intro xs L hf r
        cases xs with
        | nil => exact r
        | cons x xs =>
          simp only [D.isFzL, Bool.and_eq_true] at hf
          have r1 : R K H ((v, x) :: (vs.zip xs ++ L)) := r
          have r2 := r1.dup hf.1
          have r3 : R K H (vs.zip xs ++ ((v, x) :: (v, x) :: L)) := r2.perm (by
            refine List.Perm.trans ?_ List.perm_middle.symm
            exact List.Perm.cons _ List.perm_middle.symm)
          have r4 := ih hf.2 r3
          refine r4.perm ?_
          show (vs.zip xs ++ (vs.zip xs ++ ((v, x) :: (v, x) :: L))).Perm ((v, x) :: (vs.zip xs ++ ((v, x) :: (vs.zip xs ++ L))))
          refine List.Perm.trans (List.Perm.append_left _ List.perm_middle) ?_
          refine List.Perm.trans List.perm_middle (List.Perm.cons _ (List.Perm.append_left _ ?_))
          exact List.perm_middle
    have ih := R.rep hl hf r n
    rw [List.replicate_succ, List.replicate_succ, List.flatten_cons, List.flatten_cons, List.zip_append hl, List.append_assoc]
    have r1 : R K H (vs.zip xs ++ ((List.replicate n vs).flatten.zip (List.replicate n xs).flatten ++ L)) := ih.perm (pc3 _ _ _)
    have r2 := dupL hf r1
    exact r2.perm (List.Perm.append_left _ (pc3 _ _ _))
theorem den_rep : DenR K (r2L rRep) fRep := by
  intro vs ds H L d os Q hl r e k
  unfold fRep at e
  split at e
  · rename_i m xs n
    split at e
    · rename_i h
      cases e
      obtain ⟨u, v, rfl⟩ := len2 hl
      obtain rfl := r.tail.vint
      obtain ⟨a, o, us, rfl, h1, f, l, r1⟩ := R.kids r
      cases f
      refine ⟨a, n, us, rfl, rfl, h1, h.2.1, h.2.2.1, by rw [l]; exact h.2.2.2, fun p hp => k _ _ (R.any2 ?_)⟩
      have r2 := R.rep l h.1 r1 n.toNat
      have r3 : R K H ((List.replicate n.toNat us).flatten.zip (List.replicate n.toNat xs).flatten ++ ((V.int n, D.int n) :: L)) := (r2.perm (pc3 _ _ _)).right
      have r4 : R K H ((List.replicate n.toNat us).flatten.zip (List.replicate n.toNat xs).flatten ++ L) := (r3.perm List.perm_middle).tail
      refine R.makeN ?_ r4 hp (.lst _)
      simp [l]
    · cases e
  · cases e
/-- * of numbers, of a list and a number -/
def rMulA : R2 := fun x y H Q => rI CMul (fun i j => .int (i * j)) x y H Q ∨ rRep x y H Q
theorem op_mulA {X : Cx} : OpR X (binaryOp .Mult) rMulA := op_mul.or op_rep
def fMulA (ds : List D) : Option (D × List D) := match fMulI ds with
  | some z => some z
  | none => fRep ds
theorem den_mulA : DenR K (r2L rMulA) fMulA := by
  intro vs ds H L d os Q hl r e k
  unfold fMulA at e
  have two : ∀ {fm : List D → Option (D × List D)}, (fm = fMulI ∨ fm = fRep) → fm ds = some (d, os) → ∃ a b, ds = [a, b] := by
    intro fm hfm h
    match ds, h with
    | [a, b], _ => exact ⟨a, b, rfl⟩
    | [], h => rcases hfm with rfl | rfl <;> cases h
    | [a], h => rcases hfm with rfl | rfl <;> simp [fMulI, fII, fRep] at h
    | _ :: _ :: _ :: _, h => rcases hfm with rfl | rfl <;> simp [fMulI, fII, fRep] at h
  split at e
  · rename_i z hz
    cases e
    obtain ⟨a, b, rfl⟩ := two (.inl rfl) hz
    obtain ⟨x, y, rfl⟩ := len2 hl
    exact .inl (den_mulI [x, y] [a, b] H L d os Q hl r hz k)
  · obtain ⟨a, b, rfl⟩ := two (.inr rfl) e
    obtain ⟨x, y, rfl⟩ := len2 hl
    exact .inr (den_rep [x, y] [a, b] H L d os Q hl r e k)
end VH

/-! zip, enumerate over lists, tuples, texts. -/
namespace VH
open PySem PySem.Spec PyProof.Rows
/-- what is gone through -/
inductive Src where
  | t (a : Addr)
  | l (a : Addr)
  | s (z : Str) (tk : Tok)
namespace Src
def val : Src → Value
  | .t a => .ref a
  | .l a => .ref a
  | .s z tk => .str z tk
def st : Src → Addr → Nat → Heap → Prop
  | .t a, it, i, h => h.IsTupleIter it a i
  | .l a, it, i, h => h.IsListIter it a i
  | .s z tk, it, i, h => h.IsStrIter it (strIterType z) z tk i
def obj : Src → Obj
  | .t a => { cls := .type "tuple_iterator", data := .fields #[.ref a, .int 0 0] }
  | .l a => { cls := .type "list_iterator", data := .fields #[.ref a, .int 0 0] }
  | .s z tk => { cls := .type (strIterType z), data := .fields #[.str z tk, .int 0 0] }
/-- its items, as values -/
def hold (K : PySem.W.Frag) (H : L2.Hp) : Src → List L2.V → Prop
  | .t a, xs => L2.SqT K H a xs
  | .l a, xs => L2.SqL K H a xs
  | .s z _, xs => xs = z.cps.toList.map fun c => .str ⟨#[c]⟩
/-- its object, where it is one -/
def at_ (it : Addr) : Src → Prop
  | .t a => a ≠ it
  | .l a => a ≠ it
  | .s _ _ => True
def fp (it : Addr) : Src → List Addr
  | .t a => [it, a]
  | .l a => [it, a]
  | .s _ _ => [it]
theorem st_begin {sc : Src} {it : Addr} {h : Heap} (e : h.get? it = some sc.obj) : sc.st it 0 h := by
  cases sc <;> exact ⟨_, e, rfl, rfl⟩
theorem st_obj {sc : Src} {it : Addr} {i : Nat} {h : Heap} (x : sc.st it i h) : ∃ o, h.get? it = some o ∧ ∀ v, o.data ≠ .cell v := by
  cases sc
  all_goals
    obtain ⟨o, e, _, d⟩ := x
    exact ⟨o, e, fun v q => by rw [d] at q; cases q⟩
theorem st_keep {sc : Src} {it : Addr} {i : Nat} {h h' : Heap} (x : sc.st it i h) (k : ∀ o, h.get? it = some o → h'.get? it = some o) : sc.st it i h' := by
  cases sc
  · exact Heap.IsTupleIter.at x k
  · exact Heap.IsListIter.at x k
  · obtain ⟨o, e, r⟩ := x; exact ⟨o, k o e, r⟩
section
variable {X : L2.Cx} {pins : List (Addr × Obj)} {σ : L2.St} {H : L2.Hp} {s : Shared}
theorem begins {sc : Src} {xs : List L2.V} (I : L2.Inv X pins σ H s) (h : sc.hold X.K H xs) : ∃ Hc : Heap → Prop, Begins sc.val sc.obj Hc ∧ Hc s.heap := by
  cases sc with
  | t a =>
    obtain ⟨its, _, p, _⟩ := I.tuple h
    exact ⟨_, begins_tuple a its.toArray, p⟩
  | l a =>
    obtain ⟨its, _, p, _⟩ := I.list h
    exact ⟨_, begins_list a its.toArray, p.isList⟩
  | s z tk => exact ⟨_, begins_text z tk, trivial⟩
theorem draws {sc : Src} {xs : List L2.V} {it : Addr} {A : Around} (I : L2.Inv X pins σ H s) (h : sc.hold X.K H xs) (hh : A.handled = none) (ne : sc.at_ it) :
    ∃ (Pv : Nat → Value → Prop) (St : Nat → Heap → Prop), Draws X.prog X.w A it (sc.fp it) xs.length Pv St ∧ (∀ i, sc.st it i s.heap → St i s.heap) ∧ (∀ i h', St i h' → sc.st it i h') ∧ ∀ i v, Pv i v → ∃ x, xs[i]? = some x ∧ L2.RelV x v := by
  cases sc with
  | t a =>
    obtain ⟨its, rv, p, _⟩ := I.tuple h
    have D := Draws.tuple (prog := X.prog) (w := X.w) hh it a ne its.toArray
    rw [List.size_toArray, ← rv.length] at D
    exact ⟨_, _, D, fun i x => ⟨x, p⟩, fun i h' x => x.1, fun i v e => vals_nth rv i v (by simpa using e)⟩
  | l a =>
    obtain ⟨its, rv, p, _⟩ := I.list h
    have D := Draws.list (prog := X.prog) (w := X.w) hh it a ne its.toArray
    rw [List.size_toArray, ← rv.length] at D
    exact ⟨_, _, D, fun i x => ⟨x, p.isList⟩, fun i h' x => x.1, fun i v e => vals_nth rv i v (by simpa using e)⟩
  | s z tk =>
    have D := Draws.text (prog := X.prog) (w := X.w) hh it z tk
    subst h
    have e : z.cps.size = (z.cps.toList.map fun c => L2.V.str ⟨#[c]⟩).length := by simp
    rw [e] at D
    refine ⟨_, _, D, fun i x => x, fun i h' x => x, fun i v ⟨c, u, hc, hv⟩ => ⟨.str ⟨#[c]⟩, ?_, u, hv⟩⟩
    rw [List.getElem?_map, Array.getElem?_toList, hc]
    rfl
end
end Src
end VH

namespace VH
open PySem PySem.Spec PyProof.Rows
/-! ### enumerate(v) begins -/
set_option maxHeartbeats 1000000 in
theorem meets_enum1 {v : Value} {o : Obj} {Hc : Heap → Prop} (B : Begins v o Hc) :
    Meets (Builtin.«enumerate.__new__» ⟨[.type "enumerate", v], []⟩) (fun _ R s => Hc s.heap ∧ R (.ok (.ret (.ref (s.heap.push o).objs.size))) { s with heap := (s.heap.push o).push { cls := .type "enumerate", data := .fields #[.none, .bool false, .ref s.heap.objs.size, rawInt 0, .none, .none] } }) :=
  .of_wp fun prog w A R s h => by
    obtain ⟨hp, g, d, tk, os⟩ := s; obtain ⟨h1, h⟩ := h
    have hsub := sub_enumerate
    have beg : ∀ {A' : Around} {E : Value → Shared → Prop} {Q : Value → Shared → Prop}, Q (.ref hp.objs.size) ⟨hp.push o, g, d, tk, os⟩ → wpAny (model prog w) A' (pyIter v) Q E ⟨hp, g, d, tk, os⟩ := fun q => B.iter prog w _ _ ⟨hp, g, d, tk, os⟩ _ h1 q
    wp_walk using beg
    refine wpAny_stack_any fun st => wpAny_pure ?_
    split
    · rename_i c _ _ _ _ _
      cases (c == Value.type "enumerate")
      · wp_walk using beg
        exact ⟨_, rfl, h⟩
      · wp_walk using beg
        exact ⟨_, rfl, h⟩
    · wp_walk using beg
      exact ⟨_, rfl, h⟩
section
variable {prog : Program} {w : World} {A : Around} {E : Value → Shared → Prop} {s : Shared}
theorem enum_begin1 {v : Value} {o : Obj} {Hc : Heap → Prop} {Q : Value → Shared → Prop} (B : Begins v o Hc) (h1 : Hc s.heap)
    (h : ∀ h', IsEnum h' (s.heap.objs.size + 1) s.heap.objs.size 0 .none → h'.get? s.heap.objs.size = some o → h'.objs.size = s.heap.objs.size + 2 → (∀ b o, s.heap.get? b = some o → h'.get? b = some o) → Q (.ref (s.heap.objs.size + 1)) { s with heap := h' }) :
    wpAny (model prog w) A (call (.type "enumerate") [v]) Q E s := by
  refine callType_new F.called_enumerate (by decide) (F.typeCall_enumerate_1 _) (F.newCall_enumerate_1 _) (fun obj => F.args_object_init_2 obj _) F.entry_enumerate_new (meets_enum1 B) ⟨h1, ?_⟩
  have hz : (s.heap.push o).objs.size = s.heap.objs.size + 1 := Heap.size_push ..
  show _ ∧ _
  rw [hz]
  have he : IsEnum ((s.heap.push o).push { cls := .type "enumerate", data := .fields #[.none, .bool false, .ref s.heap.objs.size, rawInt 0, .none, .none] }) (s.heap.objs.size + 1) s.heap.objs.size 0 .none := by
    have z := Heap.get?_push_size (s.heap.push o) (o := { cls := .type "enumerate", data := .fields #[.none, .bool false, .ref s.heap.objs.size, rawInt 0, .none, .none] }) rfl
    rw [hz] at z; exact z
  exact ⟨⟨_, he, rfl⟩, h _ he (Heap.get?_push_of_some _ (Heap.get?_push_size _ B.free)) (by rw [Heap.size_push, hz]) fun b o x => Heap.get?_push_of_some _ (Heap.get?_push_of_some _ x)⟩
end
/-! ### a walk that gives new tuples, as a turn -/
/-- n new tuples, while g stands; f tells their items -/
def Itn (n : Nat) (g : L2.Hp → Prop) (f : Nat → L2.Hp → List L2.V → Prop) : L2.It :=
  ⟨fun i H => i < n ∧ g H, fun i H v H' => ∃ T xs, v = .ref T ∧ H T = none ∧ H' = L2.upd H T (.tup xs) ∧ f i H xs, fun i H => n ≤ i ∧ g H⟩
theorem turn_new {P : Program} {w : World} {K : PySem.W.Frag} {elts : List Expr} {kk : Nat} {tpos : Pos} {n : Nat} {g : L2.Hp → Prop} {f : Nat → L2.Hp → List L2.V → Prop} {cells : List Addr} {z : Addr} {St : Nat → Heap → Prop} (mem : z ∈ cells) (obj : ∀ i h, St i h → ∀ b ∈ cells, ∃ o, h.get? b = some o ∧ ∀ v, o.data ≠ .cell v)
    (keep : ∀ i h h', St i h → (∀ b ∈ cells, ∀ o, h.get? b = some o → h'.get? b = some o) → St i h')
    (self : ∀ (A : Around) (i : Nat) (s : Shared) (Q : Value → Shared → Prop) (E : Value → Shared → Prop), St i s.heap → Q (.ref z) s → wpAny (model P w) A (pyIter (.ref z)) Q E s)
    (step : ∀ (X : L2.Cx), X.prog = P → X.w = w → X.K = K → X.calm = true → ∀ (pins : List (Addr × Obj)) (s : Shared) (σ : L2.St) (H : L2.Hp), L2.Inv X pins σ H s → g H → ∃ (fp wr : List Addr) (Pt : Nat → Array Value → Prop) (S : Nat → Heap → Prop) (Mid : Nat → Addr → Heap → Prop), WalksT P w X.A z fp wr n Pt S Mid ∧ (∀ b ∈ wr, b ∈ cells) ∧ (∀ i, St i s.heap → S i s.heap) ∧
      (∀ i h', S i h' → St i h') ∧ ∀ i vals, Pt i vals → ∃ xs, L2.Vals xs vals.toList ∧ xs.length ≤ sizeLine ∧ f i H xs) :
    L2.Turn P w K (.Tuple elts kk tpos) (Itn n g f) cells z (fun i h => St i h ∧ i ≤ n) where
  mem := mem
  obj := fun i h st => obj i h st.1
  keep := fun i h h' st k => ⟨keep i h h' st.1 k, st.2⟩
  item := by
    intro X hP hw hK hc i pins s σ H E I hf st hg
    obtain ⟨fp, wr, Pt, S, Mid, W, hwr, h1, h2, h3⟩ := step X hP hw hK hc pins s σ H I hg.2
    subst hP hw hK
    refine W.item i s _ _ hg.1 (h1 i st.1) fun T vals h' tk hp hT hvals hm hk => ⟨_, rfl, W.go elts kk tpos i T { s with heap := h', toks := tk } _ _ hm fun h'' st'' hk2 => ?_⟩
    obtain ⟨xs, rv, hz, hfx⟩ := h3 i vals hp
    have nT : T ∉ wr := W.apart i T h' hm
    have hn : H T = none := I.hok.fresh hT
    obtain ⟨o, ho, hcl, hd⟩ := hvals
    have new : L2.ObjOk X.prog X.w (L2.upd H T (.tup xs)) h'' T (.tup xs) := ⟨hz, vals.toList, rv, o, hk2 T o nT ho, hcl, hd⟩
    have I1 : L2.Inv X pins σ (L2.upd H T (.tup xs)) { s with heap := h'', toks := tk } := I.turnedNew (ch := wr) (fun b o hb e => hk2 b o hb (hk b o hb e)) (fun b hb => hf b (hwr b hb)) hT new
    refine ⟨.ref T, _, I1, rfl, ⟨T, xs, rfl, hn, rfl, hfx⟩, ⟨h2 _ _ st'', hg.1⟩, fun b hb => ?_⟩
    obtain ⟨ob, eb, _⟩ := obj i s.heap st.1 b hb
    rw [L2.upd_ne (Nat.ne_of_lt (Nat.lt_of_lt_of_le (Heap.lt_size eb) hT))]
    exact (hf b hb).1
  done := by
    intro X hP hw hK hc i pins s σ H E I hf st hg
    obtain ⟨fp, wr, Pt, S, Mid, W, hwr, h1, h2, h3⟩ := step X hP hw hK hc pins s σ H I hg.2
    subst hP hw hK
    obtain rfl : i = n := Nat.le_antisymm st.2 hg.1
    exact W.done s _ _ (h1 _ st.1) fun h' tk hk => ⟨rfl, I.turnedL (ch := wr) (fun b o hb e => hk b o hb e) fun b hb => hf b (hwr b hb)⟩
  self := fun A i s Q E st h => self A i s Q E st.1 h
theorem src_off {sc : Src} {xs : List L2.V} {N : Nat} {X : L2.Cx} {pins : List (Addr × Obj)} {σ : L2.St} {H : L2.Hp} {s : Shared} (I : L2.Inv X pins σ H s) (hx : sc.hold X.K H xs) (hN : s.heap.objs.size ≤ N) : sc.at_ N ∧ ∀ b ∈ sc.fp N, b = N ∨ b < s.heap.objs.size := by
  cases sc with
  | t a =>
    obtain ⟨_, _, p, _⟩ := I.tuple hx
    obtain ⟨o, ho, _⟩ := p
    have lt := Heap.lt_size ho
    refine ⟨Nat.ne_of_lt (Nat.lt_of_lt_of_le lt hN), fun b hb => ?_⟩
    rcases List.mem_cons.mp hb with e | hb
    · exact .inl e
    · rw [List.mem_singleton.mp hb]; exact .inr lt
  | l a =>
    obtain ⟨_, _, p, _⟩ := I.list hx
    obtain ⟨o, ho, _⟩ := p.isList
    have lt := Heap.lt_size ho
    refine ⟨Nat.ne_of_lt (Nat.lt_of_lt_of_le lt hN), fun b hb => ?_⟩
    rcases List.mem_cons.mp hb with e | hb
    · exact .inl e
    · rw [List.mem_singleton.mp hb]; exact .inr lt
  | s z tk => exact ⟨trivial, fun b hb => .inl (List.mem_singleton.mp hb)⟩
theorem fp_self (sc : Src) (it : Addr) : it ∈ sc.fp it := by cases sc <;> exact List.mem_cons_self
/-! ### enumerate -/
/-- the items with their places -/
def Ite (K : PySem.W.Frag) (n : Nat) (sc : Src) (k0 : Int) : L2.It := Itn n (fun H => ∃ xs, sc.hold K H xs ∧ xs.length = n) fun i H ys => ∃ x, (∀ xs, sc.hold K H xs → xs[i]? = some x) ∧ ys = [.int (k0 + (i : Int)), x]
def Itz2 (K : PySem.W.Frag) (n m : Nat) (s1 s2 : Src) : L2.It := Itn (min n m) (fun H => (∃ xs, s1.hold K H xs ∧ xs.length = n) ∧ ∃ xs, s2.hold K H xs ∧ xs.length = m) fun i H vs => ∃ x y, (∀ xs, s1.hold K H xs → xs[i]? = some x) ∧ (∀ ys, s2.hold K H ys → ys[i]? = some y) ∧ vs = [x, y]
theorem hold_inj {sc : Src} {xs ys : List L2.V} {X : L2.Cx} {pins : List (Addr × Obj)} {σ : L2.St} {H : L2.Hp} {s : Shared} (I : L2.Inv X pins σ H s) (h1 : sc.hold X.K H xs) (h2 : sc.hold X.K H ys) : xs = ys := by
  cases sc with
  | t a => exact I.tuple_inj h1 h2
  | l a => exact I.list_inj h1 h2
  | s z tk => exact h1.trans h2.symm
def enumSt (sc : Src) (k0 : Int) (e it : Addr) (i : Nat) (h : Heap) : Prop := (∃ old, IsEnum h e it (k0 + (i : Int)) old) ∧ sc.st it i h
theorem turn_enumS {P : Program} {w : World} {K : PySem.W.Frag} {elts : List Expr} {kk : Nat} {tpos : Pos} {sc : Src} {n : Nat} {e it : Addr} (k0 : Int) (he : e ≠ it) (at1 : sc.at_ it) (off : e ∉ sc.fp it) :
    L2.Turn P w K (.Tuple elts kk tpos) (Ite K n sc k0) [e, it] e (fun i h => enumSt sc k0 e it i h ∧ i ≤ n) := by
  refine turn_new (by simp) (fun i h st b hb => ?_) (fun i h h' st k => ?_) (fun A i s Q E st h => ?_) fun X hP hw hK hc pins s σ H I hg => ?_
  · rcases List.mem_cons.mp hb with rfl | hb
    · obtain ⟨old, x⟩ := st.1
      exact ⟨_, x, fun v q => nomatch q⟩
    · rw [List.mem_singleton.mp hb]; exact Src.st_obj st.2
  · obtain ⟨⟨old, x⟩, y⟩ := st
    exact ⟨⟨old, k e (by simp) _ x⟩, Src.st_keep y fun o q => k it (by simp) o q⟩
  · obtain ⟨⟨old, x⟩, _⟩ := st
    exact wpAny_pyIter_enum x h
  · subst hP hw hK
    obtain ⟨xs, hx, rfl⟩ := hg
    obtain ⟨Pv, S, D, h1, h2, h3⟩ := Src.draws (A := X.A.in1) I hx (I.ok.hd hc) at1
    refine ⟨_, _, _, _, _, WalksT.enumFrom k0 D e he off (fp_self sc it), fun b hb => hb, fun i st => ⟨st.1, h1 i st.2⟩, fun i h' st => ⟨st.1, h2 i h' st.2⟩, ?_⟩
    rintro i vals ⟨t, x, hv, rfl⟩
    obtain ⟨y, hy, ry⟩ := h3 i x hv
    exact ⟨[.int (k0 + (i : Int)), y], .cons ⟨t, rfl⟩ (.cons ry .nil), by show 2 ≤ sizeLine; decide, y, fun zs hz => by rw [hold_inj I hz hx]; exact hy, rfl⟩
/-! ### zip of two -/
def zipSt (s1 s2 : Src) (z TI TO i1 i2 : Addr) (i : Nat) (h : Heap) : Prop := IsZip h z TI TO .none ∧ IsTupOf2 h TI (.ref i1) (.ref i2) ∧ (∃ a1 a2, IsTupOf2 h TO a1 a2) ∧ s1.st i1 i h ∧ s2.st i2 i h
theorem turn_zipS {P : Program} {w : World} {K : PySem.W.Frag} {elts : List Expr} {kk : Nat} {tpos : Pos} {s1 s2 : Src} {n m : Nat} {z TI TO i1 i2 : Addr} (sep : ZipSep2 z TI TO i1 i2 (s1.fp i1) (s2.fp i2)) (at1 : s1.at_ i1) (at2 : s2.at_ i2) :
    L2.Turn P w K (.Tuple elts kk tpos) (Itz2 K n m s1 s2) [z, TI, TO, i1, i2] z (fun i h => zipSt s1 s2 z TI TO i1 i2 i h ∧ i ≤ min n m) := by
  refine turn_new (by simp) (fun i h st b hb => ?_) (fun i h h' st k => ?_) (fun A i s Q E st h => wpAny_pyIter_zip st.1 h) fun X hP hw hK hc pins s σ H I hg => ?_
  · obtain ⟨hz, hTI, ⟨a1, a2, hTO⟩, st1, st2⟩ := st
    have e' : b = z ∨ b = TI ∨ b = TO ∨ b = i1 ∨ b = i2 := by simpa using hb
    rcases e' with q | q | q | q | q
    · rw [q]; exact ⟨_, hz, fun v q => nomatch q⟩
    · rw [q]; exact ⟨_, hTI, fun v q => nomatch q⟩
    · rw [q]; exact ⟨_, hTO, fun v q => nomatch q⟩
    · rw [q]; exact Src.st_obj st1
    · rw [q]; exact Src.st_obj st2
  · obtain ⟨hz, hTI, ⟨a1, a2, hTO⟩, st1, st2⟩ := st
    exact ⟨k z (by simp) _ hz, k TI (by simp) _ hTI, ⟨a1, a2, k TO (by simp) _ hTO⟩, Src.st_keep st1 fun o q => k i1 (by simp) o q, Src.st_keep st2 fun o q => k i2 (by simp) o q⟩
  · subst hP hw hK
    obtain ⟨⟨xs, hx, rfl⟩, ⟨ys, hy, rfl⟩⟩ := hg
    obtain ⟨P1, S1, D1, a1, a2, a3⟩ := Src.draws (A := X.A.in1) I hx (I.ok.hd hc) at1
    obtain ⟨P2, S2, D2, b1, b2, b3⟩ := Src.draws (A := X.A.in1) I hy (I.ok.hd hc) at2
    refine ⟨_, _, _, _, _, WalksT.zipD2 sep D1 D2, fun b hb => ?_, fun i st => ⟨st.1, st.2.1, st.2.2.1, a1 i st.2.2.2.1, b1 i st.2.2.2.2⟩, fun i h' st => ⟨st.1, st.2.1, st.2.2.1, a2 i h' st.2.2.2.1, b2 i h' st.2.2.2.2⟩, ?_⟩
    · have e' : b = z ∨ b = TO ∨ b = i1 ∨ b = i2 := by simpa using hb
      rcases e' with q | q | q | q <;> simp [q]
    · rintro i vals ⟨x1, x2, h1, h2, rfl⟩
      obtain ⟨y1, e1, r1⟩ := a3 i x1 h1
      obtain ⟨y2, e2, r2⟩ := b3 i x2 h2
      exact ⟨[y1, y2], .cons r1 (.cons r2 .nil), by show 2 ≤ sizeLine; decide, y1, y2, fun zs hz => by rw [hold_inj I hz hx]; exact e1, fun zs hz => by rw [hold_inj I hz hy]; exact e2, rfl⟩
/-! ### as what is gone through -/
/-- the source that a value is -/
def SrcOf (x : L2.V) (sc : Src) : Prop := (∃ a, x = .ref a ∧ (sc = .t a ∨ sc = .l a)) ∨ ∃ z, x = .str z ∧ sc = .s z 0
theorem src_val {x : L2.V} {sc : Src} {u : Value} (h : SrcOf x sc) (r : L2.RelV x u) : ∃ sc', sc'.val = u ∧ (∀ K H xs, sc'.hold K H xs ↔ sc.hold K H xs) ∧ (∀ K n k0, Ite K n sc' k0 = Ite K n sc k0) := by
  rcases h with ⟨a, rfl, h⟩ | ⟨z, rfl, rfl⟩
  · cases r
    rcases h with rfl | rfl
    · exact ⟨.t a, rfl, fun _ _ _ => Iff.rfl, fun _ _ _ => rfl⟩
    · exact ⟨.l a, rfl, fun _ _ _ => Iff.rfl, fun _ _ _ => rfl⟩
  · obtain ⟨t, rfl⟩ := r
    exact ⟨.s z t, rfl, fun _ _ _ => Iff.rfl, fun _ _ _ => rfl⟩
open L2 in
def iEnumS (K : PySem.W.Frag) (ta : TA) : TI := fun σ H R => ta σ H fun vs H1 => ∃ x sc xs, vs = [x] ∧ SrcOf x sc ∧ sc.hold K H1 xs ∧ R (Ite K xs.length sc 0) H1
open L2 in
theorem pi_enumS {X : Cx} {e : Expr} {ta : TA} {p pos tpos : Pos} {elts : List Expr} {kk : Nat} (hg : Gl X "enumerate") (hm : X.mg "enumerate" = none) (ha : PA X [e] ta) (hs : starEach [e] X.env = [(false, eval e X.env)] := by rfl) :
    PI X (.Tuple elts kk tpos) (.Call (.Name "enumerate" p) [e] [] pos) (iEnumS X.K ta) := by
  refine ⟨fun pins s σ H R I h => ?_⟩
  refine Call_ (ld_blt I hg hm boot_enumerate (PyProof.Rows.callWith_type1 (thn (ha.run pos pins s σ H _ I h) fun us s1 ⟨vs, H1, I1, r1, q1⟩ => ?_) hs rfl))
  obtain ⟨x, sc, xs, rfl, hsc, hx, q⟩ := q1
  obtain ⟨u, rfl, ru⟩ := vals1 r1
  obtain ⟨sc', rfl, hh, hI⟩ := src_val hsc ru
  have hx' := (hh _ _ _).mpr hx
  obtain ⟨Hc, B, hb⟩ := Src.begins I1 hx'
  refine enum_begin1 B hb fun h' he hit hsz hk => wpAny_pyIter_enum he ?_
  have I2 : Inv X pins σ H1 { s1 with heap := h' } := I1.kept (t' := s1.toks) hk
  obtain ⟨o1, o2⟩ := src_off I1 hx' (Nat.le_refl _)
  refine ⟨s1.heap.objs.size + 1, [s1.heap.objs.size + 1, s1.heap.objs.size], _, _, H1, rfl, I2, turn_enumS (n := xs.length) (sc := sc') 0 (Nat.succ_ne_self _) o1 (fun hm => ?_), ⟨⟨⟨.none, he⟩, Src.st_begin hit⟩, Nat.zero_le _⟩, fun b hb => ?_, by rw [hI]; exact q⟩
  · rcases o2 _ hm with z | z
    · exact absurd z (Nat.succ_ne_self _)
    · exact absurd z (by exact Nat.not_lt_of_le (Nat.le_succ _))
  · have e' : b = s1.heap.objs.size + 1 ∨ b = s1.heap.objs.size := by simpa using hb
    have hle : s1.heap.objs.size ≤ b := by
      rcases e' with z | z
      · rw [z]; exact Nat.le_add_right _ _
      · rw [z]; exact Nat.le_refl _
    exact I1.fpOk hle (I1.hok.fresh hle)
open L2 in
def iZipS (K : PySem.W.Frag) (ta : TA) : TI := fun σ H R => ta σ H fun vs H1 => ∃ x y s1 s2 xs ys, vs = [x, y] ∧ SrcOf x s1 ∧ SrcOf y s2 ∧ s1.hold K H1 xs ∧ s2.hold K H1 ys ∧ R (Itz2 K xs.length ys.length s1 s2) H1
open L2 in
theorem pi_zipS {X : Cx} {e e2 : Expr} {ta : TA} {p pos tpos : Pos} {elts : List Expr} {kk : Nat} (hg : Gl X "zip") (hm : X.mg "zip" = none) (ha : PA X [e, e2] ta)
    (hs : starEach [e, e2] X.env = (false, eval e X.env) :: starEach [e2] X.env := by rfl) (hpl : (backTo pos (starEach [e2] X.env)).any (·.1) = false := by rfl) :
    PI X (.Tuple elts kk tpos) (.Call (.Name "zip" p) [e, e2] [] pos) (iZipS X.K ta) := by
  refine ⟨fun pins s σ H R I h => ?_⟩
  refine Call_ (ld_blt I hg hm PyProof.Rows.boot_zip (PyProof.Rows.callWith_type1 (thn (ha.run pos pins s σ H _ I h) fun us sx ⟨vs, H1, I1, r1, q1⟩ => ?_) hs hpl))
  obtain ⟨x, y, s1, s2, xs, ys, rfl, c1, c2, hx, hy, q⟩ := q1
  obtain ⟨u, v, rfl, ru, rv⟩ := vals2 r1
  obtain ⟨t1, rfl, hh1, hI1⟩ := src_val c1 ru
  obtain ⟨t2, rfl, hh2, hI2⟩ := src_val c2 rv
  have hx' := (hh1 _ _ _).mpr hx
  have hy' := (hh2 _ _ _).mpr hy
  obtain ⟨Hc, B, hb⟩ := Src.begins I1 hx'
  obtain ⟨Hd, B2, hb2⟩ := Src.begins I1 hy'
  have eI : Itz2 X.K xs.length ys.length t1 t2 = Itz2 X.K xs.length ys.length s1 s2 := by
    have z1 : ∀ H zs, t1.hold X.K H zs = s1.hold X.K H zs := fun H zs => propext (hh1 _ _ _)
    have z2 : ∀ H zs, t2.hold X.K H zs = s2.hold X.K H zs := fun H zs => propext (hh2 _ _ _)
    unfold Itz2
    simp only [z1, z2]
  refine zip_begins2 B B2 hb hb2 fun h' hz hTI hTO i1 i2 hsz hk => wpAny_pyIter_zip hz ?_
  have I2 : Inv X pins σ H1 { sx with heap := h' } := I1.kept (t' := sx.toks) hk
  have o1 := src_off I1 hx' (N := sx.heap.objs.size) (Nat.le_refl _)
  have o2 := src_off I1 hy' (N := sx.heap.objs.size + 1) (Nat.le_succ _)
  have sep : ZipSep2 (sx.heap.objs.size + 4) (sx.heap.objs.size + 2) (sx.heap.objs.size + 3) sx.heap.objs.size (sx.heap.objs.size + 1) (t1.fp sx.heap.objs.size) (t2.fp (sx.heap.objs.size + 1)) := by
    have n1 : ∀ j, 0 < j → sx.heap.objs.size + j ∉ t1.fp sx.heap.objs.size := fun j hj hm => by
      rcases o1.2 _ hm with z | z
      · have z' : (sx.heap.objs.size + j : Nat) = sx.heap.objs.size := z
        omega
      · have z' : (sx.heap.objs.size + j : Nat) < sx.heap.objs.size := z
        omega
    have n2 : ∀ j, j ≠ 1 → sx.heap.objs.size + j ∉ t2.fp (sx.heap.objs.size + 1) := fun j hj hm => by
      rcases o2.2 _ hm with z | z
      · have z' : (sx.heap.objs.size + j : Nat) = sx.heap.objs.size + 1 := z
        omega
      · have z' : (sx.heap.objs.size + j : Nat) < sx.heap.objs.size := z
        omega
    have ne : ∀ i j : Nat, i ≠ j → (sx.heap.objs.size + i : Nat) ≠ sx.heap.objs.size + j := fun i j h => by omega
    exact ⟨ne 2 4 (by decide), ne 3 4 (by decide), ne 2 3 (by decide), ne 2 0 (by decide), fp_self _ _, n1 4 (by decide), n1 3 (by decide), ne 2 1 (by decide), fp_self _ _, n2 4 (by decide), n2 3 (by decide), n2 0 (by decide), n1 1 (by decide)⟩
  refine ⟨sx.heap.objs.size + 4, [sx.heap.objs.size + 4, sx.heap.objs.size + 2, sx.heap.objs.size + 3, sx.heap.objs.size, sx.heap.objs.size + 1], _, _, H1, rfl, I2, turn_zipS (n := xs.length) (m := ys.length) sep o1.1 o2.1, ⟨⟨hz, hTI, ⟨_, _, hTO⟩, Src.st_begin i1, Src.st_begin i2⟩, Nat.zero_le _⟩, fun b hb => ?_, by rw [eI]; exact q⟩
  have e' : b = sx.heap.objs.size + 4 ∨ b = sx.heap.objs.size + 2 ∨ b = sx.heap.objs.size + 3 ∨ b = sx.heap.objs.size ∨ b = sx.heap.objs.size + 1 := by simpa using hb
  have hle : sx.heap.objs.size ≤ b := by
    rcases e' with z | z | z | z | z
    · rw [z]; exact Nat.le_add_right _ _
    · rw [z]; exact Nat.le_add_right _ _
    · rw [z]; exact Nat.le_add_right _ _
    · rw [z]; exact Nat.le_refl _
    · rw [z]; exact Nat.le_add_right _ _
  exact I1.fpOk hle (I1.hok.fresh hle)
end VH

namespace VH
open PySem L2
variable {K : Fk}
theorem D.items_fz {d : D} {ds : List D} (h : d.items = some ds) : d.fz.items = some ds := by
  unfold D.items at h
  split at h <;> cases h <;> simp only [D.fz, D.items, D.fz_of]
  · rw [D.fzL_of _ (D.isFzL_fzL _)]
  · rw [D.fzL_of _ (D.isFzL_fzL _)]
  · rw [D.fzL_of _ (D.isFzL_fzL _)]
  · rw [D.fzL_of _ (D.isFzL_fzL _)]
/-- a source, by its data -/
theorem src_of {H : Hp} {L : List (V × D)} {v : V} {d : D} {ds : List D} (r : R K H ((v, d) :: L)) (hf : d.isFz = true) (hi : d.items = some ds) : ∃ sc, SrcOf v sc ∧ ∀ (H' : Hp) (L' : List (V × D)), R K H' ((v, d) :: L') → (∃ xs, Src.hold K H' sc xs ∧ xs.length = ds.length) ∧ ∀ (i : Nat) (c : D), ds[i]? = some c → ∃ xs w, Src.hold K H' sc xs ∧ xs.length = ds.length ∧ xs[i]? = some w ∧ R K H' ((w, c) :: (v, d) :: L') := by
  have key : ∀ (h : Hd) (xs : List D), (h = .lst ∨ h = .sl) ∨ (h = .tup ∨ h = .st) → d = .nd false h xs → ds = xs → ∃ sc, SrcOf v sc ∧ ∀ (H' : Hp) (L' : List (V × D)), R K H' ((v, d) :: L') → (∃ xs, Src.hold K H' sc xs ∧ xs.length = ds.length) ∧ ∀ (i : Nat) (c : D), ds[i]? = some c → ∃ xs w, Src.hold K H' sc xs ∧ xs.length = ds.length ∧ xs[i]? = some w ∧ R K H' ((w, c) :: (v, d) :: L') := by
    rintro h xs hh rfl rfl
    obtain ⟨a, _, _, rfl, _⟩ := R.look r
    have fl : D.isFzL ds = true := by simpa [D.isFz] using hf
    have kid : ∀ (H' : Hp) (L' : List (V × D)), R K H' ((.ref a, .nd false h ds) :: L') → (∃ vs, ((h = .lst ∨ h = .sl) → SqL K H' a vs) ∧ ((h = .tup ∨ h = .st) → SqT K H' a vs) ∧ vs.length = ds.length) ∧ ∀ (i : Nat) (c : D), ds[i]? = some c → ∃ vs w, ((h = .lst ∨ h = .sl) → SqL K H' a vs) ∧ ((h = .tup ∨ h = .st) → SqT K H' a vs) ∧ vs.length = ds.length ∧ vs[i]? = some w ∧ R K H' ((w, c) :: (.ref a, .nd false h ds) :: L') := by
      intro H' L' r'
      obtain ⟨b, o, vs, e1, h1, _, f, l⟩ := R.look r'
      cases e1
      refine ⟨⟨vs, fun hh => sqL_of h1 f hh, fun hh => sqT_of h1 f hh, l⟩, fun i c hc => ?_⟩
      obtain ⟨b2, o2, us, w, e2, h2, _, f2, l2, hw, r2⟩ := R.childAt r' hc
      cases e2
      have hd : c.fz = c := D.fz_of c ((D.isFzL_all ds).mp fl c (List.mem_of_getElem? hc))
      rw [hd, set_self hc] at r2
      exact ⟨us, w, fun hh => sqL_of h2 f2 hh, fun hh => sqT_of h2 f2 hh, l2, hw, r2⟩
    rcases hh with hh | hh
    · refine ⟨.l a, .inl ⟨a, rfl, .inr rfl⟩, fun H' L' r' => ?_⟩
      obtain ⟨⟨vs, q, _, l⟩, k⟩ := kid H' L' r'
      refine ⟨⟨vs, q hh, l⟩, fun i c hc => ?_⟩
      obtain ⟨us, w, q, _, l, hw, r3⟩ := k i c hc
      exact ⟨us, w, q hh, l, hw, r3⟩
    · refine ⟨.t a, .inl ⟨a, rfl, .inl rfl⟩, fun H' L' r' => ?_⟩
      obtain ⟨⟨vs, _, q, l⟩, k⟩ := kid H' L' r'
      refine ⟨⟨vs, q hh, l⟩, fun i c hc => ?_⟩
      obtain ⟨us, w, _, q, l, hw, r3⟩ := k i c hc
      exact ⟨us, w, q hh, l, hw, r3⟩
  have fz1 : ∀ (m : Bool) (h : Hd) (xs : List D), d = .nd m h xs → m = false ∧ D.fzL xs = xs := by
    rintro m h xs rfl
    simp only [D.isFz, Bool.and_eq_true, Bool.not_eq_true'] at hf
    exact ⟨hf.1, D.fzL_of xs hf.2⟩
  unfold D.items at hi
  split at hi
  · rename_i m xs; obtain ⟨e1, e2⟩ := fz1 _ _ _ rfl; cases e1; cases hi; exact key _ xs (.inl (.inl rfl)) rfl e2
  · rename_i m xs; obtain ⟨e1, e2⟩ := fz1 _ _ _ rfl; cases e1; cases hi; exact key _ xs (.inl (.inr rfl)) rfl e2
  · rename_i m xs; obtain ⟨e1, e2⟩ := fz1 _ _ _ rfl; cases e1; cases hi; exact key _ xs (.inr (.inl rfl)) rfl e2
  · rename_i m xs; obtain ⟨e1, e2⟩ := fz1 _ _ _ rfl; cases e1; cases hi; exact key _ xs (.inr (.inr rfl)) rfl e2
  · rename_i z
    cases hi
    obtain rfl := r.vstr
    refine ⟨.s z 0, .inr ⟨z, rfl, rfl⟩, fun H' L' r' => ⟨⟨_, rfl, by simp [signsD]⟩, fun i c hc => ?_⟩⟩
    unfold signsD at hc
    rw [List.getElem?_map] at hc
    cases q : z.cps.toList[i]? with
    | none => rw [q] at hc; cases hc
    | some n =>
      rw [q] at hc
      cases hc
      exact ⟨_, .str ⟨#[n]⟩, rfl, by simp [signsD], by rw [List.getElem?_map, q]; rfl, r'.atom (.str _)⟩
  · cases hi
def enumD (k0 : Int) : Nat → List D → List D
  | _, [] => []
  | i, x :: xs => .nd false .tup [.int (k0 + (i : Int)), x] :: enumD k0 (i + 1) xs
theorem enumD_at (k0 : Int) : ∀ {xs : List D} {i j : Nat}, (enumD k0 i xs)[j]? = xs[j]?.map fun x => .nd false .tup [.int (k0 + ((i + j : Nat) : Int)), x]
  | [], i, j => by simp [enumD]
  | x :: xs, i, 0 => by simp [enumD]
  | x :: xs, i, j + 1 => by
    simp only [enumD, List.getElem?_cons_succ]
    rw [enumD_at k0 (xs := xs) (i := i + 1) (j := j)]
    rw [show i + 1 + j = i + (j + 1) by omega]
theorem enumD_len (k0 : Int) : ∀ {xs : List D} {i : Nat}, (enumD k0 i xs).length = xs.length
  | [], i => rfl
  | x :: xs, i => by simp [enumD, enumD_len k0]
def gEnum : List D → Option (List D)
  | [d] => match d.items with
    | some xs => some (enumD 0 0 xs)
    | none => none
  | _ => none
theorem itOk_enum {H : Hp} {L : List (V × D)} {v : V} {d : D} {ds : List D} (k0 : Int) (r : R K H ((v, d) :: L)) (hf : d.isFz = true) (hi : d.items = some ds) (fl : ∀ c ∈ ds, c.fz = c) : ∃ sc xs, SrcOf v sc ∧ Src.hold K H sc xs ∧ ItOk K (Ite K xs.length sc k0) [(v, d)] (enumD k0 0 ds) := by
  obtain ⟨sc, h1, h2⟩ := src_of r hf hi
  obtain ⟨⟨xs, hx, lx⟩, _⟩ := h2 H L r
  refine ⟨sc, xs, h1, hx, fun i c H' L' e r' => ?_, fun i H' L' e r' => ?_⟩
  · have e0 := e
    rw [enumD_at] at e
    cases q : ds[i]? with
    | none => rw [q] at e; cases e
    | some x =>
      rw [q] at e
      have e : D.nd false .tup [.int (k0 + ((0 + i : Nat) : Int)), x] = c := Option.some.inj e
      rw [Nat.zero_add] at e
      subst e
      obtain ⟨ys, w, hy, ly, hw, rw_⟩ := (h2 H' L' r').2 i x q
      refine ⟨⟨by rw [lx]; exact lt_of q, ys, hy, by rw [ly, lx]⟩, ?_⟩
      rintro z H'' ⟨T, zs, rfl, hT, rfl, y, hyy, rfl⟩
      have ey : y = w := by
        have := hyy ys hy
        rw [hw] at this
        exact (Option.some.inj this).symm
      subst ey
      have r3 : R K H' (([V.int (k0 + (i : Int)), y].zip [D.int (k0 + (i : Int)), x]) ++ ((v, d) :: L')) := rw_.atom (.int _)
      have r4 := (R.makeN rfl r3 hT (.tup _)).fz
      simp only [D.fz, D.fzL, fl x (List.mem_of_getElem? q)] at r4
      exact r4
  · obtain ⟨⟨ys, hy, ly⟩, _⟩ := h2 H' L' r'
    exact ⟨by rw [lx]; rw [enumD_len] at e; exact e, ys, hy, by rw [ly, lx]⟩
theorem items_all_fz {d : D} {ds : List D} (hi : d.items = some ds) : ∀ c ∈ ds, c.fz = c := by
  unfold D.items at hi
  split at hi
  · cases hi; exact fun c hc => D.fz_of c ((D.isFzL_all _).mp (D.isFzL_fzL _) c hc)
  · cases hi; exact fun c hc => D.fz_of c ((D.isFzL_all _).mp (D.isFzL_fzL _) c hc)
  · cases hi; exact fun c hc => D.fz_of c ((D.isFzL_all _).mp (D.isFzL_fzL _) c hc)
  · cases hi; exact fun c hc => D.fz_of c ((D.isFzL_all _).mp (D.isFzL_fzL _) c hc)
  · cases hi
    intro c hc
    obtain ⟨n, _, rfl⟩ := List.mem_map.mp hc
    rfl
  · cases hi
theorem den_enum {ta : TA} {as : List Arg} (h : DenA K ta as) : DenI K (iEnumS K ta) (mArgs as gEnum) := by
  intro σ H env L ds env' Q re e k
  obtain ⟨cs, ps, q, g⟩ := mArgs_eq e
  refine h σ H env L cs ps env' _ re q fun vs M H1 hl hs r => ?_
  unfold gEnum at g
  split at g
  · rename_i d
    split at g
    · rename_i xs hxs
      cases g
      obtain ⟨x, rfl⟩ := len1 hl
      have r1 : RE K H1 σ env' ((x, d) :: (M ++ L)) := r
      have r2 := r1.fz
      obtain ⟨N, z⟩ := r2.val
      obtain ⟨sc, ys, h1, h2, ok⟩ := itOk_enum 0 z (D.isFz_fz d) (D.items_fz hxs) (items_all_fz hxs)
      refine ⟨x, sc, ys, rfl, h1, h2, k _ [(x, d.fz)] H1 ok ?_⟩
      exact (RE.perm (L' := M ++ ((x, d.fz) :: L)) List.perm_middle.symm r2).right
    · cases g
  · cases g
def zipD : List D → List D → List D
  | x :: xs, y :: ys => .nd false .tup [x, y] :: zipD xs ys
  | _, _ => []
theorem zipD_at : ∀ {xs ys : List D} {j : Nat} {c : D}, (zipD xs ys)[j]? = some c → ∃ x y, xs[j]? = some x ∧ ys[j]? = some y ∧ c = .nd false .tup [x, y]
  | x :: xs, y :: ys, 0, c, h => by simp [zipD] at h; exact ⟨x, y, rfl, rfl, h.symm⟩
  | x :: xs, y :: ys, j + 1, c, h => by
    simp only [zipD, List.getElem?_cons_succ] at h ⊢
    exact zipD_at h
  | [], _, _, _, h => by simp [zipD] at h
  | _ :: _, [], _, _, h => by simp [zipD] at h
theorem zipD_len : ∀ {xs ys : List D}, (zipD xs ys).length = min xs.length ys.length
  | x :: xs, y :: ys => by simp only [zipD, List.length_cons, zipD_len (xs := xs) (ys := ys)]; omega
  | [], ys => by simp [zipD]
  | x :: xs, [] => by simp [zipD]
def gZip : List D → Option (List D)
  | [d, e] => match d.items, e.items with
    | some xs, some ys => some (zipD xs ys)
    | _, _ => none
  | _ => none
theorem den_zip {ta : TA} {as : List Arg} (h : DenA K ta as) : DenI K (iZipS K ta) (mArgs as gZip) := by
  intro σ H env L ds env' Q re e k
  obtain ⟨cs, ps, q, g⟩ := mArgs_eq e
  refine h σ H env L cs ps env' _ re q fun vs M H1 hl hs r => ?_
  unfold gZip at g
  split at g
  · rename_i d1 d2
    split at g
    · rename_i xs ys hxs hys
      cases g
      obtain ⟨x, y, rfl⟩ := len2 hl
      have r1 : RE K H1 σ env' ((x, d1) :: (y, d2) :: (M ++ L)) := r
      have r2 : RE K H1 σ env' ((y, d2) :: (x, d1.fz) :: (M ++ L)) := RE.perm (List.Perm.swap _ _ _) r1.fz
      have r3 : RE K H1 σ env' ((x, d1.fz) :: (y, d2.fz) :: (M ++ L)) := RE.perm (List.Perm.swap _ _ _) r2.fz
      obtain ⟨N, z, back⟩ := RE.to (L := [(x, d1.fz), (y, d2.fz)]) r3
      have z2 : R K H1 ((y, d2.fz) :: (x, d1.fz) :: (N ++ (M ++ L))) := R.perm (List.Perm.swap _ _ _) z
      obtain ⟨s1, a1, a2⟩ := src_of z (D.isFz_fz d1) (D.items_fz hxs)
      obtain ⟨s2, b1, b2⟩ := src_of z2 (D.isFz_fz d2) (D.items_fz hys)
      obtain ⟨⟨us, hus, lus⟩, _⟩ := a2 _ _ z
      obtain ⟨⟨ws, hws, lws⟩, _⟩ := b2 _ _ z2
      refine ⟨x, y, s1, s2, us, ws, rfl, a1, b1, hus, hws, k _ [(x, d1.fz), (y, d2.fz)] H1 ⟨fun i c H' L' e r' => ?_, fun i H' L' e r' => ?_⟩ ?_⟩
      · obtain ⟨p, q, hp, hq, rfl⟩ := zipD_at e
        have rx : R K H' ((x, d1.fz) :: (y, d2.fz) :: L') := r'
        obtain ⟨us', w1, hus', lus', hw1, r4⟩ := (a2 _ _ rx).2 i p hp
        have ry : R K H' ((y, d2.fz) :: (w1, p) :: (x, d1.fz) :: L') := r4.perm (by
          refine List.Perm.trans (List.Perm.cons _ (List.Perm.swap _ _ _)) (List.Perm.swap _ _ _))
        obtain ⟨ws', w2, hws', lws', hw2, r5⟩ := (b2 _ _ ry).2 i q hq
        have hi1 : i < xs.length := lt_of hp
        have hi2 : i < ys.length := lt_of hq
        refine ⟨⟨by omega, ⟨us', hus', by omega⟩, ws', hws', by omega⟩, ?_⟩
        rintro zv H'' ⟨T, zs, rfl, hT, rfl, y1, y2, g1, g2, rfl⟩
        have e1 : y1 = w1 := by have := g1 us' hus'; rw [hw1] at this; exact (Option.some.inj this).symm
        have e2 : y2 = w2 := by have := g2 ws' hws'; rw [hw2] at this; exact (Option.some.inj this).symm
        subst e1; subst e2
        have r6 : R K H' ([y1, y2].zip [p, q] ++ ((x, d1.fz) :: (y, d2.fz) :: L')) := r5.perm (by
          show ((y2, q) :: (y, d2.fz) :: (y1, p) :: (x, d1.fz) :: L').Perm ((y1, p) :: (y2, q) :: (x, d1.fz) :: (y, d2.fz) :: L')
          have p1 : ((y, d2.fz) :: (y1, p) :: (x, d1.fz) :: L').Perm ((y1, p) :: (x, d1.fz) :: (y, d2.fz) :: L') := (List.Perm.swap _ _ _).trans ((List.Perm.swap _ _ _).cons _)
          exact (p1.cons _).trans (List.Perm.swap _ _ _))
        have r7 := (R.makeN rfl r6 hT (.tup _)).fz
        simp only [D.fz, D.fzL, items_all_fz hxs p (List.mem_of_getElem? hp), items_all_fz hys q (List.mem_of_getElem? hq)] at r7
        exact r7
      · have rx : R K H' ((x, d1.fz) :: (y, d2.fz) :: L') := r'
        obtain ⟨⟨us', hus', lus'⟩, _⟩ := a2 _ _ rx
        obtain ⟨⟨ws', hws', lws'⟩, _⟩ := b2 _ _ (R.perm (List.Perm.swap _ _ _) rx)
        rw [zipD_len] at e
        exact ⟨by omega, ⟨us', hus', by omega⟩, ws', hws', by omega⟩
      · have := RE.perm (L' := M ++ ([(x, d1.fz), (y, d2.fz)] ++ L)) (by
          show ((x, d1.fz) :: (y, d2.fz) :: (M ++ L)).Perm (M ++ ((x, d1.fz) :: (y, d2.fz) :: L))
          exact (List.perm_middle.trans (List.Perm.cons _ List.perm_middle)).symm) r3
        exact this.right
    · cases g
  · cases g
theorem i_enum {X : Cx} {e : Expr} {ta : TA} {As : List Arg} {p pos tpos : Pos} {elts : List Expr} {kk : Nat} (hm : X.mg "enumerate" = none) (ha : LJ X [e] ta As) (hg : Gl X "enumerate" := by rfl) (hs : starEach [e] X.env = [(false, eval e X.env)] := by rfl) :
    IJ X (.Tuple elts kk tpos) (.Call (.Name "enumerate" p) [e] [] pos) (iEnumS X.K ta) (mArgs As gEnum) := ⟨pi_enumS hg hm ha.p hs, den_enum ha.d⟩
theorem i_zip {X : Cx} {e e2 : Expr} {ta : TA} {As : List Arg} {p pos tpos : Pos} {elts : List Expr} {kk : Nat} (hm : X.mg "zip" = none) (ha : LJ X [e, e2] ta As) (hg : Gl X "zip" := by rfl) (hs : starEach [e, e2] X.env = (false, eval e X.env) :: starEach [e2] X.env := by rfl) (hpl : (backTo pos (starEach [e2] X.env)).any (·.1) = false := by rfl) :
    IJ X (.Tuple elts kk tpos) (.Call (.Name "zip" p) [e, e2] [] pos) (iZipS X.K ta) (mArgs As gZip) := ⟨pi_zipS hg hm ha.p hs hpl, den_zip ha.d⟩
end VH

namespace VH
open PySem PySem.Spec PyProof.Rows
/-! ### dict(xs), xs a list of pairs (tuple, value) -/
section
variable {κ : Type} [DecidableEq κ]
def mergeA (kvs more : List (κ × L2.V)) : List (κ × L2.V) := more.foldl (fun acc kv => L2.putK acc kv.1 kv.2) kvs
end
theorem kt_all {H : L2.Hp} : ∀ (ps : List (List L2.Key × Addr × Value)) {kvs : List (List L2.Key × L2.V)} {xs : List (List L2.Key × Addr × Value)} (more : List (List L2.Key × L2.V)), L2.KT H kvs xs → L2.KT H more ps → L2.KT H (mergeA kvs more) (storedAllH xs ps)
  | [], _, _, more, r, q => by cases q; exact r
  | p :: ps, kvs, xs, _, r, .cons (a := kv) (l₁ := more) h t => by
    have z := L2.KT.put r kv.1 (b := p.2.1) (y := kv.2) (u := p.2.2) h.2.1 h.2.2
    have z2 : L2.KT H (L2.putK kvs kv.1 kv.2) (storedH xs p.1 p.2.1 p.2.2) := by
      rw [← h.1]; exact z
    exact kt_all ps more z2 t
section
variable {X : L2.Cx}
open L2 in
def rDictT (K : PySem.W.Frag) : List V → Hp → VK → Prop := fun xs H Q => ∃ (a : Addr) (qs : List (Addr × List Key × Addr × V)), xs = [.ref a] ∧ SqL K H a (qs.map fun q => .ref q.1) ∧ (∀ q ∈ qs, SqT K H q.1 [.ref q.2.2.1, q.2.2.2] ∧ H q.2.2.1 = some (.tup (q.2.1.map kV))) ∧
  ∀ p, H p = none → Q (.ref p) (L2.upd H p (.dT (mergeA [] (qs.map fun q => (q.2.1, q.2.2.2)))))
theorem qs_read {pins : List (Addr × Obj)} {σ : L2.St} {H : L2.Hp} {s : Shared} (I : L2.Inv X pins σ H s) : ∀ (qs : List (Addr × List L2.Key × Addr × L2.V)), (∀ q ∈ qs, L2.SqT X.K H q.1 [.ref q.2.2.1, q.2.2.2] ∧ H q.2.2.1 = some (.tup (q.2.1.map L2.kV))) →
    ∃ ps : List (List L2.Key × Addr × Value), L2.KT H (qs.map fun q => (q.2.1, q.2.2.2)) ps ∧ ps.length = qs.length ∧ ∀ (j : Nat) (p : List L2.Key × Addr × Value), ps[j]? = some p → ∃ q, qs[j]? = some q ∧ q.2.1 = p.1 ∧ q.2.2.1 = p.2.1 ∧ IsTup s.heap q.1 #[.ref p.2.1, p.2.2]
  | [], _ => ⟨[], .nil, rfl, fun j p e => by simp at e⟩
  | q :: qs, h => by
    obtain ⟨ps, r, hl, hp⟩ := qs_read I qs fun q hq => h q (List.mem_cons_of_mem _ hq)
    obtain ⟨h1, h2⟩ := h q List.mem_cons_self
    obtain ⟨its, rv, ht, _⟩ := I.tuple h1
    obtain ⟨u, y, rfl, ru, ry⟩ := L2.vals2 rv
    cases ru
    refine ⟨(q.2.1, q.2.2.1, y) :: ps, .cons ⟨rfl, h2, ry⟩ r, by simp [hl], fun j p e => ?_⟩
    cases j with
    | zero =>
      have e' : (q.2.1, q.2.2.1, y) = p := by simpa using e
      subst e'
      exact ⟨q, rfl, rfl, rfl, ht⟩
    | succ j =>
      obtain ⟨q', e1, e2⟩ := hp j p (by simpa using e)
      exact ⟨q', by simpa using e1, e2⟩
theorem cr_dictT (hc : X.calm = true) (hu : X.A.units + 64 < cLine) : L2.CallR X (.type "dict") (rDictT X.K) := by
  intro pins s σ H xs us Q I r h
  obtain ⟨a, qs, rfl, hq, hk, q⟩ := h
  rw [L2.Vals.ref1 r]
  obtain ⟨its, rv, ⟨o, n, ho, hcl, hdi, hd⟩, hz⟩ := I.list hq
  obtain ⟨ps, kt, hl, hp⟩ := qs_read I qs hk
  rw [List.length_map] at hz
  have hits : its = qs.map fun q => Value.ref q.1 := by
    have z : ∀ {qs : List (Addr × List L2.Key × Addr × L2.V)} {its : List Value}, L2.Vals (qs.map fun q => L2.V.ref q.1) its → its = qs.map fun q => Value.ref q.1 := by
      intro qs
      induction qs with
      | nil => intro its rv; cases rv; rfl
      | cons q qs ih =>
        intro its rv
        cases rv with
        | cons h t => cases h; rw [ih t]; rfl
    exact z rv
  let Ts : Nat → Addr := fun j => ((qs[j]?).map (·.1)).getD 0
  let prs : List (Value × Value) := ps.map fun p => (.ref p.2.1, p.2.2)
  have pl : prs.length = qs.length := by simp [prs, hl]
  have items : PairItems s.heap its.toArray Ts prs := by
    refine ⟨by rw [List.size_toArray, hits, List.length_map, pl], fun j k v e => ?_⟩
    rw [List.getElem?_map] at e
    cases q : ps[j]? with
    | none => rw [q] at e; cases e
    | some p =>
      rw [q] at e
      cases e
      obtain ⟨q', e1, e2, e3, e4⟩ := hp j p q
      have eT : Ts j = q'.1 := by simp [Ts, e1]
      rw [eT]
      exact ⟨by rw [hits]; simp [e1], .inl e4⟩
  refine call_dict_pairsH (knd := tupleKind (L2.mixKind X.prog X.w)) (ps := ps) (PairArg.list a its.toArray Ts prs) (I.ok.hd hc) (by show X.A.in1.in1.units < cLine; have : X.A.in1.in1.units = X.A.units + 1 + 1 := rfl; omega) ⟨⟨o, n, ho, hcl, hdi, hd⟩, items⟩ ⟨by simp [prs], fun i key v e => ?_⟩ ?_ (by rw [pl]; exact hz) fun h' tk hd' kk => ?_
  · rw [show PairRel prs i key v = (prs[i]? = some (key, v)) from rfl, List.getElem?_map] at e
    cases q : ps[i]? with
    | none => rw [q] at e; cases e
    | some p => rw [q] at e; cases e; exact ⟨p.1, p.2.1, rfl, rfl⟩
  · intro h' hk' x hx
    obtain ⟨j, hj⟩ := List.mem_iff_getElem?.mp hx
    obtain ⟨q', e1, e2, e3, e4⟩ := hp j x hj
    have hkey := L2.key_of I.hok (hk q' (List.mem_of_getElem? e1)).2
    rw [e2, e3] at hkey
    obtain ⟨ob, itb, nb, g1, g2, g3, g4⟩ := hkey
    exact ⟨ob, itb, nb, hk' _ _ (Nat.ne_of_lt (Heap.lt_size g1)) (by simp) g1, g2, g3, g4⟩
  · have k0 : ∀ b o, s.heap.get? b = some o → h'.get? b = some o := fun b o e => kk b o (by simp) e
    have hn : H s.heap.objs.size = none := I.hok.fresh (Nat.le_refl _)
    have kt2 := kt_all ps (H := H) (kvs := []) (xs := []) _ .nil kt
    have kt3 : L2.KT (L2.upd H s.heap.objs.size (.dT (mergeA [] (qs.map fun q => (q.2.1, q.2.2.2))))) (mergeA [] (qs.map fun q => (q.2.1, q.2.2.2))) (storedAllH [] ps) := kt2.keeps fun b ys e => by
      rw [L2.upd_ne (L2.ne_of_none e hn)]; exact e
    obtain ⟨o2, es, ep, g1, g2, g3, g4, g5, g6⟩ := hd'
    have big : (s.heap.objs.size == sysModules) = false := by
      have := I.big
      simp only [beq_eq_false_iff_ne, ne_eq]
      exact fun e => Nat.ne_of_gt this e
    have len : (mergeA [] (qs.map fun q => (q.2.1, q.2.2.2))).length ≤ sizeLine := by
      have z1 := kt3.length
      have z2 := storedAllH_length ps []
      simp at z2
      omega
    have new : L2.ObjOk X.prog X.w (L2.upd H s.heap.objs.size (.dT (mergeA [] (qs.map fun q => (q.2.1, q.2.2.2))))) h' s.heap.objs.size (.dT (mergeA [] (qs.map fun q => (q.2.1, q.2.2.2)))) := ⟨len, big, _, kt3, o2, es, ep, g1, g2, g3, g4, g6⟩
    exact ⟨.ref s.heap.objs.size, _, I.laid (t' := tk) k0 (Nat.le_refl _) new, rfl, q _ hn⟩
end
end VH

namespace VH
open PySem L2
variable {K : Fk}
section
variable {κ : Type} [DecidableEq κ] {β γ : Type}
def putA (kvs : List (κ × β)) (k : κ) (v : β) : List (κ × β) := if (kvs.any fun kv => decide (kv.1 = k)) = true then kvs.map (fun kv => if kv.1 = k then (kv.1, v) else kv) else kvs ++ [(k, v)]
def mergeP (kvs more : List (κ × β)) : List (κ × β) := more.foldl (fun acc kv => putA acc kv.1 kv.2) kvs
theorem putA_map (f : β → γ) (kvs : List (κ × β)) (k : κ) (v : β) : (putA kvs k v).map (fun t => (t.1, f t.2)) = putA (kvs.map fun t => (t.1, f t.2)) k (f v) := by
  unfold putA
  have e : ((kvs.map fun t => (t.1, f t.2)).any fun kv => decide (kv.1 = k)) = kvs.any fun kv => decide (kv.1 = k) := by
    rw [List.any_map]; rfl
  rw [e]
  split
  · rw [List.map_map, List.map_map]
    apply List.map_congr_left
    intro t _
    by_cases h : t.1 = k <;> simp [h]
  · simp
theorem mergeP_map (f : β → γ) : ∀ (more kvs : List (κ × β)), (mergeP kvs more).map (fun t => (t.1, f t.2)) = mergeP (kvs.map fun t => (t.1, f t.2)) (more.map fun t => (t.1, f t.2))
  | [], kvs => rfl
  | p :: more, kvs => by
    show (mergeP (putA kvs p.1 p.2) more).map _ = mergeP (putA (kvs.map _) p.1 (f p.2)) (more.map _)
    rw [mergeP_map f more, putA_map]
theorem putA_nodup {kvs : List (κ × β)} {k : κ} {v : β} (nd : (kvs.map (·.1)).Nodup) : ((putA kvs k v).map (·.1)).Nodup := by
  unfold putA
  split
  · have e : (kvs.map fun kv => if kv.1 = k then (kv.1, v) else kv).map (·.1) = kvs.map (·.1) := by
      rw [List.map_map]
      apply List.map_congr_left
      intro t _
      by_cases h : t.1 = k <;> simp [h]
    rw [e]; exact nd
  · rename_i h
    rw [List.map_append]
    refine List.nodup_append.mpr ⟨nd, by simp, fun a ha b hb e => ?_⟩
    simp at hb
    subst hb; subst e
    obtain ⟨p, hp, e⟩ := List.mem_map.mp ha
    exact h (List.any_eq_true.mpr ⟨p, hp, by simpa using e⟩)
theorem mergeP_nodup : ∀ (more : List (κ × β)) {kvs : List (κ × β)}, (kvs.map (·.1)).Nodup → ((mergeP kvs more).map (·.1)).Nodup
  | [], _, nd => nd
  | p :: more, _, nd => mergeP_nodup more (putA_nodup nd)
theorem R.putA {H : Hp} {k : κ} {p : V × D} : ∀ {tl : List (κ × V × D)} {L : List (V × D)}, (tl.map (·.1)).Nodup → R K H (tl.map (·.2) ++ (p :: L)) → R K H ((VH.putA tl k p).map (·.2) ++ L) := by
  intro tl L nd r
  unfold VH.putA
  split
  · rename_i h
    clear h
    have key : ∀ {tl : List (κ × V × D)} {L : List (V × D)}, (tl.map (·.1)).Nodup → R K H (tl.map (·.2) ++ (p :: L)) → R K H ((tl.map fun kv => if kv.1 = k then (kv.1, p) else kv).map (·.2) ++ L) := by
      intro tl
      induction tl with
      | nil => intro L _ r; exact r.tail
      | cons t tl ih =>
        intro L nd r
        rw [List.map_cons] at nd
        obtain ⟨n1, n2⟩ := List.nodup_cons.mp nd
        by_cases e : t.1 = k
        · have no : tl.map (fun kv => if kv.1 = k then (kv.1, p) else kv) = tl := by
            have : tl.map (fun kv => if kv.1 = k then (kv.1, p) else kv) = tl.map id := List.map_congr_left fun q hq => if_neg fun z => n1 (by rw [e, ← z]; exact List.mem_map.mpr ⟨q, hq, rfl⟩)
            rw [this, List.map_id]
          rw [List.map_cons, no, if_pos e]
          have r1 : R K H (t.2 :: (tl.map (·.2) ++ (p :: L))) := r
          exact r1.tail.perm List.perm_middle
        · rw [List.map_cons, if_neg e]
          have r1 : R K H (tl.map (·.2) ++ (p :: (t.2 :: L))) := R.perm (by
            show (t.2 :: (tl.map (·.2) ++ (p :: L))).Perm (tl.map (·.2) ++ (p :: t.2 :: L))
            refine List.Perm.trans ?_ (List.Perm.append_left _ (List.Perm.swap _ _ _))
            exact List.perm_middle.symm) r
          have r2 := ih n2 r1
          exact r2.perm List.perm_middle
    exact key nd r
  · rw [List.map_append]
    exact r.perm (by simp)
theorem R.mergeP {H : Hp} : ∀ {more tl : List (κ × V × D)} {L : List (V × D)}, (tl.map (·.1)).Nodup → R K H (tl.map (·.2) ++ (more.map (·.2) ++ L)) → R K H ((VH.mergeP tl more).map (·.2) ++ L)
  | [], tl, L, _, r => r
  | p :: more, tl, L, nd, r => by
    show R K H ((VH.mergeP (VH.putA tl p.1 p.2) more).map (·.2) ++ L)
    exact R.mergeP (putA_nodup nd) (R.putA nd r)
end
/-- a list of pairs whose first parts are plain keys; .. tuples of such -/
def pairsK : List D → Option (List (Key × D))
  | [] => some []
  | .nd _ .tup [k, v] :: xs => match k.key, pairsK xs with
    | some kk, some l => some ((kk, v) :: l)
    | _, _ => none
  | _ => none
def pairsT : List D → Option (List (List Key × D))
  | [] => some []
  | .nd _ .tup [.nd _ .tup zs, v] :: xs => match keysD zs, pairsT xs with
    | some kk, some l => some ((kk, v) :: l)
    | _, _ => none
  | _ => none
def mkDict {κ : Type} [DecidableEq κ] (f : List κ → Hd) (l : List (κ × D)) : D := .nd true (f ((mergeP [] l).map (·.1))) ((mergeP [] l).map (·.2))
def fDict : List D → Option (D × List D)
  | [.nd _ .lst xs] => match pairsT xs with
    | some l => some (mkDict Hd.dT l, [.any])
    | none => match pairsK xs with
      | some l => some (mkDict Hd.dK l, [.any])
      | none => none
  | _ => none
theorem pair_kids {H : Hp} {L : List (V × D)} {u : V} {m : Bool} {k v : D} (r : R K H ((u, .nd m .tup [k, v]) :: L)) : ∃ p x y, u = .ref p ∧ H p = some (.tup [x, y]) ∧ R K H ((x, k) :: (y, v) :: L) := by
  obtain ⟨p, o, us, rfl, h1, f, l, r1⟩ := R.kids r
  cases f
  obtain ⟨x, y, rfl⟩ := len2 l
  exact ⟨p, x, y, rfl, h1, r1⟩
theorem pairsK_read {H : Hp} : ∀ {xs : List D} {us : List V} {l : List (Key × D)} {L : List (V × D)}, us.length = xs.length → R K H (us.zip xs ++ L) → pairsK xs = some l → ∃ (tl : List (Key × V × D)) (ps : List Addr), tl.map (fun t => (t.1, t.2.2)) = l ∧ us = ps.map V.ref ∧ Paired (fun p (t : Key × V) => SqT K H p [kV t.1, t.2]) ps (tl.map fun t => (t.1, t.2.1)) ∧ R K H (tl.map (·.2) ++ L)
  | [], [], l, L, _, r, e => by cases e; exact ⟨[], [], rfl, rfl, .nil, r⟩
  | x :: xs, u :: us, l, L, hl, r, e => by
    unfold pairsK at e
    split at e
    · rename_i e0; cases e0
    · rename_i m k v xs0 e0
      cases e0
      split at e
      · rename_i kk l1 hk hx
        cases e
        have r1 : R K H ((u, .nd m .tup [k, v]) :: (us.zip xs ++ L)) := r
        obtain ⟨p, a, b, rfl, h1, r2⟩ := pair_kids r1
        obtain rfl := key_val r2 hk
        have r3 : R K H (us.zip xs ++ ((b, v) :: L)) := r2.tail.perm List.perm_middle.symm
        obtain ⟨tl, ps, e1, e2, e3, r4⟩ := pairsK_read (by simpa using hl) r3 hx
        exact ⟨(kk, b, v) :: tl, p :: ps, by simp [e1], by simp [e2], .cons (.inl (.inl h1)) e3, r4.perm List.perm_middle⟩
      · cases e
    · cases e
  | [], _ :: _, _, _, hl, _, _ => by simp at hl
  | _ :: _, [], _, _, hl, _, _ => by simp at hl
theorem pairsT_read {H : Hp} : ∀ {xs : List D} {us : List V} {l : List (List Key × D)} {L : List (V × D)}, us.length = xs.length → R K H (us.zip xs ++ L) → pairsT xs = some l → ∃ (tl : List (List Key × V × D)) (qs : List (Addr × List Key × Addr × V)), tl.map (fun t => (t.1, t.2.2)) = l ∧ us = qs.map (fun q => V.ref q.1) ∧ qs.map (fun q => (q.2.1, q.2.2.2)) = tl.map (fun t => (t.1, t.2.1)) ∧ (∀ q ∈ qs, SqT K H q.1 [.ref q.2.2.1, q.2.2.2] ∧ H q.2.2.1 = some (.tup (q.2.1.map kV))) ∧ R K H (tl.map (·.2) ++ L)
  | [], [], l, L, _, r, e => by cases e; exact ⟨[], [], rfl, rfl, rfl, by simp, r⟩
  | x :: xs, u :: us, l, L, hl, r, e => by
    unfold pairsT at e
    split at e
    · rename_i e0; cases e0
    · rename_i m m2 zs v xs0 e0
      cases e0
      split at e
      · rename_i kk l1 hk hx
        cases e
        have r1 : R K H ((u, .nd m .tup [.nd m2 .tup zs, v]) :: (us.zip xs ++ L)) := r
        obtain ⟨p, a, b, rfl, h1, r2⟩ := pair_kids r1
        obtain ⟨c, rfl, hc⟩ := tkey_val r2 hk
        have r3 : R K H (us.zip xs ++ ((b, v) :: L)) := r2.tail.perm List.perm_middle.symm
        obtain ⟨tl, qs, e1, e2, e3, e4, r4⟩ := pairsT_read (by simpa using hl) r3 hx
        refine ⟨(kk, b, v) :: tl, (p, kk, c, b) :: qs, by simp [e1], by simp [e2], by simp [e3], fun q hq => ?_, r4.perm List.perm_middle⟩
        rcases List.mem_cons.mp hq with rfl | hq
        · exact ⟨.inl (.inl h1), hc⟩
        · exact e4 q hq
      · cases e
    · cases e
  | [], _ :: _, _, _, hl, _, _ => by simp at hl
  | _ :: _, [], _, _, hl, _, _ => by simp at hl
theorem mergeK_is (kvs more : List (Key × V)) : mergeK kvs more = mergeP kvs more := rfl
theorem mergeA_is (kvs more : List (List Key × V)) : mergeA kvs more = mergeP kvs more := rfl
def rDictP (K : PySem.W.Frag) : List V → Hp → VK → Prop := fun xs H Q => ∃ (a : Addr) (ps : List Addr) (kvs : List (Key × V)), xs = [.ref a] ∧ SqL K H a (ps.map V.ref) ∧ Paired (fun p kv => SqT K H p [kV kv.1, kv.2]) ps kvs ∧ ∀ p, H p = none → Q (.ref p) (L2.upd H p (.dK (mergeK [] kvs)))
def rDictA (K : PySem.W.Frag) : List V → Hp → VK → Prop := fun xs H Q => rDictT K xs H Q ∨ rDictP K xs H Q
theorem cr_dictA {X : Cx} (hc : X.calm = true) (hu : X.A.units + 64 < cLine) : CallR X (.type "dict") (rDictA X.K) := (cr_dictT hc hu).or (call_dictP hc)
theorem den_dict : DenR K (rDictA K) fDict := by
  intro vs ds H L d os Q hl r e k
  unfold fDict at e
  split at e
  · rename_i m xs
    obtain ⟨u, rfl⟩ := len1 hl
    obtain ⟨a, o, us, rfl, h1, f, l1, r1⟩ := R.kids r
    cases f
    split at e
    · rename_i l hp
      cases e
      obtain ⟨tl, qs, e1, e2, e3, e4, r2⟩ := pairsT_read l1 r1 hp
      refine .inl ⟨a, qs, rfl, .inl (.inl (by rw [← e2]; exact h1)), e4, fun p hpn => k _ _ (R.any1 ?_)⟩
      rw [mergeA_is, e3]
      have r3 : R K H ((mergeP [] tl).map (·.2) ++ L) := R.mergeP (tl := []) List.nodup_nil r2
      have nd : ((mergeP ([] : List (List Key × V × D)) tl).map (·.1)).Nodup := mergeP_nodup _ List.nodup_nil
      have q1 : mergeP [] (tl.map fun t => (t.1, t.2.1)) = (mergeP [] tl).map fun t => (t.1, t.2.1) := (mergeP_map (fun p : V × D => p.1) tl []).symm
      have q2 : mergeP [] l = (mergeP [] tl).map fun t => (t.1, t.2.2) := by rw [← e1]; exact (mergeP_map (fun p : V × D => p.2) tl []).symm
      rw [q1]
      unfold mkDict
      rw [q2]
      have fit := Fits.dT (K := K) (a := p) ((mergeP [] tl).map fun t => (t.1, t.2.1)) (by rw [List.map_map]; exact nd)
      have r4 := R.make (ps := (mergeP [] tl).map (·.2)) (h := .dT (((mergeP [] tl).map fun t => (t.1, t.2.1)).map (·.1))) r3 hpn (by rw [List.map_map] at fit ⊢; rw [List.map_map] at fit; rw [List.map_map]; exact fit)
      simp only [List.map_map] at r4 ⊢
      exact r4
    · split at e
      · rename_i l hp
        cases e
        obtain ⟨tl, ps, e1, e2, e3, r2⟩ := pairsK_read l1 r1 hp
        refine .inr ⟨a, ps, _, rfl, .inl (.inl (by rw [← e2]; exact h1)), e3, fun p hpn => k _ _ (R.any1 ?_)⟩
        rw [mergeK_is]
        have r3 : R K H ((mergeP [] tl).map (·.2) ++ L) := R.mergeP (tl := []) List.nodup_nil r2
        have nd : ((mergeP ([] : List (Key × V × D)) tl).map (·.1)).Nodup := mergeP_nodup _ List.nodup_nil
        have q1 : mergeP [] (tl.map fun t => (t.1, t.2.1)) = (mergeP [] tl).map fun t => (t.1, t.2.1) := (mergeP_map (fun p : V × D => p.1) tl []).symm
        have q2 : mergeP [] l = (mergeP [] tl).map fun t => (t.1, t.2.2) := by rw [← e1]; exact (mergeP_map (fun p : V × D => p.2) tl []).symm
        rw [q1]
        unfold mkDict
        rw [q2]
        have fit := Fits.dK (K := K) (a := p) ((mergeP [] tl).map fun t => (t.1, t.2.1)) (by rw [List.map_map]; exact nd)
        have r4 := R.make (ps := (mergeP [] tl).map (·.2)) (h := .dK (((mergeP [] tl).map fun t => (t.1, t.2.1)).map (·.1))) r3 hpn (by rw [List.map_map] at fit ⊢; rw [List.map_map] at fit; rw [List.map_map]; exact fit)
        simp only [List.map_map] at r4 ⊢
        exact r4
      · cases e
  · cases e
end VH

/-! Instances: attributes, making, methods. -/
namespace VH
open PySem L2
variable {K : Fk}
theorem lookup_kix (f : Str) : ∀ fs : List (Str × V), fs.lookup f = (kix (fs.map (·.1)) f).bind fun j => (fs.map (·.2))[j]?
  | [] => rfl
  | (g, v) :: r => by
    by_cases e : g = f
    · subst e
      simp [List.lookup, kix]
    · have e' : (f == g) = false := beq_eq_false_iff_ne.mpr fun z => e z.symm
      simp only [List.lookup, e', List.map_cons, kix, if_neg e]
      rw [lookup_kix f r]
      cases kix (r.map (·.1)) f <;> rfl
theorem putF_kix (f : Str) (y : V) : ∀ fs : List (Str × V), (putF f y fs).map (·.1) = (match kix (fs.map (·.1)) f with | some _ => fs.map (·.1) | none => fs.map (·.1) ++ [f]) ∧ (putF f y fs).map (·.2) = (match kix (fs.map (·.1)) f with | some j => (fs.map (·.2)).set j y | none => fs.map (·.2) ++ [y])
  | [] => ⟨rfl, rfl⟩
  | (g, v) :: r => by
    by_cases e : g = f
    · subst e
      simp [putF, kix]
    · obtain ⟨h1, h2⟩ := putF_kix f y r
      simp only [putF, if_neg e, List.map_cons, kix]
      rw [h1, h2]
      cases kix (r.map (·.1)) f <;> simp
theorem fits_ins {o : HO} {C : Addr} {ns : List Str} {us : List V} (f : Fits K a o (.ins C ns) us) : ∃ dx fs, o = .ins C dx fs ∧ ns = fs.map (·.1) ∧ us = fs.map (·.2) := by
  generalize hh : Hd.ins C ns = h at f
  cases f <;> cases hh
  exact ⟨_, _, rfl, rfl, rfl⟩
/-- o.f -/
def fFld (C : Addr) (f : Str) : List D → Option (D × List D)
  | [.nd m (.ins C' ns) xs] => if C' = C then (match kix ns f with
    | some j => match xs[j]? with
      | some d => some (d.fz, [.nd m (.ins C' ns) (xs.set j d.fz)])
      | none => none
    | none => none) else none
  | _ => none
theorem den_fldR {C : Addr} {f : Str} (c : Cls K C) (n : NoAttr K C f) : DenR K (r1L fun x H Q => ∃ a C dx fs v, x = .ref a ∧ H a = some (.ins C dx fs) ∧ Cls K C ∧ NoAttr K C f ∧ fs.lookup f = some v ∧ Q v H) (fFld C f) := by
  intro vs ds H L d os Q hl r e k
  unfold fFld at e
  split at e
  · rename_i m C' ns xs
    split at e
    · rename_i hC
      subst hC
      split at e
      · rename_i j hj
        split at e
        · rename_i d0 hd
          cases e
          obtain ⟨x, rfl⟩ := len1 hl
          obtain ⟨a, o, us, w, rfl, h1, _, f1, l, hw, r1⟩ := R.childAt r hd
          obtain ⟨dx, fs, rfl, rfl, rfl⟩ := fits_ins f1
          refine ⟨a, C', dx, fs, w, rfl, h1, c, n, ?_, k w H r1⟩
          rw [lookup_kix, hj]
          exact hw
        · cases e
      · cases e
    · cases e
  · cases e
theorem den_fld {t : TE} {A : Arg} {C : Addr} {f : Str} (c : Cls K C) (n : NoAttr K C f) (h : DenArg K t A) : DenE K (tFld K t f) (mApp (fFld C f) [A]) := by
  intro σ H env L d env' Q re e k
  exact den_app (da_cons h da_nil) (den_fldR c n) σ H env L d env' Q re e k
theorem j_fld {X : Cx} {e : Expr} {t : TE} {A : Arg} {C : Addr} {f : Str} {pos : Pos} (c : Cls X.K C) (n : NoAttr X.K C f) (h : AJ X e t A) (hb : attributeBase e f X.env (eval e X.env) = eval e X.env := by rfl) : EJ X (.Attribute e f pos) (tFld X.K t f) (mApp (fFld C f) [A]) := ⟨pe_fld h.p hb, den_fld c n h.d⟩
/-- o.f = v: the value first -/
def fFPut (C : Addr) (f : Str) : List D → Option (D × List D)
  | [v, .nd true (.ins C' ns) xs] => if C' = C ∧ ns.length < 1000 then (match kix ns f with
    | some j => some (.non, [.any, .nd true (.ins C' ns) (xs.set j v.fz)])
    | none => some (.non, [.any, .nd true (.ins C' (ns ++ [f])) (xs ++ [v.fz])])) else none
  | _ => none
theorem den_fput {ta tv : TE} {a b : Arg} {C : Addr} {f : Str} (c : Cls K C) (n : NoAttr K C f) (hv : DenArg K tv a) (ho : DenArg K ta b) (io : List Nat) : DenS K io (sFld K ta tv f) (sDrop (mApp (fFPut C f) [a, b])) := by
  have hr : DenR K (r2L fun y x H Q => ∃ a C dx fs, x = .ref a ∧ H a = some (.ins C dx fs) ∧ Cls K C ∧ NoAttr K C f ∧ fs.length < 1000 ∧ Q .non (L2.upd H a (.ins C dx (putF f y fs)))) (fFPut C f) := by
    intro vs ds H L d os Q hl r e k
    unfold fFPut at e
    split at e
    · rename_i v C' ns xs
      split at e
      · rename_i hC
        obtain ⟨rfl, hz⟩ := hC
        obtain ⟨w, x, rfl⟩ := len2 hl
        have r0 : R K H ((x, .nd true (.ins C' ns) xs) :: (w, v.fz) :: L) := (R.fz r).perm (List.Perm.swap _ _ _)
        obtain ⟨p, o, ps, rfl, rfl, hp, f1, r1⟩ := r0.open
        generalize hq : ps.map (·.1) = us at f1
        obtain ⟨dx, fs, rfl, rfl, rfl⟩ := fits_ins f1
        have hl' : (fs.map (·.2)).length = (ps.map (·.2)).length := by rw [← hq]; simp
        have hzip : ps = (fs.map (·.2)).zip (ps.map (·.2)) := by rw [← hq, List.zip_map', List.map_id']
        rw [List.length_map] at hz
        refine ⟨p, C', dx, fs, rfl, hp, c, n, hz, ?_⟩
        obtain ⟨k1, k2⟩ := putF_kix f w fs
        have fit := Fits.ins (K := K) (a := p) C' dx (putF f w fs)
        rw [k1, k2] at fit
        split at e
        · rename_i j hj
          cases e
          rw [hj] at fit
          have hjl := (kix_lt hj).1
          have hj2 : j < (fs.map (·.2)).length := by simpa using hjl
          have hjx : j < (ps.map (·.2)).length := by rw [← hl']; exact hj2
          have r2 : R K H ((.ref p, .rsv p) :: (((fs.map (·.2)).set j w).zip ((ps.map (·.2)).set j v.fz) ++ L)) := by
            have r3 : R K H (((fs.map (·.2))[j], (ps.map (·.2))[j]) :: (.ref p, .rsv p) :: (((fs.map (·.2)).set j w).zip ((ps.map (·.2)).set j v.fz) ++ L)) := by
              rw [hzip] at r1
              refine r1.perm ?_
              refine List.Perm.trans (List.Perm.cons _ List.perm_middle) ?_
              refine List.Perm.trans (List.Perm.cons _ ((zip_set (w := w) (y := v.fz) hl' (List.getElem?_eq_getElem hj2) (List.getElem?_eq_getElem hjx)).symm.append_right L)) ?_
              exact List.Perm.swap _ _ _
            exact r3.tail
          have hl2 : ((fs.map (·.2)).set j w).length = ((ps.map (·.2)).set j v.fz).length := by simpa using hl'
          have r4 := (r2.upd (o := .ins C' dx (putF f w fs))).close (h := .ins C' (fs.map (·.1))) upd_same (by rw [map_zip1 hl2]; exact fit)
          rw [map_zip2 hl2] at r4
          exact k _ _ ((r4.atom (.any w)).atom .non)
        · rename_i hj
          cases e
          rw [hj] at fit
          have r2 : R K H ((.ref p, .rsv p) :: ((fs.map (·.2) ++ [w]).zip (ps.map (·.2) ++ [v.fz]) ++ L)) := by
            rw [List.zip_append hl', ← hzip]
            refine r1.perm (List.Perm.cons _ ?_)
            simp
          have hl2 : (fs.map (·.2) ++ [w]).length = (ps.map (·.2) ++ [v.fz]).length := by simpa using hl'
          have r4 := (r2.upd (o := .ins C' dx (putF f w fs))).close (h := .ins C' (fs.map (·.1) ++ [f])) upd_same (by rw [map_zip1 hl2]; exact fit)
          rw [map_zip2 hl2] at r4
          exact k _ _ ((r4.atom (.any w)).atom .non)
      · cases e
    · cases e
  have key : DenE K (fun σ H Q => tv σ H fun y H1 => ta σ H1 fun x H2 => ∃ a C dx fs, x = .ref a ∧ H2 a = some (.ins C dx fs) ∧ Cls K C ∧ NoAttr K C f ∧ fs.length < 1000 ∧ Q .non (L2.upd H2 a (.ins C dx (putF f y fs)))) (mApp (fFPut C f) [a, b]) := by
    intro σ H env L d env' Q re e k
    exact den_app (da_cons hv (da_cons ho da_nil)) hr σ H env L d env' Q re e k
  intro pv hp σ H env L o Z re P e k
  exact ds_drop key pv hp σ H env L o Z re P e k
theorem s_fput {X : Cx} {io : List Nat} {o value : Expr} {to tv : TE} {A B : Arg} {C : Addr} {f : Str} {pos pos' : Pos} (c : Cls X.K C) (n : NoAttr X.K C f) (hv : AJ X value tv A) (ho : AJ X o to B) (hs : swapsWith value (some (.Attribute o f pos')) pos.line X.env = pure false := by rfl) :
    SJ X io (.Assign [.Attribute o f pos'] value pos) (sFld X.K to tv f) (sDrop (mApp (fFPut C f) [A, B])) := ⟨ps_fld ho.p hv.p hs, den_fput c n hv.d ho.d io⟩
/-! ### functions by their objects -/
structure Fx (P : Program) (w : World) (K : PySem.W.Frag) (mg : Str → Option Value) (base : Heap) (f : Addr) (np k : Nat) (fm : List D → Option (D × List D)) : Prop where
  ex : ∃ (fd : FuncData) (ps : List Str), FnOk P w K mg base (L2.CX P w) k f fd ps (spD ⟨K, P, w⟩ np fm) ∧ Binds K fd ps []
  ln : ∀ ds z, fm ds = some z → ds.length = np
theorem Fx.mono {P : Program} {w : World} {K : PySem.W.Frag} {mg : Str → Option Value} {base : Heap} {f : Addr} {np k j : Nat} {fm : List D → Option (D × List D)} (F : Fx P w K mg base f np k fm) (h : k ≤ j) : Fx P w K mg base f np j fm := by
  obtain ⟨fd, ps, a, b⟩ := F.ex
  exact ⟨⟨fd, ps, a.mono h, b⟩, F.ln⟩
theorem fx_of {P : Program} {w : World} {K : PySem.W.Frag} {mg : Str → Option Value} {base : Heap} {x qual : Str} {params : Arguments} {body : List Stmt} {scope : Scope} {f : Addr} {fd : FuncData} {N ps : List Str} {np k : Nat} {io : List Nat} {m : SM}
    (F : FunD K x qual params body scope [] [] f fd) (S : FnScope N ps scope) (hb : Binds K fd ps []) (hnp : ps.length = np) (hio : io.all (· < np) = true) (hnd : io.Nodup)
    (h : ∀ (cdv : Value) (A : Around) (outer : List PySem.Env) (s : Shared) (H : Hp) (E : XK), Room k (A.deeper (PyProof.Rows.envOfC qual scope s.heap.objs.size f cdv)) → ∃ t, BJ (cxOf (L2.CX P w) P w K mg base N qual scope f cdv A outer s H E).nox io body t m) :
    Fx P w K mg base f np (k + 1) (fnD np N.length io m) := ⟨⟨fd, ps, df_mk F S hnp hio hnd h, hb⟩, fun ds z h => fnD_len ds z h⟩
/-! ### C(..) -/
def fMake (C : Addr) (fm : List D → Option (D × List D)) : List D → Option (D × List D) := fun ds => match fm (.nd true (.ins C []) [] :: ds) with
  | some (.non, o :: os) => some (o, os)
  | _ => none
theorem den_make {C : Addr} {np : Nat} {fm : List D → Option (D × List D)} {E : XK} (hl : ∀ ds z, fm ds = some z → ds.length = np) :
    DenR K (fun vs H1 Q => ∀ x dx, H1 x = none → H1 dx = none → dx ≠ x → spD K np fm (.ref x :: (vs ++ [])) (L2.upd (L2.upd H1 dx (.own x)) x (.ins C dx [])) (fun v H2 => v = .non ∧ Q (.ref x) H2) E) (fMake C fm) := by
  intro vs ds H L d os Q hlen r e k x dx hx hdx hne
  unfold fMake at e
  split at e
  · rename_i o os' q
    cases e
    rw [List.append_nil]
    have r1 : R K (L2.upd H dx (.own x)) L |> fun _ => True := trivial
    have r2 : R K (L2.upd H dx (.own x)) (vs.zip ds ++ L) := r.same (same_upd hdx)
    have hx2 : (L2.upd H dx (.own x)) x = none := by rw [upd_ne hne.symm]; exact hx
    have r3 : R K (L2.upd (L2.upd H dx (.own x)) x (.ins C dx [])) ((.ref x, .nd true (.ins C []) []) :: (vs.zip ds ++ L)) := R.make (ps := []) (h := .ins C []) r2 hx2 (.ins C dx [])
    have hn := hl _ _ q
    refine ⟨by simpa [hlen] using hn, L, .nd true (.ins C []) [] :: ds, .non, d :: os, by simp [hlen], r3, q, fun v H' r4 => ?_⟩
    have rv : v = .non := R.vnon (L := ((V.ref x :: vs).zip (d :: os) ++ L)) r4
    exact ⟨rv, k _ H' (R.tail r4)⟩
  · cases e
theorem j_make {X : Cx} {x : Str} {e : Expr} {es : List Expr} {p pos : Pos} {C f : Addr} {np k : Nat} {fm : List D → Option (D × List D)} {tl : TA} {As : List Arg} (M : Mk X.K C f) (F : Fx X.prog X.w X.K X.mg X.base f np k fm) (hr : Room (k + 1) X.A) (hm : X.mg x = some (.ref C)) (ha : LJ X (e :: es) tl As) (hg : Gl X x := by rfl)
    (hdb : (x == ("__debug__" : Str)) = false := by decide) (he : starEach (e :: es) X.env = (false, eval e X.env) :: starEach es X.env := by rfl) (hpl : (backTo pos (starEach es X.env)).any (·.1) = false := by rfl) :
    EJ X (.Call (.Name x p) (e :: es) [] pos) (tMake C (spD X.fk np fm) [] E0 tl) (mApp (fMake C fm) As) := by
  obtain ⟨fd, ps, F1, hb⟩ := F.ex
  exact ⟨pe_make M F1 hr hg hm hb .nil passL ha.p hdb he hpl, fun σ H env L d env' Q re e k => den_app ha.d (den_make F.ln) σ H env L d env' Q re e k⟩
end VH

namespace VH
open PySem L2
variable {K : Fk}
/-! ### calls with keywords, in the parameters' order -/
structure DfK (P : Program) (w : World) (K : PySem.W.Frag) (mg : Str → Option Value) (base : Heap) (x : Str) (ps : List Str) (n k : Nat) (fm : List D → Option (D × List D)) : Prop where
  ex : ∃ (f : Addr) (fd : FuncData), FnOk P w K mg base (L2.CX P w) k f fd ps (spD ⟨K, P, w⟩ ps.length fm) ∧ mg x = some (.ref f) ∧ PySem.W.keepIn K (.ref f) = true ∧ ∀ (s : Shared) (us ws : List Value), us.length = n → ws.length = (ps.drop n).length → BindsTo s fd ⟨us, (ps.drop n).zip ws⟩ (ps.zip (us ++ ws))
  ln : ∀ ds z, fm ds = some z → ds.length = ps.length
theorem DfK.mono {P : Program} {w : World} {K : PySem.W.Frag} {mg : Str → Option Value} {base : Heap} {x : Str} {ps : List Str} {n j k : Nat} {fm : List D → Option (D × List D)} (F : DfK P w K mg base x ps n k fm) (h : k ≤ j) : DfK P w K mg base x ps n j fm := by
  obtain ⟨f, fd, a, b⟩ := F.ex
  exact ⟨⟨f, fd, a.mono h, b⟩, F.ln⟩
theorem kw_bind {K : PySem.W.Frag} {x qual : Str} {params : Arguments} {body : List Stmt} {scope : Scope} {f : Addr} {fd : FuncData} {ps : List Str} {n : Nat} (F : FunD K x qual params body scope [] [] f fd)
    (h : ∀ (kV doc pm : Value) (an : Option Addr) (cdv ct : Value) (us ws : List Value), us.length = n → ws.length = (ps.drop n).length → bindArgs (PySem.W.fnOf x qual params body scope .none kV doc pm an cdv ct) ⟨us, (ps.drop n).zip ws⟩ = pure (ps.zip (us ++ ws))) (s : Shared) (us ws : List Value) (h1 : us.length = n) (h2 : ws.length = (ps.drop n).length) : BindsTo s fd ⟨us, (ps.drop n).zip ws⟩ (ps.zip (us ++ ws)) := by
  obtain ⟨oc, od, dV, kV, doc, pm, an, cdv, ct, osl, rfl, lk, hcd, hD, hK⟩ := F.ex
  rcases hD with ⟨_, rfl⟩ | ⟨e, _⟩
  · exact .of_eq (h kV doc pm an cdv ct us ws h1 h2)
  · exact absurd rfl e
theorem dfK_of {P : Program} {w : World} {K : PySem.W.Frag} {mg : Str → Option Value} {base : Heap} {x qual : Str} {params : Arguments} {body : List Stmt} {scope : Scope} {f : Addr} {fd : FuncData} {N ps : List Str} {n k : Nat} {io : List Nat} {m : SM}
    (F : FunD K x qual params body scope [] [] f fd) (S : FnScope N ps scope) (hm : mg x = some (.ref f)) (hb : ∀ (s : Shared) (us ws : List Value), us.length = n → ws.length = (ps.drop n).length → BindsTo s fd ⟨us, (ps.drop n).zip ws⟩ (ps.zip (us ++ ws))) (hio : io.all (· < ps.length) = true) (hnd : io.Nodup)
    (h : ∀ (cdv : Value) (A : Around) (outer : List PySem.Env) (s : Shared) (H : Hp) (E : XK), Room k (A.deeper (PyProof.Rows.envOfC qual scope s.heap.objs.size f cdv)) → ∃ t, BJ (cxOf (L2.CX P w) P w K mg base N qual scope f cdv A outer s H E).nox io body t m) :
    DfK P w K mg base x ps n (k + 1) (fnD ps.length N.length io m) := ⟨⟨f, fd, df_mk F S rfl hio hnd h, hm, F.kp, hb⟩, fun ds z h => fnD_len ds z h⟩
section
variable {X : Cx}
structure KJ (X : Cx) (kws : List Keyword) (t : TA) (as : List Arg) : Prop where
  p : PK X kws t
  d : DenA X.fk t as
theorem k_nil : KJ X [] tNil [] := ⟨pk_nil, da_nil⟩
theorem k_cons {nm : Option Str} {e : Expr} {kpos : Pos} {kws : List Keyword} {te : TE} {t : TA} {A : Arg} {As : List Arg} (h1 : AJ X e te A) (h2 : KJ X kws t As) : KJ X (⟨nm, e, kpos⟩ :: kws) (tCons te t) (A :: As) := ⟨pk_cons h1.p h2.p, da_cons h1.d h2.d⟩
theorem run_kw {x : Str} {ps : List Str} {n k : Nat} {fm : List D → Option (D × List D)} {f : Addr} {fd : FuncData} {pins : List (Addr × Obj)} {σ : L2.St} {H : Hp} {s : Shared} {Q : VK} {us ws : List Value} {vs zs : List V} (F : FnOk X.prog X.w X.K X.mg X.base (L2.CX X.prog X.w) k f fd ps (spD X.fk ps.length fm)) (hr : Room k X.A)
    (hb : ∀ (s : Shared) (us ws : List Value), us.length = n → ws.length = (ps.drop n).length → BindsTo s fd ⟨us, (ps.drop n).zip ws⟩ (ps.zip (us ++ ws))) (I : Inv X pins σ H s) (r : Vals vs us) (rz : Vals zs ws) (hn : vs.length = n) (hnz : zs.length = (ps.drop n).length) (h : spD X.fk ps.length fm (vs ++ zs) H Q E0) :
    wpAny (model X.prog X.w) X.A (call (.ref f) us ((ps.drop n).zip ws)) (EP X pins σ Q) X.xe s := by
  refine wpAny_call (codeAny_mono (F.run X.A X.stack s H ⟨us, (ps.drop n).zip ws⟩ (us ++ ws) (vs ++ zs) Q E0 hr I.env0 (hb s us ws (r.length.symm.trans hn) (rz.length.symm.trans hnz)) (r.append rz) h) fun r s' hq => ?_)
  cases r with
  | error e => exact passL pins σ H s e s' I hq
  | ok fl =>
    cases fl with
    | ret u => exact I.after hq
    | next => exact False.elim hq
    | brk => exact False.elim hq
    | cont => exact False.elim hq
def tCallW (K : Fk) (n np : Nat) (fm : List D → Option (D × List D)) (t tk : TA) : TE := fun σ H Q => t σ H fun vs H1 => tk σ H1 fun zs H2 => vs.length = n ∧ zs.length = np - n ∧ spD K np fm (vs ++ zs) H2 Q E0
theorem pe_callW {x : Str} {e : Expr} {es : List Expr} {kws : List Keyword} {t tk : TA} {ps : List Str} {n k : Nat} {fm : List D → Option (D × List D)} {p pos : Pos} (F : DfK X.prog X.w X.K X.mg X.base x ps n k fm) (hr : Room k X.A) (ha : PA X (e :: es) t) (hkw : PK X kws tk) (hg : Gl X x := by rfl) (hall : (backToKw pos (keywordEach kws X.env)).all (·.1.isSome) = true := by rfl) (hks : (backToKw pos (keywordEach kws X.env)).filterMap (·.1) = ps.drop n := by rfl)
    (hdb : (x == ("__debug__" : Str)) = false := by decide) (he : starEach (e :: es) X.env = (false, eval e X.env) :: starEach es X.env := by rfl) (hpl : ((backTo pos (starEach (e :: es) X.env)).any (·.1) || (backToKw pos (keywordEach kws X.env)).any (·.1.isNone)) = false := by rfl) :
    PE X (.Call (.Name x p) (e :: es) kws pos) (tCallW X.fk n ps.length fm t tk) := by
  obtain ⟨f, fd, F1, hm, hk, hb⟩ := F.ex
  refine ⟨fun pins s σ H Q I h => ?_⟩
  refine wpAny_Call_Name_kw (ld_glob I hg hm ?_ hdb)
  refine PySem.W.callWith_KW (h₀ := X.base) I.ok.mod.kin hk hall (thn (ha.run pos pins s σ H _ I h) fun us s1 ⟨vs, H1, I1, r, q⟩ => ?_) hpl he
  refine thn (hkw.run pos pins s1 σ H1 _ I1 q) fun ws s2 ⟨zs, H2, I2, rz, l1, l2, q2⟩ => ⟨I2.kIn, ?_⟩
  rw [hks]
  exact run_kw (x := x) F1 hr hb I2 r rz l1 (by rw [List.length_drop]; exact l2) q2
theorem pe_callW0 {x : Str} {kws : List Keyword} {tk : TA} {ps : List Str} {k : Nat} {fm : List D → Option (D × List D)} {p pos : Pos} (F : DfK X.prog X.w X.K X.mg X.base x ps 0 k fm) (hr : Room k X.A) (hkw : PK X kws tk) (hg : Gl X x := by rfl) (hall : (backToKw pos (keywordEach kws X.env)).all (·.1.isSome) = true := by rfl) (hks : (backToKw pos (keywordEach kws X.env)).filterMap (·.1) = ps.drop 0 := by rfl)
    (hdb : (x == ("__debug__" : Str)) = false := by decide) (hpl : ((backTo pos (starEach [] X.env)).any (·.1) || (backToKw pos (keywordEach kws X.env)).any (·.1.isNone)) = false := by rfl) :
    PE X (.Call (.Name x p) [] kws pos) (tCallW X.fk 0 ps.length fm tNil tk) := by
  obtain ⟨f, fd, F1, hm, hk, hb⟩ := F.ex
  refine ⟨fun pins s σ H Q I h => ?_⟩
  refine wpAny_Call_Name_kw (ld_glob I hg hm ?_ hdb)
  refine PySem.W.callWith_KW0 (h₀ := X.base) I.ok.mod.kin hk hall (thn (hkw.run pos pins s σ H _ I h) fun ws s2 ⟨zs, H2, I2, rz, l1, l2, q2⟩ => ⟨I2.kIn, ?_⟩) hpl
  rw [hks]
  exact run_kw (x := x) F1 hr hb I2 .nil rz rfl (by rw [List.length_drop]; exact l2) q2
end
theorem evs_append : ∀ (as bs : List Arg) (env : Env), evs (as ++ bs) env = match evs as env with
    | some (ds, ps, e1) => match evs bs e1 with
      | some (cs, qs, e2) => some (ds ++ cs, ps ++ qs, e2)
      | none => none
    | none => none
  | [], bs, env => by
    simp only [List.nil_append, evs]
    cases h : evs bs env with
    | none => rfl
    | some z => rfl
  | a :: as, bs, env => by
    simp only [List.cons_append, evs]
    cases h : a.ev env with
    | none => rfl
    | some z =>
      obtain ⟨d, p, e1⟩ := z
      simp only
      rw [evs_append as bs e1]
      cases h2 : evs as e1 with
      | none => rfl
      | some y =>
        obtain ⟨ds, ps, e2⟩ := y
        simp only
        cases h3 : evs bs e2 with
        | none => rfl
        | some x => rfl
theorem da_append {as bs : List Arg} {t u : TA} (h1 : DenA K t as) (h2 : DenA K u bs) : DenA K (fun σ H Q => t σ H fun vs H1 => u σ H1 fun zs H2 => Q (vs ++ zs) H2) (as ++ bs) := by
  intro σ H env L ds ps env' Q re e k
  rw [evs_append] at e
  split at e
  · rename_i ds1 ps1 e1 q1
    split at e
    · rename_i ds2 ps2 e2 q2
      cases e
      refine h1 σ H env L ds1 ps1 e1 _ re q1 fun vs M H1 hl hs r1 => ?_
      refine h2 σ H1 e1 _ ds2 ps2 _ _ r1 q2 fun zs N H2 hl2 hs2 r2 => ?_
      have app : ∀ {as bs : List Arg} {vs zs : List V} {p q : List (Option Part)} {M N : List (V × D)}, SlOk σ as vs p M → SlOk σ bs zs q N → SlOk σ (as ++ bs) (vs ++ zs) (p ++ q) (M ++ N) := by
        intro as bs vs zs p q M N h1 h2
        induction h1 with
        | nil => exact h2
        | ex h ih => exact .ex ih
        | sl e h ih => exact .sl e ih
        | pt e h ih => exact .pt e ih
      refine k (vs ++ zs) (M ++ N) H2 (by simp [hl, hl2]) (app hs hs2) ?_
      rw [List.zip_append hl]
      refine RE.perm ?_ r2
      show (zs.zip ds2 ++ (N ++ (vs.zip ds1 ++ (M ++ L)))).Perm (vs.zip ds1 ++ zs.zip ds2 ++ (M ++ N ++ L))
      rw [List.append_assoc, List.append_assoc]
      refine List.Perm.trans (List.Perm.append_left _ (pc3 N (vs.zip ds1) _)) ?_
      refine List.Perm.trans (pc3 _ _ _) (List.Perm.append_left _ (List.Perm.append_left _ ?_))
      exact pc3 N M L
    · cases e
  · cases e
theorem evs_len : ∀ {as : List Arg} {env env' : Env} {ds : List D} {ps : List (Option Part)}, evs as env = some (ds, ps, env') → ds.length = as.length
  | [], _, _, _, _, e => by cases e; rfl
  | a :: as, env, env', ds, ps, e => by
    unfold evs at e
    split at e
    · split at e
      · rename_i q; cases e; simp [evs_len q]
      · cases e
    · cases e
theorem den_callW {as bs : List Arg} {t tk : TA} {n np : Nat} {fm : List D → Option (D × List D)} (hl : ∀ ds z, fm ds = some z → ds.length = np) (hn : as.length = n) (hnb : bs.length = np - n) (ha : DenA K t as) (hb : DenA K tk bs) : DenE K (tCallW K n np fm t tk) (mApp fm (as ++ bs)) := by
  intro σ H env L d env' Q re e k
  obtain ⟨ds, ps, e1, os, h1, h2, h3, rfl⟩ := mApp_eq e
  rw [evs_append] at h1
  split at h1
  · rename_i ds1 ps1 ea q1
    split at h1
    · rename_i ds2 ps2 eb q2
      cases h1
      have z := den_app (da_append ha hb) (denR_sp (K := K) (E := E0) hl)
      refine ha σ H env L ds1 ps1 ea _ re q1 fun vs M H1 hl1 hs r1 => ?_
      refine hb σ H1 ea _ ds2 ps2 _ _ r1 q2 fun zs N H2 hl2 hs2 r2 => ⟨hl1.trans ((evs_len q1).trans hn), hl2.trans ((evs_len q2).trans hnb), ?_⟩
      have app : ∀ {as bs : List Arg} {vs zs : List V} {p q : List (Option Part)} {M N : List (V × D)}, SlOk σ as vs p M → SlOk σ bs zs q N → SlOk σ (as ++ bs) (vs ++ zs) (p ++ q) (M ++ N) := by
        intro as bs vs zs p q M N h1 h2
        induction h1 with
        | nil => exact h2
        | ex h ih => exact .ex ih
        | sl e h ih => exact .sl e ih
        | pt e h ih => exact .pt e ih
      have r3 : RE K H2 σ e1 ((vs ++ zs).zip (ds1 ++ ds2) ++ ((M ++ N) ++ L)) := by
        rw [List.zip_append hl1]
        refine RE.perm ?_ r2
        rw [List.append_assoc, List.append_assoc]
        refine List.Perm.trans (List.Perm.append_left _ (pc3 N (vs.zip ds1) _)) ?_
        refine List.Perm.trans (pc3 _ _ _) (List.Perm.append_left _ (List.Perm.append_left _ ?_))
        exact pc3 N M L
      obtain ⟨l, q, b⟩ := RE.to r3
      refine denR_sp (K := K) (E := E0) hl (vs ++ zs) (ds1 ++ ds2) H2 _ d os Q (by simp [hl1, hl2]) q h2 fun v H3 q3 => k v H3 ?_
      have q4 := b (H' := H3) (L1 := (v, d) :: (vs ++ zs).zip os) (by simpa using q3)
      refine RE.putB (app hs hs2) (L := (v, d) :: L) (RE.perm ?_ q4) (by simp [h3, hl1, hl2])
      show ((v, d) :: ((vs ++ zs).zip os ++ ((M ++ N) ++ L))).Perm ((vs ++ zs).zip os ++ ((M ++ N) ++ (v, d) :: L))
      exact (List.Perm.append_left _ List.perm_middle).trans List.perm_middle |>.symm
    · cases h1
  · cases h1
theorem j_callW {X : Cx} {x : Str} {e : Expr} {es : List Expr} {kws : List Keyword} {t tk : TA} {As Bs : List Arg} {ps : List Str} {n k : Nat} {fm : List D → Option (D × List D)} {p pos : Pos} (F : DfK X.prog X.w X.K X.mg X.base x ps n k fm) (hr : Room k X.A) (ha : LJ X (e :: es) t As) (hkw : KJ X kws tk Bs) (hn : As.length = n := by rfl) (hnb : Bs.length = ps.length - n := by rfl) (hg : Gl X x := by rfl) (hall : (backToKw pos (keywordEach kws X.env)).all (·.1.isSome) = true := by rfl) (hks : (backToKw pos (keywordEach kws X.env)).filterMap (·.1) = ps.drop n := by rfl)
    (hdb : (x == ("__debug__" : Str)) = false := by decide) (he : starEach (e :: es) X.env = (false, eval e X.env) :: starEach es X.env := by rfl) (hpl : ((backTo pos (starEach (e :: es) X.env)).any (·.1) || (backToKw pos (keywordEach kws X.env)).any (·.1.isNone)) = false := by rfl) :
    EJ X (.Call (.Name x p) (e :: es) kws pos) (tCallW X.fk n ps.length fm t tk) (mApp fm (As ++ Bs)) := ⟨pe_callW F hr ha.p hkw.p hg hall hks hdb he hpl, den_callW F.ln hn hnb ha.d hkw.d⟩
theorem j_callW0 {X : Cx} {x : Str} {kws : List Keyword} {tk : TA} {Bs : List Arg} {ps : List Str} {k : Nat} {fm : List D → Option (D × List D)} {p pos : Pos} (F : DfK X.prog X.w X.K X.mg X.base x ps 0 k fm) (hr : Room k X.A) (hkw : KJ X kws tk Bs) (hnb : Bs.length = ps.length - 0 := by rfl) (hg : Gl X x := by rfl) (hall : (backToKw pos (keywordEach kws X.env)).all (·.1.isSome) = true := by rfl) (hks : (backToKw pos (keywordEach kws X.env)).filterMap (·.1) = ps.drop 0 := by rfl)
    (hdb : (x == ("__debug__" : Str)) = false := by decide) (hpl : ((backTo pos (starEach [] X.env)).any (·.1) || (backToKw pos (keywordEach kws X.env)).any (·.1.isNone)) = false := by rfl) :
    EJ X (.Call (.Name x p) [] kws pos) (tCallW X.fk 0 ps.length fm tNil tk) (mApp fm Bs) := ⟨pe_callW0 F hr hkw.p hg hall hks hdb hpl, den_callW (as := []) F.ln rfl hnb da_nil hkw.d⟩
end VH

/-! sum(lists, start). -/
namespace VH
open PySem PySem.Spec PyProof.Rows
theorem args_sum2 (a b : Value) : argsOk "sum" ⟨[a, b], []⟩ := by unfold argsOk; kernel_rfl
section
variable {prog : Program} {w : World} {A : Around} {R : Result → Shared → Prop} {E : Value → Shared → Prop}
/-- the list at a, plain -/
def PL (h : Heap) (a : Addr) (vs : List Value) : Prop := ∃ n, h.get? a = some { cls := .type "list", data := .seq vs.toArray n }
theorem sumL_loop {I S l : Addr} {refs : List Addr} {its : List (List Value)} (acc : List Value) (hh : A.in1.handled = none) (hlI : l ≠ I) (hSI : S ≠ I) (hSl : S ≠ l) (hl : refs.length = its.length) (h0 : Heap) (hit : ∀ (j : Nat) (a : Addr) (vs : List Value), refs[j]? = some a → its[j]? = some vs → PL h0 a vs) (hI0 : h0.get? I = none) (hS0 : h0.get? S = none) (hl0 : h0.IsList l (refs.map Value.ref).toArray) (hz : (acc ++ its.flatten).length ≤ sizeLine) :
    ∀ (k i : Nat) (s : Shared) (T : Addr) (stage c : Int) (cc : Nat), (i = 0 ∨ stage = 2) → (stage = 2 ∨ stage = 0) → refs.length - i = k → i ≤ refs.length → (∀ b o, h0.get? b = some o → s.heap.get? b = some o) → s.heap.IsListIter I l i → s.heap.get? S = some { cls := .type "list", dict := none, data := .seq #[.ref T] cc, slots := #[] } →
      PL s.heap T (acc ++ (its.take i).flatten) → T ≠ I → T ≠ S → I < s.heap.objs.size → S < s.heap.objs.size → h0.objs.size ≤ s.heap.objs.size → (i ≠ 0 → h0.objs.size ≤ T) →
      (∀ h' tk T', (∀ b o, h0.get? b = some o → h'.get? b = some o) → PL h' T' (acc ++ its.flatten) → (its = [] → T' = T) → (its ≠ [] → h0.objs.size ≤ T') → R (.ok (.ret (.ref T'))) { s with heap := h', toks := tk }) →
      codeAny (model prog w) A (.builtin "sum.loop" ⟨[.ref I, .ref S, rawInt stage, rawInt 0], []⟩) R s := by
  intro k
  induction k with
  | zero =>
    intro i s T stage c cc hs1 hs2 hk hi hkp hti hS hT nTI nTS lI lS lz hTz hR
    obtain rfl : i = refs.length := by omega
    have hls : s.heap.IsList l (refs.map Value.ref).toArray := hl0.at fun o e => hkp _ _ e
    refine codeAny_builtin F.entry_sum_loop ?_
    rw [Around.under_plainId F.plain_sum_loop _]
    show wpAny _ A.in1 (seqItems? (.ref S) >>= _) _ _ s
    refine wpAny_bind (wpAny_seqItems hS rfl ?_)
    show wpAny _ A.in1 (tryCatch (pyNext (.ref I)) _ >>= _) _ _ s
    refine wpAny_bind (wpAny_tryCatch (wpAny_pyNext_list_end hh hti hls (by simp) fun h' he => ?_))
    have e : its.take refs.length = its := List.take_of_length_le (by omega)
    rw [e] at hT
    refine wpAny_pure (hR h' s.toks T (fun b o q => he b o (fun z => ?_) (hkp b o q)) ?_ (fun _ => rfl) fun z => hTz fun z0 => z (List.length_eq_zero_iff.mp (hl.symm.trans z0)))
    · rw [z, hI0] at q; cases q
    · obtain ⟨n, q⟩ := hT
      exact ⟨n, he T _ nTI q⟩
  | succ k ih =>
    intro i s T stage c cc hs1 hs2 hk hi hkp hti hS hT nTI nTS lI lS lz hTz hR
    have hlt : i < refs.length := by omega
    have hlt2 : i < its.length := by omega
    have hls : s.heap.IsList l (refs.map Value.ref).toArray := hl0.at fun o e => hkp _ _ e
    have hr : refs[i]? = some refs[i] := List.getElem?_eq_getElem hlt
    have hv : its[i]? = some its[i] := List.getElem?_eq_getElem hlt2
    refine codeAny_builtin F.entry_sum_loop ?_
    rw [Around.under_plainId F.plain_sum_loop _]
    show wpAny _ A.in1 (seqItems? (.ref S) >>= _) _ _ s
    refine wpAny_bind (wpAny_seqItems hS rfl ?_)
    show wpAny _ A.in1 (tryCatch (pyNext (.ref I)) _ >>= _) _ _ s
    refine wpAny_bind (wpAny_tryCatch (wpAny_pyNext_list_item (x := .ref refs[i]) hti hls (by simp [hr]) fun h1 hti1 sb1 => ?_))
    have hS1 : h1.get? S = some { cls := .type "list", dict := none, data := .seq #[.ref T] cc, slots := #[] } := (sb1.2 S hSI).trans hS
    obtain ⟨nT, gT⟩ := hT
    have gT1 : h1.get? T = _ := (sb1.2 T nTI).trans gT
    obtain ⟨nv, gv⟩ := hit i refs[i] its[i] hr hv
    have nvI : refs[i] ≠ I := fun z => by rw [z, hI0] at gv; cases gv
    have gv1 : h1.get? refs[i] = _ := (sb1.2 _ nvI).trans (hkp _ _ gv)
    have etake : (its.take (i + 1)).flatten = (its.take i).flatten ++ its[i] := by
      rw [List.take_succ_eq_append_getElem hlt2, List.flatten_append]; simp
    have len1 : (acc ++ (its.take i).flatten).length + its[i].length ≤ sizeLine := by
      have e : its.flatten = (its.take (i + 1)).flatten ++ (its.drop (i + 1)).flatten := by rw [← List.flatten_append, List.take_append_drop]
      rw [e, etake] at hz
      simp only [List.length_append] at hz ⊢
      omega
    have go : ∀ (s1 : Shared), s1 = { s with heap := h1 } → wpAny (model prog w) A.in1 ((holding [Value.ref refs[i]] (binaryOp .Add (.ref T) (.ref refs[i]))).attempt >>= fun x => match x with
        | .ok r => do updateSeq S fun _ => #[r]; letGo [.ref T, .ref refs[i]]; updateSeq S fun _ => #[r]; again (.builtin "sum.loop" ⟨[.ref I, .ref S, rawInt 2, rawInt 0], []⟩)
        | .error e => do updateSeq S fun _ => #[]; letGo [.ref T, .ref refs[i]] [e]; throw e) (fun fin s' => match fin with | .done f => R (.ok f) s' | .again c' => c'.quiet = true ∧ codeAny (model prog w) A c' R s') (fun e s' => R (.error e) s') s1 := by
      rintro s1 rfl
      refine wpAny_bind (wpAny_attempt (wpAny_holding (PySem.P.add_list gT1 gv1 ?_ (by simpa using len1))))
      show wpAny _ A.in1 (updateSeq S (fun _ => #[.ref h1.objs.size]) >>= _) _ _ _
      have hS2 : (h1.push { cls := Value.type "list", data := Data.seq ((acc ++ (its.take i).flatten).toArray ++ its[i].toArray) }).get? S = some { cls := .type "list", dict := none, data := .seq #[.ref T] cc, slots := #[] } := Heap.get?_push_of_some _ hS1
      refine wpAny_bind ?_
      refine wpAny_updateSeq hS2 rfl ?_
      have hS3 := Heap.get?_update_self (Obj.mapSeq fun _ => #[Value.ref h1.objs.size]) hS2 rfl
      refine wpAny_bind (wpAny_letGo ?_)
      refine wpAny_bind ?_
      refine wpAny_updateSeq hS3 rfl ?_
      have hS4 := Heap.get?_update_self (Obj.mapSeq fun _ => #[Value.ref h1.objs.size]) hS3 rfl
      have sz1 : h1.objs.size = s.heap.objs.size := sb1.1
      have oth : ∀ b o, b ≠ S → h1.get? b = some o → (((h1.push { cls := Value.type "list", data := Data.seq ((acc ++ (its.take i).flatten).toArray ++ its[i].toArray) }).update S (Obj.mapSeq fun _ => #[Value.ref h1.objs.size])).update S (Obj.mapSeq fun _ => #[Value.ref h1.objs.size])).get? b = some o := fun b o hb e =>
        (Heap.get?_update_other _ _ (Ne.symm hb)).trans ((Heap.get?_update_other _ _ (Ne.symm hb)).trans (Heap.get?_push_of_some _ e))
      have nSnew : S ≠ h1.objs.size := by rw [sz1]; exact Nat.ne_of_lt lS
      have new : PL (((h1.push { cls := Value.type "list", data := Data.seq ((acc ++ (its.take i).flatten).toArray ++ its[i].toArray) }).update S (Obj.mapSeq fun _ => #[Value.ref h1.objs.size])).update S (Obj.mapSeq fun _ => #[Value.ref h1.objs.size])) h1.objs.size (acc ++ (its.take (i + 1)).flatten) := by
        refine ⟨0, (Heap.get?_update_other _ _ nSnew).trans ((Heap.get?_update_other _ _ nSnew).trans ((Heap.get?_push_size _ rfl).trans ?_))⟩
        rw [etake]; simp
      refine wpAny_pure ⟨plainId_quiet F.plain_sum_loop _, ih (i + 1) _ h1.objs.size 2 c _ (.inr rfl) (.inl rfl) (by omega) hlt (fun b o e => ?_) (hti1.at fun o e => oth I o (Ne.symm hSI) e) hS4 new (by rw [sz1]; exact Nat.ne_of_gt lI) (by rw [sz1]; exact Nat.ne_of_gt lS) ?_ ?_ ?_ (fun _ => by rw [sz1]; exact lz) fun h' tk T' k1 k2 k3 k4 => ?_⟩
      · have nI : b ≠ I := fun z => by rw [z, hI0] at e; cases e
        have nS : b ≠ S := fun z => by rw [z, hS0] at e; cases e
        exact oth b o nS ((sb1.2 b nI).trans (hkp b o e))
      · show I < _
        rw [Heap.size_update, Heap.size_update, Heap.size_push, sz1]; exact Nat.lt_succ_of_lt lI
      · show S < _
        rw [Heap.size_update, Heap.size_update, Heap.size_push, sz1]; exact Nat.lt_succ_of_lt lS
      · rw [Heap.size_update, Heap.size_update, Heap.size_push, sz1]; omega
      · exact hR h' tk T' k1 k2 (fun z => by rw [z] at hlt2; simp at hlt2) k4
    exact go _ rfl
end
section
variable {prog : Program} {w : World} {A : Around} {E : Value → Shared → Prop} {s : Shared}
theorem sumL_call {l st : Addr} {refs : List Addr} {its : List (List Value)} {acc : List Value} {Q : Value → Shared → Prop} (hh : A.handled = none) (hl : s.heap.IsList l (refs.map Value.ref).toArray) (hst : PL s.heap st acc) (hlen : refs.length = its.length)
    (hit : ∀ (j : Nat) (a : Addr) (vs : List Value), refs[j]? = some a → its[j]? = some vs → PL s.heap a vs) (hz : (acc ++ its.flatten).length ≤ sizeLine)
    (hQ : ∀ h' tk T', (∀ b o, s.heap.get? b = some o → h'.get? b = some o) → PL h' T' (acc ++ its.flatten) → (its = [] → T' = st) → (its ≠ [] → s.heap.objs.size ≤ T') → Q (.ref T') { s with heap := h', toks := tk }) :
    wpAny (model prog w) A (call (.builtin "sum") [.ref l, .ref st]) Q E s := by
  have hlt : l < s.heap.objs.size := by obtain ⟨o, ho, _⟩ := hl; exact Heap.lt_size ho
  have hstt : st < s.heap.objs.size := by obtain ⟨n, ho⟩ := hst; exact Heap.lt_size ho
  refine call_function_tree F.kind_sum F.plain_sum F.entry_sum (args_sum2 _ _) ?_
  unfold Builtin.«sum»
  simp only [List.length_cons, List.length_nil]
  rw [if_neg (by decide)]
  refine wpAny_bind (wpAny_of_eq (show Builtin.Builtins.bindParams "sum" ["start"] 0 ⟨[.ref st], []⟩ = pure [some (.ref st)] from rfl) ?_)
  refine wpAny_bind (wpAny_pyIter_list hl ?_)
  refine wpAny_bind (wpAny_pure ?_)
  have k1 : ∀ b o, s.heap.get? b = some o → (s.heap.push { cls := .type "list_iterator", data := .fields #[.ref l, .int 0 0] }).get? b = some o := fun b o e => Heap.get?_push_of_some _ e
  obtain ⟨n, hst'⟩ := id hst
  have tst : Shared.TypeIs { s with heap := s.heap.push { cls := .type "list_iterator", data := .fields #[.ref l, .int 0 0] } } (.ref st) "list" := ⟨_, k1 _ _ hst', rfl⟩
  have n1 : isSubtype (.type "list") (.type "str") = pure false := by rw [isSubtype_type]; kernel_rfl
  have n2 : isSubtype (.type "list") (.type "bytes") = pure false := by rw [isSubtype_type]; kernel_rfl
  have n3 : isSubtype (.type "list") (.type "bytearray") = pure false := by rw [isSubtype_type]; kernel_rfl
  simp only [List.forIn_cons, List.forIn_nil]
  refine wpAny_bind (wpAny_bind (wpAny_bind (wpAny_isInstance (T := "list") (b := false) tst n1 ?_)))
  simp only [Bool.false_eq_true, if_false]
  refine wpAny_pure (wpAny_bind (wpAny_bind (wpAny_isInstance (T := "list") (b := false) tst n2 ?_)))
  simp only [Bool.false_eq_true, if_false]
  refine wpAny_pure (wpAny_bind (wpAny_bind (wpAny_isInstance (T := "list") (b := false) tst n3 ?_)))
  simp only [Bool.false_eq_true, if_false]
  refine wpAny_pure (wpAny_pure ?_)
  refine wpAny_bind (wpAny_newObj_type ?_)
  have z1 : (s.heap.push { cls := .type "list_iterator", data := .fields #[.ref l, .int 0 0] }).objs.size = s.heap.objs.size + 1 := Heap.size_push ..
  refine wpAny_pure ⟨plainId_quiet F.plain_sum_loop _, sumL_loop (refs := refs) (its := its) (l := l) (I := s.heap.objs.size) (S := (s.heap.push { cls := .type "list_iterator", data := .fields #[.ref l, .int 0 0] }).objs.size) acc hh (Nat.ne_of_lt hlt) (by rw [z1]; exact Nat.succ_ne_self _) (by rw [z1]; exact Nat.ne_of_gt (Nat.lt_succ_of_lt hlt)) hlen s.heap hit (Heap.get?_none_of_le (Nat.le_refl _)) (Heap.get?_none_of_le (by rw [z1]; exact Nat.le_succ _)) hl hz _ 0 _ st 2 0 _ (.inl rfl) (.inl rfl) rfl (Nat.zero_le _) (fun b o e => Heap.get?_push_of_some _ (k1 b o e)) ⟨_, Heap.get?_push_of_some _ (Heap.get?_push_size _ rfl), rfl, rfl⟩ (Heap.get?_push_size _ rfl) ?_ (Nat.ne_of_lt hstt) (by rw [z1]; exact Nat.ne_of_lt (Nat.lt_succ_of_lt hstt)) ?_ ?_ ?_ (fun z => absurd rfl z) fun h' tk T' a b c d => hQ h' tk T' a b c d⟩
  · exact ⟨n, by simpa using Heap.get?_push_of_some _ (k1 _ _ hst')⟩
  · rw [Heap.size_push, z1]; exact Nat.lt_succ_of_lt (Nat.lt_succ_self _)
  · exact Nat.lt_of_lt_of_eq (Nat.lt_succ_self _) (Heap.size_push ..).symm
  · rw [Heap.size_push, z1]; omega
end
open L2 in
/-- sum(lists, start) -/
def rSumL (K : PySem.W.Frag) : List V → Hp → VK → Prop := fun vs H Q => ∃ (l st : Addr) (refs : List Addr) (xss : List (List V)) (acc : List V), vs = [.ref l, .ref st] ∧ SqL K H l (refs.map V.ref) ∧ H st = some (.lst acc) ∧ refs.length = xss.length ∧ (∀ (j : Nat) (a : Addr) (xs : List V), refs[j]? = some a → xss[j]? = some xs → H a = some (.lst xs)) ∧ (acc ++ xss.flatten).length ≤ sizeLine ∧
  (xss = [] → Q (.ref st) H) ∧ (xss ≠ [] → ∀ p, H p = none → Q (.ref p) (L2.upd H p (.lst (acc ++ xss.flatten))))
theorem sumL_read {X : L2.Cx} {pins : List (Addr × Obj)} {σ : L2.St} {H : L2.Hp} {s : Shared} (I : L2.Inv X pins σ H s) : ∀ {refs : List Addr} {xss : List (List L2.V)}, refs.length = xss.length → (∀ (j : Nat) (a : Addr) (xs : List L2.V), refs[j]? = some a → xss[j]? = some xs → H a = some (.lst xs)) →
    ∃ its : List (List Value), its.length = refs.length ∧ L2.Vals xss.flatten its.flatten ∧ ∀ (j : Nat) (a : Addr) (vs : List Value), refs[j]? = some a → its[j]? = some vs → PL s.heap a vs
  | [], [], _, _ => ⟨[], rfl, .nil, fun j a vs e => by simp at e⟩
  | a :: refs, xs :: xss, hl, h => by
    obtain ⟨its, l1, v1, p1⟩ := sumL_read I (refs := refs) (xss := xss) (by simpa using hl) fun j b ys e1 e2 => h (j + 1) b ys (by simpa using e1) (by simpa using e2)
    obtain ⟨z, us, n, rv, e⟩ := (show L2.ObjOk X.prog X.w H s.heap a (.lst xs) from I.hok a _ (h 0 a xs rfl rfl))
    refine ⟨us :: its, by simp [l1], by simpa using rv.append v1, fun j b vs e1 e2 => ?_⟩
    cases j with
    | zero =>
      simp at e1 e2
      subst e1; subst e2
      exact ⟨n, e⟩
    | succ j => exact p1 j b vs (by simpa using e1) (by simpa using e2)
  | [], _ :: _, hl, _ => by simp at hl
  | _ :: _, [], hl, _ => by simp at hl
theorem cr_sumL {X : L2.Cx} (hc : X.calm = true) : L2.CallR X (.builtin "sum") (rSumL X.K) := by
  intro pins s σ H vs us Q I r h
  obtain ⟨l, st, refs, xss, acc, rfl, hl, hst, hlen, hit, hz, q0, q1⟩ := h
  obtain ⟨u1, u2, rfl, r1, r2⟩ := L2.vals2 r
  cases r1
  cases r2
  obtain ⟨irefs, rv, pl, _⟩ := I.list hl
  have e1 : irefs = refs.map Value.ref := L2.refs_at rv
  subst e1
  obtain ⟨za, ia, na, rva, ea⟩ := (show L2.ObjOk X.prog X.w H s.heap st (.lst acc) from I.hok st _ hst)
  obtain ⟨its, l1, v1, p1⟩ := sumL_read I hlen hit
  have rall : L2.Vals (acc ++ xss.flatten) (ia ++ its.flatten) := rva.append v1
  refine sumL_call (I.ok.hd hc) pl.isList ⟨na, ea⟩ l1.symm p1 (by rw [← rall.length]; exact hz) fun h' tk T' k1 k2 k3 k4 => ?_
  by_cases hx : xss = []
  · have hi : its = [] := List.length_eq_zero_iff.mp (by rw [l1, hlen, hx]; rfl)
    obtain rfl := k3 hi
    exact ⟨.ref T', H, I.kept (t' := tk) k1, rfl, q0 hx⟩
  · obtain ⟨n, e⟩ := k2
    have hne : its ≠ [] := fun z => hx (List.length_eq_zero_iff.mp (by rw [← hlen, ← l1, z]; rfl))
    have k4 := k4 hne
    have hn : H T' = none := I.hok.fresh k4
    have new : L2.ObjOk X.prog X.w (L2.upd H T' (.lst (acc ++ xss.flatten))) h' T' (.lst (acc ++ xss.flatten)) := ⟨hz, ia ++ its.flatten, n, rall, e⟩
    exact ⟨.ref T', _, I.laid (t' := tk) k1 k4 new, rfl, q1 hx T' hn⟩
end VH

namespace VH
open PySem L2
variable {K : Fk}
/-! ### sum(lists, start) over data -/
def listsD : List D → Option (List (List D))
  | [] => some []
  | .nd _ .lst ys :: xs => (listsD xs).map (ys :: ·)
  | _ :: _ => none
theorem lists_read {H : Hp} : ∀ {xs : List D} {us : List V} {yss : List (List D)} {L : List (V × D)}, us.length = xs.length → R K H (us.zip xs ++ L) → listsD xs = some yss → ∃ (refs : List Addr) (vss : List (List V)), us = refs.map V.ref ∧ refs.length = vss.length ∧ vss.length = yss.length ∧ vss.flatten.length = yss.flatten.length ∧ (∀ (j : Nat) (a : Addr) (vs : List V), refs[j]? = some a → vss[j]? = some vs → H a = some (.lst vs)) ∧ R K H (vss.flatten.zip yss.flatten ++ L)
  | [], [], yss, L, _, r, e => by cases e; exact ⟨[], [], rfl, rfl, rfl, rfl, fun j a vs e => by simp at e, r⟩
  | x :: xs, u :: us, yss, L, hl, r, e => by
    unfold listsD at e
    split at e
    · rename_i e0; cases e0
    · rename_i m ys xs0 e0
      cases e0
      simp only [Option.map_eq_some_iff] at e
      obtain ⟨zss, hz, rfl⟩ := e
      have r1 : R K H ((u, .nd m .lst ys) :: (us.zip xs ++ L)) := r
      obtain ⟨p, o, vs, rfl, h1, f, l, r2⟩ := R.kids r1
      cases f
      have r3 : R K H (us.zip xs ++ (vs.zip ys ++ L)) := r2.perm (pc3 _ _ _)
      obtain ⟨refs, vss, e1, e2, e3, e3b, e4, r4⟩ := lists_read (by simpa using hl) r3 hz
      refine ⟨p :: refs, vs :: vss, by rw [e1]; rfl, by simp [e2], by simp [e3], by simp [l, e3b], fun j a ws h2 h3 => ?_, ?_⟩
      · cases j with
        | zero => simp at h2 h3; subst h2; subst h3; exact h1
        | succ j => exact e4 j a ws (by simpa using h2) (by simpa using h3)
      · rw [List.flatten_cons, List.flatten_cons, List.zip_append l, List.append_assoc]
        exact r4.perm (pc3 _ _ _)
    · cases e
  | [], _ :: _, _, _, hl, _, _ => by simp at hl
  | _ :: _, [], _, _, hl, _, _ => by simp at hl
def fSumL : List D → Option (D × List D)
  | [.nd _ .lst xs, .nd m .lst st] => match listsD xs with
    | some yss => if (st ++ yss.flatten).length ≤ sizeLine then some (if yss.isEmpty then .nd m .lst st else .nd true .lst (st ++ yss.flatten), [.any, .any]) else none
    | none => none
  | _ => none
theorem den_sumL : DenR K (rSumL K) fSumL := by
  intro vs ds H L d os Q hl r e k
  unfold fSumL at e
  split at e
  · rename_i m xs m2 st
    split at e
    · rename_i yss hy
      split at e
      · rename_i hz
        cases e
        obtain ⟨u, v, rfl⟩ := len2 hl
        obtain ⟨a, o, us, rfl, h1, f, l1, r1⟩ := R.kids r
        cases f
        obtain ⟨refs, vss, e1, e2, e3, e3b, e4, r2⟩ := lists_read l1 r1 hy
        have r3 : R K H ((v, .nd m2 .lst st) :: (vss.flatten.zip yss.flatten ++ L)) := r2.perm List.perm_middle
        obtain ⟨b, o2, ws, rfl, h2, f2, l2, r4⟩ := R.kids r3
        cases f2
        refine ⟨a, b, refs, vss, ws, rfl, .inl (.inl (by rw [← e1]; exact h1)), h2, e2, e4, by simp only [List.length_append] at hz ⊢; omega, fun hx => ?_, fun hx p hp => ?_⟩
        · have hy0 : yss = [] := List.length_eq_zero_iff.mp (by rw [← e3, hx]; rfl)
          subst hy0
          have r5 : R K H ((.ref b, .nd m2 .lst st) :: (us.zip xs ++ L)) := r1.perm List.perm_middle
          have hus : us.zip xs = [] := by
            have : us = [] := by rw [e1, List.length_eq_zero_iff.mp (e2.trans (by rw [hx]; rfl))]; rfl
            rw [this]; rfl
          rw [hus] at r5
          exact k _ H (R.any2 r5)
        · have hy1 : yss.isEmpty = false := by
            cases yss with
            | nil => exact absurd (List.length_eq_zero_iff.mp (by rw [e3]; rfl)) hx
            | cons y ys => rfl
          simp only [hy1] at k
          have r5 : R K H ((ws ++ vss.flatten).zip (st ++ yss.flatten) ++ L) := by
            rw [List.zip_append l2, List.append_assoc]
            exact r4
          exact k _ _ (R.any2 (R.makeN (by simp [l2, e3b]) r5 hp (.lst _)))
      · cases e
    · cases e
  · cases e
/-! ### an own == -/
def rOwnEq (K : Fk) (C : Addr) (fm : List D → Option (D × List D)) : R2 := fun x y H Q => ∃ a b dx dy fs gs, x = .ref a ∧ y = .ref b ∧ H a = some (.ins C dx fs) ∧ H b = some (.ins C dy gs) ∧ spD K 2 fm [x, y] H (fun v H' => (∃ r, v = .bl r) ∧ Q v H') E0
theorem op_ownEq {X : Cx} {C f : Addr} {k : Nat} {fm : List D → Option (D × List D)} (F : Fx X.prog X.w X.K X.mg X.base f 2 k fm) (hs : PySem.W.findIn X.K (.ref C) "__eq__" = some (some (.ref f))) (hf : PySem.W.isFn X.K (.ref f) = true) (hr : Room k X.A) : OpR X (compareOp .Eq) (rOwnEq X.fk C fm) := by
  intro pins s σ H x y v u Q I rx ry h
  obtain ⟨a, b, dx, dy, fs, gs, rfl, rfl, ha, hb', hsp⟩ := h
  obtain ⟨fd, ps, F1, hb⟩ := F.ex
  cases rx
  cases ry
  obtain ⟨mA, J, _⟩ := ins_get I.hok ha
  obtain ⟨mB, J', _⟩ := ins_get I.hok hb'
  obtain ⟨od, J, _⟩ := J.look
  obtain ⟨od', J', _⟩ := J'.look
  obtain ⟨m, hF⟩ := I.fr
  refine PySem.W.cmp_K (op := .Eq) (tb := .ref C) hr.units0 hF I.ok.mod.kin J J'.type (by simp [PySem.W.notFirst]) hs hf ?_
  have hl := F1.len _ _ _ _ hsp
  have r2 : Vals [V.ref a, V.ref b] [Value.ref a, Value.ref b] := .cons rfl (.cons rfl .nil)
  have bt := hb s [.ref a, .ref b] I.kIn (by simpa using hl)
  rw [List.append_nil] at bt
  refine wpAny_call (codeAny_mono (F1.run X.A X.stack s H ⟨[.ref a, .ref b], []⟩ [.ref a, .ref b] [.ref a, .ref b] _ E0 hr I.env0 bt r2 hsp) fun r s' hq => ?_)
  cases r with
  | error e => exact passL pins σ H s e s' I hq
  | ok fl =>
    cases fl with
    | ret w =>
      obtain ⟨z, H', I', rz, ⟨q, rfl⟩, q2⟩ := I.after hq
      cases rz
      exact ⟨.bl q, H', I', rfl, q2⟩
    | next => exact False.elim hq
    | brk => exact False.elim hq
    | cont => exact False.elim hq
def fOwnEq (C : Addr) (fm : List D → Option (D × List D)) : List D → Option (D × List D)
  | [.nd m (.ins C1 ns) xs, .nd m2 (.ins C2 ms) ys] => if C1 = C ∧ C2 = C then (match fm [.nd m (.ins C1 ns) xs, .nd m2 (.ins C2 ms) ys] with
    | some (.bl r, os) => some (.bl r, os)
    | _ => none) else none
  | _ => none
theorem den_ownEq {C : Addr} {fm : List D → Option (D × List D)} (hn : ∀ ds z, fm ds = some z → ds.length = 2) : DenR K (r2L (rOwnEq K C fm)) (fOwnEq C fm) := by
  intro vs ds H L d os Q hl r e k
  unfold fOwnEq at e
  split at e
  · rename_i m C1 ns xs m2 C2 ms ys
    split at e
    · rename_i hC
      obtain ⟨rfl, rfl⟩ := hC
      split at e
      · rename_i q os' hq
        cases e
        obtain ⟨x, y, rfl⟩ := len2 hl
        obtain ⟨a, o, us, rfl, h1, _, f1, _⟩ := R.look r
        obtain ⟨b, o2, ws, rfl, h2, _, f2, _⟩ := R.look r.tail
        obtain ⟨dx, fs, rfl, _, _⟩ := fits_ins f1
        obtain ⟨dy, gs, rfl, _, _⟩ := fits_ins f2
        refine ⟨a, b, dx, dy, fs, gs, rfl, rfl, h1, h2, rfl, L, _, _, _, rfl, r, hq, fun v H' r4 => ?_⟩
        have rv : v = .bl q := R.vbl (L := ([V.ref a, V.ref b].zip os ++ L)) r4
        exact ⟨⟨q, rv⟩, k _ H' r4⟩
      · cases e
    · cases e
  · cases e
/-- ==: of data, of instances of C -/
def fEqA (C : Addr) (fm : List D → Option (D × List D)) (ds : List D) : Option (D × List D) := match fEq ds with
  | some z => some z
  | none => fOwnEq C fm ds
def rEqA (K : Fk) (C : Addr) (fm : List D → Option (D × List D)) : R2 := fun x y H Q => rEqD K x y H Q ∨ rOwnEq K C fm x y H Q
theorem op_eqA {X : Cx} {C f : Addr} {k : Nat} {fm : List D → Option (D × List D)} (F : Fx X.prog X.w X.K X.mg X.base f 2 k fm) (hs : PySem.W.findIn X.K (.ref C) "__eq__" = some (some (.ref f))) (hf : PySem.W.isFn X.K (.ref f) = true) (hr : Room k X.A) : OpR X (compareOp .Eq) (rEqA X.fk C fm) := (op_eqD hr.units).or (op_ownEq F hs hf hr)
theorem den_eqA {C : Addr} {fm : List D → Option (D × List D)} (hn : ∀ ds z, fm ds = some z → ds.length = 2) : DenR K (r2L (rEqA K C fm)) (fEqA C fm) := by
  intro vs ds H L d os Q hl r e k
  unfold fEqA at e
  have two : ds.length = 2 := by
    split at e
    · rename_i z hz
      match ds, hz with
      | [a, b], _ => rfl
      | [], h => cases h
      | [a], h => simp [fEq, fEqB] at h
      | _ :: _ :: _ :: _, h => simp [fEq, fEqB] at h
    · match ds, e with
      | [a, b], _ => rfl
      | [], h => cases h
      | [a], h => simp [fOwnEq] at h
      | _ :: _ :: _ :: _, h => simp [fOwnEq] at h
  obtain ⟨a, b, rfl⟩ : ∃ a b, ds = [a, b] := by
    match ds, two with
    | [a, b], _ => exact ⟨a, b, rfl⟩
  obtain ⟨x, y, rfl⟩ := len2 hl
  split at e
  · rename_i z hz
    cases e
    exact .inl (den_eq [x, y] [a, b] H L d os Q hl r hz k)
  · exact .inr (den_ownEq hn [x, y] [a, b] H L d os Q hl r e k)
/-! ### isinstance(x, C), C an own class -/
structure ClsY (K : PySem.W.Frag) (C : Addr) : Prop where
  ha : PySem.W.findIn K (.ref C) "__class__" = some (some (.builtin "object.__class__"))
  hn : PySem.W.specialIn K (.builtin "object.__class__") "__get__" = some (some (.builtin "getset_descriptor.__get__"))
  htk : PySem.W.takesIn K (.builtin "object.__class__") = some true
  hm : PySem.W.mroIn K C (.type "object") = some true
  no : ∀ T ∈ ["NoneType", "bool", "int", "str", "list", "tuple", "dict"], PySem.W.kitOne K (.type T) (.ref C) = some false
/-- all of it by one look -/
def clsYB (K : PySem.W.Frag) (C : Addr) : Bool := decide (PySem.W.findIn K (.ref C) "__class__" = some (some (.builtin "object.__class__"))) && (decide (PySem.W.specialIn K (.builtin "object.__class__") "__get__" = some (some (.builtin "getset_descriptor.__get__"))) && (decide (PySem.W.takesIn K (.builtin "object.__class__") = some true) && (decide (PySem.W.mroIn K C (.type "object") = some true) && ["NoneType", "bool", "int", "str", "list", "tuple", "dict"].all fun T => decide (PySem.W.kitOne K (.type T) (.ref C) = some false))))
theorem clsY_of {K : PySem.W.Frag} {C : Addr} (h : clsYB K C = true) : ClsY K C := by
  simp only [clsYB, Bool.and_eq_true, decide_eq_true_eq, List.all_eq_true] at h
  exact ⟨h.1, h.2.1, h.2.2.1, h.2.2.2.1, h.2.2.2.2⟩
def fIsiC (C : Addr) : List D → Option (D × List D)
  | [x, .ref C2] => if C2 = C then (match x with
    | .nd m (.ins C1 ns) xs => if C1 = C then some (.bl true, [x, .any]) else none
    | _ => match x.ty with
      | some _ => some (.bl false, [x, .any])
      | none => none) else none
  | _ => none
theorem ty_in {x : D} {a : String} (h : x.ty = some a) : a ∈ ["NoneType", "bool", "int", "str", "list", "tuple", "dict"] := by
  cases x <;> simp only [D.ty] at h
  case nd m h' xs => cases h' <;> cases h <;> decide
  all_goals (cases h; try decide)
theorem den_isiC {C : Addr} (c : Cls K C) (y : ClsY K C) : DenR K (rIsi K) (fIsiC C) := by
  intro vs ds H L d os Q hl r e k
  unfold fIsiC at e
  split at e
  · rename_i x C2
    split at e
    · rename_i hC
      subst hC
      obtain ⟨u, v, rfl⟩ := len2 hl
      obtain rfl := r.tail.vref
      have kk : ∀ b : Bool, R K H ((.bl b, .bl b) :: ([u, .ref C2].zip [x, .any] ++ L)) := fun b => R.atom (R.perm (List.Perm.swap _ _ _) ((R.perm (List.Perm.swap _ _ _) r).tail.atom (.any _))) (.bl b)
      split at e
      · rename_i m C1 ns xs
        split at e
        · rename_i hC1
          subst hC1
          cases e
          obtain ⟨p, o, us, rfl, h1, _, f, l⟩ := R.look r
          obtain ⟨dx, fs, rfl, _, _⟩ := fits_ins f
          refine ⟨.ref p, .ref C1, .ref C1, .ref C1, true, rfl, .own C1, .base (.ins h1 c y.ha y.hn y.htk y.hm), ?_, k _ H (kk true)⟩
          unfold PySem.W.kitOne
          rw [if_pos (by simp)]
        · cases e
      · rename_i hx
        split at e
        · rename_i a ha
          cases e
          refine ⟨u, .ref C2, .type a, .ref C2, false, rfl, .own C2, ?_, y.no a (ty_in ha), k _ H (kk false)⟩
          cases x <;> simp only [D.ty] at ha
          case non => cases ha; rw [r.vnon]; exact .base .non
          case bl => cases ha; rw [r.vbl]; exact .base (.bl _)
          case int => cases ha; rw [r.vint]; exact .base (.int _)
          case str => cases ha; rw [r.vstr]; exact .base (.str _)
          case nd m h xs =>
            obtain ⟨p, o, us, rfl, h1, _, f, l⟩ := R.look r
            cases h <;> cases ha
            · cases f; exact .base (.tup h1)
            · cases f; exact .base (.lst h1)
            · cases f; exact .base (.dK h1)
            · cases f; exact .base (.dT h1)
          all_goals cases ha
        · cases e
    · cases e
  · cases e
end VH

namespace VH
open PySem L2
variable {K : Fk}
/-! ### list(d.items()) -/
def itemsD : List Key → List D → List D
  | k :: ks, x :: xs => .nd false .tup [keyD k, x] :: itemsD ks xs
  | _, _ => []
theorem items_own {F' H' : Hp} : ∀ {ts : List Addr} {kvs : List (Key × V)} {ys : List D} {f : List Addr}, Paired (fun (t : Addr) (q : Key × V) => F' t = some (.tup [kV q.1, q.2])) ts kvs → kvs.length = ys.length → D.isFzL ys = true → OwnL K F' H' ((kvs.map (·.2)).zip ys) f → OwnL K F' H' ((ts.map V.ref).zip (itemsD (kvs.map (·.1)) ys)) []
  | [], _, ys, f, .nil, hl, _, _ => by
    cases ys with
    | nil => exact .nil
    | cons _ _ => simp at hl
  | t :: ts, _, [], f, .cons h r, hl, _, _ => by simp at hl
  | t :: ts, _, y :: ys, f, .cons (b := q) (l₂ := kvs) h r, hl, hf, o => by
    simp only [D.isFzL, Bool.and_eq_true] at hf
    cases o with
    | cons o1 o2 =>
      have e := o1.isFz hf.1
      subst e
      have ih := items_own r (by simpa using hl) hf.2 o2
      refine .cons (f := []) ?_ ih
      have two : OwnL K F' H' [(kV q.1, keyD q.1), (q.2, y)] [] := .cons (f := []) (.atom (kV_c q.1)) (.cons (f := []) (g := []) o1 .nil)
      exact .frz (h := .tup) (o := .tup [kV q.1, q.2]) (ps := [(kV q.1, keyD q.1), (q.2, y)]) h (.tup _) two
theorem R.items {H H' : Hp} {L : List (V × D)} {p : Addr} {ts : List Addr} {kvs : List (Key × V)} {ys : List D} (hl : kvs.length = ys.length) (hf : D.isFzL ys = true) (r : R K H ((kvs.map (·.2)).zip ys ++ L)) (s : Same H H') (hp : H p = none) (ht : ∀ t ∈ ts, H t = none) (hpt : p ∉ ts) (hpo : H' p = some (.lst (ts.map V.ref)))
    (hq : Paired (fun (t : Addr) (q : Key × V) => H' t = some (.tup [kV q.1, q.2])) ts kvs) : R K H' ((.ref p, .nd true .lst (itemsD (kvs.map (·.1)) ys)) :: L) := by
  classical
  obtain ⟨F, fp, s0, o, n, f⟩ := r
  obtain ⟨f1, f2, o1, o2, rfl⟩ := o.split
  have e1 : f1 = [] := o1.isFz (by rw [map_zip2 (by simpa using hl)]; exact hf)
  subst e1
  let F' : Hp := fun b => if H b = none ∧ b ≠ p then H' b else F b
  have sFF : Same F F' := fun b u e => by
    have hb : ¬ (H b = none ∧ b ≠ p) := fun z => by rw [s0 b u e] at z; cases z.1
    show (if H b = none ∧ b ≠ p then H' b else F b) = some u
    rw [if_neg hb]; exact e
  have sF : Same F' H' := fun b u e => by
    have e' : (if H b = none ∧ b ≠ p then H' b else F b) = some u := e
    by_cases hb : H b = none ∧ b ≠ p
    · rw [if_pos hb] at e'; exact e'
    · rw [if_neg hb] at e'; exact s b u (s0 b u e')
  have nf : ∀ a ∈ f2, F' a = none := fun a ha => by
    obtain ⟨u, e⟩ := o2.dom a ha
    have hb : ¬ (H a = none ∧ a ≠ p) := fun z => by rw [e] at z; cases z.1
    show (if H a = none ∧ a ≠ p then H' a else F a) = none
    rw [if_neg hb]; exact f a (by simpa using ha)
  have m1 := o1.mono (H' := H') sFF fun a ha => by cases ha
  have m2 := o2.mono (H' := H') sFF fun a ha u e => s a u e
  have hq' : Paired (fun (t : Addr) (q : Key × V) => F' t = some (.tup [kV q.1, q.2])) ts kvs := by
    have key : ∀ {ts : List Addr} {kvs : List (Key × V)}, (∀ t ∈ ts, H t = none) → p ∉ ts → Paired (fun (t : Addr) (q : Key × V) => H' t = some (.tup [kV q.1, q.2])) ts kvs → Paired (fun (t : Addr) (q : Key × V) => F' t = some (.tup [kV q.1, q.2])) ts kvs := by
      intro ts kvs h1 h2 q
      induction q with
      | nil => exact .nil
      | @cons t q ts kvs h r ih =>
        refine .cons ?_ (ih (fun t ht => h1 t (List.mem_cons_of_mem _ ht)) fun z => h2 (List.mem_cons_of_mem _ z))
        show (if H t = none ∧ t ≠ p then H' t else F t) = _
        rw [if_pos ⟨h1 t List.mem_cons_self, fun z => h2 (by rw [z]; exact List.mem_cons_self)⟩]
        exact h
    exact key ht hpt hq
  have m3 := items_own hq' hl hf m1
  have lts : (ts.map V.ref).length = (itemsD (kvs.map (·.1)) ys).length := by
    have l1 : ts.length = kvs.length := hq.length
    have l2 : ∀ {ks : List Key} {ys : List D}, ks.length = ys.length → (itemsD ks ys).length = ks.length := by
      intro ks
      induction ks with
      | nil => intro ys _; cases ys <;> rfl
      | cons k ks ih =>
        intro ys h
        cases ys with
        | nil => simp at h
        | cons y ys => simp [itemsD, ih (ys := ys) (by simpa using h)]
    rw [List.length_map, l1, l2 (by simpa using hl), List.length_map]
  have own : Own K F' H' (.ref p) (.nd true .lst (((ts.map V.ref).zip (itemsD (kvs.map (·.1)) ys)).map (·.2))) (p :: []) := .own hpo (by rw [map_zip1 lts]; exact .lst _) m3
  rw [map_zip2 lts] at own
  refine ⟨F', _, sF, .cons own m2, ?_, ?_⟩
  · refine List.nodup_cons.mpr ⟨fun z => ?_, by simpa using n⟩
    obtain ⟨u, e⟩ := o2.dom p (by simpa using z)
    rw [hp] at e; cases e
  · intro a ha
    rcases List.mem_cons.mp ha with rfl | ha
    · show (if H a = none ∧ a ≠ a then H' a else F a) = none
      rw [if_neg (fun z => z.2 rfl)]
      exact Same.free s0 hp
    · exact nf a (by simpa using ha)
def fItemsL : List D → Option (D × List D)
  | [.nd _ (.dK ks) xs] => if ks.length = xs.length then some (.nd true .lst (itemsD ks (D.fzL xs)), [.any]) else none
  | _ => none
theorem den_itemsL : DenR K (r1L LiI.rItemsL) fItemsL := by
  intro vs ds H L d os Q hl r e k
  unfold fItemsL at e
  split at e
  · rename_i m ks xs
    split at e
    · rename_i hn
      cases e
      obtain ⟨x, rfl⟩ := len1 hl
      obtain ⟨a, o, us, rfl, h1, f, l, r1⟩ := R.kids r
      cases f
      rename_i kvs nd
      have r2 := R.fzL r1
      rw [zip_fz] at r2
      refine ⟨a, kvs, rfl, h1, fun H' p ts s hp ht hpt hpo hq => k _ H' (R.any1 ?_)⟩
      exact R.items (by simpa [D.fzL_map] using l) (D.isFzL_fzL _) r2 s hp ht hpt hpo hq
    · cases e
  · cases e
theorem j_listItems {X : Cx} {e : Expr} {te : TE} {A : Arg} {p apos cpos pos : Pos} (hc : X.calm = true) (hm : X.mg "list" = none) (h : AJ X e te A) (hg : Gl X "list" := by rfl) (hv : bootBuiltins "list" = some (.type "list") := by decide +kernel) (hbase : attributeBase e "items" X.env (eval e X.env) = eval e X.env := by rfl) (hline : (apos.endLine == cpos.line) = true := by rfl)
    (hs : starEach [.Call (.Attribute e "items" apos) [] [] cpos] X.env = (false, eval (.Call (.Attribute e "items" apos) [] [] cpos) X.env) :: starEach [] X.env := by rfl) :
    EJ X (.Call (.Name "list" p) [.Call (.Attribute e "items" apos) [] [] cpos] [] pos) (LiI.tListItems te) (mApp fItemsL [A]) :=
  ⟨LiI.pe_listItems hc h.p hg hm hv hbase hline hs, fun σ H env L d env' Q re e k => den_un den_itemsL h.d σ H env L d env' Q re e k⟩
/-! ### more judgements -/
theorem j_attrM {X : Cx} : True := trivial
/-- a comparison through a chain of two signs, in the generator's words -/
theorem hu65 {k : Nat} {A : Around} (r : Room k A) : A.units + 65 < cLine := by have := r.un; omega
end VH

/-! {(..): v, ..}: a display whose keys are tuples. -/
namespace VH
open PySem PySem.Spec PyProof.Rows
open L2 in
def tDispT (trs : List (TE × TE)) : TE := fun σ H Q => ∀ p, H p = none → tPairs trs σ (L2.upd H p (.dT [])) fun ps H2 => H2 p = some (.dT []) ∧ ∃ qs : List (List Key × Addr × V), ps = qs.map (fun q => (V.ref q.2.1, q.2.2)) ∧ (∀ q ∈ qs, H2 q.2.1 = some (.tup (q.1.map kV))) ∧ qs.length ≤ 15 ∧ Q (.ref p) (L2.upd H2 p (.dT (mergeA [] (qs.map fun q => (q.1, q.2.2)))))
theorem carriesT {P : Program} {w : World} {H : L2.Hp} {h : Heap} (ok : L2.HOk P w H h) : ∀ {qs : List (List L2.Key × Addr × L2.V)} {ws : List (Value × Value)}, L2.VV (qs.map fun q => (L2.V.ref q.2.1, q.2.2)) ws → (∀ q ∈ qs, H q.2.1 = some (.tup (q.1.map L2.kV))) →
    ∃ ps : List (List L2.Key × Addr × Value), CarriesH (tupleKind (L2.mixKind P w)) h ws ps ∧ L2.KT H (qs.map fun q => (q.1, q.2.2)) ps
  | [], _, r, _ => by rw [List.map_nil] at r; cases r; exact ⟨[], trivial, .nil⟩
  | q :: qs, _, r, hk => by
    rw [List.map_cons] at r
    cases r with
    | @cons a b as bs h t =>
      obtain ⟨ps, c, kt⟩ := carriesT ok t fun q hq => hk q (List.mem_cons_of_mem _ hq)
      obtain ⟨b1, b2⟩ := b
      have h0 := hk q List.mem_cons_self
      refine ⟨(q.1, q.2.1, b2) :: ps, ⟨h.1, rfl, L2.key_of ok h0, c⟩, .cons ⟨rfl, h0, h.2⟩ kt⟩
theorem pe_dispT {X : L2.Cx} {pos : Pos} {keys : List (Option Expr)} {values : List Expr} {trs : List (L2.TE × L2.TE)} (hu : X.A.units + 64 < cLine) (h : L2.PPs X pos keys values trs) (hall : keys.all (·.isSome) = true) (hl : keys.length = values.length) (h0 : keys ≠ [])
    (h15 : keys.length ≤ 15) : L2.PE X (.Dict keys values pos) (tDispT trs) := by
  refine ⟨fun pins s σ H Q I q => ?_⟩
  have hn := I.hok.fresh (Nat.le_refl s.heap.objs.size)
  have I1 := I.laid (a := s.heap.objs.size) (o := .dT []) (h' := s.heap.push { cls := .type "dict", data := .dict #[] }) (t' := s.toks) (fun _ _ q => Heap.get?_push_of_some _ q) (Nat.le_refl _) (L2.dt_empty s.heap I.big)
  have hpl := pairTrees_length keys values X.env pos hall hl
  rw [arm_eval_Dict, zip_pairTrees keys values X.env pos hall hl, dictDisplay_pairs (pairTrees keys values X.env pos) (fun he => h0 (List.length_eq_zero_iff.mp (by rw [← hpl, he]; rfl))) (by omega)]
  refine wpAny_bind (wpAny_standAt (wpAny_bind (wpAny_subDictH (knd := tupleKind (L2.mixKind X.prog X.w)) (show X.A.units < cLine by omega) (by omega) (L2.thn (h.run pins _ σ _ _ I1 (q _ hn)) fun ws s2 ⟨ps, H2, I2, rel, e, qs, ep, hk, lk, q2⟩ => ?_))))
  subst ep
  obtain ⟨ks, c, kt⟩ := carriesT I2.hok rel hk
  obtain ⟨z, hd, xs0, r0, dd⟩ := L2.dt_of I2.hok e
  cases r0
  refine ⟨ks, c, dd, fun h' tk dd' hs => wpAny_pure ⟨.ref s.heap.objs.size, _, ?_, rfl, q2⟩⟩
  have he : ∃ q, h'.get? s.heap.objs.size = some q := by
    obtain ⟨o, es, ep, g, _⟩ := dd'
    exact ⟨o, g⟩
  have kt2 := kt_all ks (H := H2) (kvs := []) (xs := []) _ .nil kt
  have kt3 : L2.KT (L2.upd H2 s.heap.objs.size (.dT (mergeA [] (qs.map fun q => (q.1, q.2.2))))) (mergeA [] (qs.map fun q => (q.1, q.2.2))) (storedAllH [] ks) := kt2.keeps fun b ys e' => by
    have nb : b ≠ s.heap.objs.size := fun z => by rw [z, e] at e'; cases e'
    rw [L2.upd_ne nb]; exact e'
  have len : (mergeA [] (qs.map fun q => (q.1, q.2.2))).length ≤ sizeLine := by
    have z1 := kt3.length
    have z2 := storedAllH_length ks []
    have z3 := kt.length
    simp at z2 z3
    rw [sizeLine_eq]
    omega
  obtain ⟨o2, es, ep, g1, g2, g3, g4, g5, g6⟩ := dd'
  have new : L2.ObjOk X.prog X.w (L2.upd H2 s.heap.objs.size (.dT (mergeA [] (qs.map fun q => (q.1, q.2.2))))) h' s.heap.objs.size (.dT (mergeA [] (qs.map fun q => (q.1, q.2.2)))) := ⟨len, hd, _, kt3, o2, es, ep, g1, g2, g3, g4, g6⟩
  exact L2.d_write I2 (by rw [e]; exact True.intro) hs he new
open L2
variable {K : Fk}
def keysT : List D → Option (List (List Key))
  | [] => some []
  | .nd _ .tup zs :: xs => match keysD zs, keysT xs with
    | some k, some ks => some (k :: ks)
    | _, _ => none
  | _ => none
theorem keysT_read {H : Hp} : ∀ {L : List (V × D)} {vs : List V} {ds : List D} {ks : List (List Key)}, vs.length = ds.length → R K H (vs.zip ds ++ L) → keysT ds = some ks → ∃ as : List Addr, vs = as.map V.ref ∧ as.length = ks.length ∧ ∀ (j : Nat) (a : Addr) (k : List Key), as[j]? = some a → ks[j]? = some k → H a = some (.tup (k.map kV))
  | L, [], [], ks, _, _, e => by cases e; exact ⟨[], rfl, rfl, fun j a k h => by simp at h⟩
  | L, v :: vs, d :: ds, ks, hl, r, e => by
    unfold keysT at e
    split at e
    · rename_i e0; cases e0
    · rename_i m zs xs e0
      cases e0
      split at e
      · rename_i k ks1 hk hx
        cases e
        have r1 : R K H ((v, .nd m .tup zs) :: (vs.zip ds ++ L)) := r
        obtain ⟨b, rfl, hb⟩ := tkey_val r1 hk
        obtain ⟨as, e1, e2, e3⟩ := keysT_read (by simpa using hl) r1.tail hx
        refine ⟨b :: as, by simp [e1], by simp [e2], fun j a k h1 h2 => ?_⟩
        cases j with
        | zero => simp at h1 h2; subst h1; subst h2; exact hb
        | succ j => exact e3 j a k (by simpa using h1) (by simpa using h2)
      · cases e
    · cases e
  | L, [], _ :: _, _, hl, _, _ => by simp at hl
  | L, _ :: _, [], _, hl, _, _ => by simp at hl
def mDispT (ps : List (EM D × EM D)) : EM D := fun env => match mPairs ps env with
  | some ((ks, vs), e) => match keysT ks with
    | some kk => if kk.Nodup ∧ kk.length ≤ 15 then some (.nd true (.dT kk) vs, e) else none
    | none => none
  | none => none
theorem mergeA_id : ∀ (more kvs : List (List Key × V)), (kvs.map (·.1) ++ more.map (·.1)).Nodup → mergeA kvs more = kvs ++ more
  | [], kvs, _ => by simp [mergeA]
  | (k, v) :: more, kvs, nd => by
    have hk : k ∉ kvs.map (·.1) := fun h => (List.nodup_append.mp nd).2.2 k h k (by simp) rfl
    have e : putK kvs k v = kvs ++ [(k, v)] := by
      refine kix_new k v kvs ?_
      cases q : kix (kvs.map (·.1)) k with
      | none => rfl
      | some j => exact absurd (List.mem_of_getElem? (kix_lt q).2) hk
    have z := mergeA_id more (kvs ++ [(k, v)]) (by simpa using nd)
    show mergeA (putK kvs k v) more = _
    rw [e, z]
    simp
theorem zip3 {α β γ : Type} : ∀ {as : List α} {bs : List β} {cs : List γ}, as.length = bs.length → as.length = cs.length → (as.zip (bs.zip cs)).map (·.1) = as ∧ (as.zip (bs.zip cs)).map (fun q => q.2.2) = cs ∧ (as.zip (bs.zip cs)).map (fun q => (q.2.1, q.2.2)) = bs.zip cs
  | [], [], [], _, _ => ⟨rfl, rfl, rfl⟩
  | a :: as, b :: bs, c :: cs, h1, h2 => by
    obtain ⟨e1, e2, e3⟩ := zip3 (as := as) (bs := bs) (cs := cs) (by simpa using h1) (by simpa using h2)
    simp [e1, e2, e3]
  | [], _ :: _, _, h, _ => by simp at h
  | [], [], _ :: _, _, h => by simp at h
  | _ :: _, [], _, h, _ => by simp at h
  | _ :: _, _ :: _, [], _, h => by simp at h
theorem fits_nilT {o : HO} {h : Hd} {us : List V} (f : Fits K a o h us) (e : h = .dT []) : o = .dT [] := by
  cases f with
  | dT kvs nd =>
    have z : kvs.map (·.1) = [] := by injection e
    rw [List.map_eq_nil_iff.mp z]
  | tup => cases e
  | lst => cases e
  | st => cases e
  | sl => cases e
  | dK => cases e
  | dN => cases e
  | ins => cases e
theorem den_dispT {trs : List (TE × TE)} {ps : List (EM D × EM D)} (h : DenPs K trs ps) : DenE K (tDispT trs) (mDispT ps) := by
  intro σ H env L d env' Q re e k
  unfold mDispT at e
  split at e
  · rename_i ks vs e1 q
    split at e
    · rename_i kk hk
      split at e
      · rename_i hn
        cases e
        intro p hp
        have r0 : RE K (L2.upd H p (.dT [])) σ env ((.ref p, .nd true (.dT []) []) :: L) := re.lift (L1 := []) (L2 := [(.ref p, .nd true (.dT []) [])]) fun M r => R.makeN (vs := []) (xs := []) rfl r hp (.dT [] List.nodup_nil)
        refine den_pairs h σ _ env _ ks vs _ _ r0 q fun xs ys H' l1 l2 l3 r1 => ?_
        obtain ⟨l, r2, b⟩ := RE.to (L := xs.zip ks ++ (ys.zip vs ++ [(.ref p, .nd true (.dT []) [])])) (L' := L) (RE.perm (by simp) r1)
        obtain ⟨as, ex, la, hka⟩ := keysT_read l1 (L := ys.zip vs ++ [(.ref p, .nd true (.dT []) [])] ++ (l ++ L)) (by rw [← List.append_assoc]; exact r2) hk
        have r3 : R K H' ((.ref p, .nd true (.dT []) []) :: (ys.zip vs ++ (l ++ L))) := by
          have r4 : R K H' (xs.zip ks ++ ((.ref p, .nd true (.dT []) []) :: (ys.zip vs ++ (l ++ L)))) := r2.perm (by
            rw [List.append_assoc]
            refine List.Perm.append_left _ ?_
            rw [List.append_assoc]
            exact List.perm_middle)
          exact r4.right
        obtain ⟨a, o, ps0, e1, e2, ho, f, r4⟩ := r3.open
        cases e1
        have hps : ps0 = [] := by
          cases ps0 with
          | nil => rfl
          | cons _ _ => cases e2
        subst hps
        have fo : o = .dT [] := fits_nilT f rfl
        subst fo
        have lk : kk.length = as.length := la.symm
        have lxs : as.length = xs.length := by rw [ex]; simp
        have lks : kk.length = ys.length := by omega
        obtain ⟨z1, z2, z3⟩ := zip3 (as := kk) (bs := as) (cs := ys) lk lks
        refine ⟨ho, kk.zip (as.zip ys), ?_, ?_, by simp; omega, ?_⟩
        · rw [ex]
          have zz : (kk.zip (as.zip ys)).map (fun q => (V.ref q.2.1, q.2.2)) = ((kk.zip (as.zip ys)).map fun q => (q.2.1, q.2.2)).map fun q => (V.ref q.1, q.2) := by rw [List.map_map]; rfl
          rw [zz, z3, List.zip_map_left]
          rfl
        · intro q' hq
          obtain ⟨j, hj⟩ := List.mem_iff_getElem?.mp hq
          rw [List.getElem?_zip_eq_some, List.getElem?_zip_eq_some] at hj
          exact hka j _ _ hj.2.1 hj.1
        · have keys : ((kk.zip (as.zip ys)).map fun q => (q.1, q.2.2)).map (·.1) = kk := by rw [List.map_map]; exact z1
          have vals : ((kk.zip (as.zip ys)).map fun q => (q.1, q.2.2)).map (·.2) = ys := by rw [List.map_map]; exact z2
          have em : mergeA [] ((kk.zip (as.zip ys)).map fun q => (q.1, q.2.2)) = (kk.zip (as.zip ys)).map fun q => (q.1, q.2.2) := by
            rw [mergeA_id _ _ (by rw [keys]; simpa using hn.1)]; rfl
          rw [em]
          refine k _ _ (b (L1 := [(.ref p, .nd true (.dT kk) vs)]) ?_)
          have r5 : R K H' ((.ref p, .rsv p) :: (ys.zip vs ++ (l ++ L))) := r4
          have fit := Fits.dT (K := K) (a := p) ((kk.zip (as.zip ys)).map fun q => (q.1, q.2.2)) (by rw [keys]; exact hn.1)
          rw [keys, vals] at fit
          have r6 := (r5.upd (o := .dT ((kk.zip (as.zip ys)).map fun q => (q.1, q.2.2)))).close (h := .dT kk) upd_same (by rw [map_zip1 l2]; exact fit)
          rw [map_zip2 l2] at r6
          exact r6
      · cases e
    · cases e
  · cases e
theorem j_dispT {X : Cx} {pos : Pos} {keys : List (Option Expr)} {values : List Expr} {trs : List (TE × TE)} {ps : List (EM D × EM D)} (hu : X.A.units + 64 < cLine) (h : DJ X pos keys values trs ps) (hall : keys.all (·.isSome) = true := by rfl) (hl : keys.length = values.length := by rfl) (h0 : keys ≠ [] := by intro z; cases z)
    (h15 : keys.length ≤ 15 := by decide) : EJ X (.Dict keys values pos) (tDispT trs) (mDispT ps) := ⟨pe_dispT hu h.p hall hl h0 h15, den_dispT h.d⟩
end VH

namespace VH
open PySem PySem.Spec PyProof.Rows L2
/-- a def's promise where no guard of repr stands on the stack -/
structure FnG (P : Program) (w : World) (K : PySem.W.Frag) (mg : Str → Option Value) (base : Heap) (CX : CXT) (k : Nat) (f : Addr) (fd : FuncData) (ps : List Str) (sp : Sp) : Prop where
  len : ∀ vs H Q E, sp vs H Q E → vs.length = ps.length
  run : ∀ (A : Around) (outer : List PySem.Env) (s : Shared) (H : Hp) (args : Args) (us : List Value) (vs : List V) (Q : VK) (E : XK), A.guards = some [] → Room k A → Env0 P w K mg base A outer s H → BindsTo s fd args (ps.zip us) → Vals vs us → sp vs H Q E →
    codeAny (model P w) A (.call (.ref f) args) (CR CX outer P w H s Q E) s
theorem FnG.mono {P : Program} {w : World} {K : PySem.W.Frag} {mg : Str → Option Value} {base : Heap} {CX : CXT} {j k : Nat} {f : Addr} {fd : FuncData} {ps : List Str} {sp : Sp} (F : FnG P w K mg base CX j f fd ps sp) (h : j ≤ k) : FnG P w K mg base CX k f fd ps sp :=
  ⟨F.len, fun A outer s H args us vs Q E hg hr => F.run A outer s H args us vs Q E hg (hr.mono h)⟩
theorem fnG_of {CX : CXT} {P : Program} {w : World} {K : PySem.W.Frag} {mg : Str → Option Value} {base : Heap} {x qual : Str} {params : Arguments} {body : List Stmt} {scope : Scope} {dvs : List V} {kws : List (Str × V)} {f : Addr} {fd : FuncData} {N ps : List Str} {k : Nat} {sp : Sp}
    (F : FunD K x qual params body scope dvs kws f fd) (S : FnScope N ps scope) (len : ∀ vs H Q E, sp vs H Q E → vs.length = ps.length)
    (hbody : ∀ (cdv : Value) (A : Around) (outer : List PySem.Env) (s : Shared) (H : Hp) (vs : List V) (Q : VK) (E : XK), A.guards = some [] → Room k (A.deeper (envOfC qual scope s.heap.objs.size f cdv)) → sp vs H Q E →
      ∃ t, PSs (cxOf CX P w K mg base N qual scope f cdv A outer s H E) body t ∧ t { nx := fun _ H' => Q .non H', rt := Q } (start N vs) H) :
    FnG P w K mg base CX (k + 1) f fd ps sp := by
  obtain ⟨oc, od, dV, kV, doc, pm, an, cdv, ct, osl, rfl, lk, hcd, _, _⟩ := F.ex
  refine ⟨len, fun A outer s H args us vs Q E hg room e0 hb rv hsp => ?_⟩
  have kin : K.In s.heap := e0.mod.kin.keeps fun b o z => (e0.bs b o z).1
  have lim : s.heap.NoLimit := e0.mod.nolimit.keeps fun b o z => (e0.bs b o z).1
  have how : ∀ y ∈ ps.zip us, scope.names.lookup y.1 = some .local ∨ (scope.names.lookup y.1 = some .cell ∧ ((cellsFrom (s.heap.objs.size + 1) scope.names []).lookup y.1).isSome = true) := by
    rintro ⟨n, v⟩ hy
    exact (S.par n (List.of_mem_zip hy).1).imp id fun q => ⟨q, PySem.W.cellsFrom_some _ _ _ (.inl q)⟩
  refine codeAny_call_function room.depth (kin _ _ lk) rfl S.co S.gen rfl (PySem.W.codeRec_of kin hcd) (hb _ _ _ _ (wpAny_newFunctionEnv_cells S.kind how ?_))
  rintro env rfl s1 x
  refine ⟨lim.keeps x.toInCall.keep, codeAny_func ?_⟩
  obtain ⟨t, ht, hq⟩ := hbody cdv A outer s H vs Q E hg (room.deeper _) hsp
  have I : Inv (cxOf CX P w K mg base N qual scope f cdv A outer s H E) [] (start N vs) H s1 := inv_start S room.hd e0 (len _ _ _ _ hsp) rv x
  have fin : ∀ {σ' : L2.St} {H' : Hp} {v : V} {u : Value} {s' : Shared}, Inv (cxOf CX P w K mg base N qual scope f cdv A outer s H E) [] σ' H' s' → RelV v u → Q v H' → CE outer P w H s Q u s' :=
    fun J rv q => ⟨_, _, J.os, J.bare, J.base, J.hok, rv, q⟩
  refine wpAny_mono (ht.run [] s1 (start N vs) H _ I hq) ?_ fun e s' hs => hs
  intro fl s' hs
  match fl, hs with
  | .ret _, ⟨_, _, _, J, r2, q⟩ => exact fin J r2 q
  | .next, ⟨_, _, J, q⟩ => exact fin (v := V.non) (u := Value.none) J rfl q
  | .brk, ⟨_, _, _, q⟩ => exact q.elim
  | .cont, ⟨_, _, _, q⟩ => exact q.elim
theorem guards_deeper {A : Around} {env : PySem.Env} : (A.deeper env).guards = A.guards := rfl
section
variable {X : Cx} {CX : CXT} {k : Nat} {f : Addr} {fd : FuncData} {ps : List Str} {sp : Sp} {dvs : List V} {ds : List Value} {E : XK} {x : Str} {p pos : Pos} {e : Expr} {es : List Expr} {t : TA}
theorem run_fnG {pins : List (Addr × Obj)} {σ : L2.St} {H : Hp} {s : Shared} {Q : VK} {us : List Value} {vs : List V} (hG : X.A.guards = some []) (F : FnG X.prog X.w X.K X.mg X.base CX k f fd ps sp) (hr : Room k X.A) (hb : Binds X.K fd ps []) (hx : Passes CX X E)
    (I : Inv X pins σ H s) (r : Vals vs us) (h : sp vs H Q E) : wpAny (model X.prog X.w) X.A (call (.ref f) us) (EP X pins σ Q) X.xe s := by
  have hl : us.length = ps.length := r.length.symm.trans (F.len _ _ _ _ h)
  have bd := hb s us I.kIn (by simpa using hl)
  rw [List.append_nil] at bd
  refine wpAny_call (codeAny_mono (F.run X.A X.stack s H ⟨us, []⟩ us vs Q E hG hr I.env0 bd r h) ?_)
  intro res s' hq
  match res, hq with
  | .error e, hq => exact hx pins σ H s e s' I hq
  | .ok (.ret u), hq => exact I.after hq
  | .ok .next, hq => exact hq.elim
  | .ok .brk, hq => exact hq.elim
  | .ok .cont, hq => exact hq.elim
theorem pe_callG (hG : X.A.guards = some []) (F : FnG X.prog X.w X.K X.mg X.base CX k f fd ps sp) (hr : Room k X.A) (hg : Gl X x) (hm : X.mg x = some (.ref f)) (hk : PySem.W.keepIn X.K (.ref f) = true) (hb : Binds X.K fd ps []) (hx : Passes CX X E)
    (ha : PA X (e :: es) t) (hdb : (x == ("__debug__" : Str)) = false := by decide) (he : starEach (e :: es) X.env = (false, eval e X.env) :: starEach es X.env := by rfl) (hpl : (backTo pos (starEach es X.env)).any (·.1) = false := by rfl) :
    PE X (.Call (.Name x p) (e :: es) [] pos) (fun σ H Q => t σ H fun vs H1 => sp vs H1 Q E) := by
  refine ⟨fun pins s σ H Q I h => wpAny_Call_Name_kw (ld_glob I hg hm ?_ hdb)⟩
  exact PySem.W.callWith_K (h₀ := X.base) I.ok.mod.kin hk (thn (ha.run pos pins s σ H _ I h) fun us s1 ⟨vs, H1, I1, r, q⟩ => ⟨I1.kIn, run_fnG hG F hr hb hx I1 r q⟩) he hpl
end
/-- a def of the text that may show its values, known by what it does to data -/
structure DfG (P : Program) (w : World) (K : PySem.W.Frag) (mg : Str → Option Value) (base : Heap) (x : Str) (np k : Nat) (fm : List D → Option (D × List D)) : Prop where
  ex : ∃ (f : Addr) (fd : FuncData) (ps : List Str), FnG P w K mg base (L2.CX P w) k f fd ps (spD ⟨K, P, w⟩ np fm) ∧ mg x = some (.ref f) ∧ PySem.W.keepIn K (.ref f) = true ∧ Binds K fd ps []
  ln : ∀ ds z, fm ds = some z → ds.length = np
theorem DfG.mono {P : Program} {w : World} {K : PySem.W.Frag} {mg : Str → Option Value} {base : Heap} {x : Str} {np k j : Nat} {fm : List D → Option (D × List D)} (F : DfG P w K mg base x np k fm) (h : k ≤ j) : DfG P w K mg base x np j fm := by
  obtain ⟨f, fd, ps, a, b⟩ := F.ex
  exact ⟨⟨f, fd, ps, a.mono h, b⟩, F.ln⟩
theorem j_callG {X : Cx} {x : Str} {p pos : Pos} {e : Expr} {es : List Expr} {tl : TA} {As : List Arg} {np k : Nat} {fm : List D → Option (D × List D)} (F : DfG X.prog X.w X.K X.mg X.base x np k fm) (hr : Room k X.A) (hG : X.A.guards = some []) (ha : LJ X (e :: es) tl As) (hg : Gl X x := by rfl) (hdb : (x == ("__debug__" : Str)) = false := by decide)
    (he : starEach (e :: es) X.env = (false, eval e X.env) :: starEach es X.env := by rfl) (hpl : (backTo pos (starEach es X.env)).any (·.1) = false := by rfl) :
    EJ X (.Call (.Name x p) (e :: es) [] pos) (fun σ H Q => tl σ H fun vs H1 => spD X.fk np fm vs H1 Q E0) (mApp fm As) := by
  obtain ⟨f, fd, ps, F1, hm, hk, hb⟩ := F.ex
  refine ⟨pe_callG hG F1 hr hg hm hk hb passL ha.p hdb he hpl, ?_⟩
  intro σ H env L d env' Q re e k
  exact den_app ha.d (denR_sp (K := X.fk) (E := E0) F.ln) σ H env L d env' Q re e k
theorem dfG_mk {P : Program} {w : World} {K : PySem.W.Frag} {mg : Str → Option Value} {base : Heap} {x qual : Str} {params : Arguments} {body : List Stmt} {scope : Scope} {f : Addr} {fd : FuncData} {N ps : List Str} {np k : Nat} {io : List Nat} {m : SM}
    (F : FunD K x qual params body scope [] [] f fd) (S : FnScope N ps scope) (hnp : ps.length = np) (hio : io.all (· < np) = true) (hnd : io.Nodup)
    (hb : ∀ (cdv : Value) (A : Around) (outer : List PySem.Env) (s : Shared) (H : Hp) (E : XK), A.guards = some [] → Room k (A.deeper (envOfC qual scope s.heap.objs.size f cdv)) → ∃ t, BJ (cxOf (L2.CX P w) P w K mg base N qual scope f cdv A outer s H E).nox io body t m) :
    FnG P w K mg base (L2.CX P w) (k + 1) f fd ps (spD ⟨K, P, w⟩ np (fnD np N.length io m)) := by
  refine fnG_of F S (fun vs H Q E h => h.1.trans hnp.symm) fun cdv A outer s H vs Q E hg hr h => ?_
  obtain ⟨t, b⟩ := hb cdv A outer s H E hg hr
  exact ⟨t, PSs.nox b.p, body_ok b.d hio hnd h⟩
theorem dfG_of {P : Program} {w : World} {K : PySem.W.Frag} {mg : Str → Option Value} {base : Heap} {x qual : Str} {params : Arguments} {body : List Stmt} {scope : Scope} {f : Addr} {fd : FuncData} {N ps : List Str} {np k : Nat} {io : List Nat} {m : SM}
    (F : FunD K x qual params body scope [] [] f fd) (S : FnScope N ps scope) (hm : mg x = some (.ref f)) (hb : Binds K fd ps []) (hnp : ps.length = np) (hio : io.all (· < np) = true) (hnd : io.Nodup)
    (h : ∀ (cdv : Value) (A : Around) (outer : List PySem.Env) (s : Shared) (H : Hp) (E : XK), A.guards = some [] → Room k (A.deeper (envOfC qual scope s.heap.objs.size f cdv)) → ∃ t, BJ (cxOf (L2.CX P w) P w K mg base N qual scope f cdv A outer s H E).nox io body t m) :
    DfG P w K mg base x np (k + 1) (fnD np N.length io m) := ⟨⟨f, fd, ps, dfG_mk F S hnp hio hnd h, hm, F.kp, hb⟩, fun ds z h => fnD_len ds z h⟩
/-! ### repr of a list or a tuple -/
def fRepr : List D → Option (D × List D)
  | [d] => match d.py with
    | some (.list xs) => if (PyData.list xs).showable = true ∧ (PyData.list xs).depth ≤ 32 ∧ (PyData.list xs).shown.length ≤ sizeLine then some (.str (PyData.list xs).shown, [d]) else none
    | some (.tuple xs) => if (PyData.tuple xs).showable = true ∧ (PyData.tuple xs).depth ≤ 32 ∧ (PyData.tuple xs).shown.length ≤ sizeLine then some (.str (PyData.tuple xs).shown, [d]) else none
    | _ => none
  | _ => none
def rRepr (K : PySem.W.Frag) : List V → Hp → VK → Prop := fun vs H Q => ∃ a p, vs = [V.ref a] ∧ Dp K H (.ref a) p ∧ p.hasDict = false ∧ p.showable = true ∧ p.depth ≤ 32 ∧ p.shown.length ≤ sizeLine ∧ Q (.str p.shown) H
mutual
theorem dp_nodict {K : Fk} {H : Hp} : ∀ {p : PyData} {v : V}, Dp K H v p → p.hasDict = false
  | _, _, .non => rfl
  | _, _, .bl _ => rfl
  | _, _, .int _ => rfl
  | _, _, .str _ => rfl
  | _, _, .lst _ h => by simp only [PyData.hasDict]; exact dps_nodict h
  | _, _, .tup _ h => by simp only [PyData.hasDict]; exact dps_nodict h
theorem dps_nodict {K : Fk} {H : Hp} : ∀ {p : List PyData} {v : List V}, DpAll K H v p → PyData.hasDictAll p = false
  | _, _, .nil => rfl
  | _, _, .cons h hs => by simp only [PyData.hasDictAll, dp_nodict h, dps_nodict hs, Bool.or_self]
end
theorem cr_repr {X : Cx} (hG : X.A.guards = some []) (hu : X.A.units + 64 < cLine) : CallR X (.builtin "repr") (rRepr X.K) := by
  intro pins s σ H vs us Q I r h
  obtain ⟨a, p, rfl, hd, hnd, hs, hz, hl, q⟩ := h
  rw [Vals.ref1 r]
  obtain ⟨as, rd⟩ := Dp.reads I p (.ref a) (.ref a) hd rfl
  exact repr_of_reads' rd hs (PyData.noDict_hsm hnd) hG (by omega) (fun _ _ e => e) (fun h' u tk k => ⟨.str p.shown, H, I.kept k, ⟨u, rfl⟩, q⟩) hl
theorem den_repr {K : Fk} : DenR K (rRepr K) fRepr := by
  intro vs ds H L d os Q hlen r e k
  match ds, hlen, r, e with
  | [x], hlen, r, e =>
    obtain ⟨v, rfl⟩ : ∃ v, vs = [v] := by
      match vs, hlen with
      | [v], _ => exact ⟨v, rfl⟩
    have r1 : R K H ((v, x) :: L) := r
    simp only [fRepr] at e
    split at e
    · rename_i xs hp
      split at e
      · rename_i h; cases e
        have hd := r1.dp hp
        obtain ⟨a, rfl⟩ : ∃ a, v = .ref a := by cases hd; exact ⟨_, rfl⟩
        exact ⟨a, _, rfl, hd, dp_nodict hd, h.1, h.2.1, h.2.2, k _ _ (r1.atom (.str _))⟩
      · cases e
    · rename_i xs hp
      split at e
      · rename_i h; cases e
        have hd := r1.dp hp
        obtain ⟨a, rfl⟩ : ∃ a, v = .ref a := by cases hd; exact ⟨_, rfl⟩
        exact ⟨a, _, rfl, hd, dp_nodict hd, h.1, h.2.1, h.2.2, k _ _ (r1.atom (.str _))⟩
      · cases e
    · cases e
end VH
namespace VH
open PySem L2
theorem ty_join : ∀ d ds z, fJoin (d :: ds) = some z → ∃ a, d = .str a := by
  intro d ds z h
  unfold fJoin at h
  split at h
  · rename_i e; cases e; exact ⟨_, rfl⟩
  · cases h
end VH
namespace VH
open PySem L2
def fNeg : List D → Option (D × List D)
  | [.int i] => some (.int (-i), [.any])
  | _ => none
abbrev mNeg (m : EM D) : EM D := mApp fNeg [.ex m]
theorem den_neg {K : Fk} : DenR K (r1L (rU fun i => .int (-i))) fNeg := by
  intro vs ds H L d os Q hl r e k
  unfold fNeg at e
  split at e
  · rename_i i
    cases e
    match vs, hl, r, k with
    | [v], _, r, k =>
      obtain rfl : v = .int i := R.vint r
      exact ⟨i, rfl, k _ H (R.any1 ((R.tail r).atom (.int _)))⟩
  · cases e
theorem j_neg {X : Cx} {e : Expr} {t : TE} {m : EM D} {pos : Pos} (h : EJ X e t m) : EJ X (.UnaryOp .USub e pos) (tUn (rU fun i => .int (-i)) t) (mNeg m) := ⟨pe_un un_neg h.p, den_un den_neg h.d.arg⟩
end VH
namespace VH
open PySem L2
theorem g_tupK {X : Cx} {es : List Expr} {pos : Pos} {ix : List Nat} {k : Nat} {u : TGs} {mgs : List D → Env → Option Env} (K : PySem.W.Frag) (n : Nat) (hc : X.calm = true) (h : GsJ X es u ix mgs) (hK : X.K = K := by rfl) (hn : (assignEach es X.env).length = n := by rfl) (hst : (assignEach es X.env).findIdx? (·.1) = none := by rfl) : GJ X (.Tuple es k pos) (L2.gTup K n u) ix (gmTup n mgs) := by
  subst hK
  exact g_tup n hc h hn hst
end VH
namespace VH
open PySem PySem.Spec PyProof.Rows L2
/-- the parts of a comprehension may be read by what stands around it -/
abbrev Fam (α : Type) := Shared → Hp → Addr → List (Str × Addr) → List Addr → α
theorem j_lc {X : Cx} {elt tg iter : Expr} {ifs : List Expr} {scope : Scope} {pos : Pos} (own : List (Str × Nat)) {wi : TI} {g : Fam TG} {ix : List Nat} {tt : Fam TT} {te : Fam TE} {mi : EM (List D)} {mg : D → Env → Option Env} {mc : EM Bool} {me : EM D} (hc : X.calm = true) (hN : X.N.Nodup) (ok : BlkOk X.N X.env.scope scope own) (hi : IJ X tg iter wi mi)
    (hg : ∀ (s : Shared) (H : Hp) (C : Addr) (cl : List (Str × Addr)) (fp : List Addr), GJ (X.blk s H scope (compEnvC scope cl C X.env) fp) tg (g s H C cl fp) ix mg) (ht : ∀ (s : Shared) (H : Hp) (C : Addr) (cl : List (Str × Addr)) (fp : List Addr), TsJ (X.blk s H scope (compEnvC scope cl C X.env) fp) ifs (tt s H C cl fp) mc)
    (he : ∀ (s : Shared) (H : Hp) (C : Addr) (cl : List (Str × Addr)) (fp : List Addr), EJ (X.blk s H scope (compEnvC scope cl C X.env) fp) elt (te s H C cl fp) me)
    (eg : ∀ s H C cl fp, g s H C cl fp = g X.s_0 X.H_0 0 [] [] := by intros; rfl) (et : ∀ s H C cl fp, tt s H C cl fp = tt X.s_0 X.H_0 0 [] [] := by intros; rfl) (ee : ∀ s H C cl fp, te s H C cl fp = te X.s_0 X.H_0 0 [] [] := by intros; rfl)
    (hx : ix.all (own.map (·.2)).contains = true := by rfl) (hs : ∀ x, foldedSetIterable iter X.env x = pure x := by intro _; rfl) :
    EJ X (.ListComp elt [⟨tg, iter, ifs, 0⟩] scope pos) (tLc wi (g X.s_0 X.H_0 0 [] []) (tt X.s_0 X.H_0 0 [] []) (te X.s_0 X.H_0 0 [] []) (own.map (·.2))) (mComp mi mg mc me (own.map (·.2))) :=
  j_comp own hc hN ok hi (fun s H C cl fp => eg s H C cl fp ▸ hg s H C cl fp) (fun s H C cl fp => et s H C cl fp ▸ ht s H C cl fp) (fun s H C cl fp => ee s H C cl fp ▸ he s H C cl fp) hx hs
end VH
namespace VH
open PySem PySem.Spec PyProof.Rows L2
theorem s_lc {X : Cx} {io : List Nat} (i : Nat) {y : Str} {py spos : Pos} {elt tg iter : Expr} {ifs : List Expr} {scope : Scope} {pos : Pos} (own : List (Str × Nat)) {wi : TI} {g : Fam TG} {ix : List Nat} {tt : Fam TT} {te : Fam TE} {mi : EM (List D)} {mg : D → Env → Option Env} {mc : EM Bool} {me : EM D} (hc : X.calm = true) (hN : X.N.Nodup) (ok : BlkOk X.N X.env.scope scope own) (hi : IJ X tg iter wi mi)
    (hg : ∀ (s : Shared) (H : Hp) (C : Addr) (cl : List (Str × Addr)) (fp : List Addr), GJ (X.blk s H scope (compEnvC scope cl C X.env) fp) tg (g s H C cl fp) ix mg) (ht : ∀ (s : Shared) (H : Hp) (C : Addr) (cl : List (Str × Addr)) (fp : List Addr), TsJ (X.blk s H scope (compEnvC scope cl C X.env) fp) ifs (tt s H C cl fp) mc)
    (he : ∀ (s : Shared) (H : Hp) (C : Addr) (cl : List (Str × Addr)) (fp : List Addr), EJ (X.blk s H scope (compEnvC scope cl C X.env) fp) elt (te s H C cl fp) me)
    (hsw : swapsWith (.ListComp elt [⟨tg, iter, ifs, 0⟩] scope pos) (some (.Name y py)) spos.line X.env = pure true)
    (eg : ∀ s H C cl fp, g s H C cl fp = g X.s_0 X.H_0 0 [] [] := by intros; rfl) (et : ∀ s H C cl fp, tt s H C cl fp = tt X.s_0 X.H_0 0 [] [] := by intros; rfl) (ee : ∀ s H C cl fp, te s H C cl fp = te X.s_0 X.H_0 0 [] [] := by intros; rfl)
    (hap : apart [i] io = true := by rfl) (hy : X.N[i]? = some y := by rfl) (hyl : X.env.scope.names.lookup y = some .local := by rfl) (hx : ix.all (own.map (·.2)).contains = true := by rfl) (hs : ∀ x, foldedSetIterable iter X.env x = pure x := by intro _; rfl) :
    SJ X io (.Assign [.Name y py] (.ListComp elt [⟨tg, iter, ifs, 0⟩] scope pos) spos) (tAsg (tLc wi (g X.s_0 X.H_0 0 [] []) (tt X.s_0 X.H_0 0 [] []) (te X.s_0 X.H_0 0 [] []) (own.map (·.2))) (gName i)) (sAsg (mComp mi mg mc me (own.map (·.2))) (gmName i)) :=
  s_setLc i own hc hN ok hi (fun s H C cl fp => eg s H C cl fp ▸ hg s H C cl fp) (fun s H C cl fp => et s H C cl fp ▸ ht s H C cl fp) (fun s H C cl fp => ee s H C cl fp ▸ he s H C cl fp) hsw hap hy hyl hx hs
end VH

namespace VH
open PySem PySem.Spec PyProof.Rows L2
/-! ### a Hook with one look more -/
def obsV (n : Nat) (fa : List He.Fa) (fn : List He.DefD) (ex : PySem.W.Frag → Bool) (g : Addr → Option Obj) : He.AlD := ((He.obsDG n fa fn g).1 && ex (He.frG g (He.asD g n)), (He.obsDG n fa fn g).2)
def SaysV (fa : List He.Fa) (fn : List He.DefD) (ex : PySem.W.Frag → Bool) (K : PySem.W.Frag) : Prop := He.SaysD fa fn K ∧ ex K = true
theorem saysV_of {n : Nat} {fa : List He.Fa} {fn : List He.DefD} {ex : PySem.W.Frag → Bool} {g : Addr → Option Obj} (h : obsV n fa fn ex g = He.valD fn) : SaysV fa fn ex (He.frG g (He.asD g n)) := by
  unfold obsV at h
  have h1 : (((He.obsDG n fa fn g).1 && ex (He.frG g (He.asD g n))) = true) := congrArg (fun z : He.AlD => z.1) h
  have h2 : (He.obsDG n fa fn g).2 = (He.valD fn).2 := by rw [← h]
  obtain ⟨h3, h4⟩ := Bool.and_eq_true_iff.mp h1
  exact ⟨Prod.ext h3 h2, h4⟩
def hookV (n : Nat) (fa : List He.Fa) (fn : List He.DefD) (ex : PySem.W.Frag → Bool) : PySem.W.Hook where
  α := He.AlD
  obs := fun s => obsV n fa fn ex s.heap.get?
  val := fun _ => He.valD fn
  says := fun _ h => ∃ K : PySem.W.Frag, K.In h ∧ SaysV fa fn ex K
  of := fun _ _ e => ⟨_, He.frG_in, saysV_of e⟩
  keeps := fun _ _ _ ⟨K, hK, c⟩ k => ⟨K, PySem.W.Frag.In.keeps hK k, c⟩
theorem obsV_eq {n : Nat} {fa : List He.Fa} {fn : List He.DefD} {ex : PySem.W.Frag → Bool} {g : Addr → Option Obj} {s : Shared} (h : ∀ a, g a = s.heap.get? a) : obsV n fa fn ex g = (hookV n fa fn ex).obs s := by
  have e : g = s.heap.get? := funext h
  rw [e] <;> rfl
/-! ### the law's call, where no guard stands -/

/-- what is tracked at the law's start: the script, if it is none of the module's own things -/
structure StartOk (P : Program) (w : World) (K : PySem.W.Frag) (h : Heap) (a : Addr) (ns : List Int) (H : Hp) : Prop where
  only : Only H
  seq : SqL K H a (ns.map V.int)
  hok : HOk P w H h
  one : ∀ b, H b ≠ none → b = a
  off : H a ≠ none → K.lookup a = none
theorem start_ok {P : Program} {w : World} {K : PySem.W.Frag} {h : Heap} {a : Addr} {vs : List Value} {ns : List Int} (KX : K.In h) (ha : h.get? a = some { cls := .type "list", data := .seq vs.toArray }) (hi : IntsAre vs ns) (hl : ns.length ≤ sizeLine) : ∃ H : Hp, StartOk P w K h a ns H := by
  have rv : Vals (ns.map V.int) vs := vals_ints hi
  have lenV : vs.length = ns.length := hi.length
  rcases q : K.lookup a with _ | o
  · have at_ : ∀ b, b ≠ a → (if b = a then some (HO.frz { cls := .type "list", data := .seq vs.toArray } (.lst (ns.map V.int))) else none) = none := fun b hb => if_neg hb
    refine ⟨fun b => if b = a then some (.frz { cls := .type "list", data := .seq vs.toArray } (.lst (ns.map V.int))) else none, ⟨fun b => ?_, .inl (.inr ⟨_, if_pos rfl⟩), fun b u z => ?_, fun b z => ?_, fun _ => q⟩⟩
    · rcases Decidable.em (b = a) with hb | hb
      · exact .inr ⟨_, _, if_pos hb⟩
      · exact .inl (at_ b hb)
    · rcases Decidable.em (b = a) with rfl | hb
      · cases (if_pos rfl).symm.trans z
        exact ⟨ha, by simpa using hl, vs, _, rv, ha⟩
      · cases (at_ b hb).symm.trans z
    · exact Decidable.byContradiction fun hb => z (at_ b hb)
  · obtain rfl : o = { cls := .type "list", data := .seq vs.toArray } := Option.some.inj ((KX a o q).symm.trans ha)
    exact ⟨fun _ => none, ⟨fun _ => .inl rfl, .inr ⟨_, vs.toArray, _, q, rfl, rfl, rfl, by simpa [lenV] using hl, by simpa using rv⟩, fun b u z => (nomatch (show (none : Option HO) = some u from z)), fun b z => absurd rfl z, fun z => absurd rfl z⟩⟩
theorem law_callG {P : Program} {w : World} {K : PySem.W.Frag} {mg mb : Str → Option Value} {CX : CXT} {k : Nat} {fa a : Addr} {fd : FuncData} {x : Str} {sp : Sp} {s₁ : Shared} {vs : List Value} {ns : List Int}
    (KX : K.In s₁.heap) (hns : s₁.heap.Ns mainGlobals mg) (hb : s₁.heap.Ns builtinsNs mb) (hbb : ∀ x : Str, x ≠ "__name__" → mb x = bootBuiltins x) (hlim : s₁.heap.NoLimit) (hg : s₁.gens = #[])
    (ha : s₁.heap.get? a = some { cls := .type "list", data := .seq vs.toArray }) (hi : IntsAre vs ns) (hl : ns.length ≤ sizeLine) (hr : Room k callerA)
    (F : ∀ base : Heap, K.In base → base.Ns mainGlobals mg → FnG P w K mg base CX k fa fd [x] sp) (hbind : ∀ (s : Shared) (u : Value), BindsTo s fd ⟨[u], []⟩ [(x, u)])
    (hsp : ∀ H : Hp, Only H → SqL K H a (ns.map V.int) → sp [.ref a] H (fun v _ => v = .bl true) fun _ _ _ => False)
    (hCX : ∀ H e s', CX [] H s₁ (fun _ _ _ => False) e s' → False) :
    codeAny (model P w) callerA (.call (.ref fa) ⟨[.ref a], []⟩) (fun r s' => r = .ok (.ret (.bool true)) ∧ OldK s₁.heap s'.heap ∧ s'.os = s₁.os ∧ AllBare s'.gens) s₁ := by
  obtain ⟨H, T⟩ := start_ok (P := P) (w := w) KX ha hi hl
  have free : ∀ {b : Addr} {o : Obj}, s₁.heap.get? b = some o → H b = none → (hidT s₁.heap H).get? b = some o := fun e n => hidT_get e n
  have untold : ∀ {b : Addr} {o : Obj} {es : Array DictEntry} {ep : Nat}, s₁.heap.get? b = some o → o.data = .dict es ep → H b = none := by
    intro b o es ep e d
    refine Decidable.byContradiction fun z => ?_
    obtain rfl := T.one b z
    rw [ha] at e; cases e
    exact nomatch (show Data.seq vs.toArray _ = Data.dict es ep from d)
  have dicts : ∀ {b : Addr} {m : Str → Option Value}, s₁.heap.Ns b m → (hidT s₁.heap H).Ns b m := fun {b m} ⟨o, es, ep, e, d, r⟩ => ⟨o, es, ep, free e (untold e d), d, r⟩
  have kb : K.In (hidT s₁.heap H) := fun b o e => free (KX b o e) (Decidable.byContradiction fun z => by
    obtain rfl := T.one b z
    rw [T.off z] at e; cases e)
  have hM : Mod K mg (hidT s₁.heap H) := ⟨kb, dicts hns, ⟨mb, dicts hb, hbb⟩, let ⟨mc, h1, h2⟩ := hlim; ⟨mc, dicts h1, h2⟩⟩
  have e0 : Env0 P w K mg (hidT s₁.heap H) callerA [] s₁ H := ⟨rfl, hM, fun b o e => of_hidT e, Nat.le_of_eq (hidT_size _ _), trivial, (fun b z => absurd (show b ∈ ([] : List Addr) from z) (by simp)), T.hok, .of_eq hg⟩
  refine codeAny_mono ((F _ kb (dicts hns)).run callerA [] s₁ H ⟨[.ref a], []⟩ [.ref a] [.ref a] _ _ rfl hr e0 (hbind s₁ (.ref a)) (.cons rfl .nil) (hsp H T.only T.seq)) ?_
  intro r s' h
  match r, h with
  | .error e, h => exact (hCX H e s' h).elim
  | .ok .next, h => exact h.elim
  | .ok .brk, h => exact h.elim
  | .ok .cont, h => exact h.elim
  | .ok (.ret u), ⟨v, H', os, bare, un, hok', rv, q⟩ =>
    obtain rfl : v = .bl true := q
    obtain rfl : u = Value.bool true := rv
    refine ⟨rfl, OldK.of_keep fun b o e => ?_, os, bare⟩
    rcases T.only b with z | ⟨ob, xs, z⟩
    · exact un.keep b o e z (fun z => absurd (show b ∈ ([] : List Addr) from z) (by simp)) (by simp)
    · have e1 := (T.hok b _ z).1
      rw [e] at e1; cases e1
      exact (hok' b _ (un.frzs b _ _ z)).1
theorem walk_ofG {l : PySem.W.OpenLaw} {n k : Nat} {q : Program} {loose : List Str} {XP : (Str → Option Value) → Heap → Prop} {YP : World → Heap → Prop} {d : DefRec} {CX : World → CXT} {x : Str}
    (hn : l.most = some n) (hn2 : n ≤ sizeLine) (hdf : d.params.defaults = []) (hr : Room k callerA)
    (F : ∀ (w : World) (mg : Str → Option Value) (fa : Addr) (h : Heap), YP w h → h.Ns mainGlobals mg → mg d.name = some (.ref fa) →
      ∃ (K : PySem.W.Frag) (fd : FuncData) (sp : Sp), K.In h ∧ (∀ (s : Shared) (u : Value), BindsTo s fd ⟨[u], []⟩ [(x, u)]) ∧
        (∀ (H : Hp) (a : Addr) (ns : List Int), ns.length ≤ n → Only H → SqL K H a (ns.map V.int) → sp [.ref a] H (fun v _ => v = .bl true) fun _ _ _ => False) ∧
        ∀ base : Heap, K.In base → base.Ns mainGlobals mg → FnG l.prog w K mg base (CX w) k fa fd [x] sp)
    (hCX : ∀ (w : World) (H : Hp) (s : Shared) (e : Value) (s' : Shared), CX w [] H s (fun _ _ _ => False) e s' → False) :
    PySem.W.WalkO q loose XP YP l.row.toRowW d [] (fun f vs => PySem.call f vs) := by
  refine Att.attach_call hn hdf fun w s₀ s₁ mg mb fa o pm cd doc a vs ns G Y ho hd hcd hmg hobj hints hlen hg => ?_
  obtain ⟨K, fd, sp, KX, hb, hsp, hF⟩ := F w mg fa _ Y G.T.g hmg
  exact law_callG KX G.T.g G.T.b G.T.builtins G.T.nolimit hg hobj hints (Nat.le_trans hlen hn2) hr hF hb (fun H hO hS => hsp H a ns hlen hO hS) fun H e s' => hCX w H s₁ e s'
theorem walk_ofV {l : PySem.W.OpenLaw} {n k : Nat} {q : Program} {loose : List Str} {XP : (Str → Option Value) → Heap → Prop} {YP : World → Heap → Prop} {d : DefRec} {CX : World → CXT} {x : Str}
    (hn : l.most = some n) (hn2 : n ≤ sizeLine) (hdf : d.params.defaults = []) (hr : Room k callerA)
    (F : ∀ (w : World) (mg : Str → Option Value) (fa : Addr) (h : Heap), YP w h → h.Ns mainGlobals mg → mg d.name = some (.ref fa) →
      ∃ (K : PySem.W.Frag) (fd : FuncData) (sp : Sp), K.In h ∧ (∀ (s : Shared) (u : Value), BindsTo s fd ⟨[u], []⟩ [(x, u)]) ∧
        (∀ (H : Hp) (a : Addr) (ns : List Int), ns.length ≤ n → Only H → SqL K H a (ns.map V.int) → sp [.ref a] H (fun v _ => v = .bl true) fun _ _ _ => False) ∧
        ∀ base : Heap, K.In base → base.Ns mainGlobals mg → FnOk l.prog w K mg base (CX w) k fa fd [x] sp)
    (hCX : ∀ (w : World) (H : Hp) (s : Shared) (e : Value) (s' : Shared), CX w [] H s (fun _ _ _ => False) e s' → False) :
    PySem.W.WalkO q loose XP YP l.row.toRowW d [] (fun f vs => PySem.call f vs) := by
  refine Att.attach_call hn hdf fun w s₀ s₁ mg mb fa o pm cd doc a vs ns G Y ho hd hcd hmg hobj hints hlen hg => ?_
  obtain ⟨K, fd, sp, KX, hb, hsp, hF⟩ := F w mg fa _ Y G.T.g hmg
  exact law_call KX G.T.g G.T.b G.T.builtins G.T.nolimit hg hobj hints (Nat.le_trans hlen hn2) hr hF hb (fun H hO hS => hsp H a ns hlen hO hS) fun H e s' => hCX w H s₁ e s'
/-- the law's promise from its plain function: the answer is True -/
theorem sp_law {K : Fk} {fm : List D → Option (D × List D)} {H : Hp} {a : Addr} {ns : List Int} {E : XK} (hO : Only H) (hS : SqL K H a (ns.map V.int)) (o : List D) (e : fm [.nd false .sl (ns.map .int)] = some (.bl true, o)) : spD K 1 fm [.ref a] H (fun v _ => v = .bl true) E := by
  refine ⟨rfl, [], [.nd false .sl (ns.map .int)], .bl true, o, rfl, ?_, e, fun v H' r => ?_⟩
  · refine ⟨H, [], fun _ _ z => z, ?_, List.nodup_nil, fun _ h => nomatch h⟩
    have lp : ∀ ns : List Int, OwnL K H H (ns.map fun i => (V.int i, D.int i)) [] := by
      intro ns
      induction ns with
      | nil => exact .nil
      | cons i r ih => exact .cons (f := []) (.atom (.int i)) ih
    have ft : Fits K a (.lst (ns.map V.int)) .sl ((ns.map fun i => (V.int i, D.int i)).map (·.1)) := by
      rw [List.map_map]
      exact .sl _
    have ow : Own K H H (.ref a) (.nd false .sl ((ns.map fun i => (V.int i, D.int i)).map (·.2))) [] := .frz (o := .lst (ns.map V.int)) ⟨_, rfl, hS⟩ ft (lp ns)
    rw [List.map_map] at ow
    exact .cons (f := []) ow .nil
  · exact R.vbl r
end VH

/-! Plain functions, by what is wanted behind them. -/
namespace VH
open PySem L2
def wE {α : Type} (m : EM α) (env : Env) (Q : α → Env → Prop) : Prop := ∃ a e, m env = some (a, e) ∧ Q a e
def wA (as : List Arg) (env : Env) (Q : List D → List (Option Part) → Env → Prop) : Prop := ∃ ds ps e, evs as env = some (ds, ps, e) ∧ Q ds ps e
def wS (m : SM) (env : Env) (Q : O → Prop) : Prop := ∃ o, m env = some o ∧ Q o
def wF (fm : List D → Option (D × List D)) (ds : List D) (Q : D → List D → Prop) : Prop := ∃ d os, fm ds = some (d, os) ∧ os.length = ds.length ∧ Q d os
def wO {α : Type} (o : Option α) (Q : α → Prop) : Prop := ∃ a, o = some a ∧ Q a
section
variable {α : Type} {env : Env} {Q : D → Env → Prop} {QB : Bool → Env → Prop} {QA : List D → List (Option Part) → Env → Prop} {QS : O → Prop} {QF : D → List D → Prop} {QL : List D → Env → Prop}
theorem wE.mono {m : EM α} {Q Q' : α → Env → Prop} (h : wE m env Q) (k : ∀ a e, Q a e → Q' a e) : wE m env Q' := let ⟨a, e, h1, h2⟩ := h; ⟨a, e, h1, k a e h2⟩
theorem wF.mono {fm : List D → Option (D × List D)} {ds : List D} {Q Q' : D → List D → Prop} (h : wF fm ds Q) (k : ∀ a e, Q a e → Q' a e) : wF fm ds Q' := let ⟨a, e, h1, h2, h3⟩ := h; ⟨a, e, h1, h2, k a e h3⟩
theorem wS.mono {m : SM} {Q Q' : O → Prop} (h : wS m env Q) (k : ∀ o, Q o → Q' o) : wS m env Q' := let ⟨a, h1, h2⟩ := h; ⟨a, h1, k a h2⟩
theorem wO_some {a : α} {Q : α → Prop} : wO (some a) Q ↔ Q a := ⟨fun ⟨b, e, q⟩ => by cases e; exact q, fun q => ⟨a, rfl, q⟩⟩
theorem wO_none {Q : α → Prop} : wO (none : Option α) Q ↔ False := ⟨(fun h => by obtain ⟨_, e, _⟩ := h; cases e), fun h => h.elim⟩
theorem wF_some {fm : List D → Option (D × List D)} {ds : List D} {d : D} {os : List D} (h : fm ds = some (d, os)) (hl : os.length = ds.length) : wF fm ds QF ↔ QF d os :=
  ⟨fun ⟨a, b, e, _, q⟩ => by rw [h] at e; cases e; exact q, fun q => ⟨d, os, h, hl, q⟩⟩
theorem wF_if {fm : List D → Option (D × List D)} {ds : List D} {d : D} {os : List D} {c : Prop} [Decidable c] (h : fm ds = if c then some (d, os) else none) (hl : os.length = ds.length) : wF fm ds QF ↔ c ∧ QF d os := by
  by_cases hc : c
  · rw [if_pos hc] at h
    rw [wF_some h hl]
    simp [hc]
  · rw [if_neg hc] at h
    simp only [hc, false_and, iff_false]
    rintro ⟨a, b, e, _⟩
    rw [h] at e; cases e
/-! expressions -/
theorem slTake_var {i : Nat} : wE (slTake i) env Q ↔ ∃ d, env[i]? = some (some d) ∧ Q d (env.set i none) := by
  unfold wE slTake
  constructor
  · rintro ⟨a, e, h, q⟩
    split at h
    · rename_i d hd; cases h; exact ⟨_, hd, q⟩
    · cases h
  · rintro ⟨d, hd, q⟩
    exact ⟨d, _, by rw [hd], q⟩
theorem wE_var {i : Nat} : wE (mVar i) env Q ↔ ∃ d, env[i]? = some (some d) ∧ Q d.fz (env.set i (some d.fz)) := by
  unfold wE mVar slTake
  constructor
  · rintro ⟨a, e, h, q⟩
    split at h
    · rename_i d e0 hd
      split at hd
      · rename_i d1 h1
        cases hd; cases h; exact ⟨_, h1, q⟩
      · cases hd
    · cases h
  · rintro ⟨d, hd, q⟩
    exact ⟨d.fz, _, by rw [hd], q⟩
theorem wE_c {d : D} : wE (mC d) env Q ↔ Q d env := ⟨fun ⟨a, e, h, q⟩ => by cases h; exact q, fun q => ⟨_, _, rfl, q⟩⟩
theorem wA_nil : wA [] env QA ↔ QA [] [] env := ⟨fun ⟨a, b, e, h, q⟩ => by cases h; exact q, fun q => ⟨_, _, _, rfl, q⟩⟩
theorem wA_ex {m : EM D} {as : List Arg} : wA (.ex m :: as) env QA ↔ wE m env fun d e => wA as e fun ds ps e => QA (d :: ds) (none :: ps) e := by
  constructor
  · rintro ⟨ds, ps, e, h, q⟩
    simp only [evs, Arg.ev] at h
    cases h1 : m env with
    | none => rw [h1] at h; cases h
    | some x =>
      obtain ⟨d, e1⟩ := x
      rw [h1] at h
      simp only at h
      cases h2 : evs as e1 with
      | none => rw [h2] at h; cases h
      | some y =>
        obtain ⟨ds1, ps1, e2⟩ := y
        rw [h2] at h; cases h
        exact ⟨d, e1, h1, ds1, ps1, _, h2, q⟩
  · rintro ⟨d, e1, h1, ds, ps, e, h2, q⟩
    exact ⟨_, _, _, by simp only [evs, Arg.ev, h1, h2], q⟩
theorem wA_sl {i : Nat} {as : List Arg} : wA (.sl i :: as) env QA ↔ wE (slTake i) env fun d e => wA as e fun ds ps e => QA (d :: ds) (none :: ps) e := by
  constructor
  · rintro ⟨ds, ps, e, h, q⟩
    simp only [evs, Arg.ev] at h
    cases h1 : slTake i env with
    | none => rw [h1] at h; cases h
    | some x =>
      obtain ⟨d, e1⟩ := x
      rw [h1] at h
      simp only at h
      cases h2 : evs as e1 with
      | none => rw [h2] at h; cases h
      | some y =>
        obtain ⟨ds1, ps1, e2⟩ := y
        rw [h2] at h; cases h
        exact ⟨d, e1, h1, ds1, ps1, _, h2, q⟩
  · rintro ⟨d, e1, h1, ds, ps, e, h2, q⟩
    exact ⟨_, _, _, by simp only [evs, Arg.ev, h1, h2], q⟩
theorem wA_pk {i : Nat} {k : Key} {as : List Arg} : wA (.pt i (pKey k) :: as) env QA ↔ wE (slTake i) env fun d e => ∃ c p, selKey k d = some (c, p) ∧ wA as e fun ds ps e => QA (c :: ds) (some p :: ps) e := by
  constructor
  · rintro ⟨ds, ps, e, h, q⟩
    simp only [evs, Arg.ev, pKey] at h
    cases h1 : slTake i env with
    | none => rw [h1] at h; cases h
    | some x =>
      obtain ⟨d, e1⟩ := x
      rw [h1] at h
      simp only at h
      cases h3 : selKey k d with
      | none => rw [h3] at h; cases h
      | some z =>
        obtain ⟨c, p⟩ := z
        rw [h3] at h
        simp only at h
        cases h2 : evs as e1 with
        | none => rw [h2] at h; cases h
        | some y =>
          obtain ⟨ds1, ps1, e2⟩ := y
          rw [h2] at h; cases h
          exact ⟨d, e1, h1, c, p, h3, ds1, ps1, _, h2, q⟩
  · rintro ⟨d, e1, h1, c, p, h3, ds, ps, e, h2, q⟩
    exact ⟨_, _, _, by simp only [evs, Arg.ev, pKey, h1, h2, h3], q⟩
theorem wE_app {fm : List D → Option (D × List D)} {as : List Arg} : wE (mApp fm as) env Q ↔ wA as env fun ds ps e => wF fm ds fun d os => Q d (putB as ps os e) := by
  constructor
  · rintro ⟨d, e, h, q⟩
    obtain ⟨ds, ps, e1, os, h1, h2, h3, h4⟩ := mApp_eq h
    subst h4
    exact ⟨ds, ps, e1, h1, d, os, h2, h3, q⟩
  · rintro ⟨ds, ps, e1, h1, d, os, h2, h3, q⟩
    exact ⟨d, _, by simp only [mApp, h1, h2, h3, if_true], q⟩
theorem wE_apps {g : List D → Option D} {as : List Arg} : wE (mApps g as) env Q ↔ wA as env fun ds ps e => wO (g ds) fun d => Q d (putB as ps (List.replicate ds.length .any) e) := by
  unfold mApps
  rw [wE_app]
  constructor
  · rintro ⟨ds, ps, e, h, d, os, h2, h3, q⟩
    refine ⟨ds, ps, e, h, ?_⟩
    simp only at h2
    cases hg : g ds with
    | none => rw [hg] at h2; cases h2
    | some d1 =>
      rw [hg] at h2; cases h2
      exact ⟨_, hg, q⟩
  · rintro ⟨ds, ps, e, h, d, hg, q⟩
    exact ⟨ds, ps, e, h, d, List.replicate ds.length .any, by simp only [hg], by simp, q⟩
theorem wE_args {as : List Arg} {g : List D → Option (List D)} : wE (mArgs as g) env QL ↔ wA as env fun ds ps e => wO (g ds) fun xs => QL xs e := by
  constructor
  · rintro ⟨xs, e, h, q⟩
    obtain ⟨ds, ps, h1, h2⟩ := mArgs_eq h
    exact ⟨ds, ps, e, h1, xs, h2, q⟩
  · rintro ⟨ds, ps, e, h1, xs, h2, q⟩
    exact ⟨xs, e, by simp only [mArgs, h1, h2], q⟩
theorem wE_it {m : EM D} : wE (mIt m) env QL ↔ wE m env fun d e => wO d.items fun xs => QL xs e := by
  constructor
  · rintro ⟨xs, e, h, q⟩
    unfold mIt at h
    split at h
    · rename_i d e0 h1
      split at h
      · rename_i ds h2; cases h; exact ⟨d, _, h1, _, h2, q⟩
      · cases h
    · cases h
  · rintro ⟨d, e, h1, xs, h2, q⟩
    exact ⟨xs, e, by simp only [mIt, h1, h2], q⟩
/-! tests -/
theorem wE_test {m : EM D} : wE (mTest m) env QB ↔ wE m env fun d e => ∃ b, d = .bl b ∧ QB b e := by
  constructor
  · rintro ⟨b, e, h, q⟩
    exact ⟨_, _, mTest_eq h, b, rfl, q⟩
  · rintro ⟨d, e, h, b, rfl, q⟩
    exact ⟨b, e, by simp only [mTest, h], q⟩
theorem wE_andT {m n : EM Bool} : wE (mAndT m n) env QB ↔ wE m env fun b e => if b then wE n e QB else QB false e := by
  constructor
  · rintro ⟨b, e, h, q⟩
    unfold mAndT at h
    split at h
    · rename_i e0 h1; exact ⟨true, e0, h1, b, e, h, q⟩
    · rename_i e0 h1; cases h; exact ⟨false, _, h1, q⟩
    · cases h
  · rintro ⟨b, e, h, q⟩
    cases b with
    | true => obtain ⟨b2, e2, h2, q2⟩ := q; exact ⟨b2, e2, by simp only [mAndT, h, h2], q2⟩
    | false => exact ⟨false, e, by simp only [mAndT, h], q⟩
theorem wE_orT {m n : EM Bool} : wE (mOrT m n) env QB ↔ wE m env fun b e => if b then QB true e else wE n e QB := by
  constructor
  · rintro ⟨b, e, h, q⟩
    unfold mOrT at h
    split at h
    · rename_i e0 h1; cases h; exact ⟨true, _, h1, q⟩
    · rename_i e0 h1; exact ⟨false, e0, h1, b, e, h, q⟩
    · cases h
  · rintro ⟨b, e, h, q⟩
    cases b with
    | false => obtain ⟨b2, e2, h2, q2⟩ := q; exact ⟨b2, e2, by simp only [mOrT, h, h2], q2⟩
    | true => exact ⟨true, e, by simp only [mOrT, h], q⟩
theorem wE_notT {m : EM Bool} : wE (mNotT m) env QB ↔ wE m env fun b e => QB (!b) e := by
  constructor
  · rintro ⟨b, e, h, q⟩
    unfold mNotT at h
    split at h
    · rename_i b0 e0 h1; cases h; exact ⟨b0, _, h1, q⟩
    · cases h
  · rintro ⟨b, e, h, q⟩
    exact ⟨!b, e, by simp only [mNotT, h], q⟩
theorem wE_andV {m n : EM D} : wE (mAndV m n) env Q ↔ wE m env fun d e => ∃ b, d = .bl b ∧ if b then wE n e Q else Q (.bl false) e := by
  constructor
  · rintro ⟨d, e, h, q⟩
    unfold mAndV at h
    split at h
    · rename_i e0 h1; exact ⟨_, e0, h1, true, rfl, d, e, h, q⟩
    · rename_i e0 h1; cases h; exact ⟨_, _, h1, false, rfl, q⟩
    · cases h
  · rintro ⟨d, e, h, b, rfl, q⟩
    cases b with
    | true => obtain ⟨b2, e2, h2, q2⟩ := q; exact ⟨b2, e2, by simp only [mAndV, h, h2], q2⟩
    | false => exact ⟨.bl false, e, by simp only [mAndV, h], q⟩
theorem wE_orV {m n : EM D} : wE (mOrV m n) env Q ↔ wE m env fun d e => ∃ b, d = .bl b ∧ if b then Q (.bl true) e else wE n e Q := by
  constructor
  · rintro ⟨d, e, h, q⟩
    unfold mOrV at h
    split at h
    · rename_i e0 h1; cases h; exact ⟨_, _, h1, true, rfl, q⟩
    · rename_i e0 h1; exact ⟨_, e0, h1, false, rfl, d, e, h, q⟩
    · cases h
  · rintro ⟨d, e, h, b, rfl, q⟩
    cases b with
    | false => obtain ⟨b2, e2, h2, q2⟩ := q; exact ⟨b2, e2, by simp only [mOrV, h, h2], q2⟩
    | true => exact ⟨.bl true, e, by simp only [mOrV, h], q⟩
theorem wE_notV {m : EM D} : wE (mNotV m) env Q ↔ wE m env fun d e => ∃ b, d = .bl b ∧ Q (.bl (!b)) e := by
  constructor
  · rintro ⟨d, e, h, q⟩
    unfold mNotV at h
    split at h
    · rename_i b e0 h1; cases h; exact ⟨_, _, h1, b, rfl, q⟩
    · cases h
  · rintro ⟨d, e, h, b, rfl, q⟩
    exact ⟨_, e, by simp only [mNotV, h], q⟩
theorem wE_ifE {c : EM Bool} {m n : EM D} : wE (mIfE c m n) env Q ↔ wE c env fun b e => if b then wE m e Q else wE n e Q := by
  constructor
  · rintro ⟨d, e, h, q⟩
    unfold mIfE at h
    split at h
    · rename_i e0 h1; exact ⟨true, e0, h1, d, e, h, q⟩
    · rename_i e0 h1; exact ⟨false, e0, h1, d, e, h, q⟩
    · cases h
  · rintro ⟨b, e, h, q⟩
    cases b with
    | false => obtain ⟨b2, e2, h2, q2⟩ := q; exact ⟨b2, e2, by simp only [mIfE, h, h2], q2⟩
    | true => obtain ⟨b2, e2, h2, q2⟩ := q; exact ⟨b2, e2, by simp only [mIfE, h, h2], q2⟩
theorem wE_tt : wE (fun env => some (true, env)) env QB ↔ QB true env := ⟨fun ⟨a, e, h, q⟩ => by cases h; exact q, fun q => ⟨_, _, rfl, q⟩⟩
theorem wE_dnewK : wE mDNewK env Q ↔ Q (.nd true (.dK []) []) env := ⟨fun ⟨a, e, h, q⟩ => by cases h; exact q, fun q => ⟨_, _, rfl, q⟩⟩
theorem wE_slice {m : EM D} {lo hi : Env → Option (Option Int × Env)} : wE (mSlice m lo hi) env Q ↔ wE m env fun d e => wE lo e fun l e => wE hi e fun u e => wO (gCut l u d) fun d => Q d e := by
  constructor
  · rintro ⟨d, e, h, q⟩
    unfold mSlice at h
    split at h
    · rename_i d0 e1 h1
      split at h
      · rename_i l e2 h2
        split at h
        · rename_i u e3 h3
          split at h
          · rename_i d' h4; cases h; exact ⟨_, _, h1, _, _, h2, _, _, h3, _, h4, q⟩
          · cases h
        · cases h
      · cases h
    · cases h
  · rintro ⟨d0, e1, h1, l, e2, h2, u, e3, h3, d', h4, q⟩
    exact ⟨d', e3, by simp only [mSlice, h1, h2, h3, h4], q⟩
theorem wE_oNone {Q : Option Int → Env → Prop} : wE oNone env Q ↔ Q none env := ⟨fun ⟨a, e, h, q⟩ => by cases h; exact q, fun q => ⟨_, _, rfl, q⟩⟩
theorem wE_oSome {m : EM D} {Q : Option Int → Env → Prop} : wE (oSome m) env Q ↔ wE m env fun d e => ∃ i, d = .int i ∧ Q (some i) e := by
  constructor
  · rintro ⟨a, e, h, q⟩
    unfold oSome at h
    split at h
    · rename_i i e0 h1; cases h; exact ⟨_, _, h1, i, rfl, q⟩
    · cases h
  · rintro ⟨d, e, h, i, rfl, q⟩
    exact ⟨some i, e, by simp only [oSome, h], q⟩
/-! statements -/
theorem wS_next : wS sNext env QS ↔ QS (.nx env) := ⟨fun ⟨o, h, q⟩ => by cases h; exact q, fun q => ⟨_, rfl, q⟩⟩
theorem wS_break : wS sBreak env QS ↔ QS (.bk env) := ⟨fun ⟨o, h, q⟩ => by cases h; exact q, fun q => ⟨_, rfl, q⟩⟩
theorem wS_cont : wS sCont env QS ↔ QS (.ct env) := ⟨fun ⟨o, h, q⟩ => by cases h; exact q, fun q => ⟨_, rfl, q⟩⟩
theorem wS_retN : wS sRetN env QS ↔ QS (.rt .non env) := ⟨fun ⟨o, h, q⟩ => by cases h; exact q, fun q => ⟨_, rfl, q⟩⟩
/-- what is wanted behind the first part -/
def nxt (n : SM) (Q : O → Prop) : O → Prop
  | .nx e => wS n e Q
  | o => Q o
theorem nxt_nx {n : SM} {e : Env} : nxt n QS (.nx e) ↔ wS n e QS := Iff.rfl
theorem nxt_rt {n : SM} {d : D} {e : Env} : nxt n QS (.rt d e) ↔ QS (.rt d e) := Iff.rfl
theorem nxt_bk {n : SM} {e : Env} : nxt n QS (.bk e) ↔ QS (.bk e) := Iff.rfl
theorem nxt_ct {n : SM} {e : Env} : nxt n QS (.ct e) ↔ QS (.ct e) := Iff.rfl
theorem wS_seq {m n : SM} : wS (sSeq m n) env QS ↔ wS m env (nxt n QS) := by
  constructor
  · rintro ⟨o, h, q⟩
    unfold sSeq at h
    split at h
    · rename_i e h1; exact ⟨_, h1, o, h, q⟩
    · rename_i hx
      refine ⟨o, h, ?_⟩
      cases o with
      | nx e => exact absurd h (hx e)
      | _ => exact q
  · rintro ⟨o, h, q⟩
    cases o with
    | nx e => obtain ⟨o2, h2, q2⟩ := q; exact ⟨o2, by simp only [sSeq, h, h2], q2⟩
    | bk e => exact ⟨_, by simp only [sSeq, h], q⟩
    | ct e => exact ⟨_, by simp only [sSeq, h], q⟩
    | rt d e => exact ⟨_, by simp only [sSeq, h], q⟩
theorem wS_drop {m : EM D} : wS (sDrop m) env QS ↔ wE m env fun _ e => QS (.nx e) := by
  constructor
  · rintro ⟨o, h, q⟩
    unfold sDrop at h
    split at h
    · rename_i d e h1; cases h; exact ⟨d, e, h1, q⟩
    · cases h
  · rintro ⟨d, e, h, q⟩
    exact ⟨_, by simp only [sDrop, h], q⟩
theorem wS_ret {m : EM D} : wS (sRet m) env QS ↔ wE m env fun d e => QS (.rt d e) := by
  constructor
  · rintro ⟨o, h, q⟩
    unfold sRet at h
    split at h
    · rename_i d e h1; cases h; exact ⟨d, e, h1, q⟩
    · cases h
  · rintro ⟨d, e, h, q⟩
    exact ⟨_, by simp only [sRet, h], q⟩
theorem wS_if {c : EM Bool} {m n : SM} : wS (sIf c m n) env QS ↔ wE c env fun b e => if b then wS m e QS else wS n e QS := by
  constructor
  · rintro ⟨o, h, q⟩
    unfold sIf at h
    split at h
    · rename_i e h1; exact ⟨true, e, h1, o, h, q⟩
    · rename_i e h1; exact ⟨false, e, h1, o, h, q⟩
    · cases h
  · rintro ⟨b, e, h, q⟩
    cases b with
    | true => obtain ⟨o, h2, q2⟩ := q; exact ⟨o, by simp only [sIf, h, h2], q2⟩
    | false => obtain ⟨o, h2, q2⟩ := q; exact ⟨o, by simp only [sIf, h, h2], q2⟩
theorem wS_asg {m : EM D} {g : D → Env → Option Env} : wS (sAsg m g) env QS ↔ wE m env fun d e => wO (g d e) fun e => QS (.nx e) := by
  constructor
  · rintro ⟨o, h, q⟩
    unfold sAsg at h
    split at h
    · rename_i d e h1
      split at h
      · rename_i e2 h2; cases h; exact ⟨d, e, h1, e2, h2, q⟩
      · cases h
    · cases h
  · rintro ⟨d, e, h, e2, h2, q⟩
    exact ⟨_, by simp only [sAsg, h, h2], q⟩
theorem wS_par2 {i j : Nat} {as : List Arg} : wS (sPar2 i j as) env QS ↔ wA as env fun ds ps e => ∃ a b, ds = [a, b] ∧ QS (.nx ((e.set i (some a)).set j (some b))) := by
  constructor
  · rintro ⟨o, h, q⟩
    unfold sPar2 at h
    split at h
    · rename_i a b e h1
      cases h
      obtain ⟨ds, ps, h2, h3⟩ := mArgs_eq h1
      cases h3
      exact ⟨_, ps, e, h2, a, b, rfl, q⟩
    · cases h
  · rintro ⟨ds, ps, e, h, a, b, rfl, q⟩
    exact ⟨_, by simp only [sPar2, mArgs, h], q⟩
theorem wS_par3 {i j l : Nat} {as : List Arg} : wS (sPar3 i j l as) env QS ↔ wA as env fun ds ps e => ∃ a b c, ds = [a, b, c] ∧ QS (.nx (((e.set i (some a)).set j (some b)).set l (some c))) := by
  constructor
  · rintro ⟨o, h, q⟩
    unfold sPar3 at h
    split at h
    · rename_i a b c e h1
      cases h
      obtain ⟨ds, ps, h2, h3⟩ := mArgs_eq h1
      cases h3
      exact ⟨_, ps, e, h2, a, b, c, rfl, q⟩
    · cases h
  · rintro ⟨ds, ps, e, h, a, b, c, rfl, q⟩
    exact ⟨_, by simp only [sPar3, mArgs, h], q⟩
/-! targets -/
theorem gm_name {i : Nat} {d : D} {Q : Env → Prop} : wO (gmName i d env) Q ↔ Q (env.set i (some d)) := wO_some
theorem gm_nil {Q : Env → Prop} : wO (gmNil [] env) Q ↔ Q env := wO_some
theorem gm_cons {m : D → Env → Option Env} {n : List D → Env → Option Env} {d : D} {ds : List D} {Q : Env → Prop} : wO (gmCons m n (d :: ds) env) Q ↔ wO (m d env) fun e => wO (n ds e) Q := by
  constructor
  · rintro ⟨e, h, q⟩
    simp only [gmCons] at h
    split at h
    · rename_i e1 h1; exact ⟨e1, h1, e, h, q⟩
    · cases h
  · rintro ⟨e1, h1, e, h, q⟩
    exact ⟨e, by simp only [gmCons, h1, h], q⟩
theorem gm_tup {n : Nat} {m : List D → Env → Option Env} {b : Bool} {xs : List D} {Q : Env → Prop} (hl : xs.length = n) : wO (gmTup n m (.nd b .tup xs) env) Q ↔ wO (m xs env) Q := by
  unfold gmTup
  simp only [hl, if_true]
/-! loops -/
theorem wS_for_ {it : EM (List D)} {g : D → Env → Option Env} {b : SM} : wS (sFor it g b) env QS ↔ wE it env fun ds e => wS (forL g b ds) e QS := by
  constructor
  · rintro ⟨o, h, q⟩
    unfold sFor at h
    split at h
    · rename_i ds e h1; exact ⟨ds, e, h1, o, h, q⟩
    · cases h
  · rintro ⟨ds, e, h, o, h2, q⟩
    exact ⟨o, by simp only [sFor, h, h2], q⟩
/-- behind a turn of a loop -/
def turned (I : Env → Prop) (Q : O → Prop) : O → Prop
  | .nx e => I e
  | .ct e => I e
  | .bk e => Q (.nx e)
  | .rt d e => Q (.rt d e)
theorem wL_inv {g : D → Env → Option Env} {b : SM} (I : Nat → Env → Prop) (all : List D) (hs : ∀ i d e, all[i]? = some d → I i e → wO (g d e) fun e1 => wS b e1 (turned (I (i + 1)) QS)) (hq : ∀ e, I all.length e → QS (.nx e)) :
    ∀ (ds : List D) (i : Nat) (env : Env), all.drop i = ds → i ≤ all.length → I i env → wS (forL g b ds) env QS
  | [], i, env, hd, hi, h => by
    have : i = all.length := by
      have := congrArg List.length hd
      simp at this; omega
    subst this
    exact ⟨_, rfl, hq env h⟩
  | d :: ds, i, env, hd, hi, h => by
    have hlt : i < all.length := by
      refine Decidable.byContradiction fun z => ?_
      rw [List.drop_eq_nil_of_le (by omega)] at hd
      cases hd
    rw [drop_cons hlt] at hd
    have e1 : all[i] = d := (List.cons.inj hd).1
    have e2 : all.drop (i + 1) = ds := (List.cons.inj hd).2
    obtain ⟨e3, h3, o, h4, q⟩ := hs i d env (by rw [List.getElem?_eq_getElem hlt, e1]) h
    cases o with
    | nx e4 =>
      obtain ⟨o, h5, q5⟩ := wL_inv I all hs hq ds (i + 1) e4 e2 hlt q
      exact ⟨o, by simp only [forL, h3, h4, h5], q5⟩
    | ct e4 =>
      obtain ⟨o, h5, q5⟩ := wL_inv I all hs hq ds (i + 1) e4 e2 hlt q
      exact ⟨o, by simp only [forL, h3, h4, h5], q5⟩
    | bk e4 => exact ⟨_, by simp only [forL, h3, h4], q⟩
    | rt d4 e4 => exact ⟨_, by simp only [forL, h3, h4], q⟩
/-- a loop, by what holds ahead of the i-th turn -/
theorem wL {g : D → Env → Option Env} {b : SM} {all : List D} (I : Nat → Env → Prop) (h : I 0 env) (hs : ∀ i d e, all[i]? = some d → I i e → wO (g d e) fun e1 => wS b e1 (turned (I (i + 1)) QS)) (hq : ∀ e, I all.length e → QS (.nx e)) : wS (forL g b all) env QS :=
  wL_inv I all hs hq all 0 env rfl (Nat.zero_le _) h
theorem wW {c : EM Bool} {b : SM} {fuel : Nat} (I : Nat → Env → Prop) (hs : ∀ n e, I n e → wE c e fun t e1 => if t then wS b e1 (turned (fun e2 => ∃ m, m < n ∧ I m e2) QS) else QS (.nx e1)) : ∀ {n : Nat} {env : Env}, I n env → n < fuel → wS (whileN c b fuel) env QS := by
  induction fuel with
  | zero => intro n env _ h; omega
  | succ k ih =>
    intro n env h hn
    obtain ⟨t, e1, h1, q⟩ := hs n env h
    cases t with
    | false => exact ⟨_, by simp only [whileN, h1], q⟩
    | true =>
      obtain ⟨o, h2, q2⟩ := q
      cases o with
      | nx e2 =>
        obtain ⟨m, hm, h3⟩ := q2
        obtain ⟨o, h4, q4⟩ := ih h3 (by omega)
        exact ⟨o, by simp only [whileN, h1, h2, h4], q4⟩
      | ct e2 =>
        obtain ⟨m, hm, h3⟩ := q2
        obtain ⟨o, h4, q4⟩ := ih h3 (by omega)
        exact ⟨o, by simp only [whileN, h1, h2, h4], q4⟩
      | bk e2 => exact ⟨_, by simp only [whileN, h1, h2], q2⟩
      | rt d2 e2 => exact ⟨_, by simp only [whileN, h1, h2], q2⟩
theorem wE_comp {it : EM (List D)} {g : D → Env → Option Env} {c : EM Bool} {m : EM D} {vs : List Nat} : wE (mComp it g c m vs) env Q ↔ wE it env fun ds e => wE (compL g c m vs ds) (wipeE e vs) fun ys e => ys.length ≤ sizeLine ∧ Q (.nd true .lst ys) e := by
  constructor
  · rintro ⟨d, e, h, q⟩
    unfold mComp at h
    split at h
    · rename_i ds e0 h1
      split at h
      · rename_i ys e1 h2
        split at h
        · rename_i hz; cases h; exact ⟨ds, e0, h1, ys, _, h2, hz, q⟩
        · cases h
      · cases h
    · cases h
  · rintro ⟨ds, e0, h1, ys, e, h2, hz, q⟩
    exact ⟨.nd true .lst ys, e, by simp only [mComp, h1, h2, hz, if_true], q⟩
/-- a comprehension, by what holds ahead of the i-th turn (ys: what is made so far) -/
theorem wC_inv {g : D → Env → Option Env} {c : EM Bool} {m : EM D} {vs : List Nat} (I : Nat → List D → Env → Prop) (all : List D)
    (hs : ∀ i d ys e, all[i]? = some d → I i ys e → wO (g d e) fun e1 => wE c e1 fun b e2 => if b then wE m e2 fun y e3 => I (i + 1) (ys ++ [y]) (wipeE e3 vs) else I (i + 1) ys (wipeE e2 vs)) :
    ∀ (ds : List D) (i : Nat) (ys : List D) (env : Env), all.drop i = ds → i ≤ all.length → I i ys env → wE (compL g c m vs ds) env fun ws e => I all.length (ys ++ ws) e
  | [], i, ys, env, hd, hi, h => by
    have : i = all.length := by
      have := congrArg List.length hd
      simp at this; omega
    subst this
    exact ⟨_, _, rfl, by simpa using h⟩
  | d :: ds, i, ys, env, hd, hi, h => by
    have hlt : i < all.length := by
      refine Decidable.byContradiction fun z => ?_
      rw [List.drop_eq_nil_of_le (by omega)] at hd
      cases hd
    rw [drop_cons hlt] at hd
    have e1 : all[i] = d := (List.cons.inj hd).1
    have e2 : all.drop (i + 1) = ds := (List.cons.inj hd).2
    obtain ⟨e3, h3, b, e4, h4, q⟩ := hs i d ys env (by rw [List.getElem?_eq_getElem hlt, e1]) h
    cases b with
    | false =>
      obtain ⟨zs, e5, h5, q5⟩ := wC_inv I all hs ds (i + 1) ys _ e2 hlt q
      exact ⟨zs, e5, by simp only [compL, h3, h4, h5], q5⟩
    | true =>
      obtain ⟨y, e5, h5, q5⟩ := q
      obtain ⟨zs, e6, h6, q6⟩ := wC_inv I all hs ds (i + 1) (ys ++ [y]) _ e2 hlt q5
      exact ⟨y :: zs, e6, by simp only [compL, h3, h4, h5, h6], by simpa using q6⟩
/-- a comprehension -/
theorem wC {g : D → Env → Option Env} {c : EM Bool} {m : EM D} {vs : List Nat} {all : List D} (I : Nat → List D → Env → Prop) (h : I 0 [] env)
    (hs : ∀ i d ys e, all[i]? = some d → I i ys e → wO (g d e) fun e1 => wE c e1 fun b e2 => if b then wE m e2 fun y e3 => I (i + 1) (ys ++ [y]) (wipeE e3 vs) else I (i + 1) ys (wipeE e2 vs)) (hq : ∀ ys e, I all.length ys e → QL ys e) : wE (compL g c m vs all) env QL :=
  (wC_inv I all hs all 0 [] env rfl (Nat.zero_le _) h).mono fun ys e z => hq ys e (by simpa using z)
/-! defs -/
theorem wF_fn {np nN : Nat} {io : List Nat} {m : SM} {ds : List D} (hl : ds.length = np) (h : wS m (ds.map some ++ List.replicate (nN - np) none) fun o => match o with
    | .rt d e => QF d (outs io 0 np e)
    | .nx e => QF .non (outs io 0 np e)
    | _ => False) : wF (fnD np nN io m) ds QF := by
  have ol : ∀ (n k : Nat) (e : Env), (outs io k n e).length = n := by
    intro n
    induction n with
    | zero => intro k e; rfl
    | succ n ih => intro k e; simp [outs, ih]
  obtain ⟨o, h1, q⟩ := h
  cases o with
  | rt d e => exact ⟨d, _, by simp only [fnD, hl, if_true, h1], by rw [ol, hl], q⟩
  | nx e => exact ⟨.non, _, by simp only [fnD, hl, if_true, h1], by rw [ol, hl], q⟩
  | bk e => exact q.elim
  | ct e => exact q.elim
end
end VH

/-! What the built-ins do, by the shapes of what they are given. -/
namespace VH
open PySem L2
section
variable {Q : D → List D → Prop} {i j : Int} {a b : Str} {m n : Bool} {xs ys : List D} {x y d : D} {h : Hd}
theorem wF_II {C : Int → Int → Bool} {g : Int → Int → D} : wF (fII C g) [.int i, .int j] Q ↔ C i j = true ∧ Q (g i j) [.any, .any] := wF_if rfl rfl
theorem wF_addI : wF fAdd [.int i, .int j] Q ↔ Q (.int (i + j)) [.any, .any] := wF_some rfl rfl
theorem wF_addS : wF fAdd [.str a, .str b] Q ↔ a.length + b.length ≤ sizeLine ∧ Q (.str (a ++ b)) [.any, .any] := wF_if rfl rfl
theorem wF_addL : wF fAdd [.nd m .lst xs, .nd n .lst ys] Q ↔ xs.length + ys.length ≤ sizeLine ∧ Q (.nd true .lst (xs ++ ys)) [.any, .any] := wF_if rfl rfl
theorem wF_addT : wF fAdd [.nd m .tup xs, .nd n .tup ys] Q ↔ xs.length + ys.length ≤ sizeLine ∧ Q (.nd false .tup (D.fzL xs ++ D.fzL ys)) [.any, .any] := wF_if rfl rfl
theorem wF_subI : wF fSub [.int i, .int j] Q ↔ Q (.int (i - j)) [.any, .any] := wF_some rfl rfl
theorem wF_modI : wF fMod [.int i, .int j] Q ↔ 0 < j ∧ Q (.int (i % j)) [.any, .any] := by unfold fMod; rw [wF_II]; simp
theorem wF_divI : wF fDiv [.int i, .int j] Q ↔ (j ≠ 0 ∧ j.natAbs < 1073741824) ∧ Q (.int (i.fdiv j)) [.any, .any] := by unfold fDiv; rw [wF_II]; simp
theorem wF_powI : wF fPow [.int i, .int j] Q ↔ ((0 ≤ j ∧ j ≤ 1000000) ∧ i.natAbs < 2 ^ 64) ∧ Q (.int (i ^ j.toNat)) [.any, .any] := by unfold fPow; rw [wF_II]; simp only [Bool.and_eq_true, decide_eq_true_eq]
theorem wF_gtI : wF fGt [.int i, .int j] Q ↔ Q (.bl (decide (j < i))) [.any, .any] := wF_some rfl rfl
theorem wF_geI : wF fGe [.int i, .int j] Q ↔ Q (.bl (decide (j ≤ i))) [.any, .any] := wF_some rfl rfl
theorem wF_leI : wF fLe [.int i, .int j] Q ↔ Q (.bl (decide (i ≤ j))) [.any, .any] := wF_some rfl rfl
theorem wF_ltI : wF fLt [.int i, .int j] Q ↔ Q (.bl (decide (i < j))) [.any, .any] := wF_some rfl rfl
theorem wF_ltS : wF fLt [.str a, .str b] Q ↔ Q (.bl (strLt a b)) [.any, .any] := wF_some rfl rfl
theorem wF_addII : wF fAddI [.int i, .int j] Q ↔ Q (.int (i + j)) [.any, .any] := wF_some rfl rfl
theorem wF_mulI : wF fMulA [.int i, .int j] Q ↔ ((-(2 ^ 64) < i ∧ i < 2 ^ 64) ∨ (-(2 ^ 64) < j ∧ j < 2 ^ 64)) ∧ Q (.int (i * j)) [.any, .any] := by
  have e : (cSmall i || cSmall j) = true ↔ ((-(2 ^ 64) < i ∧ i < 2 ^ 64) ∨ (-(2 ^ 64) < j ∧ j < 2 ^ 64)) := by simp only [cSmall, Bool.or_eq_true, Bool.and_eq_true, decide_eq_true_eq]
  by_cases hc : (cSmall i || cSmall j) = true
  · have hf : fMulA [.int i, .int j] = some (.int (i * j), [.any, .any]) := by
      have h1 : fMulI [.int i, .int j] = some (.int (i * j), [.any, .any]) := if_pos hc
      unfold fMulA
      rw [h1]
    rw [wF_some hf rfl]
    exact ⟨fun q => ⟨e.mp hc, q⟩, fun q => q.2⟩
  · constructor
    · rintro ⟨d, os, z, _⟩
      have h1 : fMulI [.int i, .int j] = none := if_neg hc
      unfold fMulA at z
      rw [h1] at z
      cases z
    · rintro ⟨z, _⟩
      exact absurd (e.mpr z) hc
theorem wF_intI : wF fInt [.int i] Q ↔ Q (.int i) [.any] := wF_some rfl rfl
theorem wF_max2 : wF fMax2 [.int i, .int j] Q ↔ Q (.int (if j > i then j else i)) [.any, .any] := wF_some rfl rfl
theorem wF_lenL : wF fLen [.nd m .lst xs] Q ↔ Q (.int xs.length) [.nd m .lst xs] := wF_some rfl rfl
theorem wF_lenT : wF fLen [.nd m .tup xs] Q ↔ Q (.int xs.length) [.nd m .tup xs] := wF_some rfl rfl
theorem wF_lenS : wF fLen [.str a] Q ↔ a.length ≤ sizeLine ∧ Q (.int a.length) [.str a] := wF_if rfl rfl
theorem wF_listL : wF fList [.nd m .lst xs] Q ↔ Q (.nd true .lst xs) [.any] := wF_some rfl rfl
theorem wF_tupleL : wF fTuple [.nd m .lst xs] Q ↔ Q (.tup (D.fzL xs)) [.any] := wF_some rfl rfl
theorem wF_append : wF fAppend [.nd true .lst xs, y] Q ↔ xs.length < sizeLine ∧ Q .non [.nd true .lst (xs ++ [y.fz]), .any] := wF_if rfl rfl
theorem wF_extend : wF fExtend [.nd true .lst xs, .nd m .lst ys] Q ↔ xs.length + ys.length ≤ sizeLine ∧ Q .non [.nd true .lst (xs ++ D.fzL ys), .any] := wF_if rfl rfl
theorem wF_rev : wF fRev [.nd m .lst xs] Q ↔ Q (.nd true .lst xs.reverse) [.any] := wF_some rfl rfl
theorem wF_pop : wF fPop [.nd true .lst xs] Q ↔ wO xs.getLast? fun y => Q y [.nd true .lst xs.dropLast] := by
  constructor
  · rintro ⟨d, os, z, hl, q⟩
    simp only [fPop] at z
    split at z
    · rename_i y hy; cases z; exact ⟨_, hy, q⟩
    · cases z
  · rintro ⟨y, hy, q⟩
    exact ⟨y, [.nd true .lst xs.dropLast], by simp only [fPop, hy], rfl, q⟩
theorem wF_eqD : wF fEq [x, y] Q ↔ ∃ p q, x.py = some p ∧ y.py = some q ∧ (SeqAt.shaped p && SeqAt.shaped q) = true ∧ Q (.bl (PyData.eqv p q)) [x, y] := by
  constructor
  · rintro ⟨d, os, z, hl, q⟩
    simp only [fEq, fEqB] at z
    split at z
    · rename_i p q0 h1 h2
      split at z
      · rename_i h3; cases z; exact ⟨p, q0, h1, h2, h3, q⟩
      · cases z
    · cases z
  · rintro ⟨p, q0, h1, h2, h3, q⟩
    exact ⟨.bl (PyData.eqv p q0), [x, y], by simp only [fEq, fEqB, h1, h2, h3, if_true]; rfl, rfl, q⟩
theorem wF_neD : wF fNe [x, y] Q ↔ ∃ p q, x.py = some p ∧ y.py = some q ∧ (SeqAt.shaped p && SeqAt.shaped q) = true ∧ Q (.bl (!PyData.eqv p q)) [x, y] := by
  constructor
  · rintro ⟨d, os, z, hl, q⟩
    simp only [fNe, fEqB] at z
    split at z
    · rename_i p q0 h1 h2
      split at z
      · rename_i h3; cases z; exact ⟨p, q0, h1, h2, h3, q⟩
      · cases z
    · cases z
  · rintro ⟨p, q0, h1, h2, h3, q⟩
    exact ⟨_, [x, y], by simp only [fNe, fEqB, h1, h2, h3, if_true], rfl, q⟩
theorem wF_ix (hh : h = .lst ∨ h = .sl ∨ h = .tup ∨ h = .st) : wF fIx [.nd m h xs, .int i] Q ↔ wO (ixN xs.length i) fun j => wO xs[j]? fun d => Q d.fz [.nd m h (xs.set j d.fz), .int i] := by
  constructor
  · rintro ⟨d, os, z, hl, q⟩
    simp only [fIx, hh, if_true] at z
    split at z
    · rename_i j hj
      split at z
      · rename_i c hc; cases z; exact ⟨j, hj, c, hc, q⟩
      · cases z
    · cases z
  · rintro ⟨j, hj, c, hc, q⟩
    exact ⟨c.fz, [.nd m h (xs.set j c.fz), .int i], by simp only [fIx, hh, if_true, hj, hc], rfl, q⟩
theorem wF_dget : wF fDGet [.nd m h xs, y] Q ↔ wO (dix (.nd m h xs) y) fun o => wO o fun j => wO xs[j]? fun d => Q d.fz [.nd m h (xs.set j d.fz), y] := by
  constructor
  · rintro ⟨d, os, z, hl, q⟩
    simp only [fDGet] at z
    split at z
    · rename_i j hj
      split at z
      · rename_i c hc; cases z; exact ⟨_, hj, j, rfl, c, hc, q⟩
      · cases z
    · cases z
  · rintro ⟨o, ho, j, rfl, c, hc, q⟩
    exact ⟨c.fz, [.nd m h (xs.set j c.fz), y], by simp only [fDGet, ho, hc], rfl, q⟩
theorem wF_dput {v : D} : wF fDPut [v, .nd true h xs, y] Q ↔ xs.length < sizeLine ∧ wO (dput h xs y v.fz) fun d => Q .non [.any, d, y] := by
  constructor
  · rintro ⟨d, os, z, hl, q⟩
    simp only [fDPut] at z
    split at z
    · rename_i hz
      split at z
      · rename_i c hc; cases z; exact ⟨hz, c, hc, q⟩
      · cases z
    · cases z
  · rintro ⟨hz, c, hc, q⟩
    exact ⟨.non, [.any, c, y], by simp only [fDPut, hz, if_true, hc], rfl, q⟩
theorem wF_din {neg : Bool} : wF (fDIn neg) [y, .nd m h xs] Q ↔ wO (dix (.nd m h xs) y) fun q => qok q xs.length = true ∧ Q (.bl (if neg then !q.isSome else q.isSome)) [y, .nd m h xs] := by
  constructor
  · rintro ⟨d, os, z, hl, q⟩
    simp only [fDIn] at z
    split at z
    · rename_i o ho
      split at z
      · rename_i hz; cases z; exact ⟨o, ho, hz, q⟩
      · cases z
    · cases z
  · rintro ⟨o, ho, hz, q⟩
    exact ⟨.bl (if neg then !o.isSome else o.isSome), [y, .nd m h xs], by simp only [fDIn, ho, hz, if_true], rfl, q⟩
theorem wF_fld {C : Addr} {f : Str} {ns : List Str} : wF (fFld C f) [.nd m (.ins C ns) xs] Q ↔ wO (kix ns f) fun j => wO xs[j]? fun d => Q d.fz [.nd m (.ins C ns) (xs.set j d.fz)] := by
  constructor
  · rintro ⟨d, os, z, hl, q⟩
    simp only [fFld, if_true] at z
    split at z
    · rename_i j hj
      split at z
      · rename_i c hc; cases z; exact ⟨j, hj, c, hc, q⟩
      · cases z
    · cases z
  · rintro ⟨j, hj, c, hc, q⟩
    exact ⟨c.fz, [.nd m (.ins C ns) (xs.set j c.fz)], by simp only [fFld, if_true, hj, hc], rfl, q⟩
/-! displays -/
section
variable {env : Env} {Q : D → Env → Prop} {QP : (List D × List D) → Env → Prop}
theorem wP_nil : wE (mPairs []) env QP ↔ QP ([], []) env := ⟨fun ⟨a, e, h, q⟩ => by cases h; exact q, fun q => ⟨_, _, rfl, q⟩⟩
theorem wP_cons {a b : EM D} {r : List (EM D × EM D)} : wE (mPairs ((a, b) :: r)) env QP ↔ wE a env fun k e => wE b e fun v e => wE (mPairs r) e fun x e => QP (k :: x.1, v :: x.2) e := by
  constructor
  · rintro ⟨x, e, h, q⟩
    simp only [mPairs] at h
    split at h
    · rename_i k e1 h1
      split at h
      · rename_i v e2 h2
        split at h
        · rename_i ks vs e3 h3; cases h; exact ⟨_, _, h1, _, _, h2, _, _, h3, q⟩
        · cases h
      · cases h
    · cases h
  · rintro ⟨k, e1, h1, v, e2, h2, ⟨ks, vs⟩, e3, h3, q⟩
    exact ⟨_, e3, by simp only [mPairs, h1, h2, h3], q⟩
theorem wE_disp {ps : List (EM D × EM D)} : wE (mDisp ps) env Q ↔ wE (mPairs ps) env fun x e => wO (keysD x.1) fun kk => (kk.Nodup ∧ kk.length ≤ 15) ∧ Q (.nd true (.dK kk) x.2) e := by
  constructor
  · rintro ⟨x, e, h, q⟩
    unfold mDisp at h
    split at h
    · rename_i ks vs e1 h1
      split at h
      · rename_i kk hk
        split at h
        · rename_i hz; cases h; exact ⟨_, _, h1, kk, hk, hz, q⟩
        · cases h
      · cases h
    · cases h
  · rintro ⟨⟨ks, vs⟩, e, h1, kk, hk, hz, q⟩
    simp only at hk
    exact ⟨_, e, by simp only [mDisp, h1, hk]; exact if_pos hz, q⟩
theorem wE_dispT {ps : List (EM D × EM D)} : wE (mDispT ps) env Q ↔ wE (mPairs ps) env fun x e => wO (keysT x.1) fun kk => (kk.Nodup ∧ kk.length ≤ 15) ∧ Q (.nd true (.dT kk) x.2) e := by
  constructor
  · rintro ⟨x, e, h, q⟩
    unfold mDispT at h
    split at h
    · rename_i ks vs e1 h1
      split at h
      · rename_i kk hk
        split at h
        · rename_i hz; cases h; exact ⟨_, _, h1, kk, hk, hz, q⟩
        · cases h
      · cases h
    · cases h
  · rintro ⟨⟨ks, vs⟩, e, h1, kk, hk, hz, q⟩
    simp only at hk
    exact ⟨_, e, by simp only [mDispT, h1, hk]; exact if_pos hz, q⟩
end
end
end VH

namespace VH
open PySem L2
section
variable {env : Env} {d x : D} {as : List Arg} {ps : List (Option Part)} {os : List D} {i : Nat} {m : EM D} {f : EM Sel} {p : Part} {o : Option Part}
theorem putB_nil {a : List (Option Part)} {b : List D} : putB [] a b env = env := by cases a <;> cases b <;> rfl
theorem putB_ex : putB (.ex m :: as) (o :: ps) (d :: os) env = putB as ps os env := by simp only [putB]
theorem putB_sl : putB (.sl i :: as) (o :: ps) (d :: os) env = putB as ps os (env.set i (some d)) := by simp only [putB]
theorem putB_pt : putB (.pt i f :: as) (some p :: ps) (d :: os) env = putB as ps os (env.set i (some (p.fill d))) := by simp only [putB]
theorem ex_some {α : Type} {a : α} {P : α → Prop} : (∃ b, some a = some b ∧ P b) ↔ P a := ⟨fun ⟨b, e, q⟩ => by cases e; exact q, fun q => ⟨a, rfl, q⟩⟩
theorem ex_ssome {α : Type} {a : α} {P : α → Prop} : (∃ b, some (some a) = some (some b) ∧ P b) ↔ P a := ⟨fun ⟨b, e, q⟩ => by cases e; exact q, fun q => ⟨a, rfl, q⟩⟩
theorem ex_bl {a : Bool} {P : Bool → Prop} : (∃ b, D.bl a = D.bl b ∧ P b) ↔ P a := ⟨fun ⟨b, e, q⟩ => by cases e; exact q, fun q => ⟨a, rfl, q⟩⟩
theorem ex_int {a : Int} {P : Int → Prop} : (∃ b, D.int a = D.int b ∧ P b) ↔ P a := ⟨fun ⟨b, e, q⟩ => by cases e; exact q, fun q => ⟨a, rfl, q⟩⟩
theorem ex_two {a b : D} {P : D → D → Prop} : (∃ x y, [a, b] = [x, y] ∧ P x y) ↔ P a b := ⟨fun ⟨x, y, e, q⟩ => by cases e; exact q, fun q => ⟨a, b, rfl, q⟩⟩
theorem ex_three {a b c : D} {P : D → D → D → Prop} : (∃ x y z, [a, b, c] = [x, y, z] ∧ P x y z) ↔ P a b c := ⟨fun ⟨x, y, z, e, q⟩ => by cases e; exact q, fun q => ⟨a, b, c, rfl, q⟩⟩
theorem fz_int {j : Int} : (D.int j).fz = .int j := rfl
theorem fz_str {s : Str} : (D.str s).fz = .str s := rfl
theorem fz_bl {b : Bool} : (D.bl b).fz = .bl b := rfl
theorem fz_non : D.non.fz = .non := rfl
theorem fz_nd {b : Bool} {h : Hd} {xs : List D} : (D.nd b h xs).fz = .nd false h (D.fzL xs) := rfl
theorem fzL_nil : D.fzL [] = [] := rfl
theorem fzL_cons {xs : List D} : D.fzL (d :: xs) = d.fz :: D.fzL xs := rfl
theorem fzL_app {xs ys : List D} : D.fzL (xs ++ ys) = D.fzL xs ++ D.fzL ys := by simp [D.fzL_map]
theorem fzL_ints {l : List Int} : D.fzL (l.map .int) = l.map .int := by rw [D.fzL_map, List.map_map]; rfl
theorem fzL_strs {l : List Str} : D.fzL (l.map .str) = l.map .str := by rw [D.fzL_map, List.map_map]; rfl
theorem set0 {α : Type} {a b : α} {l : List α} : (a :: l).set 0 b = b :: l := rfl
theorem setS {α : Type} {a b : α} {l : List α} {n : Nat} : (a :: l).set (n + 1) b = a :: l.set n b := rfl
theorem get0 {α : Type} {a : α} {l : List α} : (a :: l)[0]? = some a := rfl
theorem getS {α : Type} {a : α} {l : List α} {n : Nat} : (a :: l)[n + 1]? = l[n]? := rfl
theorem it_lst {m : Bool} {xs : List D} {Q : List D → Prop} : wO (D.items (.nd m .lst xs)) Q ↔ Q (D.fzL xs) := wO_some
theorem it_tup {m : Bool} {xs : List D} {Q : List D → Prop} : wO (D.items (.nd m .tup xs)) Q ↔ Q (D.fzL xs) := wO_some
theorem gLst_if {ds : List D} {Q : D → Prop} : wO (VH.gLst ds) Q ↔ ds.length ≤ sizeLine ∧ Q (.nd true .lst ds) := by
  unfold VH.gLst
  split
  · rename_i h; rw [wO_some]; simp [h]
  · rename_i h; rw [wO_none]; simp [h]
theorem gTup_if {ds : List D} {Q : D → Prop} : wO (VH.gTup ds) Q ↔ ds.length ≤ sizeLine ∧ Q (.tup (D.fzL ds)) := by
  unfold VH.gTup
  split
  · rename_i h; rw [wO_some]; simp [h]
  · rename_i h; rw [wO_none]; simp [h]
theorem gTupO_if {ds : List D} {Q : D → Prop} : wO (VH.gTupO ds) Q ↔ ds.length ≤ sizeLine ∧ Q (.nd true .tup ds) := by
  unfold VH.gTupO
  split
  · rename_i h; rw [wO_some]; simp [h]
  · rename_i h; rw [wO_none]; simp [h]
end
section
variable {α : Type} {m : EM α} {e e' env : Env} {Q : α → Env → Prop} {QD : D → Env → Prop} {d : D} {i : Nat}
theorem wE_get (h : env[i]? = some (some d)) : wE (mVar i) env QD ↔ QD d.fz (env.set i (some d.fz)) := by
  rw [wE_var, h]
  exact ex_ssome
theorem wE_take (h : env[i]? = some (some d)) : wE (slTake i) env QD ↔ QD d (env.set i none) := by
  rw [slTake_var, h]
  exact ex_ssome
theorem wA_part {k : Key} {as : List Arg} {c : D} {p : Part} {QA : List D → List (Option Part) → Env → Prop} (h : env[i]? = some (some d)) (hs : selKey k d = some (c, p)) : wA (.pt i (pKey k) :: as) env QA ↔ wA as (env.set i none) fun ds ps e => QA (c :: ds) (some p :: ps) e := by
  rw [wA_pk, wE_take h]
  constructor
  · rintro ⟨c', p', h', q⟩
    rw [hs] at h'; cases h'
    exact q
  · intro q
    exact ⟨c, p, hs, q⟩
end
section
variable {I : Env → Prop} {Q : O → Prop} {e : Env} {d : D}
theorem turned_nx : turned I Q (.nx e) ↔ I e := Iff.rfl
theorem turned_ct : turned I Q (.ct e) ↔ I e := Iff.rfl
theorem turned_bk : turned I Q (.bk e) ↔ Q (.nx e) := Iff.rfl
theorem turned_rt : turned I Q (.rt d e) ↔ Q (.rt d e) := Iff.rfl
end
end VH

/-! repr of plain data: signs and length. -/
namespace VH
open PySem L2
open PySem.Builtin.Str (reprChar)
def Asc (x : Str) : Prop := ∀ c ∈ x.cps.toList, c < 128
theorem Asc.app {a b : Str} (h1 : Asc a) (h2 : Asc b) : Asc (a ++ b) := by
  intro c hc
  have e : (a ++ b).cps.toList = a.cps.toList ++ b.cps.toList := by show (a.cps ++ b.cps).toList = _; simp
  rw [e] at hc
  rcases List.mem_append.mp hc with h | h
  · exact h1 c h
  · exact h2 c h
theorem len_app (a b : Str) : (a ++ b).length = a.length + b.length := by show (a.cps ++ b.cps).size = _; simp; rfl
theorem textFrom_asc : ∀ (ts : List Str) (k : Nat) (acc : Str), Asc acc → (∀ t ∈ ts, Asc t) → Asc (textFrom k acc ts)
  | [], _, _, h, _ => h
  | t :: ts, k, acc, h, ht => by
    refine textFrom_asc ts (k + 1) _ ?_ fun x hx => ht x (List.mem_cons_of_mem _ hx)
    refine (h.app ?_).app (ht t List.mem_cons_self)
    split
    · show ∀ c ∈ _, _; decide
    · show ∀ c ∈ _, _; decide
theorem textFrom_le (n : Nat) : ∀ (ts : List Str) (k : Nat) (acc : Str), (∀ t ∈ ts, t.length ≤ n) → (textFrom k acc ts).length ≤ acc.length + (n + 2) * ts.length
  | [], _, _, _ => by simp [textFrom]
  | t :: ts, k, acc, ht => by
    have h1 := textFrom_le n ts (k + 1) (acc ++ (if k > 0 then ", " else "" : String) ++ t) fun x hx => ht x (List.mem_cons_of_mem _ hx)
    have h2 := ht t List.mem_cons_self
    rw [len_app, len_app] at h1
    have h3 : ((if k > 0 then ", " else "" : String) : Str).length ≤ 2 := by split <;> decide
    simp only [textFrom, List.length_cons, Nat.mul_add, Nat.mul_one] at h1 ⊢
    omega
theorem join_asc (sep : Str) (hs : Asc sep) : ∀ (ts : List Str), (∀ t ∈ ts, Asc t) → Asc (Str.join sep ts)
  | [], _ => by intro c hc; simp [Str.join, Str.empty] at hc
  | [x], h => h x List.mem_cons_self
  | x :: y :: r, h => by
    rw [Str.join]
    exact ((h x List.mem_cons_self).app hs).app (join_asc sep hs (y :: r) fun t ht => h t (List.mem_cons_of_mem _ ht))
    intro z; cases z
theorem join_le (sep : Str) (n : Nat) : ∀ (ts : List Str), (∀ t ∈ ts, t.length ≤ n) → (Str.join sep ts).length ≤ (n + sep.length) * ts.length
  | [], _ => by simp [Str.join, Str.empty, Str.length]
  | [x], h => by have := h x List.mem_cons_self; simp [Str.join]; omega
  | x :: y :: r, h => by
    have h1 := join_le sep n (y :: r) fun t ht => h t (List.mem_cons_of_mem _ ht)
    have h2 := h x List.mem_cons_self
    rw [Str.join, len_app, len_app]
    · simp only [List.length_cons, Nat.mul_add, Nat.mul_one] at h1 ⊢; omega
    · intro z; cases z
/-- a text of plain signs -/
def PlainS (x : Str) : Prop := ∀ c ∈ x.cps.toList, c = 10 ∨ (32 ≤ c ∧ c < 127)
theorem sign_ok {q c : Nat} (hq : q < 128) (h : c = 10 ∨ (32 ≤ c ∧ c < 127)) : (reprChar q c).length ≤ 2 ∧ ∀ d ∈ reprChar q c, d < 128 := by
  have hp : ∀ k : Fin 95, Unicode.isPrintable (32 + k.val) = true := by decide +kernel
  unfold reprChar
  split
  · refine ⟨by simp, ?_⟩
    intro d hd
    simp at hd
    omega
  · split
    · exact ⟨by decide, by decide⟩
    · split
      · exact ⟨by decide, by decide⟩
      · split
        · exact ⟨by decide, by decide⟩
        · have h2 : 32 ≤ c ∧ c < 127 := by
            rcases h with h | h
            · rename_i z _ _; simp [h] at z
            · exact h
          have e := hp ⟨c - 32, by omega⟩
          have e2 : 32 + (c - 32) = c := by omega
          simp only [e2] at e
          rw [if_pos e]
          refine ⟨by simp, ?_⟩
          intro d hd
          simp at hd
          omega
theorem repr_fold (q : Nat) (hq : q < 128) : ∀ (l : List Nat) (acc : Array Nat), (∀ c ∈ l, c = 10 ∨ (32 ≤ c ∧ c < 127)) → (∀ c ∈ acc.toList, c < 128) →
    (l.foldl (fun out c => out ++ (reprChar q c).toArray) acc).size ≤ acc.size + 2 * l.length ∧ ∀ c ∈ (l.foldl (fun out c => out ++ (reprChar q c).toArray) acc).toList, c < 128
  | [], acc, _, h => ⟨by simp, h⟩
  | c :: l, acc, hl, h => by
    obtain ⟨a, b⟩ := sign_ok hq (hl c List.mem_cons_self)
    obtain ⟨h1, h2⟩ := repr_fold q hq l (acc ++ (reprChar q c).toArray) (fun x hx => hl x (List.mem_cons_of_mem _ hx)) (by
      intro x hx
      simp only [Array.toList_append, List.mem_append] at hx
      rcases hx with hx | hx
      · exact h x hx
      · exact b x hx)
    refine ⟨?_, h2⟩
    simp only [List.foldl_cons, List.length_cons, Array.size_append, List.size_toArray] at h1 ⊢
    omega
theorem reprText_ok {x : Str} (h : PlainS x) : Asc (reprText x) ∧ (reprText x).length ≤ 2 * x.length + 2 := by
  have hq : reprQuote x < 128 := by unfold reprQuote; split <;> decide
  have z := repr_fold (reprQuote x) hq x.cps.toList #[reprQuote x] h (by simpa using hq)
  have e : x.cps.foldl (fun out c => out ++ (reprChar (reprQuote x) c).toArray) #[reprQuote x] = x.cps.toList.foldl (fun out c => out ++ (reprChar (reprQuote x) c).toArray) #[reprQuote x] := Array.foldl_toList .. |>.symm
  refine ⟨?_, ?_⟩
  · intro c hc
    unfold reprText at hc
    rw [e] at hc
    simp only [Array.toList_push, List.mem_append, List.mem_singleton] at hc
    rcases hc with hc | rfl
    · exact z.2 c hc
    · exact hq
  · show (Array.push _ _).size ≤ _
    rw [Array.size_push, e]
    have e1 : x.cps.toList.length = x.length := rfl
    have e2 : (#[reprQuote x] : Array Nat).size = 1 := rfl
    have z1 := z.1
    rw [e1, e2] at z1
    omega
/-- what repr tells of p has at most n signs, all plain ones -/
structure Sh (n : Nat) (d : Nat) (p : PyData) : Prop where
  asc : Asc p.shown
  len : p.shown.length ≤ n
  ok : p.showable = true
  dep : p.depth ≤ d
theorem Sh.le {n m d e : Nat} {p : PyData} (h : Sh n d p) (hn : n ≤ m) (hd : d ≤ e) : Sh m e p := ⟨h.asc, Nat.le_trans h.len hn, h.ok, Nat.le_trans h.dep hd⟩
theorem sh_non : Sh 4 0 .none := by
  refine ⟨?_, ?_, rfl, by simp [PyData.depth]⟩
  · rw [PyData.shown]; show ∀ c ∈ _, _; decide
  · rw [PyData.shown]; decide
theorem sh_bool (b : Bool) : Sh 5 0 (.bool b) := by
  refine ⟨?_, ?_, rfl, by simp [PyData.depth]⟩
  · rw [PyData.shown]; cases b <;> (show ∀ c ∈ _, _; decide)
  · rw [PyData.shown]; cases b <;> decide
set_option exponentiation.threshold 2000 in
theorem sh_int {i : Int} (h : i.natAbs < 2 ^ 1900) : Sh 1921 0 (.int i) := by
  have hl : i.natAbs.log2 < 1920 := by
    by_cases h0 : i.natAbs = 0
    · rw [h0]; decide
    · rw [Nat.log2_lt h0]
      exact Nat.lt_of_lt_of_le h (Nat.pow_le_pow_right (by decide) (by decide))
  refine ⟨?_, ?_, ?_, by simp [PyData.depth]⟩
  · rw [PyData.shown]
    intro c hc
    refine Decidable.byContradiction fun z => ?_
    exact PyProof.Rows.int_text_free' c ⟨by omega, by omega⟩ i hc
  · rw [PyData.shown]
    exact PyProof.Rows.int_text_len_1921 hl
  · simpa [PyData.showable] using hl
theorem sh_str {x : Str} (h : PlainS x) : Sh (2 * x.length + 2) 0 (.str x) := by
  obtain ⟨a, b⟩ := reprText_ok h
  exact ⟨by rw [PyData.shown]; exact a, by rw [PyData.shown]; exact b, rfl, by simp [PyData.depth]⟩
theorem sh_all {n d : Nat} : ∀ {xs : List PyData}, (∀ x ∈ xs, Sh n d x) → (∀ t ∈ PyData.shownAll xs, Asc t ∧ t.length ≤ n) ∧ PyData.showableAll xs = true ∧ PyData.depthAll xs ≤ d ∧ (PyData.shownAll xs).length = xs.length
  | [], _ => ⟨by simp [PyData.shownAll], rfl, by simp [PyData.depthAll], rfl⟩
  | x :: xs, h => by
    obtain ⟨a, b, c, e⟩ := sh_all fun y hy => h y (List.mem_cons_of_mem _ hy)
    have hx := h x List.mem_cons_self
    refine ⟨?_, ?_, ?_, ?_⟩
    · intro t ht
      rw [PyData.shownAll] at ht
      rcases List.mem_cons.mp ht with rfl | ht
      · exact ⟨hx.asc, hx.len⟩
      · exact a t ht
    · simp only [PyData.showableAll, hx.ok, b, Bool.and_self]
    · have := hx.dep
      simp only [PyData.depthAll]; omega
    · simp only [PyData.shownAll, List.length_cons, e]
theorem sh_tuple {n d : Nat} {xs : List PyData} (h : ∀ x ∈ xs, Sh n d x) : Sh ((n + 2) * xs.length + 3) (d + 1) (.tuple xs) := by
  obtain ⟨a, b, c, e⟩ := sh_all h
  refine ⟨?_, ?_, by simp only [PyData.showable, b], by simp only [PyData.depth]; omega⟩
  · rw [PyData.shown]
    refine ((show Asc ("(" : Str) from by show ∀ c ∈ _, _; decide).app (join_asc _ (by show ∀ c ∈ _, _; decide) _ fun t ht => (a t ht).1)).app ?_
    split <;> (show ∀ c ∈ _, _; decide)
  · rw [PyData.shown]
    have := join_le (", " : Str) n (PyData.shownAll xs) fun t ht => (a t ht).2
    rw [e] at this
    have h1 : ("(" : Str).length = 1 := by decide
    have h2 : ((if (PyData.shownAll xs).length == 1 then ",)" else ")" : String) : Str).length ≤ 2 := by split <;> decide
    have h3 : (", " : Str).length = 2 := by decide
    unfold tupleText
    rw [len_app, len_app]
    rw [h3] at this
    omega
theorem sh_list {n d : Nat} {xs : List PyData} (h : ∀ x ∈ xs, Sh n d x) : Sh ((n + 2) * xs.length + 2) (d + 1) (.list xs) := by
  obtain ⟨a, b, c, e⟩ := sh_all h
  refine ⟨?_, ?_, by simp only [PyData.showable, b], by simp only [PyData.depth]; omega⟩
  · rw [PyData.shown]
    exact (textFrom_asc _ _ _ (by show ∀ c ∈ _, _; decide) fun t ht => (a t ht).1).app (by show ∀ c ∈ _, _; decide)
  · rw [PyData.shown]
    have := textFrom_le n (PyData.shownAll xs) 0 "[" fun t ht => (a t ht).2
    rw [e] at this
    have h1 : ("[" : Str).length = 1 := by decide
    have h2 : ("]" : Str).length = 1 := by decide
    unfold listText
    rw [len_app, h2]
    rw [h1] at this
    omega
/-- a list that repr can tell -/
theorem repr_list {d : D} {xs : List PyData} {n e : Nat} {Q : D → List D → Prop} (h : d.py = some (.list xs)) (s : Sh n e (.list xs)) (hn : n ≤ 16777216) (he : e ≤ 32) : wF fRepr [d] Q ↔ Q (.str (PyData.list xs).shown) [d] := by
  refine wF_some ?_ rfl
  have h1 : (PyData.list xs).showable = true ∧ (PyData.list xs).depth ≤ 32 ∧ (PyData.list xs).shown.length ≤ sizeLine := ⟨s.ok, Nat.le_trans s.dep he, Nat.le_trans s.len hn⟩
  simp only [fRepr, h, h1, and_self, if_true]
theorem shaped_asc {z : Str} (h : Asc z) : SeqAt.shaped (.str z) = true := by
  have e : PyData.strOk z = true := by
    unfold PyData.strOk
    rw [← Array.all_toList, List.all_eq_true]
    intro c hc
    have := h c hc
    exact decide_eq_true (by omega)
  simp only [SeqAt.shaped, PyData.canLay0, e, PyData.depth, Bool.true_and]
  rfl
theorem ne_same {z : Str} {Q : D → List D → Prop} (h : Asc z) : wF fNe [.str z, .str z] Q ↔ Q (.bl false) [.str z, .str z] := by
  refine wF_some ?_ rfl
  have e := shaped_asc h
  simp only [fNe, fEqB, D.py, e, Bool.and_self, if_true, PyData.eqv, beq_self_eq_true, Bool.not_true]
end VH

/-! Dicts whose keys are tuples of any depth: what is known of them, and what they do, by values. -/
namespace VH
open PySem PySem.Spec PyProof.Rows L2
mutual
/-- a value that is such a key -/
inductive NKv (K : PySem.W.Frag) (H : Hp) : V → NestedKey → Prop
  | non : NKv K H .non .none
  | bl (b : Bool) : NKv K H (.bl b) (.num (if b = true then 1 else 0))
  | int (i : Int) : NKv K H (.int i) (.num i)
  | str (x : Str) : NKv K H (.str x) (.text x)
  | tup {a : Addr} {xs : List V} {ks : List NestedKey} : SqT K H a xs → NKvL K H xs ks → NKv K H (.ref a) (.tup ks)
inductive NKvL (K : PySem.W.Frag) (H : Hp) : List V → List NestedKey → Prop
  | nil : NKvL K H [] []
  | cons {v : V} {vs : List V} {k : NestedKey} {ks : List NestedKey} : NKv K H v k → NKvL K H vs ks → NKvL K H (v :: vs) (k :: ks)
end
mutual
def D.nkey : D → Option NestedKey
  | .non => some .none
  | .bl b => some (.num (if b = true then 1 else 0))
  | .int i => some (.num i)
  | .str x => some (.text x)
  | .nd _ .tup xs => (D.nkeyL xs).map .tup
  | .nd _ .st xs => (D.nkeyL xs).map .tup
  | _ => none
def D.nkeyL : List D → Option (List NestedKey)
  | [] => some []
  | x :: xs => match x.nkey, D.nkeyL xs with
    | some p, some ps => some (p :: ps)
    | _, _ => none
end
section
variable {K : Fk} {F H : Hp}
mutual
theorem Own.nk (s : Same F H) : ∀ {v d fp p}, Own K F H v d fp → d.nkey = some p → NKv K H v p
  | _, _, _, _, .atom h, e => by
    cases h <;> simp only [D.nkey] at e <;> cases e
    · exact .non
    · exact .bl _
    · exact .int _
    · exact .str _
  | _, _, _, _, .rsv h, e => by simp [D.nkey] at e
  | _, _, _, p, .own (a := a) (h := h) (ps := ps) h1 h2 h3, e => by
    have key : (h = .tup ∨ h = .st) ∧ (∃ qs, D.nkeyL (ps.map (·.2)) = some qs ∧ p = .tup qs) := by
      cases h <;> simp only [D.nkey, Option.map_eq_some_iff] at e
      · obtain ⟨qs, h, rfl⟩ := e; exact ⟨.inl rfl, qs, h, rfl⟩
      · cases e
      · obtain ⟨qs, h, rfl⟩ := e; exact ⟨.inr rfl, qs, h, rfl⟩
      all_goals cases e
    obtain ⟨hh, qs, hq, rfl⟩ := key
    exact .tup (sqT_of (RdH.of h2 h1) h2 hh) (OwnL.nk s h3 hq)
  | _, _, _, p, .frz (a := a) (h := h) (ps := ps) h1 h2 h3, e => by
    have key : (h = .tup ∨ h = .st) ∧ (∃ qs, D.nkeyL (ps.map (·.2)) = some qs ∧ p = .tup qs) := by
      cases h <;> simp only [D.nkey, Option.map_eq_some_iff] at e
      · obtain ⟨qs, h, rfl⟩ := e; exact ⟨.inl rfl, qs, h, rfl⟩
      · cases e
      · obtain ⟨qs, h, rfl⟩ := e; exact ⟨.inr rfl, qs, h, rfl⟩
      all_goals cases e
    obtain ⟨hh, qs, hq, rfl⟩ := key
    exact .tup (sqT_of (h1.same s) h2 hh) (OwnL.nk s h3 hq)
theorem OwnL.nk (s : Same F H) : ∀ {ps fp qs}, OwnL K F H ps fp → D.nkeyL (ps.map (·.2)) = some qs → NKvL K H (ps.map (·.1)) qs
  | _, _, _, .nil, e => by cases e; exact .nil
  | _, _, qs, .cons (d := d) (ps := ps) h1 h2, e => by
    simp only [List.map_cons, D.nkeyL] at e
    split at e
    · rename_i p ps1 e1 e2
      cases e
      exact .cons (Own.nk s h1 e1) (OwnL.nk s h2 e2)
    · cases e
end
theorem R.nk {L : List (V × D)} {v : V} {d : D} {p : NestedKey} (r : R K H ((v, d) :: L)) (e : d.nkey = some p) : NKv K H v p := by
  obtain ⟨F, fp, s, o, n, f⟩ := r
  cases o with
  | cons a b => exact a.nk s e
theorem R.nkL {vs : List V} {xs : List D} {ks : List NestedKey} : ∀ {L : List (V × D)}, vs.length = xs.length → R K H (vs.zip xs ++ L) → D.nkeyL xs = some ks → NKvL K H vs ks := by
  induction vs generalizing xs ks with
  | nil =>
    intro L hl r e
    cases xs with
    | nil => cases e; exact .nil
    | cons x xs => simp at hl
  | cons v vs ih =>
    intro L hl r e
    cases xs with
    | nil => simp at hl
    | cons x xs =>
      simp only [D.nkeyL] at e
      split at e
      · rename_i p ps e1 e2
        cases e
        have r' : R K H ((v, x) :: (vs.zip xs ++ L)) := r
        exact .cons (r'.nk e1) (ih (by simpa using hl) r'.tail e2)
      · cases e
end
section
variable {X : Cx} {pins : List (Addr × Obj)} {σ : L2.St} {H : Hp} {s : Shared}
mutual
theorem nk_is (I : Inv X pins σ H s) : ∀ {v : V} {k : NestedKey} {u : Value}, NKv X.K H v k → RelV v u → NestedIs s.heap k u
  | _, _, u, .non, r => by obtain rfl : u = Value.none := r; exact .none
  | _, _, u, .bl b, r => by obtain rfl : u = Value.bool b := r; exact .bool rfl
  | _, _, u, .int i, r => by obtain ⟨t, rfl⟩ : ∃ t, u = Value.int i t := r; exact .int i t
  | _, _, u, .str x, r => by obtain ⟨t, rfl⟩ : ∃ t, u = Value.str x t := r; exact .text x t
  | _, _, u, .tup h1 h2, r => by
    obtain rfl : u = Value.ref _ := r
    obtain ⟨its, rr, ⟨o, ho, hc, n, hd⟩, _⟩ := I.tuple h1
    exact .tup ho hc hd (by simpa using nk_all I h2 rr)
theorem nk_all (I : Inv X pins σ H s) : ∀ {vs : List V} {ks : List NestedKey} {us : List Value}, NKvL X.K H vs ks → Vals vs us → NestedAll s.heap ks us
  | _, _, _, .nil, r => by cases r; exact .nil
  | _, _, _, .cons h1 h2, r => by
    cases r with
    | cons r1 r2 => exact .cons (nk_is I h1 r1) (nk_all I h2 r2)
end
/-- the keys stand -/
def KeysAt (K : PySem.W.Frag) (H : Hp) (kvs : List NE) : Prop := ∀ p ∈ kvs, NKv K H (.ref p.2.1) p.1 ∧ p.1.depth ≤ 8
def atN (kvs : List NE) (k : NestedKey) : Option V := (kvs.find? fun p => decide (p.1 = k)).map (·.2.2)
def putN (kvs : List NE) (k : NestedKey) (a : Addr) (v : V) : List NE := if (atN kvs k).isSome then kvs.map fun p => if p.1 = k then (p.1, p.2.1, v) else p else kvs ++ [(k, a, v)]
theorem nrel_at {kvs : List NE} {xs : List (NestedKey × Addr × Value)} (r : Paired NRel kvs xs) (k : NestedKey) : RelO (atN kvs k) ((atKey xs k).map (·.2)) := by
  induction r with
  | nil => exact True.intro
  | @cons p q ps qs h t ih =>
    obtain ⟨h1, h2, h3⟩ := h
    unfold atN atKey at *
    by_cases e : p.1 = k
    · have e2 : q.1 = k := h1 ▸ e
      have a1 : (p :: ps).find? (fun p => decide (p.1 = k)) = some p := by simp [List.find?_cons, e]
      have a2 : (q :: qs).find? (fun p => decide (p.1 = k)) = some q := by simp [List.find?_cons, e2]
      rw [a1, a2]
      exact h3
    · have e2 : ¬ q.1 = k := fun z => e (h1.trans z)
      simpa [List.find?_cons, e, e2] using ih
theorem nrel_put {kvs : List NE} {xs : List (NestedKey × Addr × Value)} (r : Paired NRel kvs xs) (k : NestedKey) (a : Addr) {v : V} {u : Value} (rv : RelV v u) : Paired NRel (putN kvs k a v) (storedH xs k a u) := by
  have hs : (atN kvs k).isSome = (atKey xs k).isSome := by
    have := nrel_at r k
    cases h1 : atN kvs k <;> cases h2 : atKey xs k <;> rw [h1, h2] at this <;> first | rfl | exact this.elim
  unfold putN storedH
  rw [hs]
  split
  · clear hs
    rename_i hq
    clear hq
    induction r with
    | nil => exact .nil
    | @cons p q ps qs h t ih =>
      refine .cons ?_ ih
      obtain ⟨h1, h2, h3⟩ := h
      by_cases e : p.1 = k
      · have e2 : q.1 = k := h1 ▸ e
        show NRel (if p.1 = k then _ else p) (if q.1 = k then _ else q)
        rw [if_pos e, if_pos e2]
        exact ⟨h1, h2, rv⟩
      · have e2 : ¬ q.1 = k := fun z => e (h1.trans z)
        show NRel (if p.1 = k then _ else p) (if q.1 = k then _ else q)
        rw [if_neg e, if_neg e2]
        exact ⟨h1, h2, h3⟩
  · clear hs
    rename_i hq
    clear hq
    induction r with
    | nil => exact .cons ⟨rfl, rfl, rv⟩ .nil
    | cons h t ih => exact .cons h ih
theorem putN_len (kvs : List NE) (k : NestedKey) (a : Addr) (v : V) : (putN kvs k a v).length ≤ kvs.length + 1 := by
  unfold putN
  split <;> simp
theorem nko_of {a : Addr} {kvs : List NE} (I : Inv X pins σ H s) (e : H a = some (nko X.w a kvs)) : nkoP X.w a kvs s.heap := (I.hok a _ e).1
theorem nd_of {a : Addr} {kvs : List NE} (I : Inv X pins σ H s) (e : H a = some (nko X.w a kvs)) (ks : KeysAt X.K H kvs) :
    kvs.length ≤ sizeLine ∧ (a == sysModules) = false ∧ ∃ xs, Paired NRel kvs xs ∧ s.heap.DictOfH (nestedKind X.prog X.w) a xs := by
  obtain ⟨z, hd, xs, r, o, es, ep, h1, h2, h3, h4, h5⟩ := nko_of I e
  refine ⟨z, hd, xs, r, o, es, ep, h1, h2, h3, h4, ?_, h5⟩
  clear h4 h5 z
  have key : ∀ {l : List NE} {m : List (NestedKey × Addr × Value)}, Paired NRel l m → KeysAt X.K H l → ∀ x ∈ m, (nestedKind X.prog X.w).is s.heap x.1 x.2.1 := by
    intro l m q
    induction q with
    | nil => intro _ x hx; cases hx
    | @cons p q ps qs h t ih =>
      intro hk x hx
      rcases List.mem_cons.mp hx with rfl | hx
      · obtain ⟨a1, a2⟩ := hk p List.mem_cons_self
        have b1 : p.1 = x.1 := h.1
        have b2 : p.2.1 = x.2.1 := h.2.1
        rw [← b1, ← b2]
        exact ⟨nk_is I a1 rfl, a2⟩
      · exact ih (fun y hy => hk y (List.mem_cons_of_mem _ hy)) x hx
  exact key r ks
/-- an object that is such a dict -/
theorem nko_ok {P : Program} {w : World} {H' : Hp} {h' : Heap} {a : Addr} {kvs : List NE} (h : nkoP w a kvs h') : ObjOk P w H' h' a (nko w a kvs) := by
  obtain ⟨z, hd, xs, r, o, es, ep, h1, h2⟩ := id h
  refine ⟨h, ⟨o, h1⟩, fun g g' hp hk => ?_⟩
  obtain ⟨z, hd, xs, r, o, es, ep, h1, h2⟩ := hp
  exact ⟨z, hd, xs, r, o, es, ep, hk _ h1, h2⟩
theorem nkoP_of {P : Program} {w : World} {h' : Heap} {a : Addr} {kvs : List NE} {xs : List (NestedKey × Addr × Value)} (z : kvs.length ≤ sizeLine) (hd : (a == sysModules) = false) (r : Paired NRel kvs xs) (dd : h'.DictOfH (nestedKind P w) a xs) : nkoP w a kvs h' := by
  obtain ⟨o, es, ep, h1, h2, h3, h4, _, h5⟩ := dd
  exact ⟨z, hd, xs, r, o, es, ep, h1, h2, h3, h4, h5⟩
/-- an empty dict is both -/
theorem dk_nk {a : Addr} (I : Inv X pins σ H s) (e : H a = some (.dK [])) : Inv X pins σ (upd H a (nko X.w a [])) s := by
  obtain ⟨z, hd, vs, rel, dd⟩ := dk_of I.hok e
  cases rel
  obtain ⟨o, es, ep, h1, h2, h3, h4, h5, h6⟩ := id dd
  have hp : nkoP X.w a [] s.heap := by
    refine ⟨Nat.zero_le _, hd, [], .nil, o, es, ep, h1, h2, h3, ?_, List.nodup_nil⟩
    have z := h5
    cases q : es.toList with
    | nil => rfl
    | cons e r => rw [q] at z; cases z
  exact d_write (t' := s.toks) I (by rw [e]; exact True.intro) (Heap.SameBut.refl a s.heap) ⟨o, h1⟩ (nko_ok hp)
end
end VH

namespace VH
open PySem PySem.Spec PyProof.Rows L2
section
variable {X : Cx} {pins : List (Addr × Obj)} {σ : L2.St} {H H' : Hp} {s : Shared} {A : Around} {E : Value → Shared → Prop} {a : Addr} {y v : V} {u r : Value} {o : Option V}
theorem upd_self {H : Hp} {a : Addr} {o : HO} (h : H a = some o) : upd H a o = H := by
  funext b
  by_cases e : b = a
  · subst e; rw [upd_same, h]
  · rw [upd_ne e]
theorem nk_dk (I : Inv X pins σ H s) (e : H a = some (nko X.w a [])) : Inv X pins σ (upd H a (.dK [])) s := by
  obtain ⟨z, hd, xs, r, o, es, ep, h1, h2, h3, h4, h5⟩ := nko_of I e
  cases r
  have he : es.toList = [] := h4
  have hn : es = #[] := by
    have : es.toList = (#[] : Array DictEntry).toList := he
    exact Array.toList_inj.mp this
  subst hn
  have dd : s.heap.DictOf (mixKind X.prog X.w) a [] := ⟨o, #[], ep, h1, h2, h3, (fun e he => by simp at he), by constructor, List.nodup_nil⟩
  exact d_write (t' := s.toks) I (by rw [e]; exact True.intro) (Heap.SameBut.refl a s.heap) ⟨o, h1⟩ (dk_new (Nat.zero_le _) hd .nil dd)
/-- at a stands a dict whose keys are tuples, or an empty one -/
def NAt (K : Fk) (H : Hp) (a : Addr) (kvs : List NE) : Prop := KeysAt K H kvs ∧ (H a = some (nko K.w a kvs) ∨ (kvs = [] ∧ H a = some (.dK [])))
def NKy (K : Fk) (H : Hp) (y : V) (k : NestedKey) : Prop := ∃ b, y = .ref b ∧ NKv K H y k ∧ k.depth ≤ 8
/-- what a look-up gives -/
def NGet (K : Fk) (H : Hp) (a : Addr) (y : V) (o : Option V) : Prop := ∃ kvs k, NAt K H a kvs ∧ NKy K H y k ∧ o = atN kvs k
def NPut (K : Fk) (H : Hp) (a : Addr) (y v : V) (H' : Hp) : Prop := ∃ kvs k b, NAt K H a kvs ∧ NKy K H y k ∧ y = .ref b ∧ kvs.length < sizeLine ∧ H' = upd H a (nko K.w a (putN kvs k b v))
theorem keys_upd {K : Fk} {kvs : List NE} {o u : HO} (h : KeysAt K H kvs) (e : H a = some o) (ht : ∀ xs, o ≠ .tup xs) (hf : ∀ p q, o ≠ .frz p q) : KeysAt K (upd H a u) kvs := by
  have rd : ∀ {b : Addr} {xs : List V}, Rd H b (.tup xs) → Rd (upd H a u) b (.tup xs) := by
    intro b xs hb
    rcases hb with hb | ⟨q, hb⟩
    · have nb : b ≠ a := fun z => by subst z; rw [e] at hb; exact ht _ (Option.some.inj hb)
      exact .inl (by rw [upd_ne nb]; exact hb)
    · have nb : b ≠ a := fun z => by subst z; rw [e] at hb; exact hf _ _ (Option.some.inj hb)
      exact .inr ⟨q, by rw [upd_ne nb]; exact hb⟩
  have key : ∀ (n : Nat) (k : NestedKey) (v : V), sizeOf k < n → NKv K H v k → NKv K (upd H a u) v k := by
    intro n
    induction n with
    | zero => intro k v hn; omega
    | succ n ih =>
      intro k v hn hk
      cases hk with
      | non => exact .non
      | bl b => exact .bl b
      | int i => exact .int i
      | str x => exact .str x
      | tup h1 h2 =>
        refine .tup (h1.imp rd id) ?_
        rename_i b xs ks
        have all : ∀ {vs : List V} {ls : List NestedKey}, (∀ l ∈ ls, sizeOf l < n) → NKvL K H vs ls → NKvL K (upd H a u) vs ls := by
          intro vs ls hl hh
          induction ls generalizing vs with
          | nil => cases hh; exact .nil
          | cons l ls ih2 =>
            cases hh with
            | cons p q => exact .cons (ih _ _ (hl l (by simp)) p) (ih2 (fun z hz => hl z (by simp [hz])) q)
        refine all (fun l hl => ?_) h2
        have := List.sizeOf_lt_of_mem hl
        simp at hn; omega
  exact fun p hp => ⟨key _ _ _ (Nat.lt_succ_self _) (h p hp).1, (h p hp).2⟩
theorem room8 (hu : A.units + 64 < cLine) : (nestedKind X.prog X.w).room A.in1 := by
  show A.units + 1 + 8 < cLine
  omega
/-- whatever is read of it, whether it is an empty dict or not -/
theorem n_read {kvs : List NE} {Q : Value → Shared → Prop} {m : Sem Value} (I : Inv X pins σ H s) (n : NAt X.fk H a kvs)
    (h : ∀ (H1 : Hp), Inv X pins σ H1 s → (∀ s', Inv X pins σ H1 s' → Inv X pins σ H s') → KeysAt X.K H1 kvs → H1 a = some (nko X.w a kvs) → wpAny (model X.prog X.w) A m Q E s) : wpAny (model X.prog X.w) A m Q E s := by
  obtain ⟨hk, e | ⟨rfl, e⟩⟩ := n
  · exact h H I (fun _ J => J) hk e
  · refine h _ (dk_nk I e) (fun s' J => ?_) (fun p hp => by cases hp) upd_same
    have z := nk_dk (a := a) J upd_same
    rw [upd_upd, upd_self e] at z
    exact z
theorem n_key {k : NestedKey} (I : Inv X pins σ H s) (h : NKy X.fk H y k) (ry : RelV y u) : ∃ b, u = .ref b ∧ (nestedKind X.prog X.w).is s.heap k b := by
  obtain ⟨b, rfl, h1, h2⟩ := h
  obtain rfl : u = Value.ref b := ry
  exact ⟨b, rfl, nk_is I h1 rfl, h2⟩
theorem n_getItem {Q : Value → Shared → Prop} (hu : A.units + 64 < cLine) (I : Inv X pins σ H s) (g : NGet X.fk H a y (some v)) (ry : RelV y u) (h : ∀ w' s', Inv X pins σ H s' → RelV v w' → Q w' s') : wpAny (model X.prog X.w) A (getItem (.ref a) u) Q E s := by
  obtain ⟨kvs, k, n, hk, l⟩ := g
  obtain ⟨b, rfl, hi⟩ := n_key I hk ry
  refine n_read I n fun H1 I1 back ks e => ?_
  obtain ⟨z, hd, xs, rel, dd⟩ := nd_of I1 e ks
  obtain ⟨w', hw, rw'⟩ := RelO.some_of (v := v) (o := (atKey xs k).map (·.2)) (by rw [l]; exact nrel_at rel k)
  obtain ⟨p, hp, hp2⟩ := Option.map_eq_some_iff.mp hw
  refine wpAny_getItem_heap (room8 hu) hi dd hp ?_
  rw [hp2]
  exact h w' _ (I.tok _) rw'
theorem n_in {Q : Value → Shared → Prop} (hu : A.units + 64 < cLine) (I : Inv X pins σ H s) (g : NGet X.fk H a y o) (ry : RelV y u) (h : ∀ s', Inv X pins σ H s' → Q (.bool o.isSome) s') : wpAny (model X.prog X.w) A (compareOp .In u (.ref a)) Q E s := by
  obtain ⟨kvs, k, n, hk, l⟩ := g
  obtain ⟨b, rfl, hi⟩ := n_key I hk ry
  refine n_read I n fun H1 I1 back ks e => ?_
  obtain ⟨z, hd, xs, rel, dd⟩ := nd_of I1 e ks
  refine wpAny_in_heap (room8 hu) hi hd dd ?_
  have q := (nrel_at rel k).isSome_eq
  rw [Option.isSome_map] at q
  rw [← q, ← l]
  exact h _ (I.tok _)
theorem n_notIn {Q : Value → Shared → Prop} (hu : A.units + 64 < cLine) (I : Inv X pins σ H s) (g : NGet X.fk H a y o) (ry : RelV y u) (h : ∀ s', Inv X pins σ H s' → Q (.bool (!o.isSome)) s') : wpAny (model X.prog X.w) A (compareOp .NotIn u (.ref a)) Q E s := by
  obtain ⟨kvs, k, n, hk, l⟩ := g
  obtain ⟨b, rfl, hi⟩ := n_key I hk ry
  refine n_read I n fun H1 I1 back ks e => ?_
  obtain ⟨z, hd, xs, rel, dd⟩ := nd_of I1 e ks
  refine wpAny_notIn_heap (room8 hu) hi hd dd ?_
  have q := (nrel_at rel k).isSome_eq
  rw [Option.isSome_map] at q
  rw [← q, ← l]
  exact h _ (I.tok _)
theorem n_get1 {Q : Value → Shared → Prop} (hu : A.units + 64 < cLine) (I : Inv X pins σ H s) (g : NGet X.fk H a y o) (ry : RelV y u) (h : ∀ w' s', Inv X pins σ H s' → RelV (o.getD .non) w' → Q w' s') : wpAny (model X.prog X.w) A (call (.builtin "dict.get") [.ref a, u]) Q E s := by
  obtain ⟨kvs, k, n, hk, l⟩ := g
  obtain ⟨b, rfl, hi⟩ := n_key I hk ry
  refine n_read I n fun H1 I1 back ks e => ?_
  obtain ⟨z, hd, xs, rel, dd⟩ := nd_of I1 e ks
  have q := nrel_at rel k
  rw [← l] at q
  refine get_keyed (room8 hu) hi hd ⟨xs, dd, rfl⟩ (h _ _ (I.tok _) ?_)
  rw [valueAt_pairsH]
  cases o with
  | none => rw [RelO.none_of q]; rfl
  | some v =>
    obtain ⟨w', hw, rw'⟩ := RelO.some_of q
    rw [hw]; exact rw'
theorem n_get2 {Q : Value → Shared → Prop} (hu : A.units + 64 < cLine) (I : Inv X pins σ H s) (g : NGet X.fk H a y o) (ry : RelV y u) (rv : RelV v r) (h : ∀ w' s', Inv X pins σ H s' → RelV (o.getD v) w' → Q w' s') : wpAny (model X.prog X.w) A (call (.builtin "dict.get") [.ref a, u, r]) Q E s := by
  obtain ⟨kvs, k, n, hk, l⟩ := g
  obtain ⟨b, rfl, hi⟩ := n_key I hk ry
  refine n_read I n fun H1 I1 back ks e => ?_
  obtain ⟨z, hd, xs, rel, dd⟩ := nd_of I1 e ks
  have q := nrel_at rel k
  rw [← l] at q
  refine getOr_keyed (room8 hu) hi hd ⟨xs, dd, rfl⟩ (h _ _ (I.tok _) ?_)
  rw [valueAt_pairsH]
  cases o with
  | none => rw [RelO.none_of q]; exact rv
  | some v =>
    obtain ⟨w', hw, rw'⟩ := RelO.some_of q
    rw [hw]; exact rw'
/-- the dict is written -/
theorem n_write {kvs kvs' : List NE} {h' : Heap} {t' : Nat} (I : Inv X pins σ H s) (n : NAt X.fk H a kvs) (hs : Heap.SameBut a s.heap h') (p : nkoP X.w a kvs' h') : Inv X pins σ (upd H a (nko X.w a kvs')) { s with heap := h', toks := t' } := by
  obtain ⟨_, _, _, _, o, _, _, h1, _⟩ := id p
  refine d_write I ?_ hs ⟨o, h1⟩ (nko_ok p)
  obtain ⟨_, e | ⟨_, e⟩⟩ := n
  · rw [e]; exact True.intro
  · rw [e]; exact True.intro
theorem n_setItem {Q : Unit → Shared → Prop} (hu : A.units + 64 < cLine) (I : Inv X pins σ H s) (g : NPut X.fk H a y v H') (ry : RelV y u) (rv : RelV v r) (h : ∀ s', Inv X pins σ H' s' → Q () s') : wpAny (model X.prog X.w) A (setItem (.ref a) u r) Q E s := by
  obtain ⟨kvs, k, b, n, hk, ey, l, rfl⟩ := g
  subst ey
  obtain ⟨b', eb, hi⟩ := n_key I hk ry
  obtain rfl : u = Value.ref b := ry
  cases eb
  have key : ∀ {xs : List (NestedKey × Addr × Value)}, (a == sysModules) = false → Paired NRel kvs xs → s.heap.DictOfH (nestedKind X.prog X.w) a xs → wpAny (model X.prog X.w) A (setItem (.ref a) (.ref b) r) Q E s := by
    intro xs hd rel dd
    have hz : xs.length ≤ sizeLine := by rw [← Paired.length rel]; omega
    refine wpAny_setItem_heap (hsz := hz) (room8 hu) hi dd fun h' dd' hs => h _ ?_
    refine n_write I n hs (nkoP_of ?_ hd (nrel_put rel k b rv) dd')
    have := putN_len kvs k b v
    omega
  obtain ⟨hk2, e | ⟨rfl, e⟩⟩ := n
  · obtain ⟨z, hd, xs, rel, dd⟩ := nd_of I e hk2
    exact key hd rel dd
  · obtain ⟨z, hd, xs, rel, dd⟩ := nd_of (dk_nk I e) upd_same (fun p hp => by cases hp)
    exact key hd rel dd
theorem n_isD {kvs : List NE} (I : Inv X pins σ H s) (n : NAt X.fk H a kvs) : s.TypeIs (.ref a) "dict" ∧ (∀ b, Value.ref a = .ref b → ∃ ob, s.heap.get? b = some ob ∧ ob.dict = none) ∧ (a == sysModules) = false := by
  have key : ∀ H1, Inv X pins σ H1 s → H1 a = some (nko X.w a kvs) → s.TypeIs (.ref a) "dict" ∧ (∀ b, Value.ref a = .ref b → ∃ ob, s.heap.get? b = some ob ∧ ob.dict = none) ∧ (a == sysModules) = false := by
    intro H1 I1 e
    obtain ⟨z, hd, xs, r, o, es, ep, h1, h2, h3, h4, h5⟩ := nko_of I1 e
    refine ⟨⟨o, h1, h2.1⟩, fun b q => ?_, hd⟩
    cases q
    exact ⟨o, h1, h2.2.1⟩
  obtain ⟨_, e | ⟨rfl, e⟩⟩ := n
  · exact key H I e
  · exact key _ (dk_nk I e) upd_same
end
end VH

namespace VH
open PySem PySem.Spec PyProof.Rows L2
section
variable {K : Fk} {F F' H H' : Hp} {L L' : List (V × D)} {v : V} {d : D}
theorem OwnL.nkT (s : Same F H) {ps : List (V × D)} {fp : List Addr} (o : OwnL K F H ps fp) {n : Nat} {ks : List NestedKey} (e : D.nkeyL ((ps.map (·.2)).take n) = some ks) : NKvL K H ((ps.map (·.1)).take n) ks := by
  rw [← List.map_take] at e ⊢
  rw [← List.take_append_drop n ps] at o
  obtain ⟨f, g, o1, o2, rfl⟩ := o.split
  exact o1.nk s e
/-- a part is taken out of a thing, with what the thing's own object holds -/
theorem R.focusV {m : Bool} {h : Hd} {xs1 xs2 : List D} (r : R K H ((v, .nd m h (xs1 ++ d :: xs2)) :: L)) : ∃ a o vs w, v = .ref a ∧ RdH K H a o h ∧ (m = true → H a = some o) ∧ Fits K a o h vs ∧ vs.length = (xs1 ++ d :: xs2).length ∧ vs[xs1.length]? = some w ∧
    (∀ n ks, D.nkeyL ((xs1 ++ d :: xs2).take n) = some ks → NKvL K H (vs.take n) ks) ∧ R K H ((w, d) :: (v, .nd m h (xs1 ++ .hole w :: xs2)) :: L) := by
  obtain ⟨F, fp, s, ow, n, f⟩ := r
  obtain ⟨f0, g, a, b, rfl⟩ : ∃ f0 g, Own K F H v (.nd m h (xs1 ++ d :: xs2)) f0 ∧ OwnL K F H L g ∧ fp = f0 ++ g := by
    cases ow with | cons a b => exact ⟨_, _, a, b, rfl⟩
  generalize hx : D.nd m h (xs1 ++ d :: xs2) = D0 at a
  cases a with
  | atom z => cases z <;> cases hx
  | rsv z => cases hx
  | own h1 h2 h3 =>
    rename_i a o hd ps f1
    injection hx with e1 e2 e3
    subst e1; subst e2
    have nk : ∀ n ks, D.nkeyL ((xs1 ++ d :: xs2).take n) = some ks → NKvL K H ((ps.map (·.1)).take n) ks := fun n ks e => h3.nkT s (by rw [← e3]; exact e)
    have ln : (ps.map (·.1)).length = (xs1 ++ d :: xs2).length := by rw [e3]; simp
    obtain ⟨p1, w, p2, rfl, rfl, rfl⟩ := map_mid e3
    obtain ⟨g1, g2, o1, o2, rfl⟩ := h3.split
    cases o2 with
    | cons o2 o3 =>
      rename_i gd g3
      have z : OwnL K F H (p1 ++ (w, .hole w) :: p2) (g1 ++ g3) := o1.append (.cons (f := []) (.atom (.hole w)) o3)
      have y : Own K F H (.ref a) (.nd true h ((p1 ++ (w, .hole w) :: p2).map (·.2))) (a :: (g1 ++ g3)) := .own h1 (by simpa using h2) z
      rw [List.map_append, List.map_cons] at y
      refine ⟨a, o, _, w, rfl, RdH.of h2 h1, fun _ => h1, h2, ln, by simp, nk, F, gd ++ (a :: (g1 ++ g3) ++ g), s, .cons o2 (.cons y b), ?_, ?_⟩
      · refine (List.Perm.nodup_iff ?_).mp n
        simp only [List.cons_append, List.append_assoc]
        exact (List.Perm.cons a (pc3 g1 gd _)).trans List.perm_middle.symm
      · intro x hx
        refine f x ?_
        simp only [List.mem_append, List.mem_cons] at hx ⊢
        rcases hx with hx | ((hx | hx | hx) | hx) <;> simp [hx]
  | frz h1 h2 h3 =>
    rename_i a o hd ps
    injection hx with e1 e2 e3
    subst e1; subst e2
    have nk : ∀ n ks, D.nkeyL ((xs1 ++ d :: xs2).take n) = some ks → NKvL K H ((ps.map (·.1)).take n) ks := fun n ks e => h3.nkT s (by rw [← e3]; exact e)
    have ln : (ps.map (·.1)).length = (xs1 ++ d :: xs2).length := by rw [e3]; simp
    obtain ⟨p1, w, p2, rfl, rfl, rfl⟩ := map_mid e3
    obtain ⟨g1, g2, o1, o2, rfl⟩ := h3.split
    cases o2 with
    | cons o2 o3 =>
      rename_i gd g3
      have z : OwnL K F H (p1 ++ (w, .hole w) :: p2) (g1 ++ g3) := o1.append (.cons (f := []) (.atom (.hole w)) o3)
      have y : Own K F H (.ref a) (.nd false h ((p1 ++ (w, .hole w) :: p2).map (·.2))) (g1 ++ g3) := .frz h1 (by simpa using h2) z
      rw [List.map_append, List.map_cons] at y
      refine ⟨a, o, _, w, rfl, h1.same s, (fun e => nomatch e), h2, ln, by simp, nk, F, gd ++ (g1 ++ g3 ++ g), s, .cons o2 (.cons y b), ?_, ?_⟩
      · refine (List.Perm.nodup_iff ?_).mp n
        simp only [List.append_assoc]
        exact pc3 g1 gd _
      · intro x hx
        refine f x ?_
        simp only [List.mem_append] at hx ⊢
        rcases hx with hx | ((hx | hx) | hx) <;> simp [hx]
/-- .. a part which is as it stands from now on -/
theorem R.childV {m : Bool} {h : Hd} {xs : List D} {j : Nat} (r : R K H ((v, .nd m h xs) :: L)) (e : xs[j]? = some d) : ∃ a o vs w, v = .ref a ∧ RdH K H a o h ∧ (m = true → H a = some o) ∧ Fits K a o h vs ∧ vs.length = xs.length ∧ vs[j]? = some w ∧
    (∀ n ks, D.nkeyL (xs.take n) = some ks → NKvL K H (vs.take n) ks) ∧ R K H ((w, d.fz) :: (v, .nd m h (xs.set j d.fz)) :: L) := by
  have hj := lt_of e
  have e0 : xs[j] = d := (List.getElem?_eq_some_iff.mp e).2
  have split : xs = xs.take j ++ d :: xs.drop (j + 1) := by
    rw [← e0, ← List.drop_eq_getElem_cons hj, List.take_append_drop]
  have lj : (xs.take j).length = j := by simp; omega
  have st : xs.set j d.fz = xs.take j ++ d.fz :: xs.drop (j + 1) := by
    rw [List.set_eq_take_append_cons_drop, if_pos hj]
  rw [split] at r
  obtain ⟨a, o, vs, w, e1, e2, e3, e4, e5, e6, e7, q⟩ := r.focusV
  rw [← split] at e5 e7
  rw [lj] at e6
  refine ⟨a, o, vs, w, e1, e2, e3, e4, e5, e6, e7, ?_⟩
  rw [st]
  have q1 := q.fz.dup (D.isFz_fz d)
  have q2 : R K H ((w, d.fz) :: (v, .nd m h (xs.take j ++ .hole w :: xs.drop (j + 1))) :: (w, d.fz) :: L) := q1.perm ((List.Perm.swap _ _ _).cons _)
  exact q2.unfocus.perm (.swap _ _ _)
/-- the same without a part -/
theorem R.lookV {m : Bool} {h : Hd} {xs : List D} (r : R K H ((v, .nd m h xs) :: L)) : ∃ a o vs, v = .ref a ∧ RdH K H a o h ∧ (m = true → H a = some o) ∧ Fits K a o h vs ∧ vs.length = xs.length ∧ (∀ n ks, D.nkeyL (xs.take n) = some ks → NKvL K H (vs.take n) ks) := by
  obtain ⟨F, fp, s, o, n, f⟩ := r
  cases o with
  | cons a b =>
    cases a with
    | atom z => cases z
    | own h1 h2 h3 => exact ⟨_, _, _, rfl, RdH.of h2 h1, fun _ => h1, h2, by simp, fun n ks e => h3.nkT s e⟩
    | frz h1 h2 h3 => exact ⟨_, _, _, rfl, h1.same s, (fun e => nomatch e), h2, by simp, fun n ks e => h3.nkT s e⟩
theorem nkvl_keys {kvs : List NE} (h : NKvL K H (kvs.map fun p => .ref p.2.1) (kvs.map (·.1))) (h8 : ∀ k ∈ kvs.map (·.1), k.depth ≤ 8) : KeysAt K H kvs := by
  induction kvs with
  | nil => intro p hp; cases hp
  | cons p kvs ih =>
    cases h with
    | cons h1 h2 =>
      intro q hq
      rcases List.mem_cons.mp hq with rfl | hq
      · exact ⟨h1, h8 _ (by simp)⟩
      · exact ih h2 (fun k hk => h8 k (by simp at hk ⊢; exact .inr hk)) q hq
/-- the keys are what the head says -/
def keysOk (ks : List NestedKey) (xs : List D) : Bool := decide (D.nkeyL (xs.take ks.length) = some ks) && ks.all (fun k => decide (k.depth ≤ 8)) && decide (xs.length = 2 * ks.length)
theorem keysOk_at {a : Addr} {kvs : List NE} {xs : List D} (hk : keysOk (kvs.map (·.1)) xs = true) (h : ∀ n ks, D.nkeyL (xs.take n) = some ks → NKvL K H ((kvs.map (fun p => V.ref p.2.1) ++ kvs.map (·.2.2)).take n) ks) : KeysAt K H kvs := by
  simp only [keysOk, Bool.and_eq_true, decide_eq_true_eq, List.all_eq_true] at hk
  refine nkvl_keys ?_ hk.1.2
  have := h _ _ hk.1.1
  rw [List.length_map] at this
  have e : (kvs.map (fun p => V.ref p.2.1) ++ kvs.map (·.2.2)).take kvs.length = kvs.map fun p => V.ref p.2.1 := by
    rw [List.take_append_of_le_length (by simp)]
    exact List.take_of_length_le (by simp)
  rwa [e] at this
theorem kix_atN {kvs : List NE} {k : NestedKey} : atN kvs k = (kix (kvs.map (·.1)) k).bind fun j => (kvs.map (·.2.2))[j]? := by
  induction kvs with
  | nil => rfl
  | cons p kvs ih =>
    unfold atN at *
    by_cases e : p.1 = k
    · simp [List.find?_cons, e, kix]
    · simp only [List.map_cons, kix, if_neg e]
      have : (p :: kvs).find? (fun p => decide (p.1 = k)) = kvs.find? fun p => decide (p.1 = k) := by simp [List.find?_cons, e]
      rw [this, ih]
      cases kix (kvs.map (·.1)) k <;> simp
/-- where a key stands in a dict with tuple keys -/
def nix : D → D → Option (Option Nat)
  | .nd _ (.dN ks) xs, .nd m .tup ys => match (D.nd m .tup ys).nkey with
    | some k => if keysOk ks xs = true ∧ k.depth ≤ 8 then some (kix ks k) else none
    | none => none
  | .nd _ (.dK []) [], .nd m .tup ys => match (D.nd m .tup ys).nkey with
    | some k => if k.depth ≤ 8 then some none else none
    | none => none
  | _, _ => none
/-- d[k] -/
def fNGet : List D → Option (D × List D)
  | [.nd m h xs, y] => match nix (.nd m h xs) y with
    | some (some j) => match xs[xs.length / 2 + j]? with
      | some d => some (d.fz, [.nd m h (xs.set (xs.length / 2 + j) d.fz), y])
      | none => none
    | _ => none
  | _ => none
/-- k in d -/
def fNIn (neg : Bool) : List D → Option (D × List D)
  | [y, .nd m h xs] => match nix (.nd m h xs) y with
    | some q => some (.bl (if neg then !q.isSome else q.isSome), [y, .nd m h xs])
    | none => none
  | _ => none
theorem nky_of {y : V} {m : Bool} {ys : List D} {k : NestedKey} (r : R K H ((y, .nd m .tup ys) :: L)) (e : (D.nd m .tup ys).nkey = some k) (h8 : k.depth ≤ 8) : NKy K H y k := by
  obtain ⟨a, o, vs, rfl, _⟩ := R.look r
  exact ⟨a, rfl, r.nk e, h8⟩
theorem nix_get {x y : V} {m : Bool} {h : Hd} {xs : List D} {e : D} {q : Option Nat} (r : R K H ((x, .nd m h xs) :: (y, e) :: L)) (hq : nix (.nd m h xs) e = some q) :
    ∃ a o, x = .ref a ∧ NGet K H a y o ∧ o.isSome = q.isSome ∧ ∀ j d, q = some j → xs[xs.length / 2 + j]? = some d → ∃ w, o = some w ∧ R K H ((w, d.fz) :: (x, .nd m h (xs.set (xs.length / 2 + j) d.fz)) :: (y, e) :: L) := by
  have ry : R K H ((y, e) :: (x, .nd m h xs) :: L) := r.perm (.swap _ _ _)
  unfold nix at hq
  split at hq
  · rename_i d0 m0 ks xs0 m1 ys e0
    cases e0
    split at hq
    · rename_i k hk
      split at hq
      · rename_i hc
        cases hq
        have hy := nky_of ry hk hc.2
        have hlen : xs.length = 2 * ks.length := by
          have := hc.1
          simp only [keysOk, Bool.and_eq_true, decide_eq_true_eq] at this
          exact this.2
        have hhalf : xs.length / 2 = ks.length := by omega
        cases hj : kix ks k with
        | none =>
          obtain ⟨a, o, vs, rfl, h1, h2, f, l, nk⟩ := R.lookV r
          cases f
          rename_i kvs nd
          refine ⟨a, none, rfl, ⟨kvs, k, ⟨keysOk_at (a := a) hc.1 nk, .inl h1⟩, hy, ?_⟩, rfl, fun j d z => by cases z⟩
          rw [kix_atN, hj]; rfl
        | some j =>
          have hjl := (kix_lt hj).1
          obtain ⟨d, hd⟩ : ∃ d, xs[ks.length + j]? = some d := ⟨xs[ks.length + j]'(by omega), List.getElem?_eq_getElem _⟩
          obtain ⟨a, o, vs, w, rfl, h1, h2, f, l, hw, nk, r2⟩ := R.childV r hd
          cases f
          rename_i kvs nd
          have hw2 : (kvs.map (·.2.2))[j]? = some w := by
            rw [List.length_map, List.getElem?_append_right (by simp)] at hw
            simpa using hw
          refine ⟨a, some w, rfl, ⟨kvs, k, ⟨keysOk_at (a := a) hc.1 nk, .inl h1⟩, hy, ?_⟩, rfl, fun j' d' z hd' => ?_⟩
          · rw [kix_atN, hj]; exact hw2.symm
          · cases z
            rw [hhalf] at hd' ⊢
            rw [hd] at hd'
            cases hd'
            exact ⟨w, rfl, r2⟩
      · cases hq
    · cases hq
  · rename_i d0 m0 m1 ys e0
    cases e0
    split at hq
    · rename_i k hk
      split at hq
      · rename_i hc
        cases hq
        have hy := nky_of ry hk hc
        obtain ⟨a, o, vs, rfl, h1, h2, f, l⟩ := R.look r
        have eo := fits_nil f rfl
        subst eo
        exact ⟨a, none, rfl, ⟨[], k, ⟨(fun p hp => nomatch hp), .inr ⟨rfl, h1⟩⟩, hy, rfl⟩, rfl, fun j d z => nomatch z⟩
      · cases hq
    · cases hq
  · cases hq
end
end VH

namespace VH
open PySem PySem.Spec PyProof.Rows L2
section
variable {K : Fk} {F F' H H' : Hp} {L L' : List (V × D)} {v : V} {d : D}
theorem R.openV {h : Hd} {xs : List D} (r : R K H ((v, .nd true h xs) :: L)) : ∃ a o ps, v = .ref a ∧ xs = ps.map (·.2) ∧ H a = some o ∧ Fits K a o h (ps.map (·.1)) ∧ R K H ((.ref a, .rsv a) :: (ps ++ L)) ∧ ∀ n ks, D.nkeyL (xs.take n) = some ks → NKvL K H ((ps.map (·.1)).take n) ks := by
  obtain ⟨F, fp, s, o, n, f⟩ := r
  cases o with
  | cons a b =>
    cases a with
    | atom z => cases z
    | own h1 h2 h3 =>
      rename_i fp2 ad o ps fp1
      refine ⟨ad, o, ps, rfl, rfl, h1, h2, ⟨F, _, s, .cons (f := [ad]) (.rsv h1) (h3.append b), ?_, ?_⟩, fun n ks e => h3.nkT s e⟩
      · simpa using n
      · intro x hx
        exact f x (by simpa using hx)
theorem putN_old {kvs : List NE} {k : NestedKey} {a : Addr} {w : V} {j : Nat} (nd : (kvs.map (·.1)).Nodup) (h : kix (kvs.map (·.1)) k = some j) :
    (putN kvs k a w).map (·.1) = kvs.map (·.1) ∧ (putN kvs k a w).map (fun p => V.ref p.2.1) = kvs.map (fun p => V.ref p.2.1) ∧ (putN kvs k a w).map (·.2.2) = (kvs.map (·.2.2)).set j w := by
  have hs : (atN kvs k).isSome = true := by
    have hl := (kix_lt h).1
    rw [List.length_map] at hl
    rw [kix_atN, h]
    simp [hl]
  unfold putN
  rw [if_pos hs, List.map_map, List.map_map, List.map_map]
  refine ⟨List.map_congr_left fun p _ => by simp only [Function.comp]; split <;> rfl, List.map_congr_left fun p _ => by simp only [Function.comp]; split <;> rfl, ?_⟩
  clear hs
  induction kvs generalizing j with
  | nil => cases h
  | cons p kvs ih =>
    have nd2 := List.nodup_cons.mp nd
    simp only [List.map_cons, kix] at h
    by_cases e : p.1 = k
    · rw [if_pos e] at h
      cases h
      have rest : kvs.map ((fun x => x.2.2) ∘ fun p => if p.1 = k then (p.1, p.2.1, w) else p) = kvs.map (·.2.2) := by
        refine List.map_congr_left fun q hq => ?_
        have : q.1 ≠ k := fun z => nd2.1 (List.mem_map.mpr ⟨q, hq, z.trans e.symm⟩)
        simp only [Function.comp, if_neg this]
      rw [List.map_cons, rest]
      simp only [Function.comp, if_pos e, List.map_cons, List.set_cons_zero]
    · rw [if_neg e] at h
      cases hj : kix (kvs.map (·.1)) k with
      | none => rw [hj] at h; cases h
      | some i =>
        rw [hj] at h
        cases h
        rw [List.map_cons, ih nd2.2 hj]
        simp only [Function.comp, if_neg e, List.map_cons, List.set_cons_succ]
theorem putN_new {kvs : List NE} {k : NestedKey} {a : Addr} {w : V} (h : kix (kvs.map (·.1)) k = none) : putN kvs k a w = kvs ++ [(k, a, w)] := by
  have hs : (atN kvs k).isSome = false := by rw [kix_atN, h]; rfl
  unfold putN
  rw [if_neg (by rw [hs]; exact Bool.false_ne_true)]
/-- a dict with tuple keys, stored to -/
def nput : Hd → List D → D → D → Option D
  | .dN ks, xs, .nd m .tup ys, v => match (D.nd m .tup ys).nkey with
    | some k => if keysOk ks xs = true ∧ k.depth ≤ 8 ∧ ks.length < sizeLine then (match kix ks k with
      | some j => some (.nd true (.dN ks) (xs.set (ks.length + j) v))
      | none => some (.nd true (.dN (ks ++ [k])) (xs.take ks.length ++ (D.nd m .tup ys).fz :: (xs.drop ks.length ++ [v])))) else none
    | none => none
  | .dK [], [], .nd m .tup ys, v => match (D.nd m .tup ys).nkey with
    | some k => if k.depth ≤ 8 then some (.nd true (.dN [k]) [(D.nd m .tup ys).fz, v]) else none
    | none => none
  | _, _, _, _ => none
def fNPut : List D → Option (D × List D)
  | [v, .nd true h xs, y] => match nput h xs y v.fz with
    | some d => some (.non, [.any, d, y.fz])
    | none => none
  | _ => none
theorem zip_of {ps : List (V × D)} : (ps.map (·.1)).zip (ps.map (·.2)) = ps := by
  induction ps with
  | nil => rfl
  | cons p ps ih => simp [ih]
theorem half_split {ps : List (V × D)} {A B : List V} (h : ps.map (·.1) = A ++ B) : ∃ p1 p2, ps = p1 ++ p2 ∧ p1.map (·.1) = A ∧ p2.map (·.1) = B := by
  obtain ⟨p1, p2, e, h1, h2⟩ := List.map_eq_append_iff.mp h
  exact ⟨p1, p2, e, h1, h2⟩
theorem nput_ok {H : Hp} {L : List (V × D)} {v x y : V} {dv dy : D} {h : Hd} {xs : List D} {d : D} (r : R K H ((v, dv) :: (x, .nd true h xs) :: (y, dy) :: L)) (e : nput h xs dy dv.fz = some d) :
    ∃ a H', x = .ref a ∧ NPut K H a y v H' ∧ R K H' ((v, .any) :: (x, d) :: (y, dy.fz) :: L) := by
  -- the key is not to change any more, and stands twice
  have r1 : R K H ((x, .nd true h xs) :: (y, dy.fz) :: (y, dy.fz) :: (v, dv.fz) :: L) := by
    have a1 : R K H ((v, dv.fz) :: (x, .nd true h xs) :: (y, dy) :: L) := r.fz
    have a2 : R K H ((y, dy) :: (x, .nd true h xs) :: (v, dv.fz) :: L) := a1.perm (by
      refine (List.Perm.swap _ _ _).trans ?_
      refine (List.Perm.cons _ (List.Perm.swap _ _ _)).trans (List.Perm.swap _ _ _))
    have a3 := a2.fz.dup (D.isFz_fz dy)
    refine a3.perm ?_
    exact (List.Perm.cons _ (List.Perm.swap _ _ _)).trans ((List.Perm.swap _ _ _))
  have ry : ∀ {m ys k}, dy = .nd m .tup ys → (D.nd m .tup ys).nkey = some k → k.depth ≤ 8 → ∃ b, y = .ref b ∧ NKy K H y k := by
    intro m ys k e1 e2 e3
    subst e1
    have r0 : R K H ((y, .nd m .tup ys) :: (v, dv) :: (x, .nd true h xs) :: L) := r.perm (by
      refine (List.Perm.cons _ (List.Perm.swap _ _ _)).trans ?_
      exact List.Perm.swap _ _ _)
    obtain ⟨b, o, vs, rfl, _⟩ := R.look r0
    exact ⟨b, rfl, nky_of r0 e2 e3⟩
  unfold nput at e
  split at e
  · rename_i ks m ys
    split at e
    · rename_i k hk
      split at e
      · rename_i hc
        obtain ⟨hok, h8, hz⟩ := hc
        obtain ⟨b, rfl, hy⟩ := ry rfl hk h8
        obtain ⟨a, o, ps, rfl, rfl, ho, hf, r2, nk⟩ := R.openV r1
        generalize hvs : ps.map (·.1) = vs at hf nk
        cases hf
        rename_i kvs nd
        have ka := keysOk_at (a := a) hok nk
        have hn : NPut K H a (.ref b) v (upd H a (nko K.w a (putN kvs k b v))) := ⟨kvs, k, b, ⟨ka, .inl ho⟩, hy, rfl, by simpa using hz, rfl⟩
        obtain ⟨p1, p2, rfl, e1, e2⟩ := half_split hvs
        have l1 : p1.length = kvs.length := by have := congrArg List.length e1; simpa using this
        have l2 : p2.length = kvs.length := by have := congrArg List.length e2; simpa using this
        split at e
        · rename_i j hj
          cases e
          obtain ⟨q1, q2, q3⟩ := putN_old (a := b) (w := v) nd hj
          have hjl : j < kvs.length := by simpa using (kix_lt hj).1
          refine ⟨a, _, rfl, hn, ?_⟩
          -- the value goes in
          have r3 : R K H ((.ref a, .rsv a) :: ((p1 ++ p2.set j (v, dv.fz)) ++ ((.ref b, (D.nd m .tup ys).fz) :: L))) := by
            have hp2 : p2 = p2.take j ++ p2[j] :: p2.drop (j + 1) := by rw [← List.drop_eq_getElem_cons (by omega), List.take_append_drop]
            have hst : p2.set j (v, dv.fz) = p2.take j ++ (v, dv.fz) :: p2.drop (j + 1) := by rw [List.set_eq_take_append_cons_drop, if_pos (by omega)]
            rw [hst]
            rw [hp2] at r2
            have z : R K H (p2[j] :: ((.ref a, .rsv a) :: (p1 ++ (p2.take j ++ p2.drop (j + 1)) ++ ((.ref b, (D.nd m .tup ys).fz) :: (.ref b, (D.nd m .tup ys).fz) :: (v, dv.fz) :: L)))) := r2.perm (by
              refine (List.Perm.cons _ ?_).trans (List.Perm.swap _ _ _)
              rw [List.append_assoc, List.append_assoc, List.append_assoc, List.append_assoc, List.cons_append]
              refine (List.Perm.append_left _ List.perm_middle).trans List.perm_middle)
            have z2 : R K H ((.ref b, (D.nd m .tup ys).fz) :: ((.ref a, .rsv a) :: (p1 ++ (p2.take j ++ p2.drop (j + 1)) ++ ((.ref b, (D.nd m .tup ys).fz) :: (v, dv.fz) :: L)))) := z.tail.perm (by
              refine (List.Perm.cons _ List.perm_middle).trans (List.Perm.swap _ _ _))
            refine z2.tail.perm ?_
            refine List.Perm.cons _ ?_
            rw [List.append_assoc, List.append_assoc, List.append_assoc, List.append_assoc, List.cons_append]
            refine List.Perm.append_left _ (List.Perm.append_left _ ?_)
            exact (List.Perm.append_left _ (List.Perm.swap _ _ _)).trans List.perm_middle
          have r4 := (r3.upd (o := nko K.w a (putN kvs k b v))).close (h := .dN (kvs.map (·.1))) upd_same (by
            have := Fits.dN (K := K) (a := a) (putN kvs k b v) (by rw [q1]; exact nd)
            rw [q1, q2, q3] at this
            rw [List.map_append, List.map_set, e1, e2]
            exact this)
          rw [List.map_append, List.map_set] at r4
          have hset : (p1.map (·.2) ++ p2.map (·.2)).set ((kvs.map (·.1)).length + j) dv.fz = p1.map (·.2) ++ (p2.map (·.2)).set j dv.fz := by
            rw [List.set_append_right _ _ (by simp [l1])]
            congr 1
            simp [l1]
          rw [List.map_append, hset]
          exact (r4.atom (.any v)).perm (.refl _)
        · rename_i hj
          cases e
          refine ⟨a, _, rfl, hn, ?_⟩
          rw [putN_new hj]
          have r3 : R K H ((.ref a, .rsv a) :: ((p1 ++ (.ref b, (D.nd m .tup ys).fz) :: (p2 ++ [(v, dv.fz)])) ++ ((.ref b, (D.nd m .tup ys).fz) :: L))) := by
            refine r2.perm (List.Perm.cons _ ?_)
            rw [List.append_assoc, List.append_assoc, List.cons_append, List.append_assoc]
            refine List.Perm.append_left _ ?_
            refine List.perm_middle.trans (List.Perm.cons _ (List.Perm.append_left _ ?_))
            exact List.Perm.swap _ _ _
          have knew : k ∉ kvs.map (·.1) := fun hm => by
            have : ∀ {ls : List NestedKey}, k ∈ ls → kix ls k ≠ none := by
              intro ls
              induction ls with
              | nil => intro h; cases h
              | cons l ls ih =>
                intro h hc
                simp only [kix] at hc
                split at hc
                · cases hc
                · rename_i hne
                  rcases List.mem_cons.mp h with z | z
                  · exact hne z.symm
                  · cases q : kix ls k with
                    | none => exact ih z q
                    | some i => rw [q] at hc; cases hc
            exact this hm hj
          have r4 := (r3.upd (o := nko K.w a (kvs ++ [(k, b, v)]))).close (h := .dN (kvs.map (·.1) ++ [k])) upd_same (by
            have nd' : ((kvs ++ [(k, b, v)]).map (·.1)).Nodup := by
              rw [List.map_append]
              refine List.nodup_append.mpr ⟨nd, by simp, ?_⟩
              rintro z hz z2 hz2 rfl
              simp at hz2
              subst hz2
              exact knew hz
            have := Fits.dN (K := K) (a := a) (kvs ++ [(k, b, v)]) nd'
            simp only [List.map_append, List.map_cons, List.map_nil] at this
            rw [List.map_append, List.map_cons, List.map_append, e1, e2, List.map_cons, List.map_nil]
            rw [show kvs.map (fun p => V.ref p.2.1) ++ V.ref b :: (kvs.map (·.2.2) ++ [v]) = kvs.map (fun p => V.ref p.2.1) ++ [V.ref b] ++ (kvs.map (·.2.2) ++ [v]) by simp]
            exact this)
          have e3 : (List.map (·.2) (p1 ++ p2)).take (kvs.map (·.1)).length = p1.map (·.2) := by
            rw [List.map_append, List.take_append_of_le_length (by simp [l1])]
            exact List.take_of_length_le (by simp [l1])
          have e4 : (List.map (·.2) (p1 ++ p2)).drop (kvs.map (·.1)).length = p2.map (·.2) := by
            rw [List.map_append, List.drop_append_of_le_length (by simp [l1]), List.drop_of_length_le (by simp [l1])]
            rfl
          rw [e3, e4]
          rw [List.map_append, List.map_cons, List.map_append, List.map_cons, List.map_nil] at r4
          exact r4.atom (.any v)
      · cases e
    · cases e
  · rename_i m ys
    split at e
    · rename_i k hk
      split at e
      · rename_i h8
        cases e
        obtain ⟨b, rfl, hy⟩ := ry rfl hk h8
        obtain ⟨a, o, ps, rfl, e0, ho, hf, r2, nk⟩ := R.openV r1
        have hps : ps = [] := List.map_eq_nil_iff.mp e0.symm
        subst hps
        have eo := fits_nil hf rfl
        subst eo
        refine ⟨a, _, rfl, ⟨[], k, b, ⟨(fun p hp => nomatch hp), .inr ⟨rfl, ho⟩⟩, hy, rfl, by decide, rfl⟩, ?_⟩
        have r3 : R K H ((.ref a, .rsv a) :: ([(.ref b, (D.nd m .tup ys).fz), (v, dv.fz)] ++ ((.ref b, (D.nd m .tup ys).fz) :: L))) := r2.perm (List.Perm.cons _ (List.Perm.cons _ (List.Perm.swap _ _ _)))
        have r4 := (r3.upd (o := nko K.w a (putN [] k b v))).close (h := .dN [k]) upd_same (Fits.dN (K := K) (a := a) [(k, b, v)] (by simp))
        exact r4.atom (.any v)
      · cases e
    · cases e
  · cases e
end
end VH

/-! Operations whose kind the data tell: subscripts, in, stores, comparisons. -/
namespace VH
open PySem PySem.Spec PyProof.Rows L2
section
variable {K : Fk} {H : Hp} {L : List (V × D)}
/-- one way or another -/
def orF (f g : List D → Option (D × List D)) : List D → Option (D × List D) := fun ds => match f ds with
  | some z => some z
  | none => g ds
theorem DenR.or {r q : List V → Hp → VK → Prop} {f g : List D → Option (D × List D)} (h1 : DenR K r f) (h2 : DenR K q g) : DenR K (fun vs H Q => r vs H Q ∨ q vs H Q) (orF f g) := by
  intro vs ds H L d os Q hl rr e k
  unfold orF at e
  split at e
  · rename_i z hz; cases e; exact .inl (h1 vs ds H L _ _ Q hl rr hz k)
  · exact .inr (h2 vs ds H L _ _ Q hl rr e k)
theorem orF_l {f g : List D → Option (D × List D)} {ds : List D} {z : D × List D} (h : f ds = some z) : orF f g ds = some z := by simp only [orF, h]
theorem orF_r {f g : List D → Option (D × List D)} {ds : List D} (h : f ds = none) : orF f g ds = g ds := by simp only [orF, h]
theorem DenR.of2 {r q : R2} {f : List D → Option (D × List D)} (h : DenR K (fun vs H Q => r2L r vs H Q ∨ r2L q vs H Q) f) : DenR K (r2L fun x y H Q => r x y H Q ∨ q x y H Q) f := by
  intro vs ds H L d os Q hl rr e k
  have z := h vs ds H L d os Q hl rr e k
  match vs, z with
  | [x, y], z => exact z
  | [], z => exact z.elim id id
  | [_], z => exact z.elim id id
  | _ :: _ :: _ :: _, z => exact z.elim id id
theorem IxR.or {X : Cx} {r q : R2} (h1 : IxR X r) (h2 : IxR X q) : IxR X (fun x y H Q => r x y H Q ∨ q x y H Q) := by
  intro value slice pins s σ H x y v u Q I rx ry h hs
  rcases h with h | h
  · exact h1 value slice pins s σ H x y v u Q I rx ry h hs
  · exact h2 value slice pins s σ H x y v u Q I rx ry h hs
theorem PSet.or {X : Cx} {r q : TSet} (h1 : PSet X r) (h2 : PSet X q) : PSet X (fun o i v H Q => r o i v H Q ∨ q o i v H Q) := by
  intro pins s σ H o i v ov iv u Q I ro ri rv h
  rcases h with h | h
  · exact h1 pins s σ H o i v ov iv u Q I ro ri rv h
  · exact h2 pins s σ H o i v ov iv u Q I ro ri rv h
/-! ### d[k], xs[i] -/
theorem subTail {prog : Program} {w : World} {A : Around} {E : Value → Shared → Prop} {s : Shared} {value slice : Expr} {o i : Value} {T id : String} {Q : Value → Shared → Prop}
    (hl : typeLookup (.type T) "__getitem__" = pure (some (.builtin id))) (hs : subscripted slice false o i = operate [o, i] (getItem o i)) (hT : s.TypeIs o T) (h : wpAny (model prog w) A (getItem o i) Q E s) :
    wpAny (model prog w) A (subscriptTail value slice o i) Q E s := by
  unfold subscriptTail
  refine wpAny_bind ?_
  rw [getitemInPython_of_ne hT.not_modules]
  refine wpAny_bind (wpAny_specialOf hT hl ?_)
  have fin : wpAny (model prog w) A (subscripted slice false o i) (fun r s₃ => wpAny (model prog w) A (letTemporaryGo value o r >>= fun _ => pure r) Q E s₃) E s := by
    rw [hs]
    exact wpAny_operating (wpAny_mono h (fun r s₃ h₃ => wpAny_bind (wpAny_letTemporaryGo (wpAny_pure h₃))) fun _ _ x => x)
  first
    | exact wpAny_pure (wpAny_bind fin)
    | exact wpAny_bind (wpAny_pure (wpAny_bind fin))
    | exact wpAny_bind fin
def rDGetV : R2 := fun x y H Q => ∃ a v, x = .ref a ∧ DGet H a y (some v) ∧ Q v H
def rNGetV (K : Fk) : R2 := fun x y H Q => ∃ a v, x = .ref a ∧ NGet K H a y (some v) ∧ Q v H
theorem ix_dict {X : Cx} (hu : X.A.units + 1 < cLine) : IxR X rDGetV := by
  intro value slice pins s σ H x y v u Q I rx ry h hs
  obtain ⟨a, z, rfl, g, q⟩ := h
  obtain rfl : v = Value.ref a := rx
  exact subTail PySem.F.slot_dict_getitem.lookup hs (dict_typeIs I g) (d_getItem hu I g ry fun w' s3 I3 rw' => ⟨z, H, I3, rw', q⟩)
theorem ix_nest {X : Cx} (hu : X.A.units + 64 < cLine) : IxR X (rNGetV X.fk) := by
  intro value slice pins s σ H x y v u Q I rx ry h hs
  obtain ⟨a, z, rfl, g, q⟩ := h
  obtain rfl : v = Value.ref a := rx
  obtain ⟨kvs, k, n, _⟩ := id g
  exact subTail PySem.F.slot_dict_getitem.lookup hs (n_isD I n).1 (n_getItem hu I g ry fun w' s3 I3 rw' => ⟨z, H, I3, rw', q⟩)
def rGetU (K : Fk) : R2 := fun x y H Q => rIx K x y H Q ∨ (rDGetV x y H Q ∨ rNGetV K x y H Q)
def fGetU : List D → Option (D × List D) := orF fIx (orF fDGet fNGet)
theorem ix_getU {X : Cx} (hu : X.A.units + 64 < cLine) : IxR X (rGetU X.fk) := ix_seq.or ((ix_dict (by omega)).or (ix_nest hu))
theorem den_ngetR : DenR K (r2L (rNGetV K)) fNGet := by
  intro vs ds H L d os Q hl r e k
  unfold fNGet at e
  split at e
  · rename_i m h xs y
    split at e
    · rename_i j hj
      split at e
      · rename_i d0 hd
        cases e
        obtain ⟨x, z, rfl⟩ := len2 hl
        obtain ⟨a, o, rfl, g, _, fin⟩ := nix_get r hj
        obtain ⟨w, rfl, r2⟩ := fin j d0 rfl hd
        exact ⟨a, w, rfl, g, k w H r2⟩
      · cases e
    · cases e
  · cases e
theorem den_getU : DenR K (r2L (rGetU K)) fGetU := (DenR.or den_ix (DenR.or den_dgetR den_ngetR).of2).of2
/-! ### in -/
def rDInV (neg : Bool) : R2 := fun y x H Q => ∃ a o, x = .ref a ∧ DGet H a y o ∧ Q (.bl (if neg then !o.isSome else o.isSome)) H
def rNInV (K : Fk) (neg : Bool) : R2 := fun y x H Q => ∃ a o, x = .ref a ∧ NGet K H a y o ∧ Q (.bl (if neg then !o.isSome else o.isSome)) H
theorem op_din {X : Cx} (hu : X.A.units + 64 < cLine) : OpR X (compareOp .In) (rDInV false) := by
  intro pins s σ H y x v u Q I ry rx h
  obtain ⟨a, o, rfl, g, q⟩ := h
  obtain rfl : u = Value.ref a := rx
  exact d_in (by omega) I g ry fun s3 I3 => ⟨.bl o.isSome, H, I3, rfl, q⟩
theorem op_dnin {X : Cx} (hu : X.A.units + 64 < cLine) : OpR X (compareOp .NotIn) (rDInV true) := by
  intro pins s σ H y x v u Q I ry rx h
  obtain ⟨a, o, rfl, g, q⟩ := h
  obtain rfl : u = Value.ref a := rx
  exact d_notIn (by omega) I g ry fun s3 I3 => ⟨.bl (!o.isSome), H, I3, rfl, q⟩
theorem op_nin {X : Cx} (hu : X.A.units + 64 < cLine) : OpR X (compareOp .In) (rNInV X.fk false) := by
  intro pins s σ H y x v u Q I ry rx h
  obtain ⟨a, o, rfl, g, q⟩ := h
  obtain rfl : u = Value.ref a := rx
  exact n_in hu I g ry fun s3 I3 => ⟨.bl o.isSome, H, I3, rfl, q⟩
theorem op_nnin {X : Cx} (hu : X.A.units + 64 < cLine) : OpR X (compareOp .NotIn) (rNInV X.fk true) := by
  intro pins s σ H y x v u Q I ry rx h
  obtain ⟨a, o, rfl, g, q⟩ := h
  obtain rfl : u = Value.ref a := rx
  exact n_notIn hu I g ry fun s3 I3 => ⟨.bl (!o.isSome), H, I3, rfl, q⟩
theorem den_ninR (neg : Bool) : DenR K (r2L (rNInV K neg)) (fNIn neg) := by
  intro vs ds H L d os Q hl r e k
  unfold fNIn at e
  split at e
  · rename_i y m h xs
    split at e
    · rename_i q hq
      cases e
      obtain ⟨z, x, rfl⟩ := len2 hl
      obtain ⟨a, o, rfl, g, ho, _⟩ := nix_get (r.perm (List.Perm.swap _ _ _)) hq
      refine ⟨a, o, rfl, g, ?_⟩
      rw [ho]
      exact k _ H (r.atom (.bl _))
    · cases e
  · cases e
mutual
theorem py_plain : ∀ {d : D} {p : PyData}, d.py = some p → p.plain = true
  | .non, _, e => by cases e; rfl
  | .bl _, _, e => by cases e; rfl
  | .int _, _, e => by cases e; rfl
  | .str _, _, e => by cases e; rfl
  | .ref _, _, e => by cases e
  | .hole _, _, e => by cases e
  | .rsv _, _, e => by cases e
  | .any, _, e => by cases e
  | .nd m h xs, p, e => by
    cases h <;> simp only [D.py, Option.map_eq_some_iff] at e
    · obtain ⟨qs, h, rfl⟩ := e; exact pyL_plain h
    · obtain ⟨qs, h, rfl⟩ := e; exact pyL_plain h
    · obtain ⟨qs, h, rfl⟩ := e; exact pyL_plain h
    · obtain ⟨qs, h, rfl⟩ := e; exact pyL_plain h
    all_goals cases e
theorem pyL_plain : ∀ {xs : List D} {ps : List PyData}, D.pyL xs = some ps → PyData.plainAll ps = true
  | [], _, e => by cases e; rfl
  | x :: xs, ps, e => by
    simp only [D.pyL] at e
    split at e
    · rename_i p qs h1 h2
      cases e
      rw [PyData.plainAll, py_plain h1, pyL_plain h2]; rfl
    · cases e
end
/-- a comparison of data -/
def rData (K : PySem.W.Frag) (g : PyData → PyData → Option Bool) : R2 := fun x y H Q => ∃ p q b, Dp K H x p ∧ Dp K H y q ∧ p.plain = true ∧ q.plain = true ∧ min p.depth q.depth ≤ 32 ∧ g p q = some b ∧ Q (.bl b) H
def fData (g : PyData → PyData → Option Bool) : List D → Option (D × List D)
  | [x, y] => match x.py, y.py with
    | some p, some q => if min p.depth q.depth ≤ 32 then (match g p q with
      | some b => some (.bl b, [x, y])
      | none => none) else none
    | _, _ => none
  | _ => none
theorem den_data {g : PyData → PyData → Option Bool} : DenR K (r2L (rData K g)) (fData g) := by
  intro vs ds H L d os Q hl r e k
  unfold fData at e
  split at e
  · rename_i x y
    split at e
    · rename_i p q hp hq
      split at e
      · rename_i hd
        split at e
        · rename_i b hb
          cases e
          obtain ⟨u, w, rfl⟩ := len2 hl
          have r' : R K H ((w, y) :: (u, x) :: L) := R.perm (List.Perm.swap _ _ _) r
          exact ⟨p, q, b, R.dp r hp, R.dp r' hq, py_plain hp, py_plain hq, hd, hb, k _ H (r.atom (.bl _))⟩
        · cases e
      · cases e
    · cases e
  · cases e
theorem op_eqP {X : Cx} (hu : X.A.units + 64 < cLine) : OpR X (compareOp .Eq) (rData X.K fun p q => some (PyData.eqv p q)) := by
  intro pins s σ H x y v u Q I rx ry h
  obtain ⟨p, q, b, hp, hq, pp, pq, hd, hb, k⟩ := h
  cases hb
  obtain ⟨as, r1⟩ := Dp.reads I p x v hp rx
  obtain ⟨bs, r2⟩ := Dp.reads I q y u hq ry
  exact SeqAt.eq_plain r1 r2 pp pq (by omega) ⟨.bl _, H, I, rfl, k⟩
theorem op_neP {X : Cx} (hu : X.A.units + 64 < cLine) : OpR X (compareOp .NotEq) (rData X.K fun p q => some (!PyData.eqv p q)) := by
  intro pins s σ H x y v u Q I rx ry h
  obtain ⟨p, q, b, hp, hq, pp, pq, hd, hb, k⟩ := h
  cases hb
  obtain ⟨as, r1⟩ := Dp.reads I p x v hp rx
  obtain ⟨bs, r2⟩ := Dp.reads I q y u hq ry
  exact SeqAt.ne_plain r1 r2 pp pq (by omega) ⟨.bl _, H, I, rfl, k⟩
/-- x in xs, of data -/
def inG (neg : Bool) : PyData → PyData → Option Bool
  | p, .list qs => some (if neg then !qs.any (fun z => PyData.eqv z p) else qs.any (fun z => PyData.eqv z p))
  | p, .tuple qs => some (if neg then !qs.any (fun z => PyData.eqv z p) else qs.any (fun z => PyData.eqv z p))
  | _, _ => none
theorem op_inP {X : Cx} (hu : X.A.units + 64 < cLine) : OpR X (compareOp .In) (rData X.K (inG false)) := by
  intro pins s σ H x y v u Q I rx ry h
  obtain ⟨p, q, b, hp, hq, pp, pq, hd, hb, k⟩ := h
  obtain ⟨as, r1⟩ := Dp.reads I p x v hp rx
  obtain ⟨bs, r2⟩ := Dp.reads I q y u hq ry
  unfold inG at hb
  split at hb
  · rename_i qs
    cases hb
    simp only [PyData.depth] at hd
    exact SeqAt.in_list_data r2 r1 pq pp (by omega) ⟨.bl _, H, I, rfl, k⟩
  · rename_i qs
    cases hb
    simp only [PyData.depth] at hd
    exact SeqAt.in_tuple_data r2 r1 pq pp (by omega) ⟨.bl _, H, I, rfl, k⟩
  · cases hb
theorem op_notInP {X : Cx} (hu : X.A.units + 64 < cLine) : OpR X (compareOp .NotIn) (rData X.K (inG true)) := by
  intro pins s σ H x y v u Q I rx ry h
  obtain ⟨p, q, b, hp, hq, pp, pq, hd, hb, k⟩ := h
  obtain ⟨as, r1⟩ := Dp.reads I p x v hp rx
  obtain ⟨bs, r2⟩ := Dp.reads I q y u hq ry
  unfold inG at hb
  split at hb
  · rename_i qs
    cases hb
    simp only [PyData.depth] at hd
    exact SeqAt.notIn_list_data r2 r1 pq pp (by omega) ⟨.bl _, H, I, rfl, k⟩
  · rename_i qs
    cases hb
    simp only [PyData.depth] at hd
    exact SeqAt.notIn_tuple_data r2 r1 pq pp (by omega) ⟨.bl _, H, I, rfl, k⟩
  · cases hb
/-! in, of all kinds -/
def rInU (K : Fk) (neg : Bool) : R2 := fun x y H Q => rInS neg x y H Q ∨ (rDInV neg x y H Q ∨ (rNInV K neg x y H Q ∨ rData K (inG neg) x y H Q))
def fInU (neg : Bool) : List D → Option (D × List D) := orF (fInS neg) (orF (fDIn neg) (orF (fNIn neg) (fData (inG neg))))
theorem op_inU {X : Cx} (hu : X.A.units + 64 < cLine) : OpR X (compareOp .In) (rInU X.fk false) := op_inS.or ((op_din hu).or ((op_nin hu).or (op_inP hu)))
theorem op_notInU {X : Cx} (hu : X.A.units + 64 < cLine) : OpR X (compareOp .NotIn) (rInU X.fk true) := op_notInS.or ((op_dnin hu).or ((op_nnin hu).or (op_notInP hu)))
theorem den_inU (neg : Bool) : DenR K (r2L (rInU K neg)) (fInU neg) := (DenR.or (den_inS neg) (DenR.or (den_dinR neg) (DenR.or (den_ninR neg) den_data).of2).of2).of2
/-! ### stores -/
def r3S (t : TSet) : List V → Hp → VK → Prop := fun vs H Q => match vs with
  | [v, o, i] => t o i v H fun H' => Q .non H'
  | _ => False
theorem DenR.of3 {r q : TSet} {f : List D → Option (D × List D)} (h : DenR K (fun vs H Q => r3S r vs H Q ∨ r3S q vs H Q) f) : DenR K (r3S fun o i v H Q => r o i v H Q ∨ q o i v H Q) f := by
  intro vs ds H L d os Q hl rr e k
  have z := h vs ds H L d os Q hl rr e k
  match vs, z with
  | [x, y, w], z => exact z
  | [], z => exact z.elim id id
  | [_], z => exact z.elim id id
  | [_, _], z => exact z.elim id id
  | _ :: _ :: _ :: _ :: _, z => exact z.elim id id
def rSetN (K : Fk) : TSet := fun o i v H Q => ∃ a H', o = .ref a ∧ NPut K H a i v H' ∧ Q H'
theorem set_nest {X : Cx} (hu : X.A.units + 64 < cLine) : PSet X (rSetN X.fk) := by
  intro pins s σ H o i v ov iv u Q I ro ri rv h
  obtain ⟨a, H', eo, g, q⟩ := h
  subst eo
  cases (show ov = Value.ref a from ro)
  exact n_setItem hu I g ri rv fun s' I' => ⟨H', I', q⟩
theorem den_setN : DenR K (r3S (rSetN K)) fNPut := by
  intro vs ds H L d os Q hl r e k
  unfold fNPut at e
  split at e
  · rename_i v h xs y
    split at e
    · rename_i d0 hd
      cases e
      obtain ⟨w, x, z, rfl⟩ := len3 hl
      obtain ⟨a, H', rfl, g, r2⟩ := nput_ok r hd
      exact ⟨a, H', rfl, g, k _ H' (r2.atom .non)⟩
    · cases e
  · cases e
theorem den_setD : DenR K (r3S rSetD) fDPut := by
  intro vs ds H L d os Q hl r e k
  have z := den_dputR vs ds H L d os Q hl r e k
  match vs, z with
  | [v, o, i], z => exact z
/-- xs[i] = v -/
def fLPut : List D → Option (D × List D)
  | [v, .nd true .lst xs, .int i] => match ixN xs.length i with
    | some j => some (.non, [.any, .nd true .lst (xs.set j v.fz), .any])
    | none => none
  | _ => none
theorem den_setL : DenR K (r3S rSetL) fLPut := by
  intro vs ds H L d os Q hl r e k
  unfold fLPut at e
  split at e
  · rename_i v xs i
    split at e
    · rename_i j hj
      cases e
      obtain ⟨w, x, z, rfl⟩ := len3 hl
      have r0 : R K H ((x, .nd true .lst xs) :: (w, v.fz) :: (z, .int i) :: L) := (R.fz r).perm (List.Perm.swap _ _ _)
      have rz : R K H ((z, .int i) :: (w, v.fz) :: (x, .nd true .lst xs) :: L) := r0.perm ((List.Perm.cons _ (List.Perm.swap _ _ _)).trans ((List.Perm.swap _ _ _).trans (List.Perm.cons _ (List.Perm.swap _ _ _))))
      obtain rfl := rz.vint
      obtain ⟨a, us, rfl, ha, hlen, r1⟩ := R.sizeL r0
      have hjl : j < xs.length := by
        unfold ixN at hj
        split at hj
        · split at hj
          · cases hj; omega
          · cases hj
        · split at hj
          · cases hj; omega
          · cases hj
      refine ⟨a, us, i, j, rfl, rfl, ha, by rw [hlen]; exact hj, k _ _ ?_⟩
      have hu : us[j]? = some us[j] := List.getElem?_eq_getElem (by omega)
      have hx : xs[j]? = some xs[j] := List.getElem?_eq_getElem hjl
      have r2 : R K H ((.ref a, .rsv a) :: ((us.set j w).zip (xs.set j v.fz) ++ ((.int i, .int i) :: L))) := by
        have p := zip_set (w := w) (y := v.fz) hlen hu hx
        have q : R K H ((us[j], xs[j]) :: ((.ref a, .rsv a) :: ((us.set j w).zip (xs.set j v.fz) ++ ((.int i, .int i) :: L)))) := by
          refine r1.perm ?_
          refine List.Perm.trans ?_ (List.Perm.swap _ _ _)
          refine List.Perm.cons _ ?_
          have p2 := p.append_right ((V.int i, D.int i) :: L)
          simp only [List.cons_append] at p2
          refine List.Perm.trans ?_ p2.symm
          exact List.perm_middle
        exact q.tail
      have r3 := (r2.upd (o := .lst (us.set j w))).close (h := .lst) upd_same (by
        rw [map_zip1 (by simp [hlen])]
        exact .lst _)
      rw [map_zip2 (by simp [hlen])] at r3
      have r4 : R K (L2.upd H a (.lst (us.set j w))) ((.int i, .any) :: (.ref a, .nd true .lst (xs.set j v.fz)) :: L) := ((r3.perm (List.Perm.swap _ _ _)).tail).atom (.any _)
      exact ((r4.perm (List.Perm.swap _ _ _)).atom (.any w)).atom .non
    · cases e
  · cases e
def rSetU (K : Fk) : TSet := fun o i v H Q => rSetL o i v H Q ∨ (rSetD o i v H Q ∨ rSetN K o i v H Q)
def fPutU : List D → Option (D × List D) := orF fLPut (orF fDPut fNPut)
theorem set_U {X : Cx} (hu : X.A.units + 64 < cLine) : PSet X (rSetU X.fk) := PSet.or set_list (PSet.or (set_dict (by omega)) (set_nest hu))
theorem den_setU : DenR K (r3S (rSetU K)) fPutU := (DenR.or den_setL (DenR.or den_setD den_setN).of3).of3
theorem s_putU {X : Cx} {io : List Nat} {o i value : Expr} {to ti tv : TE} {A B C : Arg} {pos pos' : Pos} (hu : X.A.units + 64 < cLine) (hv : AJ X value tv C) (ho : AJ X o to A) (hi : AJ X i ti B)
    (ha : ∀ v, assign (.Subscript o i pos') X.env v = (do
      let ov ← holding [v] (eval o X.env)
      let iv ← holding [v, ov] (eval i X.env)
      standAt pos'
      holding [v, ov, iv] (setItem ov iv v)
      release [v, ov, iv] []) := by intro _; rfl)
    (hs : swapsWithSole [.Subscript o i pos'] value pos.line X.env = pure false := by rfl) (hw : swappedStores [.Subscript o i pos'] value X.env = pure none := by rfl) :
    SJ X io (.Assign [.Subscript o i pos'] value pos) (tAsg tv (gSub to ti (rSetU X.fk))) (sDrop (mApp fPutU [C, A, B])) := by
  refine ⟨ps_asg hv.p (pg_sub ho.p hi.p (set_U hu) ha) hs hw, ?_⟩
  have key : DenE X.fk (fun σ H Q => tv σ H fun v H1 => to σ H1 fun x H2 => ti σ H2 fun y H3 => rSetU X.fk x y v H3 fun H4 => Q .non H4) (mApp fPutU [C, A, B]) := by
    intro σ H env L d env' Q re e k
    exact den_app (da_cons hv.d (da_cons ho.d (da_cons hi.d da_nil))) den_setU σ H env L d env' Q re e k
  intro pv hp σ H env L o Z re P e k
  exact ds_drop key pv hp σ H env L o Z re P e k
/-! ### the pieces of syntax -/
variable {X : Cx} {a b : Expr} {ta tb : TE} {A B : Arg} {pos : Pos}
theorem j_get (hu : X.A.units + 64 < cLine) (ha : AJ X a ta A) (hb : AJ X b tb B) (hs : PlainIx b := by intro _ _; rfl) : EJ X (.Subscript a b pos) (tOp (rGetU X.fk) ta tb) (mApp fGetU [A, B]) := ⟨pe_ix (ix_getU hu) ha.p hb.p hs, den_op den_getU ha.d hb.d⟩
end
end VH

/-! Methods, len, str of the text's own classes; classmethods; a class in hand. -/
namespace VH
open PySem PySem.Spec PyProof.Rows L2
section
variable {K : Fk}
/-- a receiver that is looked at ahead of the arguments -/
theorem den_pre {T : V → Hp → Prop} {to : TE} {t : TA} {a : Arg} {as : List Arg} {r : List V → Hp → VK → Prop} {fm : List D → Option (D × List D)}
    (hT : ∀ x d ds z H L, R K H ((x, d) :: L) → fm (d :: ds) = some z → T x H) (hr : DenR K r fm) (ho : DenArg K to a) (ht : DenA K t as) : DenE K (fun σ H Q => to σ H fun x H1 => T x H1 ∧ t σ H1 fun vs H2 => r (x :: vs) H2 Q) (mApp fm (a :: as)) := by
  intro σ H env L d env' Q re e k
  obtain ⟨ds, ps, e1, os, h1, h2, hlo, rfl⟩ := mApp_eq e
  unfold evs at h1
  split at h1
  · rename_i d0 p0 e0 h0
    split at h1
    · rename_i ds0 ps0 e2 h3
      cases h1
      refine ho σ H env L d0 p0 e0 _ re h0 fun x M H1 hs1 r1 => ⟨?_, ?_⟩
      · obtain ⟨l, q, b⟩ := RE.to (L := [(x, d0)]) r1
        exact hT x d0 ds0 (d, os) H1 _ q h2
      · refine ht σ H1 e0 _ ds0 ps0 e1 _ r1 h3 fun vs N H2 hl hs2 r2 => ?_
        have r3 : RE K H2 σ e1 ((x :: vs).zip (d0 :: ds0) ++ ((M ++ N) ++ L)) := by
          refine RE.perm ?_ r2
          show (vs.zip ds0 ++ (N ++ (x, d0) :: (M ++ L))).Perm ((x, d0) :: (vs.zip ds0 ++ (M ++ N ++ L)))
          refine List.Perm.trans (List.Perm.append_left _ List.perm_middle) ?_
          refine List.Perm.trans List.perm_middle (List.Perm.cons _ (List.Perm.append_left _ ?_))
          rw [List.append_assoc]
          exact pc3 N M L
        obtain ⟨l, q, b⟩ := RE.to r3
        refine hr (x :: vs) (d0 :: ds0) H2 _ d os Q (by simp [hl]) q h2 fun v H3 q2 => k v H3 ?_
        have q3 := b (H' := H3) (L1 := (v, d) :: (x :: vs).zip os) (by simpa using q2)
        refine RE.putB (slOk_cons hs1 hs2) (L := (v, d) :: L) (RE.perm ?_ q3) (by simp [hlo, hl])
        show ((v, d) :: ((x :: vs).zip os ++ ((M ++ N) ++ L))).Perm ((x :: vs).zip os ++ ((M ++ N) ++ (v, d) :: L))
        exact (List.Perm.append_left _ List.perm_middle).trans List.perm_middle |>.symm
    · cases h1
  · cases h1
/-! ### o.m(..) -/
def HasM (C : Addr) (m : Str) (x : V) (H : Hp) : Prop := ∃ a dx fs, x = .ref a ∧ H a = some (.ins C dx fs) ∧ fs.lookup m = none
def fMeth (C : Addr) (m : Str) (fm : List D → Option (D × List D)) : List D → Option (D × List D) := fun ds => match ds with
  | .nd _ (.ins C1 ns) _ :: _ => if C1 = C ∧ (kix ns m).isNone then fm ds else none
  | _ => none
theorem fMeth_eq {C : Addr} {m : Str} {fm : List D → Option (D × List D)} {ds : List D} {z : D × List D} (h : fMeth C m fm ds = some z) : ∃ b ns xs r, ds = .nd b (.ins C ns) xs :: r ∧ kix ns m = none ∧ fm ds = some z := by
  unfold fMeth at h
  split at h
  · rename_i b C1 ns xs r
    split at h
    · rename_i hc
      obtain ⟨rfl, hk⟩ := hc
      exact ⟨b, ns, xs, r, rfl, Option.isNone_iff_eq_none.mp hk, h⟩
    · cases h
  · cases h
theorem fMeth_has {C : Addr} {m : Str} {fm : List D → Option (D × List D)} : ∀ x d ds z H L, R K H ((x, d) :: L) → fMeth C m fm (d :: ds) = some z → HasM C m x H := by
  intro x d ds z H L r h
  obtain ⟨b, ns, xs, rr, e, hk, _⟩ := fMeth_eq h
  cases e
  obtain ⟨a, o, us, rfl, h1, _, f, _⟩ := R.look r
  obtain ⟨dx, fs, rfl, hn, _⟩ := fits_ins f
  refine ⟨a, dx, fs, rfl, h1, ?_⟩
  rw [lookup_kix, ← hn, hk]
  rfl
theorem den_meth {C : Addr} {m : Str} {np : Nat} {fm : List D → Option (D × List D)} (hl : ∀ ds z, fm ds = some z → ds.length = np) : DenR K (fun vs H Q => spD K np fm vs H Q E0) (fMeth C m fm) := by
  intro vs ds H L d os Q hlen r e k
  obtain ⟨_, _, _, _, _, _, h⟩ := fMeth_eq e
  exact denR_sp hl vs ds H L d os Q hlen r h k
end
section
variable {X : Cx} {k np : Nat} {C f : Addr} {fm : List D → Option (D × List D)} {m : Str} {o e : Expr} {es : List Expr} {ta : TE} {t : TA} {pos apos : Pos} {A : Arg} {As : List Arg}
def tMethU (K : Fk) (C : Addr) (m : Str) (np : Nat) (fm : List D → Option (D × List D)) (ta : TE) (t : TA) : TE := fun σ H Q => ta σ H fun x H1 => HasM C m x H1 ∧ t σ H1 fun vs H2 => spD K np fm (x :: vs) H2 Q E0
theorem run_fx {pins : List (Addr × Obj)} {σ : L2.St} {H : Hp} {s : Shared} {Q : VK} {us : List Value} {vs : List V} (F : Fx X.prog X.w X.K X.mg X.base f np k fm) (hr : Room k X.A) (I : Inv X pins σ H s) (r : Vals vs us) (h : spD X.fk np fm vs H Q E0) :
    wpAny (model X.prog X.w) X.A (call (.ref f) us) (EP X pins σ Q) X.xe s := by
  obtain ⟨fd, ps, F1, hb⟩ := F.ex
  refine run_fn (dvs := []) (ds := []) F1 hr hb .nil passL I r ?_
  rw [List.append_nil]; exact h
theorem pe_methU {pl : Sem Bool} (he : PE X o ta) (c : Cls X.K C) (hm : Meth X.K C m f) (F : Fx X.prog X.w X.K X.mg X.base f np k fm) (hr : Room k X.A) (ha : PA X (e :: es) t)
    (hst : starEach (e :: es) X.env = (false, eval e X.env) :: starEach es X.env := by rfl) (hpl : (backTo pos (starEach es X.env)).any (·.1) = false := by rfl)
    (ht : eval (.Call (.Attribute o m apos) (e :: es) [] pos) X.env = (do
      let ov ← eval o X.env
      standAt apos.atName
      let (f, first) ← holding [ov] (getMethod ov m pl)
      callWith pos f first (backTo pos (starEach (e :: es) X.env)) (backToKw pos (keywordEach [] X.env))) := by rfl) :
    PE X (.Call (.Attribute o m apos) (e :: es) [] pos) (tMethU X.fk C m np fm ta t) := by
  refine ⟨fun pins s σ H Q I h => ?_⟩
  refine PySem.W.methodCall_KW (pl := pl) (thn (he.run pins s σ H _ I h) fun u s1 ⟨x, H1, I1, rx, ⟨a, dx, fs, ex, ea, l⟩, q⟩ => ?_) ht
  subst ex
  obtain rfl : u = Value.ref a := rx
  refine getmeth_ok I1 ea c hm l ?_
  refine PySem.W.callWith_K (first := [.ref a]) (h₀ := X.base) I.ok.mod.kin hm.kp (thn (ha.run pos pins s1 σ H1 _ I1 q) fun us s2 ⟨vs, H2, I2, r, q2⟩ => ⟨I2.kIn, ?_⟩) hst hpl
  exact run_fx (us := .ref a :: us) (vs := .ref a :: vs) F hr I2 (.cons rfl r) q2
theorem pe_methU0 {pl : Sem Bool} (he : PE X o ta) (c : Cls X.K C) (hm : Meth X.K C m f) (F : Fx X.prog X.w X.K X.mg X.base f np k fm) (hr : Room k X.A)
    (ht : eval (.Call (.Attribute o m apos) [] [] pos) X.env = (do
      let ov ← eval o X.env
      standAt apos.atName
      let (f, first) ← holding [ov] (getMethod ov m pl)
      callWith pos f first (backTo pos (starEach [] X.env)) (backToKw pos (keywordEach [] X.env))) := by rfl) :
    PE X (.Call (.Attribute o m apos) [] [] pos) (tMethU X.fk C m np fm ta tNil) := by
  refine ⟨fun pins s σ H Q I h => ?_⟩
  refine PySem.W.methodCall_KW (pl := pl) (thn (he.run pins s σ H _ I h) fun u s1 ⟨x, H1, I1, rx, ⟨a, dx, fs, ex, ea, l⟩, q⟩ => ?_) ht
  subst ex
  obtain rfl : u = Value.ref a := rx
  refine getmeth_ok I1 ea c hm l ?_
  exact PySem.W.callWith_K0 (first := [.ref a]) I1.kIn hm.kp (run_fx (us := [.ref a]) (vs := [.ref a]) F hr I1 (.cons rfl .nil) q)
theorem j_meth {pl : Sem Bool} (he : AJ X o ta A) (c : Cls X.K C) (hm : Meth X.K C m f) (F : Fx X.prog X.w X.K X.mg X.base f np k fm) (hr : Room k X.A) (ha : LJ X (e :: es) t As)
    (hst : starEach (e :: es) X.env = (false, eval e X.env) :: starEach es X.env := by rfl) (hpl : (backTo pos (starEach es X.env)).any (·.1) = false := by rfl)
    (ht : eval (.Call (.Attribute o m apos) (e :: es) [] pos) X.env = (do
      let ov ← eval o X.env
      standAt apos.atName
      let (f, first) ← holding [ov] (getMethod ov m pl)
      callWith pos f first (backTo pos (starEach (e :: es) X.env)) (backToKw pos (keywordEach [] X.env))) := by rfl) :
    EJ X (.Call (.Attribute o m apos) (e :: es) [] pos) (tMethU X.fk C m np fm ta t) (mApp (fMeth C m fm) (A :: As)) := ⟨pe_methU he.p c hm F hr ha.p hst hpl ht, den_pre fMeth_has (den_meth F.ln) he.d ha.d⟩
theorem j_meth0 {pl : Sem Bool} (he : AJ X o ta A) (c : Cls X.K C) (hm : Meth X.K C m f) (F : Fx X.prog X.w X.K X.mg X.base f np k fm) (hr : Room k X.A)
    (ht : eval (.Call (.Attribute o m apos) [] [] pos) X.env = (do
      let ov ← eval o X.env
      standAt apos.atName
      let (f, first) ← holding [ov] (getMethod ov m pl)
      callWith pos f first (backTo pos (starEach [] X.env)) (backToKw pos (keywordEach [] X.env))) := by rfl) :
    EJ X (.Call (.Attribute o m apos) [] [] pos) (tMethU X.fk C m np fm ta tNil) (mApp (fMeth C m fm) [A]) := ⟨pe_methU0 he.p c hm F hr ht, den_pre fMeth_has (den_meth F.ln) he.d da_nil⟩
end
/-! ### len(o), str(o) -/
section
variable {K : Fk}
def rLenO (K : Fk) (C : Addr) (fm : List D → Option (D × List D)) : List V → Hp → VK → Prop := fun vs H Q => ∃ a dx fs, vs = [.ref a] ∧ H a = some (.ins C dx fs) ∧ spD K 1 fm [.ref a] H (fun v H' => (∃ n : Int, v = .int n ∧ 0 ≤ n ∧ n < 2 ^ 63) ∧ Q v H') E0
def fLenO (C : Addr) (fm : List D → Option (D × List D)) : List D → Option (D × List D)
  | [.nd b (.ins C1 ns) xs] => if C1 = C then (match fm [.nd b (.ins C1 ns) xs] with
    | some (.int n, os) => if 0 ≤ n ∧ n < 2 ^ 63 then some (.int n, os) else none
    | _ => none) else none
  | _ => none
theorem den_lenO {C : Addr} {fm : List D → Option (D × List D)} (hn : ∀ ds z, fm ds = some z → ds.length = 1) : DenR K (rLenO K C fm) (fLenO C fm) := by
  intro vs ds H L d os Q hl r e k
  unfold fLenO at e
  split at e
  · rename_i b C1 ns xs
    split at e
    · rename_i hC
      subst hC
      split at e
      · rename_i n os' hq
        split at e
        · rename_i hb
          cases e
          obtain ⟨x, rfl⟩ := len1 hl
          obtain ⟨a, o, us, rfl, h1, _, f, _⟩ := R.look r
          obtain ⟨dx, fs, rfl, _, _⟩ := fits_ins f
          refine ⟨a, dx, fs, rfl, h1, rfl, L, _, _, _, rfl, r, hq, fun v H' r4 => ?_⟩
          have rv : v = .int n := R.vint (L := ([V.ref a].zip os ++ L)) r4
          exact ⟨⟨n, rv, hb.1, hb.2⟩, k _ H' r4⟩
        · cases e
      · cases e
    · cases e
  · cases e
theorem call_lenO {X : Cx} {C f : Addr} {k : Nat} {fm : List D → Option (D × List D)} (F : Fx X.prog X.w X.K X.mg X.base f 1 k fm) (hs : PySem.W.findIn X.K (.ref C) "__len__" = some (some (.ref f))) (hf : PySem.W.isFn X.K (.ref f) = true) (hr : Room (k + 1) X.A) : CallR X (.builtin "len") (rLenO X.fk C fm) := by
  intro pins s σ H vs us Q I rv h
  obtain ⟨a, dx, fs, rfl, ha, hsp⟩ := h
  obtain ⟨u, rfl, ru⟩ := vals1 rv
  cases (show u = Value.ref a from ru)
  obtain ⟨fd, ps, F1, hb⟩ := F.ex
  obtain ⟨mA, J, _⟩ := ins_get I.hok ha
  obtain ⟨od, J, _⟩ := J.look
  obtain ⟨m, hF⟩ := I.fr
  refine PySem.W.len_K hF I.ok.mod.kin J hs hf ?_
  have hl := F1.len _ _ _ _ hsp
  have bt := hb s [.ref a] I.kIn (by simpa using hl)
  rw [List.append_nil] at bt
  refine wpAny_call (codeAny_mono (F1.run X.A.in1 X.stack s H ⟨[.ref a], []⟩ [.ref a] [.ref a] _ E0 hr.in1 I.env0.in1 bt rv hsp) fun r s' hq => ?_)
  cases r with
  | error e => exact passL pins σ H s e s' I hq
  | ok fl =>
    cases fl with
    | ret w =>
      obtain ⟨z, H', I', rz, ⟨n, rfl, h0, h1⟩, q2⟩ := I.after hq
      obtain ⟨t, rfl⟩ := rz
      exact ⟨⟨h0, h1⟩, .int n, H', I'.tok _, ⟨_, rfl⟩, q2⟩
    | next => exact False.elim hq
    | brk => exact False.elim hq
    | cont => exact False.elim hq
def rStrO (K : Fk) (C : Addr) (fm : List D → Option (D × List D)) : List V → Hp → VK → Prop := fun vs H Q => ∃ a dx fs, vs = [.ref a] ∧ H a = some (.ins C dx fs) ∧ spD K 1 fm [.ref a] H (fun v H' => (∃ x : Str, v = .str x) ∧ Q v H') E0
def fStrO (C : Addr) (fm : List D → Option (D × List D)) : List D → Option (D × List D)
  | [.nd b (.ins C1 ns) xs] => if C1 = C then (match fm [.nd b (.ins C1 ns) xs] with
    | some (.str x, os) => some (.str x, os)
    | _ => none) else none
  | _ => none
theorem den_strO {C : Addr} {fm : List D → Option (D × List D)} (hn : ∀ ds z, fm ds = some z → ds.length = 1) : DenR K (rStrO K C fm) (fStrO C fm) := by
  intro vs ds H L d os Q hl r e k
  unfold fStrO at e
  split at e
  · rename_i b C1 ns xs
    split at e
    · rename_i hC
      subst hC
      split at e
      · rename_i n os' hq
        cases e
        obtain ⟨x, rfl⟩ := len1 hl
        obtain ⟨a, o, us, rfl, h1, _, f, _⟩ := R.look r
        obtain ⟨dx, fs, rfl, _, _⟩ := fits_ins f
        refine ⟨a, dx, fs, rfl, h1, rfl, L, _, _, _, rfl, r, hq, fun v H' r4 => ?_⟩
        have rv : v = .str n := R.vstr (L := ([V.ref a].zip os ++ L)) r4
        exact ⟨⟨n, rv⟩, k _ H' r4⟩
      · cases e
    · cases e
  · cases e
theorem call_strO {X : Cx} {C f : Addr} {k : Nat} {fm : List D → Option (D × List D)} (F : Fx X.prog X.w X.K X.mg X.base f 1 k fm) (hs : PySem.W.findIn X.K (.ref C) "__str__" = some (some (.ref f))) (hf : PySem.W.isFn X.K (.ref f) = true) (hr : Room (k + 2) X.A) : CallR X (.type "str") (rStrO X.fk C fm) := by
  intro pins s σ H vs us Q I rv h
  obtain ⟨a, dx, fs, rfl, ha, hsp⟩ := h
  obtain ⟨u, rfl, ru⟩ := vals1 rv
  cases (show u = Value.ref a from ru)
  obtain ⟨fd, ps, F1, hb⟩ := F.ex
  obtain ⟨mA, J, _⟩ := ins_get I.hok ha
  obtain ⟨od, J, _⟩ := J.look
  have hl := F1.len _ _ _ _ hsp
  have bt := hb s [.ref a] I.kIn (by simpa using hl)
  rw [List.append_nil] at bt
  refine PySem.W.kso_call hr.in1.in1.units0 I.kIn J hs hf ?_
  refine wpAny_call (codeAny_mono (F1.run X.A.in1.in1 X.stack s H ⟨[.ref a], []⟩ [.ref a] [.ref a] _ E0 hr.in1.in1 I.env0.in1.in1 bt rv hsp) fun r s' hq => ?_)
  cases r with
  | error e => exact passL pins σ H s e s' I hq
  | ok fl =>
    cases fl with
    | ret w =>
      obtain ⟨z, H', I', rz, ⟨n, rfl⟩, q2⟩ := I.after hq
      obtain ⟨t, rfl⟩ := rz
      exact ⟨.str n, H', I', ⟨t, rfl⟩, q2⟩
    | next => exact False.elim hq
    | brk => exact False.elim hq
    | cont => exact False.elim hq
end
/-- str of an int, of a text -/
def rStrP : List V → Hp → VK → Prop := fun vs H Q => (∃ i, vs = [.int i] ∧ i.natAbs.log2 < 1920 ∧ Q (.str (toString i)) H) ∨ ∃ a, vs = [.str a] ∧ Q (.str a) H
def fStrP : List D → Option (D × List D)
  | [.int i] => if i.natAbs.log2 < 1920 then some (.str (toString i : PySem.Str), [.int i]) else none
  | [.str a] => some (.str a, [.str a])
  | _ => none
theorem call_strP {X : Cx} : CallR X (.type "str") rStrP := call_str_int.or SkE.call_str_str
theorem den_strP {K : Fk} : DenR K rStrP fStrP := by
  intro vs ds H L d os Q hl r e k
  unfold fStrP at e
  split at e
  · rename_i i
    split at e
    · rename_i hz
      cases e
      obtain ⟨x, rfl⟩ := len1 hl
      obtain rfl := R.vint r
      exact .inl ⟨i, rfl, hz, k _ H (R.atom r (.str _))⟩
    · cases e
  · rename_i a
    cases e
    obtain ⟨x, rfl⟩ := len1 hl
    obtain rfl := R.vstr r
    exact .inr ⟨a, rfl, k _ H (R.atom r (.str _))⟩
  · cases e
end VH

/-! Classmethods, a class in hand. -/
namespace VH
open PySem PySem.Spec PyProof.Rows L2
/-! ### C.m(..), m a classmethod -/
def fCM (C : Addr) (fm : List D → Option (D × List D)) : List D → Option (D × List D) := fun ds => match ds with
  | .ref C1 :: _ => if C1 = C then fm ds else none
  | _ => none
theorem fCM_eq {C : Addr} {fm : List D → Option (D × List D)} {ds : List D} {z : D × List D} (h : fCM C fm ds = some z) : ∃ r, ds = .ref C :: r ∧ fm ds = some z := by
  unfold fCM at h
  split at h
  · rename_i C1 r
    split at h
    · rename_i hc; subst hc; exact ⟨r, rfl, h⟩
    · cases h
  · cases h
theorem fCM_has {K : Fk} {C : Addr} {fm : List D → Option (D × List D)} : ∀ x d ds z H L, R K H ((x, d) :: L) → fCM C fm (d :: ds) = some z → x = .ref C := by
  intro x d ds z H L r h
  obtain ⟨rr, e, _⟩ := fCM_eq h
  cases e
  exact r.vref
theorem den_cm {K : Fk} {C : Addr} {np : Nat} {fm : List D → Option (D × List D)} (hl : ∀ ds z, fm ds = some z → ds.length = np) : DenR K (fun vs H Q => spD K np fm vs H Q E0) (fCM C fm) := by
  intro vs ds H L d os Q hlen r e k
  obtain ⟨_, _, h⟩ := fCM_eq e
  exact denR_sp hl vs ds H L d os Q hlen r h k
/-- a method's def, bound with keywords in the parameters' order behind n values -/
structure FxK (P : Program) (w : World) (K : PySem.W.Frag) (mg : Str → Option Value) (base : Heap) (f : Addr) (ps : List Str) (n k : Nat) (fm : List D → Option (D × List D)) : Prop where
  ex : ∃ fd : FuncData, FnOk P w K mg base (L2.CX P w) k f fd ps (spD ⟨K, P, w⟩ ps.length fm) ∧ ∀ (s : Shared) (us ws : List Value), us.length = n → ws.length = (ps.drop n).length → BindsTo s fd ⟨us, (ps.drop n).zip ws⟩ (ps.zip (us ++ ws))
  ln : ∀ ds z, fm ds = some z → ds.length = ps.length
theorem FxK.mono {P : Program} {w : World} {K : PySem.W.Frag} {mg : Str → Option Value} {base : Heap} {f : Addr} {ps : List Str} {n j k : Nat} {fm : List D → Option (D × List D)} (F : FxK P w K mg base f ps n j fm) (h : j ≤ k) : FxK P w K mg base f ps n k fm := by
  obtain ⟨fd, a, b⟩ := F.ex
  exact ⟨⟨fd, a.mono h, b⟩, F.ln⟩
theorem fxK_of {P : Program} {w : World} {K : PySem.W.Frag} {mg : Str → Option Value} {base : Heap} {x qual : Str} {params : Arguments} {body : List Stmt} {scope : Scope} {f : Addr} {fd : FuncData} {N ps : List Str} {n k : Nat} {io : List Nat} {m : SM}
    (F : FunD K x qual params body scope [] [] f fd) (S : FnScope N ps scope) (hb : ∀ (s : Shared) (us ws : List Value), us.length = n → ws.length = (ps.drop n).length → BindsTo s fd ⟨us, (ps.drop n).zip ws⟩ (ps.zip (us ++ ws))) (hio : io.all (· < ps.length) = true) (hnd : io.Nodup)
    (h : ∀ (cdv : Value) (A : Around) (outer : List PySem.Env) (s : Shared) (H : Hp) (E : XK), Room k (A.deeper (PyProof.Rows.envOfC qual scope s.heap.objs.size f cdv)) → ∃ t, BJ (cxOf (L2.CX P w) P w K mg base N qual scope f cdv A outer s H E).nox io body t m) :
    FxK P w K mg base f ps n (k + 1) (fnD ps.length N.length io m) := ⟨⟨fd, df_mk F S rfl hio hnd h, hb⟩, fun ds z h => fnD_len ds z h⟩
section
variable {X : Cx} {k np : Nat} {C f p : Addr} {fm : List D → Option (D × List D)} {m : Str} {o e : Expr} {es : List Expr} {ta : TE} {t tk : TA} {pos apos : Pos} {A : Arg} {As Bs : List Arg} {mc : Value}
def tCMU (K : Fk) (C : Addr) (np : Nat) (fm : List D → Option (D × List D)) (ta : TE) (t : TA) : TE := fun σ H Q => ta σ H fun x H1 => x = .ref C ∧ t σ H1 fun vs H2 => spD K np fm (x :: vs) H2 Q E0
theorem fx_raw (F : Fx X.prog X.w X.K X.mg X.base f np k fm) : FnR X.prog X.w X.K X.mg X.base (L2.CX X.prog X.w) k f (spD X.fk np fm) := by
  obtain ⟨fd, ps, F1, hb⟩ := F.ex
  exact (F1.raw hb .nil).imp fun vs H Q E h => by rw [List.append_nil]; exact h
theorem pe_cmU {pl : Sem Bool} (he : PE X o ta) (r : ClX.CRead X.K C mc) (c : ClX.CMet X.K C mc m p f) (F : Fx X.prog X.w X.K X.mg X.base f np k fm) (hr : Room k X.A) (ha : PA X (e :: es) t)
    (hst : starEach (e :: es) X.env = (false, eval e X.env) :: starEach es X.env := by rfl) (hpl : (backTo pos (starEach es X.env)).any (·.1) = false := by rfl)
    (ht : eval (.Call (.Attribute o m apos) (e :: es) [] pos) X.env = (do
      let ov ← eval o X.env
      standAt apos.atName
      let (f, first) ← holding [ov] (getMethod ov m pl)
      callWith pos f first (backTo pos (starEach (e :: es) X.env)) (backToKw pos (keywordEach [] X.env))) := by rfl) :
    PE X (.Call (.Attribute o m apos) (e :: es) [] pos) (tCMU X.fk C np fm ta t) := by
  refine ⟨fun pins s σ H Q I h => ?_⟩
  refine PySem.W.methodCall_KW (pl := pl) (thn (he.run pins s σ H _ I h) fun u s1 ⟨x, H1, I1, rx, ex, q⟩ => ?_) ht
  subst ex
  obtain rfl : u = Value.ref C := rx
  refine ClX.getmethcm_ok I1 r c fun s2 I2 => ?_
  refine ClX.callwith_cm I2 (ClX.base_none I1 (Nat.le_refl _)) c.fi (thn (ha.run pos _ s2 σ H1 _ I2 q) fun us s3 ⟨vs, H2, I3, rv, q2⟩ => ⟨⟨ClX.pin_at I3, I3.kIn⟩, ?_⟩) hst hpl
  exact ClX.run_cm (fx_raw F) hr passL I3 rv q2
theorem j_cm {pl : Sem Bool} (he : AJ X o ta A) (r : ClX.CRead X.K C mc) (c : ClX.CMet X.K C mc m p f) (F : Fx X.prog X.w X.K X.mg X.base f np k fm) (hr : Room k X.A) (ha : LJ X (e :: es) t As)
    (hst : starEach (e :: es) X.env = (false, eval e X.env) :: starEach es X.env := by rfl) (hpl : (backTo pos (starEach es X.env)).any (·.1) = false := by rfl)
    (ht : eval (.Call (.Attribute o m apos) (e :: es) [] pos) X.env = (do
      let ov ← eval o X.env
      standAt apos.atName
      let (f, first) ← holding [ov] (getMethod ov m pl)
      callWith pos f first (backTo pos (starEach (e :: es) X.env)) (backToKw pos (keywordEach [] X.env))) := by rfl) :
    EJ X (.Call (.Attribute o m apos) (e :: es) [] pos) (tCMU X.fk C np fm ta t) (mApp (fCM C fm) (A :: As)) := ⟨pe_cmU he.p r c F hr ha.p hst hpl ht, den_pre fCM_has (den_cm F.ln) he.d ha.d⟩
/-! with keywords alone -/
def tCMK (K : Fk) (C : Addr) (np : Nat) (fm : List D → Option (D × List D)) (ta : TE) (tk : TA) : TE := fun σ H Q => ta σ H fun x H1 => x = .ref C ∧ tk σ H1 fun zs H2 => spD K np fm (x :: zs) H2 Q E0
theorem spD_len {K : Fk} {np : Nat} {vs : List V} {H : Hp} {Q : VK} {E : XK} (h : spD K np fm vs H Q E) : vs.length = np := h.1
theorem pe_cmK {pl : Sem Bool} {ps : List Str} {kws : List Keyword} (he : PE X o ta) (r : ClX.CRead X.K C mc) (c : ClX.CMet X.K C mc m p f) (F : FxK X.prog X.w X.K X.mg X.base f ps 1 k fm) (hr : Room k X.A) (hkw : PK X kws tk)
    (hall : (backToKw pos (keywordEach kws X.env)).all (·.1.isSome) = true := by rfl) (hks : (backToKw pos (keywordEach kws X.env)).filterMap (·.1) = ps.drop 1 := by rfl)
    (hpl : ((backTo pos (starEach [] X.env)).any (·.1) || (backToKw pos (keywordEach kws X.env)).any (·.1.isNone)) = false := by rfl)
    (ht : eval (.Call (.Attribute o m apos) [] kws pos) X.env = (do
      let ov ← eval o X.env
      standAt apos.atName
      let (f, first) ← holding [ov] (getMethod ov m pl)
      callWith pos f first (backTo pos (starEach [] X.env)) (backToKw pos (keywordEach kws X.env))) := by rfl) :
    PE X (.Call (.Attribute o m apos) [] kws pos) (tCMK X.fk C ps.length fm ta tk) := by
  refine ⟨fun pins s σ H Q I h => ?_⟩
  refine PySem.W.methodCall_KW (pl := pl) (thn (he.run pins s σ H _ I h) fun u s1 ⟨x, H1, I1, rx, ex, q⟩ => ?_) ht
  subst ex
  obtain rfl : u = Value.ref C := rx
  refine ClX.getmethcm_ok I1 r c fun s2 I2 => ?_
  refine PySem.W.callWith_of (P := PySem.W.MethP X.K s1.heap.objs.size f (.ref C)) hpl (PySem.W.keeps_M c.fi) (PyProof.Rows.evalArgs_kw2_nil hall (thn (hkw.run pos _ s2 σ H1 _ I2 q) fun ws s3 ⟨zs, H2, I3, rz, q2⟩ => ⟨⟨ClX.pin_at I3, I3.kIn⟩, ?_⟩))
  obtain ⟨fd, F1, hb⟩ := F.ex
  rw [hks]
  have hl : (V.ref C :: zs).length = ps.length := spD_len q2
  have hl2 : ws.length = (ps.drop 1).length := by
    rw [List.length_drop, ← rz.length, ← hl]; rfl
  have z : wpAny (model X.prog X.w) X.A (call (.ref s1.heap.objs.size) ([] ++ []) ((ps.drop 1).zip ws)) (EP X ((s1.heap.objs.size, PySem.W.methodObj (.ref f) (.ref C)) :: pins) σ Q) X.xe s3 := by
    refine wpAny_call (PySem.W.method_call (ClX.pin_at I3) ?_)
    refine codeAny_mono (F1.run X.A X.stack s3 H2 ⟨[.ref C], (ps.drop 1).zip ws⟩ ([.ref C] ++ ws) ([.ref C] ++ zs) Q E0 hr I3.env0 (hb s3 [.ref C] ws rfl hl2) (show Vals (V.ref C :: zs) (Value.ref C :: ws) from .cons rfl rz) q2) fun r s' hq => ?_
    cases r with
    | error e => exact passL _ σ H2 s3 e s' I3 hq
    | ok fl =>
      cases fl with
      | ret u => exact I3.after hq
      | next => exact False.elim hq
      | brk => exact False.elim hq
      | cont => exact False.elim hq
  exact thn z fun _ _ y => ClX.unpinE y
theorem j_cmK {pl : Sem Bool} {ps : List Str} {kws : List Keyword} (he : AJ X o ta A) (r : ClX.CRead X.K C mc) (c : ClX.CMet X.K C mc m p f) (F : FxK X.prog X.w X.K X.mg X.base f ps 1 k fm) (hr : Room k X.A) (hkw : KJ X kws tk Bs)
    (hall : (backToKw pos (keywordEach kws X.env)).all (·.1.isSome) = true := by rfl) (hks : (backToKw pos (keywordEach kws X.env)).filterMap (·.1) = ps.drop 1 := by rfl)
    (hpl : ((backTo pos (starEach [] X.env)).any (·.1) || (backToKw pos (keywordEach kws X.env)).any (·.1.isNone)) = false := by rfl)
    (ht : eval (.Call (.Attribute o m apos) [] kws pos) X.env = (do
      let ov ← eval o X.env
      standAt apos.atName
      let (f, first) ← holding [ov] (getMethod ov m pl)
      callWith pos f first (backTo pos (starEach [] X.env)) (backToKw pos (keywordEach kws X.env))) := by rfl) :
    EJ X (.Call (.Attribute o m apos) [] kws pos) (tCMK X.fk C ps.length fm ta tk) (mApp (fCM C fm) (A :: Bs)) := ⟨pe_cmK he.p r c F hr hkw.p hall hks hpl ht, den_pre fCM_has (den_cm F.ln) he.d hkw.d⟩
/-! ### x(..), x a local name that holds the class at C -/
def mMakeL (i : Nat) (C : Addr) (fm : List D → Option (D × List D)) (as : List Arg) : EM D := fun env => match env[i]? with
  | some (some (.ref C1)) => if C1 = C then mApp (fMake C fm) as env else none
  | _ => none
def tMakeL (K : Fk) (i : Nat) (C : Addr) (np : Nat) (fm : List D → Option (D × List D)) (t : TA) : TE := fun σ H Q => σ[i]? = some (some (.ref C)) ∧ tMake C (spD K np fm) [] E0 t σ H Q
theorem pe_makeL {i : Nat} {x : Str} {p : Pos} (M : Mk X.K C f) (F : Fx X.prog X.w X.K X.mg X.base f np k fm) (hr : Room (k + 1) X.A) (ha : PA X (e :: es) t) (hN : X.N[i]? = some x := by rfl) (hv : Vis X.env.scope x := by first | exact Or.inl rfl | exact Or.inr (Or.inl rfl) | exact Or.inr (Or.inr rfl))
    (hdb : (x == ("__debug__" : Str)) = false := by decide) (hcd : (x == ("__classdict__" : Str)) = false := by decide)
    (he : starEach (e :: es) X.env = (false, eval e X.env) :: starEach es X.env := by rfl) (hpl : (backTo pos (starEach es X.env)).any (·.1) = false := by rfl) : PE X (.Call (.Name x p) (e :: es) [] pos) (tMakeL X.fk i C np fm t) := by
  obtain ⟨fd, ps, F1, hb⟩ := F.ex
  refine ⟨fun pins s σ H Q I h => ?_⟩
  obtain ⟨hs, h⟩ := h
  refine wpAny_Call_Name_kw (thn ((pe_var (pos := p) hN hv hdb hcd).run pins s σ H (fun v H1 => v = .ref C ∧ H1 = H) I ⟨.ref C, hs, rfl, rfl⟩) fun u s1 ⟨v, H1, I1, r1, q1⟩ => ?_)
  obtain ⟨rfl, rfl⟩ := q1
  cases r1
  refine PySem.W.callWith_K (h₀ := X.base) I.ok.mod.kin M.kp (thn (ha.run pos pins s1 σ _ _ I1 h) fun us s2 ⟨vs, H2, I2, r, q⟩ => ⟨I2.kIn, ?_⟩) he hpl
  exact run_make M F1 hr hb .nil passL I2 r q
theorem j_makeL (i : Nat) {x : Str} {p : Pos} (M : Mk X.K C f) (F : Fx X.prog X.w X.K X.mg X.base f np k fm) (hr : Room (k + 1) X.A) (ha : LJ X (e :: es) t As) (hN : X.N[i]? = some x := by rfl) (hv : Vis X.env.scope x := by first | exact Or.inl rfl | exact Or.inr (Or.inl rfl) | exact Or.inr (Or.inr rfl))
    (hdb : (x == ("__debug__" : Str)) = false := by decide) (hcd : (x == ("__classdict__" : Str)) = false := by decide)
    (he : starEach (e :: es) X.env = (false, eval e X.env) :: starEach es X.env := by rfl) (hpl : (backTo pos (starEach es X.env)).any (·.1) = false := by rfl) : EJ X (.Call (.Name x p) (e :: es) [] pos) (tMakeL X.fk i C np fm t) (mMakeL i C fm As) := by
  refine ⟨pe_makeL M F hr ha.p hN hv hdb hcd he hpl, ?_⟩
  intro σ H env L d env' Q re e k
  unfold mMakeL at e
  split at e
  · rename_i C1 hd
    split at e
    · rename_i hc
      subst hc
      obtain ⟨v, hv, r⟩ := re.take hd
      obtain ⟨M2, r2⟩ := r.val
      obtain rfl := r2.vref
      exact ⟨hv, den_app ha.d (den_make F.ln) σ H env L d env' Q re e k⟩
    · cases e
  · cases e
end
end VH

/-! Methods of dicts, whatever their keys. -/
namespace VH
open PySem PySem.Spec PyProof.Rows L2
def IsDU (K : Fk) (H : Hp) (a : Addr) : Prop := IsD H a ∨ ∃ kvs, H a = some (nko K.w a kvs)
def IsDV (K : Fk) (x : V) (H : Hp) : Prop := ∃ a, x = .ref a ∧ IsDU K H a
theorem isDU_at {X : Cx} {pins : List (Addr × Obj)} {σ : L2.St} {H : Hp} {s : Shared} {a : Addr} (I : Inv X pins σ H s) (d : IsDU X.fk H a) :
    s.TypeIs (.ref a) "dict" ∧ (∀ b, Value.ref a = .ref b → ∃ ob, s.heap.get? b = some ob ∧ ob.dict = none) ∧ (a == sysModules) = false := by
  rcases d with d | ⟨kvs, e⟩
  · exact isD_at I d
  · obtain ⟨z, hd, xs, r, o, es, ep, h1, h2, h3, h4, h5⟩ := nko_of I e
    refine ⟨⟨o, h1, h2.1⟩, fun b q => ?_, hd⟩
    cases q
    exact ⟨o, h1, h2.2.1⟩
def D.isDct : D → Bool
  | .nd _ (.dK _) _ => true
  | .nd _ (.dT _) _ => true
  | .nd _ (.dN _) _ => true
  | _ => false
theorem isDct_ok {K : Fk} {x : V} {d : D} {H : Hp} {L : List (V × D)} (h : d.isDct = true) (r : R K H ((x, d) :: L)) : IsDV K x H := by
  unfold D.isDct at h
  split at h
  · obtain ⟨a, o, us, rfl, h1, _, f, _⟩ := R.look r
    cases f
    exact ⟨a, rfl, .inl (.inl ⟨_, .inl h1⟩)⟩
  · obtain ⟨a, o, us, rfl, h1, _, f, _⟩ := R.look r
    cases f
    exact ⟨a, rfl, .inl (.inr ⟨_, .inl h1⟩)⟩
  · obtain ⟨a, o, us, rfl, h1, _, f, _⟩ := R.look r
    cases f
    exact ⟨a, rfl, .inr ⟨_, h1⟩⟩
  · cases h
/-- a function of a dict and more -/
def onDct (f : List D → Option (D × List D)) : List D → Option (D × List D) := fun ds => match ds with
  | d :: _ => if d.isDct = true then f ds else none
  | [] => none
theorem onDct_eq {f : List D → Option (D × List D)} {ds : List D} {z : D × List D} (h : onDct f ds = some z) : f ds = some z := by
  unfold onDct at h
  split at h
  · split at h
    · exact h
    · cases h
  · cases h
theorem onDct_has {K : Fk} {f : List D → Option (D × List D)} : ∀ x d ds z H L, R K H ((x, d) :: L) → onDct f (d :: ds) = some z → IsDV K x H := by
  intro x d ds z H L r h
  unfold onDct at h
  split at h
  · rename_i d' _ e
    cases e
    split at h
    · rename_i hd; exact isDct_ok hd r
    · cases h
  · cases h
theorem DenR.onDct {K : Fk} {r : List V → Hp → VK → Prop} {f : List D → Option (D × List D)} (h : DenR K r f) : DenR K r (onDct f) := by
  intro vs ds H L d os Q hl rr e k
  exact h vs ds H L d os Q hl rr (onDct_eq e) k
/-! ### d.get(k), d.get(k, x) -/
def rGet1 (G : Hp → Addr → V → Option V → Prop) : List V → Hp → VK → Prop := fun vs H Q => ∃ x y a o, vs = [x, y] ∧ x = .ref a ∧ G H a y o ∧ Q (o.getD .non) H
def rGet2 (G : Hp → Addr → V → Option V → Prop) : List V → Hp → VK → Prop := fun vs H Q => ∃ x y z a o, vs = [x, y, z] ∧ x = .ref a ∧ G H a y o ∧ Q (o.getD z) H
def fGet1 (fi fg : List D → Option (D × List D)) : List D → Option (D × List D)
  | [d, y] => match fi [y, d] with
    | some (.bl true, _) => fg [d, y]
    | some (.bl false, _) => some (.non, [d, y])
    | _ => none
  | _ => none
def fGet2 (fi fg : List D → Option (D × List D)) : List D → Option (D × List D)
  | [d, y, z] => match fi [y, d] with
    | some (.bl true, _) => match fg [d, y] with
      | some (v, [d1, y1]) => some (v, [d1, y1, z])
      | _ => none
    | some (.bl false, _) => some (z, [d, y, .any])
    | _ => none
  | _ => none
section
variable {K : Fk} {G : Hp → Addr → V → Option V → Prop} {fi fg : List D → Option (D × List D)}
theorem gets_in (hi : DenR K (r2L fun y x H Q => ∃ a o, x = .ref a ∧ G H a y o ∧ Q (.bl o.isSome) H) fi) {x y : V} {d e : D} {b : Bool} {os : List D} {H : Hp} {L : List (V × D)} (r : R K H ((x, d) :: (y, e) :: L)) (h : fi [e, d] = some (.bl b, os)) : ∃ a o, x = .ref a ∧ G H a y o ∧ o.isSome = b := by
  have z := hi [y, x] [e, d] H L (.bl b) os (fun v _ => v = .bl b) rfl (R.perm (List.Perm.swap _ _ _) r) h fun v H' r2 => R.vbl r2
  obtain ⟨a, o, e1, g, q⟩ := z
  exact ⟨a, o, e1, g, by cases q; rfl⟩
theorem den_get1 (hi : DenR K (r2L fun y x H Q => ∃ a o, x = .ref a ∧ G H a y o ∧ Q (.bl o.isSome) H) fi) (hg : DenR K (r2L fun x y H Q => ∃ a v, x = .ref a ∧ G H a y (some v) ∧ Q v H) fg) : DenR K (rGet1 G) (fGet1 fi fg) := by
  intro vs ds H L d os Q hl r e k
  unfold fGet1 at e
  split at e
  · rename_i dd y
    obtain ⟨x, z, rfl⟩ := len2 hl
    split at e
    · obtain ⟨a, v, rfl, g, q⟩ := hg [x, z] [dd, y] H L d os Q rfl r e k
      exact ⟨.ref a, z, a, some v, rfl, rfl, g, q⟩
    · rename_i os' hh
      cases e
      obtain ⟨a, o, rfl, g, ho⟩ := gets_in hi r hh
      obtain rfl : o = none := Option.isSome_eq_false_iff.mp ho |> Option.isNone_iff_eq_none.mp
      exact ⟨.ref a, z, a, none, rfl, rfl, g, k _ H (R.atom r .non)⟩
    · cases e
  · cases e
theorem den_get2 (hi : DenR K (r2L fun y x H Q => ∃ a o, x = .ref a ∧ G H a y o ∧ Q (.bl o.isSome) H) fi) (hg : DenR K (r2L fun x y H Q => ∃ a v, x = .ref a ∧ G H a y (some v) ∧ Q v H) fg) : DenR K (rGet2 G) (fGet2 fi fg) := by
  intro vs ds H L d os Q hl r e k
  unfold fGet2 at e
  split at e
  · rename_i dd y z
    obtain ⟨x, u, w, rfl⟩ : ∃ x u w, vs = [x, u, w] := by
      match vs, hl with
      | [x, u, w], _ => exact ⟨x, u, w, rfl⟩
    have r' : R K H ((x, dd) :: (u, y) :: ((w, z) :: L)) := r
    split at e
    · split at e
      · rename_i v d1 y1 hh
        cases e
        obtain ⟨a, v0, rfl, g, q⟩ := hg [x, u] [dd, y] H ((w, z) :: L) d [d1, y1] Q rfl r' hh (fun v H' r2 => k v H' r2)
        exact ⟨.ref a, u, w, a, some v0, rfl, rfl, g, q⟩
      · cases e
    · rename_i os' hh
      cases e
      obtain ⟨a, o, rfl, g, ho⟩ := gets_in hi r' hh
      obtain rfl : o = none := Option.isSome_eq_false_iff.mp ho |> Option.isNone_iff_eq_none.mp
      refine ⟨.ref a, u, w, a, none, rfl, rfl, g, k _ H ?_⟩
      have r3 : R K H ((w, d) :: (V.ref a, dd) :: (u, y) :: L) := R.perm ((List.Perm.cons _ (List.Perm.swap _ _ _)).trans (List.Perm.swap _ _ _)) r'
      have r4 : R K H ((w, .any) :: (w, d) :: (V.ref a, dd) :: (u, y) :: L) := R.atom r3 (.any _)
      refine R.perm ?_ r4
      show ((w, D.any) :: (w, d) :: (V.ref a, dd) :: (u, y) :: L).Perm ((w, d) :: (V.ref a, dd) :: (u, y) :: (w, .any) :: L)
      exact (List.Perm.swap _ _ _).trans (List.Perm.cons _ ((List.Perm.swap _ _ _).trans (List.Perm.cons _ (List.Perm.swap _ _ _))))
    · cases e
  · cases e
end
def rGet1U (K : Fk) : List V → Hp → VK → Prop := fun vs H Q => rGet1 DGet vs H Q ∨ rGet1 (NGet K) vs H Q
def rGet2U (K : Fk) : List V → Hp → VK → Prop := fun vs H Q => rGet2 DGet vs H Q ∨ rGet2 (NGet K) vs H Q
def fGet1U : List D → Option (D × List D) := onDct (orF (fGet1 (fDIn false) fDGet) (fGet1 (fNIn false) fNGet))
def fGet2U : List D → Option (D × List D) := onDct (orF (fGet2 (fDIn false) fDGet) (fGet2 (fNIn false) fNGet))
theorem den_get1U {K : Fk} : DenR K (rGet1U K) fGet1U := ((den_get1 (den_dinR false) den_dgetR).or (den_get1 (den_ninR false) den_ngetR)).onDct
theorem den_get2U {K : Fk} : DenR K (rGet2U K) fGet2U := ((den_get2 (den_dinR false) den_dgetR).or (den_get2 (den_ninR false) den_ngetR)).onDct
/-- a dict's method -/
def tDM (K : Fk) (r : List V → Hp → VK → Prop) (to : TE) (t : TA) : TE := fun σ H Q => to σ H fun x H1 => IsDV K x H1 ∧ t σ H1 fun vs H2 => r (x :: vs) H2 Q
def MtD (X : Cx) (id : String) (r : List V → Hp → VK → Prop) : Prop := CallR X (.builtin id) r
theorem pe_dm {X : Cx} {id : String} {name : Str} {r : List V → Hp → VK → Prop} {o e : Expr} {es : List Expr} {to : TE} {t : TA} {apos cpos : Pos} (slot : Slot "dict" name id) (hty : typeOf (.builtin id) = pure (.type "method_descriptor")) (hm : CallR X (.builtin id) r) (ho : PE X o to) (ha : PA X (e :: es) t)
    (hbase : attributeBase o name X.env (eval o X.env) = eval o X.env := by rfl)
    (hfew : ((backTo cpos (starEach (e :: es) X.env)).all (fun x => !x.1) && (backToKw cpos (keywordEach [] X.env)).all (fun x => x.1.isSome)
      && decide ((e :: es).length + ([] : List Keyword).length + (if ([] : List Keyword).isEmpty then 0 else 1) < 30)) = true := by rfl)
    (hline : (apos.endLine == cpos.line) = true := by rfl) (hs : starEach (e :: es) X.env = (false, eval e X.env) :: starEach es X.env := by rfl) (hplain : (backTo cpos (starEach es X.env)).any (·.1) = false := by rfl) :
    PE X (.Call (.Attribute o name apos) (e :: es) [] cpos) (tDM X.fk r to t) := by
  refine ⟨fun pins s σ H Q I h => ?_⟩
  refine wpAny_Call_method_late hbase hfew hline rfl (thn (ho.run pins s σ H _ I h) fun v s1 ⟨x, H1, I1, r1, ⟨a, ex, hd⟩, q1⟩ => ?_)
  subst ex
  obtain rfl : v = Value.ref a := r1
  obtain ⟨h1, h2, _⟩ := isDU_at I1 hd
  refine ⟨"dict", id, PySem.F.plainAttrs_dict, slot, hty, h1, h2, ?_⟩
  have hA := ha.run cpos pins s1 σ H1 _ I1 q1
  rw [hs] at hA ⊢
  refine Calls.callWith_builtin (by show (false || (backTo cpos (starEach es X.env)).any (·.1)) = false; rw [hplain] <;> rfl) (Calls.evalArgs_plain ?_)
  exact thn hA fun us s2 ⟨vs, H2, I2, r2, q2⟩ => hm pins s2 σ H2 (.ref a :: vs) (.ref a :: us) Q I2 (.cons rfl r2) q2
theorem j_dm {X : Cx} {id : String} {name : Str} {r : List V → Hp → VK → Prop} {f : List D → Option (D × List D)} {o e : Expr} {es : List Expr} {to : TE} {t : TA} {A : Arg} {As : List Arg} {apos cpos : Pos} (slot : Slot "dict" name id) (hty : typeOf (.builtin id) = pure (.type "method_descriptor")) (hm : CallR X (.builtin id) r) (hr : DenR X.fk r (onDct f)) (ho : AJ X o to A) (ha : LJ X (e :: es) t As)
    (hbase : attributeBase o name X.env (eval o X.env) = eval o X.env := by rfl)
    (hfew : ((backTo cpos (starEach (e :: es) X.env)).all (fun x => !x.1) && (backToKw cpos (keywordEach [] X.env)).all (fun x => x.1.isSome)
      && decide ((e :: es).length + ([] : List Keyword).length + (if ([] : List Keyword).isEmpty then 0 else 1) < 30)) = true := by rfl)
    (hline : (apos.endLine == cpos.line) = true := by rfl) (hs : starEach (e :: es) X.env = (false, eval e X.env) :: starEach es X.env := by rfl) (hplain : (backTo cpos (starEach es X.env)).any (·.1) = false := by rfl) :
    EJ X (.Call (.Attribute o name apos) (e :: es) [] cpos) (tDM X.fk r to t) (mApp (onDct f) (A :: As)) := ⟨pe_dm slot hty hm ho.p ha.p hbase hfew hline hs hplain, den_pre onDct_has hr ho.d ha.d⟩
theorem call_get1U {X : Cx} (hu : X.A.units + 64 < cLine) : CallR X (.builtin "dict.get") (rGet1U X.fk) := by
  intro pins s σ H vs us Q I rv h
  rcases h with ⟨x, y, a, o, rfl, rfl, g, q⟩ | ⟨x, y, a, o, rfl, rfl, g, q⟩
  all_goals
    obtain ⟨u1, u2, rfl, r1, r2⟩ := vals2 rv
    obtain rfl : u1 = Value.ref a := r1
  · exact d_get1 (by omega) I g r2 fun w' s' I' rw' => ⟨_, H, I', rw', q⟩
  · exact n_get1 hu I g r2 fun w' s' I' rw' => ⟨_, H, I', rw', q⟩
theorem call_get2U {X : Cx} (hu : X.A.units + 64 < cLine) : CallR X (.builtin "dict.get") (rGet2U X.fk) := by
  intro pins s σ H vs us Q I rv h
  rcases h with ⟨x, y, z, a, o, rfl, rfl, g, q⟩ | ⟨x, y, z, a, o, rfl, rfl, g, q⟩
  all_goals
    cases rv with
    | cons r1 rv =>
      cases rv with
      | cons r2 rv =>
        cases rv with
        | cons r3 rv =>
          cases rv
          cases (show _ = Value.ref a from r1)
          first
            | exact d_get2 (by omega) I g r2 r3 fun w' s' I' rw' => ⟨_, H, I', rw', q⟩
            | exact n_get2 hu I g r2 r3 fun w' s' I' rw' => ⟨_, H, I', rw', q⟩
theorem j_get1 {X : Cx} {o e : Expr} {to : TE} {t : TA} {A : Arg} {As : List Arg} {apos cpos : Pos} (hu : X.A.units + 64 < cLine) (ho : AJ X o to A) (ha : LJ X [e] t As)
    (hbase : attributeBase o "get" X.env (eval o X.env) = eval o X.env := by rfl)
    (hfew : ((backTo cpos (starEach [e] X.env)).all (fun x => !x.1) && (backToKw cpos (keywordEach [] X.env)).all (fun x => x.1.isSome)
      && decide (([e] : List Expr).length + ([] : List Keyword).length + (if ([] : List Keyword).isEmpty then 0 else 1) < 30)) = true := by rfl)
    (hline : (apos.endLine == cpos.line) = true := by rfl) (hs : starEach [e] X.env = (false, eval e X.env) :: starEach [] X.env := by rfl) (hplain : (backTo cpos (starEach [] X.env)).any (·.1) = false := by rfl) :
    EJ X (.Call (.Attribute o "get" apos) [e] [] cpos) (tDM X.fk (rGet1U X.fk) to t) (mApp fGet1U (A :: As)) := j_dm PySem.F.slot_dict_get PySem.F.type_dict_get (call_get1U hu) den_get1U ho ha hbase hfew hline hs hplain
theorem j_get2 {X : Cx} {o e e2 : Expr} {to : TE} {t : TA} {A : Arg} {As : List Arg} {apos cpos : Pos} (hu : X.A.units + 64 < cLine) (ho : AJ X o to A) (ha : LJ X [e, e2] t As)
    (hbase : attributeBase o "get" X.env (eval o X.env) = eval o X.env := by rfl)
    (hfew : ((backTo cpos (starEach [e, e2] X.env)).all (fun x => !x.1) && (backToKw cpos (keywordEach [] X.env)).all (fun x => x.1.isSome)
      && decide (([e, e2] : List Expr).length + ([] : List Keyword).length + (if ([] : List Keyword).isEmpty then 0 else 1) < 30)) = true := by rfl)
    (hline : (apos.endLine == cpos.line) = true := by rfl) (hs : starEach [e, e2] X.env = (false, eval e X.env) :: starEach [e2] X.env := by rfl) (hplain : (backTo cpos (starEach [e2] X.env)).any (·.1) = false := by rfl) :
    EJ X (.Call (.Attribute o "get" apos) [e, e2] [] cpos) (tDM X.fk (rGet2U X.fk) to t) (mApp fGet2U (A :: As)) := j_dm PySem.F.slot_dict_get PySem.F.type_dict_get (call_get2U hu) den_get2U ho ha hbase hfew hline hs hplain
end VH

/-! Texts: f-strings, split, index. -/
namespace VH
open PySem PySem.Spec PyProof.Rows L2
/-! ### f'..' -/
def mFmt (m : EM D) : EM D := fun env => match m env with
  | some (.str y, e) => if y.length ≤ sizeLine then some (.str y, e) else none
  | some (.int i, e) => if i.natAbs.log2 < 1920 then some (.str (toString i : PySem.Str), e) else none
  | _ => none
theorem den_fmt {K : Fk} {t : TE} {m : EM D} (h : DenE K t m) : DenE K (tFmt t) (mFmt m) := by
  intro σ H env L d env' Q re e k
  unfold mFmt at e
  split at e
  · rename_i y e1 q
    split at e
    · rename_i hz
      cases e
      refine h σ H env L _ _ _ re q fun v H' r => ?_
      obtain ⟨M, rv⟩ := r.val
      obtain rfl := rv.vstr
      exact .inl ⟨y, rfl, hz, k _ H' r⟩
    · cases e
  · rename_i i e1 q
    split at e
    · rename_i hz
      cases e
      refine h σ H env L _ _ _ re q fun v H' r => ?_
      obtain ⟨M, rv⟩ := r.val
      obtain rfl := rv.vint
      exact .inr ⟨i, rfl, hz, k _ H' (r.tail.atom (.str _))⟩
    · cases e
  · cases e
theorem j_fmt {X : Cx} {e : Expr} {t : TE} {m : EM D} {pos : Pos} (h : EJ X e t m) : EJ X (.FormattedValue e (-1) none pos) (tFmt t) (mFmt m) := ⟨pe_fmt h.p, den_fmt h.d⟩
def mJs : List (EM D) → Str → Env → Option (Str × Env)
  | [], acc, env => some (acc, env)
  | m :: ms, acc, env => match m env with
    | some (.str y, e) => if (acc ++ y).length ≤ sizeLine then mJs ms (acc ++ y) e else none
    | _ => none
def mJoined (ms : List (EM D)) : EM D := fun env => match mJs ms Str.empty env with
  | some (x, e) => some (.str x, e)
  | none => none
inductive DJs (K : Fk) : List TE → List (EM D) → Prop where
  | nil : DJs K [] []
  | cons {t : TE} {m : EM D} {ts : List TE} {ms : List (EM D)} : DenE K t m → DJs K ts ms → DJs K (t :: ts) (m :: ms)
theorem djs_run {K : Fk} {ts : List TE} {ms : List (EM D)} (h : DJs K ts ms) : ∀ (acc : Str) (σ : L2.St) (H : Hp) (env : Env) (L : List (V × D)) (x : Str) (env' : Env) (Q : Str → Hp → Prop), RE K H σ env L → mJs ms acc env = some (x, env') → (∀ H', RE K H' σ env' L → Q x H') → tJs ts acc σ H Q := by
  induction h with
  | nil =>
    intro acc σ H env L x env' Q re e k
    cases e
    exact k H re
  | cons hd hr ih =>
    intro acc σ H env L x env' Q re e k
    unfold mJs at e
    split at e
    · rename_i y e1 q
      split at e
      · rename_i hz
        refine hd σ H env L _ _ _ re q fun v H1 r => ?_
        obtain ⟨M, rv⟩ := r.val
        obtain rfl := rv.vstr
        exact ⟨y, rfl, hz, ih (acc ++ y) σ H1 e1 L x env' Q r.tail e k⟩
      · cases e
    · cases e
theorem den_joined {K : Fk} {ts : List TE} {ms : List (EM D)} (h : DJs K ts ms) : DenE K (fun σ H Q => tJs ts Str.empty σ H fun out H1 => Q (.str out) H1) (mJoined ms) := by
  intro σ H env L d env' Q re e k
  unfold mJoined at e
  split at e
  · rename_i x e1 q
    cases e
    exact djs_run h Str.empty σ H env L x _ _ re q fun H' r => k _ H' (r.atom (.str _))
  · cases e
structure JsJ (X : Cx) (es : List Expr) (ts : List TE) (ms : List (EM D)) : Prop where
  p : PJ X es ts
  d : DJs X.fk ts ms
theorem js_nil {X : Cx} : JsJ X [] [] [] := ⟨.nil, .nil⟩
theorem js_cons {X : Cx} {e : Expr} {t : TE} {m : EM D} {es : List Expr} {ts : List TE} {ms : List (EM D)} (h : EJ X e t m) (r : JsJ X es ts ms) : JsJ X (e :: es) (t :: ts) (m :: ms) := ⟨.cons h.p r.p, .cons h.d r.d⟩
theorem j_joined {X : Cx} {v1 v2 : Expr} {rest : List Expr} {ts : List TE} {ms : List (EM D)} {pos : Pos} (h : JsJ X (v1 :: v2 :: rest) ts ms) : EJ X (.JoinedStr (v1 :: v2 :: rest) pos) (fun σ H Q => tJs ts Str.empty σ H fun out H1 => Q (.str out) H1) (mJoined ms) := ⟨pe_joined h.p, den_joined h.d⟩
/-! ### x.split(y), x.index(y) -/
def fSplit : List D → Option (D × List D)
  | [.str a, .str b] => if b.length ≠ 0 ∧ a.length + 2 ≤ sizeLine then some (.nd true .lst ((Txt.split a b).map .str), [.str a, .str b]) else none
  | _ => none
theorem strs_zip {K : Fk} {H : Hp} {L : List (V × D)} : ∀ ys : List Str, R K H L → R K H ((ys.map V.str).zip (ys.map D.str) ++ L)
  | [], r => r
  | y :: ys, r => (strs_zip ys r).atom (.str y)
theorem den_split {K : Fk} : DenR K (rML fun x xs H Q => ∃ a b, x = .str a ∧ xs = [.str b] ∧ (b.length == 0) = false ∧ a.length + 2 ≤ sizeLine ∧ rNewStrs (Txt.split a b) H Q) fSplit := by
  intro vs ds H L d os Q hl r e k
  unfold fSplit at e
  split at e
  · rename_i a b
    split at e
    · rename_i hc
      cases e
      obtain ⟨u, v, rfl⟩ := len2 hl
      obtain rfl := r.vstr
      obtain rfl := r.tail.vstr
      refine ⟨a, b, rfl, rfl, beq_eq_false_iff_ne.mpr hc.1, hc.2, fun p hp => k _ _ ?_⟩
      exact R.makeN (by simp) (strs_zip _ r) hp (.lst _)
    · cases e
  · cases e
theorem ty_split : ∀ d ds z, fSplit (d :: ds) = some z → ∃ a, d = .str a := by
  intro d ds z h
  unfold fSplit at h
  split at h
  · rename_i e; cases e; exact ⟨_, rfl⟩
  · cases h
def fSIndex : List D → Option (D × List D)
  | [.str a, .str b] => match Txt.index0 a b with
    | some k => some (.int (k : Nat), [.str a, .str b])
    | none => none
  | _ => none
def rSIndex : V → List V → Hp → VK → Prop := fun x xs H Q => ∃ (a b : Str) (k : Nat), x = .str a ∧ xs = [.str b] ∧ Txt.index0 a b = some k ∧ Q (.int (k : Nat)) H
theorem mt_sindex {X : Cx} : MtR X "str.index" rSIndex := by
  intro pins s σ H x xs v us Q I rx rs h
  obtain ⟨a, b, k, rfl, rfl, hk, q⟩ := h
  obtain ⟨t, rfl⟩ := rx
  cases rs with
  | cons r1 rs =>
    cases rs
    obtain ⟨u, rfl⟩ := r1
    unfold Txt.index0 at hk
    obtain ⟨rest, e⟩ : ∃ rest, Builtin.Str.occurrences a b 0 a.length 1 = k :: rest := by
      cases h : Builtin.Str.occurrences a b 0 a.length 1 with
      | nil => rw [h] at hk; cases hk
      | cons z rest => rw [h] at hk; cases hk; exact ⟨rest, rfl⟩
    exact PySem.SC.index e ⟨.int (k : Nat), H, I.tok _, ⟨_, rfl⟩, q⟩
theorem den_sindex {K : Fk} : DenR K (rML rSIndex) fSIndex := by
  intro vs ds H L d os Q hl r e k
  unfold fSIndex at e
  split at e
  · rename_i a b
    split at e
    · rename_i j hj
      cases e
      obtain ⟨u, v, rfl⟩ := len2 hl
      obtain rfl := r.vstr
      obtain rfl := r.tail.vstr
      exact ⟨a, b, j, rfl, rfl, hj, k _ H (r.atom (.int _))⟩
    · cases e
  · cases e
theorem ty_sindex : ∀ d ds z, fSIndex (d :: ds) = some z → ∃ a, d = .str a := by
  intro d ds z h
  unfold fSIndex at h
  split at h
  · rename_i e; cases e; exact ⟨_, rfl⟩
  · cases h
end VH

/-! A part of a thing at a computed place; comprehensions that hand on what they make. -/
namespace VH
open PySem PySem.Spec PyProof.Rows L2
section
variable {K : Fk} {H : Hp} {L : List (V × D)}
/-- the place of a part -/
def posAt (m : Bool) (h : Hd) (xs : List D) (y : D) : Option Nat := match h with
  | .lst => match y with
    | .int i => ixN xs.length i
    | _ => none
  | .dN _ => match nix (.nd m h xs) y with
    | some (some j) => some (xs.length / 2 + j)
    | _ => none
  | _ => match dix (.nd m h xs) y with
    | some (some j) => some j
    | _ => none
def selAt (y : D) : Sel := fun d => match d with
  | .nd m h xs => match posAt m h xs y with
    | some j => match xs[j]? with
      | some c => some (c, ⟨m, h, xs.take j, xs.drop (j + 1)⟩)
      | none => none
    | none => none
  | _ => none
theorem selAt_eq {y d c : D} {p : Part} (h : selAt y d = some (c, p)) : ∃ m hd xs j, d = .nd m hd xs ∧ posAt m hd xs y = some j ∧ xs[j]? = some c ∧ p = ⟨m, hd, xs.take j, xs.drop (j + 1)⟩ := by
  unfold selAt at h
  split at h
  · rename_i m hd xs
    split at h
    · rename_i j hj
      split at h
      · rename_i c' hc
        cases h
        exact ⟨m, hd, xs, j, rfl, hj, hc, rfl⟩
      · cases h
    · cases h
  · cases h
theorem posAt_hole {m : Bool} {h : Hd} {xs : List D} {y : D} {j : Nat} {w : V} (e : posAt m h xs y = some j) (hj : j < xs.length) : ∃ os, fGetU [.nd m h (xs.set j (.hole w)), y] = some (.hole w, os) := by
  have hset : ∀ (zs : List D), (zs.set j (.hole w)).length = zs.length := fun zs => List.length_set
  have hat : (xs.set j (.hole w))[j]? = some (.hole w) := List.getElem?_set_self hj
  unfold posAt at e
  cases h with
  | lst =>
    simp only at e
    split at e
    · rename_i i
      refine ⟨[.nd m .lst ((xs.set j (.hole w)).set j (.hole w)), .int i], orF_l ?_⟩
      simp only [fIx, true_or, if_true, List.length_set, e, hat]
      rfl
    · cases e
  | dK ks =>
    simp only at e
    split at e
    · rename_i j' hq
      cases e
      have hq' : dix (.nd m (.dK ks) (xs.set j (.hole w))) y = some (some j) := by
        unfold dix at hq ⊢
        exact hq
      have e1 : fIx [.nd m (.dK ks) (xs.set j (.hole w)), y] = none := by
        unfold fIx
        split
        · rename_i h1; cases h1
        · rename_i h1; cases h1; simp
        · rfl
      refine ⟨[.nd m (.dK ks) ((xs.set j (.hole w)).set j (.hole w)), y], (orF_r e1).trans (orF_l ?_)⟩
      simp only [fDGet, hq', hat]
      rfl
    · cases e
  | dT ks =>
    simp only at e
    split at e
    · rename_i j' hq
      cases e
      have hq' : dix (.nd m (.dT ks) (xs.set j (.hole w))) y = some (some j) := by
        unfold dix at hq ⊢
        split at hq
        · rename_i h1; cases h1
        · rename_i h1; cases h1; exact hq
        · cases hq
      have e1 : fIx [.nd m (.dT ks) (xs.set j (.hole w)), y] = none := by
        unfold fIx
        split
        · rename_i h1; cases h1
        · rename_i h1; cases h1; simp
        · rfl
      refine ⟨[.nd m (.dT ks) ((xs.set j (.hole w)).set j (.hole w)), y], (orF_r e1).trans (orF_l ?_)⟩
      simp only [fDGet, hq', hat]
      rfl
    · cases e
  | dN ks =>
    simp only at e
    split at e
    · rename_i j' hq
      cases e
      have hq' : nix (.nd m (.dN ks) (xs.set (xs.length / 2 + j') (.hole w))) y = some (some j') := by
        unfold nix at hq ⊢
        split at hq
        · rename_i d0 m0 ks0 xs0 m1 ys h1
          cases h1
          have kk : keysOk ks (xs.set (xs.length / 2 + j') (.hole w)) = keysOk ks xs := by
            unfold keysOk
            rw [List.length_set]
            by_cases hl : xs.length = 2 * ks.length
            · rw [List.take_set_of_le (by omega)]
            · simp [hl]
          rw [kk]
          exact hq
        · rename_i h1; cases h1
        · cases hq
      have e1 : fIx [.nd m (.dN ks) (xs.set (xs.length / 2 + j') (.hole w)), y] = none := by
        unfold fIx
        split
        · rename_i h1; cases h1
        · rename_i h1; cases h1; simp
        · rfl
      have e2 : fDGet [.nd m (.dN ks) (xs.set (xs.length / 2 + j') (.hole w)), y] = none := by
        unfold fDGet
        split
        · rename_i h1; cases h1
          simp only [dix]
        · rfl
      refine ⟨[.nd m (.dN ks) ((xs.set (xs.length / 2 + j') (.hole w)).set (xs.length / 2 + j') (.hole w)), y], (orF_r e1).trans ((orF_r e2).trans ?_)⟩
      simp only [fNGet, hq', List.length_set, hat]
      rfl
    · cases e
  | _ =>
    simp only [dix] at e
    cases e
theorem getU_pure {x y w : V} {Q : VK} (h : rGetU K x y H fun v _ => v = w) (q : Q w H) : rGetU K x y H Q := by
  rcases h with (⟨a, xs, h⟩ | ⟨a, xs, h⟩ | ⟨z, i, c, h1, h2, h3, h4, h5⟩) | (⟨a, v, h1, h2, h3⟩ | ⟨a, v, h1, h2, h3⟩)
  · revert h; intro h
    obtain ⟨i, v, h⟩ := h
    refine .inl (.inl ⟨a, xs, i, v, ?_⟩)
    simp_all
  · revert h; intro h
    obtain ⟨i, v, h⟩ := h
    refine .inl (.inr (.inl ⟨a, xs, i, v, ?_⟩))
    simp_all
  · exact .inl (.inr (.inr ⟨z, i, c, h1, h2, h3, h4, h5 ▸ q⟩))
  · exact .inr (.inl ⟨a, v, h1, h2, h3 ▸ q⟩)
  · exact .inr (.inr ⟨a, v, h1, h2, h3 ▸ q⟩)
def pAt (m : EM D) : EM Sel := fun env => match m env with
  | some (y, e) => some (selAt y, e)
  | none => none
theorem den_at (i : Nat) {te : TE} {m : EM D} (hm : DenE K te m) : DenArg K (tOp (rGetU K) (tVar i) te) (.pt i (pAt m)) := by
  intro σ H env L d p env' Q re e kk
  obtain ⟨d0, e0, sel, p0, h1, h2, h3, rfl⟩ := ev_pt e
  obtain ⟨hdd, rfl⟩ := slTake_eq h1
  obtain ⟨v, hv, r⟩ := re.take hdd
  unfold pAt at h2
  split at h2
  · rename_i y e1 hy
    cases h2
    obtain ⟨b, hd, xs, j, rfl, hj, hc, rfl⟩ := selAt_eq h3
    obtain ⟨e1, e2⟩ := list_at hc
    have hlt : j < xs.length := (List.getElem?_eq_some_iff.mp hc).1
    refine ⟨v, hv, hm σ H (env.set i none) ((v, .nd b hd xs) :: L) y _ _ r hy fun yv H1 r1 => ?_⟩
    have r2 : RE K H1 σ env' ((v, (⟨b, hd, xs.take j, xs.drop (j + 1)⟩ : Part).fill d) :: (yv, y) :: L) := by
      unfold Part.fill
      rw [← e1]; exact r1.perm (List.Perm.swap _ _ _)
    obtain ⟨w, r3⟩ := r2.part
    have r3' : RE K H1 σ env' ([(v, .nd b hd (xs.set j (.hole w))), (yv, y)] ++ ((w, d) :: L)) := by
      have e3 : (⟨b, hd, xs.take j, xs.drop (j + 1)⟩ : Part).fill (.hole w) = .nd b hd (xs.set j (.hole w)) := by
        unfold Part.fill
        rw [list_set hc]
      rw [e3] at r3
      exact r3.perm ((List.Perm.swap _ _ _).trans (List.Perm.cons _ (List.Perm.swap _ _ _)))
    obtain ⟨l, q, _⟩ := RE.to r3'
    obtain ⟨os, hg⟩ := posAt_hole (w := w) hj hlt
    have g : rGetU K v yv H1 (fun u _ => u = w) := den_getU [v, yv] [_, y] H1 _ _ os (fun u _ => u = w) rfl q hg fun u H2 rr => R.vhole rr
    refine getU_pure g (kk w [(v, _)] H1 (.pt hv .nil) ?_)
    refine RE.tail (p := (yv, y)) (r3.perm ?_)
    show ((w, d) :: (v, _) :: (yv, y) :: L).Perm ((yv, y) :: (w, d) :: (v, _) :: L)
    exact (List.Perm.cons _ (List.Perm.swap _ _ _)).trans (List.Perm.swap _ _ _)
  · cases h2
end
theorem a_at {X : Cx} (i : Nat) {x : Str} {b : Expr} {te : TE} {m : EM D} {pos p1 : Pos} (hu : X.A.units + 64 < cLine) (hb : EJ X b te m) (hs : PlainIx b := by intro _ _; rfl) (hN : X.N[i]? = some x := by rfl) (hv : Vis X.env.scope x := by first | exact Or.inl rfl | exact Or.inr (Or.inl rfl) | exact Or.inr (Or.inr rfl)) (hd : (x == ("__debug__" : Str)) = false := by decide)
    (hcd : (x == ("__classdict__" : Str)) = false := by decide) : AJ X (.Subscript (.Name x p1) b pos) (tOp (rGetU X.fk) (tVar i) te) (.pt i (pAt m)) := ⟨pe_ix (ix_getU hu) (pe_var hN hv hd hcd) hb.p hs, den_at i hb.d⟩
end VH

/-! A tuple times a number. -/
namespace VH
open PySem PySem.Spec PyProof.Rows L2
theorem tuple_mulS (l : Addr) (items : Array Value) (n : Nat) (dd : Option Addr) (sl : Array (Option Value)) (x : Int) (u : Tok) (c0 : (decide (x < -(2 ^ 63)) || decide (x ≥ 2 ^ 63)) = false) (c1 : (items.isEmpty || x == 1) = true) :
    Meets (Builtin.«tuple.__mul__» ⟨[.ref l, .int x u], []⟩) (fun _ R s => s.heap.get? l = some { cls := .type "tuple", dict := dd, data := .seq items n, slots := sl } ∧ R (.ok (.ret (Value.ref l))) s) :=
  .of_wp fun prog w A R s h => by
    obtain ⟨hp, g, d, tk, os⟩ := s
    obtain ⟨hl, h⟩ := h
    have f1 := AutoSeq1.idx_int
    wp_walk using wpAny_loadPart' hl
    repeat (first
      | (refine wpAny_ite_false (decide_eq_false (by rw [c0]; exact Bool.false_ne_true)) ?_; wp_walk using wpAny_loadPart' hl)
      | (refine wpAny_ite_true (decide_eq_true c1) ?_; wp_walk using wpAny_loadPart' hl))
    exact ⟨_, rfl, h⟩
theorem tuple_mul0 (l : Addr) (items : Array Value) (n : Nat) (dd : Option Addr) (sl : Array (Option Value)) (x : Int) (u : Tok) (c0 : (decide (x < -(2 ^ 63)) || decide (x ≥ 2 ^ 63)) = false) (c1 : (items.isEmpty || x == 1) = false) (c2 : (decide (x ≤ 0) || items.isEmpty) = true) :
    Meets (Builtin.«tuple.__mul__» ⟨[.ref l, .int x u], []⟩) (fun _ R s => s.heap.get? l = some { cls := .type "tuple", dict := dd, data := .seq items n, slots := sl } ∧
      R (.ok (.ret (Value.ref s.heap.objs.size))) { s with heap := s.heap.push { cls := Value.type "tuple", data := Data.seq #[] }, toks := s.toks }) :=
  .of_wp fun prog w A R s h => by
    obtain ⟨hp, g, d, tk, os⟩ := s
    obtain ⟨hl, h⟩ := h
    have f1 := AutoSeq1.idx_int
    wp_walk using wpAny_loadPart' hl
    repeat (first
      | (refine wpAny_ite_false (decide_eq_false (by rw [c0]; exact Bool.false_ne_true)) ?_; wp_walk using wpAny_loadPart' hl)
      | (refine wpAny_ite_false (decide_eq_false (by rw [c1]; exact Bool.false_ne_true)) ?_; wp_walk using wpAny_loadPart' hl)
      | (refine wpAny_ite_true (decide_eq_true c2) ?_; wp_walk using wpAny_loadPart' hl))
    exact ⟨_, rfl, h⟩
def rRepTS (K : PySem.W.Frag) : R2 := fun x y H Q => ∃ l k xs, x = .ref l ∧ y = .int k ∧ SqT K H l xs ∧ -(2 ^ 63) ≤ k ∧ k < 2 ^ 63 ∧ (xs = [] ∨ k = 1) ∧ Q x H
def rRepT0 (K : PySem.W.Frag) : R2 := fun x y H Q => ∃ l k xs, x = .ref l ∧ y = .int k ∧ SqT K H l xs ∧ xs ≠ [] ∧ -(2 ^ 63) ≤ k ∧ k ≤ 0 ∧ ∀ p, H p = none → Q (.ref p) (upd H p (.tup []))
theorem op_repTS {X : Cx} : OpR X (binaryOp .Mult) (rRepTS X.K) := by
  intro pins s σ H x y v u Q I rx ry h
  obtain ⟨l, k, xs, rfl, rfl, hT, h1, h2, hne, q⟩ := h
  cases rx
  obtain ⟨t, rfl⟩ := ry
  obtain ⟨its, r, ⟨⟨cls, dd, data, sl⟩, ho, hc, n, hd⟩, hs⟩ := I.tuple hT
  simp only at hc hd
  subst hc hd
  have hle : its.length = xs.length := r.length.symm
  have c0 : (decide (k < -(2 ^ 63)) || decide (k ≥ 2 ^ 63)) = false := by
    rw [decide_eq_false (by omega), decide_eq_false (by omega)] <;> rfl
  have c1 : (its.toArray.isEmpty || k == 1) = true := by
    rcases hne with e | e
    · subst e
      have : its = [] := List.eq_nil_of_length_eq_zero hle
      subst this; rfl
    · subst e; simp
  exact wpAny_binaryOp_repeat_ref (T := "tuple") (U := "int") (by decide) ⟨_, ho, rfl⟩ (fun s' => typeIs_int s' k t) noFill_tuple_mul F.fills_int_mul F.slot_int_rmul repeat_tuple F.slot_int_index.lookup
    (call_meets F.slot_int_rmul (typeIs_int s k t) F.entry_int_rmul (F.args_int_rmul_2 _ _) (int_rmul_tuple k t l its.toArray n dd sl)
      ⟨ho, rfl, ⟨_, ho, rfl⟩, call_meets F.slot_tuple_mul ⟨_, ho, rfl⟩ F.entry_tuple_mul (F.args_tuple_mul_2 _ _) (tuple_mulS l its.toArray n dd sl k t c0 c1) ⟨ho, .ref l, H, I, rfl, q⟩⟩)
theorem op_repT0 {X : Cx} : OpR X (binaryOp .Mult) (rRepT0 X.K) := by
  intro pins s σ H x y v u Q I rx ry h
  obtain ⟨l, k, xs, rfl, rfl, hT, hne, h1, h2, q⟩ := h
  cases rx
  obtain ⟨t, rfl⟩ := ry
  obtain ⟨its, r, ⟨⟨cls, dd, data, sl⟩, ho, hc, n, hd⟩, hs⟩ := I.tuple hT
  simp only at hc hd
  subst hc hd
  have hle : its.length = xs.length := r.length.symm
  have c0 : (decide (k < -(2 ^ 63)) || decide (k ≥ 2 ^ 63)) = false := by
    rw [decide_eq_false (by omega), decide_eq_false (by omega)] <;> rfl
  have hi : its.toArray.isEmpty = false := by
    cases its with
    | nil => exact absurd (List.eq_nil_of_length_eq_zero (by simpa using hle.symm)) hne
    | cons a b => rfl
  have c1 : (its.toArray.isEmpty || k == 1) = false := by
    rw [hi, Bool.false_or]
    exact beq_eq_false_iff_ne.mpr (by omega)
  have c2 : (decide (k ≤ 0) || its.toArray.isEmpty) = true := by
    rw [decide_eq_true h2]; rfl
  refine wpAny_binaryOp_repeat_ref (T := "tuple") (U := "int") (by decide) ⟨_, ho, rfl⟩ (fun s' => typeIs_int s' k t) noFill_tuple_mul F.fills_int_mul F.slot_int_rmul repeat_tuple F.slot_int_index.lookup
    (call_meets F.slot_int_rmul (typeIs_int s k t) F.entry_int_rmul (F.args_int_rmul_2 _ _) (int_rmul_tuple k t l its.toArray n dd sl)
      ⟨ho, rfl, ⟨_, ho, rfl⟩, call_meets F.slot_tuple_mul ⟨_, ho, rfl⟩ F.entry_tuple_mul (F.args_tuple_mul_2 _ _) (tuple_mul0 l its.toArray n dd sl k t c0 c1 c2) ⟨ho, ?_⟩⟩)
  refine ⟨.ref s.heap.objs.size, _, I.laid (t' := s.toks) (o := .tup []) (fun b ob q => Heap.get?_push_of_some _ q) (Nat.le_refl _) ?_, rfl, q _ (I.hok.fresh (Nat.le_refl _))⟩
  exact ⟨Nat.zero_le _, [], .nil, IsTup.new _ _⟩
/-! by data: a frozen tuple times a number -/
def fRepT : List D → Option (D × List D)
  | [.nd m .tup xs, .int k] => if D.isFz (.nd m .tup xs) = true ∧ -(2 ^ 63) ≤ k ∧ k < 2 ^ 63 then
      (if xs = [] ∨ k = 1 then some (.nd m .tup xs, [.any, .any]) else if k ≤ 0 then some (.nd false .tup [], [.any, .any]) else if k ≤ 1000 ∧ xs.length ≤ 1000 then some (.nd false .tup (List.replicate k.toNat xs).flatten, [.any, .any]) else none) else none
  | _ => none
def rRepTU (K : Fk) : R2 := fun x y H Q => rRepTS K x y H Q ∨ rRepT0 K x y H Q ∨ rRepT K x y H Q
theorem op_repTU {X : Cx} : OpR X (binaryOp .Mult) (rRepTU X.fk) := op_repTS.or (op_repT0.or op_repT)
theorem den_repTU {K : Fk} : DenR K (r2L (rRepTU K)) fRepT := by
  intro vs ds H L d os Q hl r e k
  unfold fRepT at e
  split at e
  · rename_i m xs n
    split at e
    · rename_i h
      obtain ⟨u, v, rfl⟩ := len2 hl
      obtain rfl := r.tail.vint
      have r0 : R K H ((u, .nd m .tup xs) :: L) := (R.perm (List.Perm.swap _ _ _) r).tail
      obtain ⟨a, o, us, rfl, h1, f, l, r1⟩ := R.kids r
      cases f
      have hne : us = [] → xs = [] := fun z => List.length_eq_zero_iff.mp (by rw [← l, z]; rfl)
      split at e
      · rename_i h2
        cases e
        refine .inl ⟨a, n, us, rfl, rfl, SqT.of h1, h.2.1, h.2.2, ?_, k _ _ (R.any2 r0)⟩
        rcases h2 with h2 | h2
        · exact .inl (List.length_eq_zero_iff.mp (by rw [l, h2]; rfl))
        · exact .inr h2
      · rename_i h2
        have hx : us ≠ [] := fun z => h2 (.inl (hne z))
        have hk : n ≠ 1 := fun z => h2 (.inr z)
        split at e
        · rename_i h3
          cases e
          refine .inr (.inl ⟨a, n, us, rfl, rfl, SqT.of h1, hx, h.2.1, h3, fun p hp => k _ _ (R.any2 ?_)⟩)
          exact (R.makeN (vs := []) (xs := []) rfl r0.tail hp (.tup [])).fz
        · rename_i h3
          split at e
          · rename_i h4
            cases e
            refine .inr (.inr ⟨a, n, us, rfl, rfl, SqT.of h1, hx, by omega, h4.1, by rw [l]; exact h4.2, fun p hp => k _ _ (R.any2 ?_)⟩)
            have hf : D.isFzL xs = true := by
              have := h.1
              simp only [D.isFz, Bool.and_eq_true] at this
              exact this.2
            have r2 := R.rep l hf r1 n.toNat
            have r3 : R K H ((List.replicate n.toNat us).flatten.zip (List.replicate n.toNat xs).flatten ++ ((V.int n, D.int n) :: L)) := (r2.perm (pc3 _ _ _)).right
            have r4 : R K H ((List.replicate n.toNat us).flatten.zip (List.replicate n.toNat xs).flatten ++ L) := (r3.perm List.perm_middle).tail
            have r5 := R.makeN (by simp [l]) r4 hp (.tup (List.replicate n.toNat us).flatten)
            have r6 := r5.fz
            have e6 : (D.nd true .tup (List.replicate n.toNat xs).flatten).fz = .nd false .tup (List.replicate n.toNat xs).flatten := by
              rw [D.fz, D.fzL_of]
              have : ∀ k : Nat, D.isFzL (List.replicate k xs).flatten = true := by
                intro k
                induction k with
                | zero => rfl
                | succ k ih =>
                  rw [List.replicate_succ, List.flatten_cons]
                  have app : ∀ {as bs : List D}, D.isFzL as = true → D.isFzL bs = true → D.isFzL (as ++ bs) = true := by
                    intro as bs h1 h2
                    induction as with
                    | nil => exact h2
                    | cons a as ih =>
                      simp only [List.cons_append, D.isFzL, Bool.and_eq_true] at h1 ⊢
                      exact ⟨h1.1, ih h1.2⟩
                  exact app hf ih
              exact this _
            rw [e6] at r6
            exact r6
          · cases e
    · cases e
  · cases e
/-! * of all of these -/
def rMulU (K : Fk) : R2 := fun x y H Q => rMulA x y H Q ∨ rRepTU K x y H Q
def fMulU : List D → Option (D × List D) := orF fMulA fRepT
theorem op_mulU {X : Cx} : OpR X (binaryOp .Mult) (rMulU X.fk) := op_mulA.or op_repTU
theorem den_mulU {K : Fk} : DenR K (r2L (rMulU K)) fMulU := (DenR.or den_mulA den_repTU).of2
end VH

/-! enumerate(v, start=k). -/
namespace VH
open PySem PySem.Spec PyProof.Rows
open L2
def iEnumK (K : PySem.W.Frag) (k0 : Int) (ta : TA) : TI := fun σ H R => ta σ H fun vs H1 => ∃ x sc xs, vs = [x] ∧ SrcOf x sc ∧ sc.hold K H1 xs ∧ R (Ite K xs.length sc k0) H1
theorem callWith_typeKW {M : Model} {A : Around} {E : Value → Shared → Prop} {s : Shared} {env : PySem.Env} {pos : Pos} {T : String} {Q : Value → Shared → Prop} {e : Expr} {rest : List Expr} {kws : List Keyword} (hall : (backToKw pos (keywordEach kws env)).all (·.1.isSome) = true)
    (h : wpAny M A (spliced (backTo pos (starEach (e :: rest) env))) (fun vs s₁ => wpAny M A (evalAll ((backToKw pos (keywordEach kws env)).map (·.2)))
      (fun ks s₂ => wpAny M A (call (.type T) ([] ++ vs) (((backToKw pos (keywordEach kws env)).filterMap (·.1)).zip ks)) Q E s₂) E s₁) E s)
    (hplain : ((backTo pos (starEach (e :: rest) env)).any (·.1) || (backToKw pos (keywordEach kws env)).any (·.1.isNone)) = false) (he : starEach (e :: rest) env = (false, eval e env) :: starEach rest env) :
    wpAny M A (callWith pos (.type T) [] (backTo pos (starEach (e :: rest) env)) (backToKw pos (keywordEach kws env))) Q E s :=
  PySem.W.callWith_of (P := fun _ => True) hplain (fun h _ => ⟨.machine, .inr (.inl rfl), PySem.W.Looks.of_pure rfl⟩) (PyProof.Rows.evalArgs_kw2 hall (thn h fun vs s1 z => thn z fun ks s2 z2 => ⟨trivial, z2⟩) he)
theorem pi_enumK {X : Cx} {e : Expr} {ta : TA} {k0 : Int} {j : Nat} {p pos tpos kpos cp : Pos} {elts : List Expr} {kk : Nat} (hg : Gl X "enumerate") (hm : X.mg "enumerate" = none) (ha : PA X [e] ta) (hk0 : -(2 ^ 63) ≤ k0) (hk1 : k0 < 2 ^ 63) (hs : starEach [e] X.env = [(false, eval e X.env)] := by rfl)
    (hall : (backToKw pos (keywordEach [⟨some "start", .Constant (.int k0) j cp, kpos⟩] X.env)).all (·.1.isSome) = true := by rfl) (hpl : ((backTo pos (starEach [e] X.env)).any (·.1) || (backToKw pos (keywordEach [⟨some "start", .Constant (.int k0) j cp, kpos⟩] X.env)).any (·.1.isNone)) = false := by rfl)
    (hks : (backToKw pos (keywordEach [⟨some "start", .Constant (.int k0) j cp, kpos⟩] X.env)).filterMap (·.1) = [Str.ofString "start"] := by rfl) :
    PI X (.Tuple elts kk tpos) (.Call (.Name "enumerate" p) [e] [⟨some "start", .Constant (.int k0) j cp, kpos⟩] pos) (iEnumK X.K k0 ta) := by
  refine ⟨fun pins s σ H R I h => ?_⟩
  refine wpAny_Call_Name_kw (ld_blt I hg hm boot_enumerate ?_)
  refine callWith_typeKW hall (thn (ha.run pos pins s σ H _ I h) fun us s0 ⟨vs, H1, I0, r1, q1⟩ => ?_) hpl hs
  refine thn ((pk_cons (nm := some "start") (kpos := kpos) (pe_int (X := X) (i := k0) (j := j) (pos := cp)) pk_nil).run pos pins s0 σ H1 (fun zs H2 => zs = [V.int k0] ∧ H2 = H1) I0 ⟨rfl, rfl⟩) fun ws s1 ⟨zs, H2, I1, rz, ez, eH⟩ => ?_
  subst ez eH
  obtain ⟨w, rfl, tk, rfl⟩ := vals1 rz
  rw [hks]
  obtain ⟨x, sc, xs, rfl, hsc, hx, q⟩ := q1
  obtain ⟨u, rfl, ru⟩ := vals1 r1
  obtain ⟨sc', rfl, hh, hI⟩ := src_val hsc ru
  have hx' := (hh _ _ _).mpr hx
  obtain ⟨Hc, B, hb⟩ := Src.begins I1 hx'
  refine enum_begins_start B hb hk0 hk1 fun h' he hit hsz hk => wpAny_pyIter_enum he ?_
  have I2 : Inv X pins σ H2 { s1 with heap := h' } := I1.kept (t' := s1.toks) hk
  obtain ⟨o1, o2⟩ := src_off I1 hx' (Nat.le_refl _)
  refine ⟨s1.heap.objs.size + 1, [s1.heap.objs.size + 1, s1.heap.objs.size], _, _, H2, rfl, I2, turn_enumS (n := xs.length) (sc := sc') k0 (Nat.succ_ne_self _) o1 (fun hm => ?_), ⟨⟨⟨.none, by rw [show k0 + ((0 : Nat) : Int) = k0 by omega]; exact he⟩, Src.st_begin hit⟩, Nat.zero_le _⟩, fun b hb => ?_, by rw [hI]; exact q⟩
  · rcases o2 _ hm with z | z
    · exact absurd z (Nat.succ_ne_self _)
    · exact absurd z (by exact Nat.not_lt_of_le (Nat.le_succ _))
  · have e' : b = s1.heap.objs.size + 1 ∨ b = s1.heap.objs.size := by simpa using hb
    have hle : s1.heap.objs.size ≤ b := by
      rcases e' with z | z
      · rw [z]; exact Nat.le_add_right _ _
      · rw [z]; exact Nat.le_refl _
    exact I1.fpOk hle (I1.hok.fresh hle)
def gEnumK (k0 : Int) : List D → Option (List D)
  | [d] => match d.items with
    | some xs => some (enumD k0 0 xs)
    | none => none
  | _ => none
theorem den_enumK {K : Fk} {k0 : Int} {ta : TA} {as : List Arg} (h : DenA K ta as) : DenI K (iEnumK K k0 ta) (mArgs as (gEnumK k0)) := by
  intro σ H env L ds env' Q re e k
  obtain ⟨cs, ps, q, g⟩ := mArgs_eq e
  refine h σ H env L cs ps env' _ re q fun vs M H1 hl hs r => ?_
  unfold gEnumK at g
  split at g
  · rename_i d
    split at g
    · rename_i xs hxs
      cases g
      obtain ⟨x, rfl⟩ := len1 hl
      have r1 : RE K H1 σ env' ((x, d) :: (M ++ L)) := r
      have r2 := r1.fz
      obtain ⟨N, z⟩ := r2.val
      obtain ⟨sc, ys, h1, h2, ok⟩ := itOk_enum k0 z (D.isFz_fz d) (D.items_fz hxs) (items_all_fz hxs)
      refine ⟨x, sc, ys, rfl, h1, h2, k _ [(x, d.fz)] H1 ok ?_⟩
      exact (RE.perm (L' := M ++ ((x, d.fz) :: L)) List.perm_middle.symm r2).right
    · cases g
  · cases g
theorem i_enumK {X : Cx} {e : Expr} {ta : TA} {As : List Arg} (k0 : Int) {j : Nat} {p pos tpos kpos cp : Pos} {elts : List Expr} {kk : Nat} (hm : X.mg "enumerate" = none) (ha : LJ X [e] ta As) (hk0 : -(2 ^ 63) ≤ k0 := by decide) (hk1 : k0 < 2 ^ 63 := by decide) (hg : Gl X "enumerate" := by rfl) (hs : starEach [e] X.env = [(false, eval e X.env)] := by rfl)
    (hall : (backToKw pos (keywordEach [⟨some "start", .Constant (.int k0) j cp, kpos⟩] X.env)).all (·.1.isSome) = true := by rfl) (hpl : ((backTo pos (starEach [e] X.env)).any (·.1) || (backToKw pos (keywordEach [⟨some "start", .Constant (.int k0) j cp, kpos⟩] X.env)).any (·.1.isNone)) = false := by rfl)
    (hks : (backToKw pos (keywordEach [⟨some "start", .Constant (.int k0) j cp, kpos⟩] X.env)).filterMap (·.1) = [Str.ofString "start"] := by rfl) :
    IJ X (.Tuple elts kk tpos) (.Call (.Name "enumerate" p) [e] [⟨some "start", .Constant (.int k0) j cp, kpos⟩] pos) (iEnumK X.K k0 ta) (mArgs As (gEnumK k0)) := ⟨pi_enumK hg hm ha.p hk0 hk1 hs hall hpl hks, den_enumK ha.d⟩
end VH

/-! zip walked by one name: its tuples are kept. -/
namespace VH
open PySem PySem.Spec PyProof.Rows PySem.Calls
abbrev IsZipG (h : Heap) (z TI TO : Addr) (f0 : Value) (f : Bool) : Prop := h.get? z = some { cls := .type "zip", dict := none, data := .fields #[f0, .bool f, .bool false, .ref TI, .ref TO], slots := #[] }
def Own0 (f0 : Value) : Prop := f0 = .none ∨ ∃ T : Nat, f0 = rawInt T
section
variable {prog : Program} {w : World} {A : Around} {E : Value → Shared → Prop} {s : Shared} {z TI TO i1 i2 : Addr} {fp1 fp2 : List Addr} {n1 n2 i : Nat} {P1 P2 : Nat → Value → Prop} {St1 St2 : Nat → Heap → Prop} {a1 a2 f0 : Value} {f : Bool}
/-- whether the tuple is free: it may be, it may be not -/
theorem free_zip {Q : Bool → Shared → Prop} (hz : IsZipG s.heap z TI TO f0 f) (ho : Own0 f0) (ht : Q true s) (hf : ∀ h', IsZipG h' z TI TO f0 true → Heap.SameBut z s.heap h' → Q false { s with heap := h' }) : wpAny (model prog w) A (Builtin.SmallTypes.ownedTupleIsFree (.ref z)) Q E s := by
  unfold Builtin.SmallTypes.ownedTupleIsFree
  rcases ho with rfl | ⟨T, rfl⟩
  · exact wpAny_bind (wpAny_field hz rfl (x := .none) rfl (wpAny_pure ht))
  · refine wpAny_bind (wpAny_field hz rfl (x := rawInt T) rfl ?_)
    show wpAny _ _ (loadIfAlive ((T : Int).toNat) >>= _) _ _ _
    rw [Int.toNat_natCast]
    refine wpAny_bind ?_
    have key : ∀ {R : Option Obj → Shared → Prop}, R (s.heap.get? T) s → wpAny (model prog w) A (loadIfAlive T) R E s := fun h => fun _ _ _ => h
    refine key ?_
    cases q : s.heap.get? T with
    | none => exact wpAny_pure ht
    | some oT =>
      simp only [Option.isNone_some, Bool.false_eq_true, if_false]
      refine wpAny_bind (wpAny_field hz rfl (x := .bool f) rfl ?_)
      cases f with
      | true =>
        rw [if_neg (show ¬ ((Value.bool true != Value.bool true) = true) from Bool.false_ne_true)]
        exact wpAny_pure (hf s.heap hz (Heap.SameBut.refl _ _))
      | false =>
        rw [if_pos (show (Value.bool false != Value.bool true) = true from rfl)]
        exact wpAny_bind (wpAny_setField_rec hz (by simp) fun h₁ hz₁ hs₁ => wpAny_pure (hf h₁ hz₁ hs₁))
theorem zipG_next_item {Q : Value → Shared → Prop} (S : ZipSep2 z TI TO i1 i2 fp1 fp2) (D1 : Draws prog w A i1 fp1 n1 P1 St1) (D2 : Draws prog w A i2 fp2 n2 P2 St2)
    (hz : IsZipG s.heap z TI TO f0 f) (ho : Own0 f0) (hTI : IsTupOf2 s.heap TI (.ref i1) (.ref i2)) (hTO : IsTupOf2 s.heap TO a1 a2) (st1 : St1 i s.heap) (st2 : St2 i s.heap) (hlt1 : i < n1) (hlt2 : i < n2)
    (hQ : ∀ x1 x2 h' tk g0 g, P1 i x1 → P2 i x2 → IsZipG h' z TI TO g0 g → Own0 g0 → (∃ b1 b2, IsTupOf2 h' TO b1 b2) → St1 (i + 1) h' → St2 (i + 1) h' → IsTupOf2 h' s.heap.objs.size x1 x2 → h'.objs.size = s.heap.objs.size + 1 →
      (∀ c o, c ≠ z → c ≠ TO → c ≠ i1 → c ≠ i2 → s.heap.get? c = some o → h'.get? c = some o) → Q (.ref s.heap.objs.size) { s with heap := h', toks := tk }) :
    wpAny (model prog w) A (Builtin.«zip.__next__» ⟨[.ref z], []⟩) (fun fin s' => ∃ v, fin = .done (.ret v) ∧ Q v s') E s := by
  obtain ⟨hp, g, d, tk0, os⟩ := s
  show wpAny _ _ (field (.ref z) 2 >>= _) _ _ _
  refine wpAny_bind (wpAny_field hz rfl (x := .bool false) rfl ?_)
  show wpAny _ _ (field (.ref z) 3 >>= _) _ _ _
  refine wpAny_bind (wpAny_field hz rfl (x := .ref TI) rfl ?_)
  refine wpAny_bind (wpAny_seqItems hTI rfl ?_)
  show wpAny _ _ (Builtin.SmallTypes.ownedTupleIsFree (.ref z) >>= _) _ _ _
  refine wpAny_bind (free_zip hz ho ?_ fun h₁ hz₁ hs₁ => ?_)
  · simp only [if_true]
    refine wpAny_bind (wpAny_rule ?_)
    refine wpAny_bind (wpAny_field hz rfl (x := .ref TO) rfl ?_)
    refine wpAny_bind (wpAny_setField_rec hz (by simp) fun g0 hz0 hs0 => ?_)
    replace hz0 : IsZipG g0 z TI TO .ellipsis f := hz0
    replace hs0 : Heap.SameBut z hp g0 := hs0
    refine wpAny_bind ?_
    simp only [List.zipIdx_cons, List.zipIdx_nil, List.forIn_cons, List.forIn_nil]
    refine wpAny_bind (wpAny_bind (wpAny_onRaise ?_))
    show wpAny _ _ (Builtin.SmallTypes.nextOf (.ref i1) >>= _) _ _ ⟨g0, g, d, tk0, os⟩
    refine wpAny_bind (D1.item i _ _ _ hlt1 (D1.over st1 hs0 S.zf1) fun x1 p1 tk1 hx1 sn1 hp1 => wpAny_pure ?_)
    replace hp1 : Heap.SameBut i1 g0 p1 := hp1
    have hU1 : IsTupOf2 p1 TO a1 a2 := hp1.extBut _ _ S.Ti1 (hs0.extBut _ _ S.TOz hTO)
    refine wpAny_bind (wpAny_seqItems (s := ⟨p1, g, d, tk1, os⟩) hU1 rfl ?_)
    refine wpAny_bind (updateSeq_IsTupOf2 (s := ⟨p1, g, d, tk1, os⟩) hU1 fun g1 hT1 hs1 => ?_)
    replace hT1 : IsTupOf2 g1 TO x1 a2 := hT1
    replace hs1 : Heap.SameBut TO p1 g1 := hs1
    refine wpAny_bind (wpAny_letGo (wpAny_pure ?_))
    refine wpAny_bind (wpAny_bind (wpAny_onRaise ?_))
    show wpAny _ _ (Builtin.SmallTypes.nextOf (.ref i2) >>= _) _ _ ⟨g1, g, d, tk1, os⟩
    refine wpAny_bind (D2.item i _ _ _ hlt2 (D2.over (D2.over (D2.over st2 hs0 S.zf2) hp1 S.sep1_2) hs1 S.Tf2) fun x2 p2 tk2 hx2 sn2 hp2 => wpAny_pure ?_)
    replace hp2 : Heap.SameBut i2 g1 p2 := hp2
    have hU2 : IsTupOf2 p2 TO x1 a2 := hp2.extBut _ _ S.Ti2 hT1
    refine wpAny_bind (wpAny_seqItems (s := ⟨p2, g, d, tk2, os⟩) hU2 rfl ?_)
    refine wpAny_bind (updateSeq_IsTupOf2 (s := ⟨p2, g, d, tk2, os⟩) hU2 fun g2 hT2 hs2 => ?_)
    replace hT2 : IsTupOf2 g2 TO x1 x2 := hT2
    replace hs2 : Heap.SameBut TO p2 g2 := hs2
    refine wpAny_bind (wpAny_letGo (wpAny_pure (wpAny_pure ?_)))
    refine wpAny_bind (wpAny_seqItems (s := ⟨g2, g, d, tk2, os⟩) hT2 rfl ?_)
    refine wpAny_bind (wpAny_newTuple ?_)
    have hsz : g2.objs.size = hp.objs.size := by rw [hs2.1, hp2.1, hs1.1, hp1.1, hs0.1]
    have hzz : IsZipG g2 z TI TO .ellipsis f := (hs2.extBut _ _ S.TOz.symm (hp2.extBut _ _ S.zi2 (hs1.extBut _ _ S.TOz.symm (hp1.extBut _ _ S.zi1 hz0))))
    have hkk : ∀ c o, c ≠ z → c ≠ TO → c ≠ i1 → c ≠ i2 → hp.get? c = some o → g2.get? c = some o := fun c o cz cT c1 c2 e =>
      (hs2.extBut _ _ cT (hp2.extBut _ _ c2 (hs1.extBut _ _ cT (hp1.extBut _ _ c1 (hs0.extBut _ _ cz e)))))
    have hj1 : St1 (i + 1) g2 := (D1.over (D1.over (D1.over sn1 hs1 S.Tf1) hp2 S.sep2_1) hs2 S.Tf1)
    have hj2 : St2 (i + 1) g2 := (D2.over sn2 hs2 S.Tf2)
    have hzlt : z < g2.objs.size := Heap.lt_size hzz
    show wpAny _ _ (Builtin.SmallTypes.ownedTupleHandOut (.ref z) (.ref g2.objs.size) >>= _) _ _ ⟨g2.push { cls := .type "tuple", data := .seq #[x1, x2] }, g, d, tk2, os⟩
    refine wpAny_bind ?_
    unfold Builtin.SmallTypes.ownedTupleHandOut
    have hz₆ : IsZipG (g2.push { cls := .type "tuple", data := .seq #[x1, x2] }) z TI TO .ellipsis f := Heap.get?_push_of_some _ hzz
    refine wpAny_bind (wpAny_setField_rec hz₆ (by simp) fun h₇ hz₇ hs₇ => ?_)
    replace hz₇ : IsZipG h₇ z TI TO (rawInt g2.objs.size) f := hz₇
    refine wpAny_setField_rec hz₇ (by simp) fun h₈ hz₈ hs₈ => ?_
    replace hz₈ : IsZipG h₈ z TI TO (rawInt g2.objs.size) false := hz₈
    replace hs₇ : Heap.SameBut z (g2.push { cls := .type "tuple", data := .seq #[x1, x2] }) h₇ := hs₇
    replace hs₈ : Heap.SameBut z h₇ h₈ := hs₈
    have up : ∀ c o, c ≠ z → g2.get? c = some o → h₈.get? c = some o := fun c o c1 e => hs₈.extBut _ _ c1 (hs₇.extBut _ _ c1 (Heap.get?_push_of_some _ e))
    have hT₈ : IsTupOf2 h₈ g2.objs.size x1 x2 := hs₈.extBut _ _ (Nat.ne_of_gt hzlt) (hs₇.extBut _ _ (Nat.ne_of_gt hzlt) (Heap.get?_push_size _ rfl))
    have hz8 : h₈.objs.size = g2.objs.size + 1 := by rw [hs₈.1, hs₇.1, Heap.size_push]
    rw [hsz] at hz₈ hT₈ hz8
    refine wpAny_pure ⟨_, rfl, ?_⟩
    show Q (.ref g2.objs.size) ⟨h₈, g, d, tk2, os⟩
    rw [hsz]
    exact hQ x1 x2 h₈ tk2 _ _ hx1 hx2 hz₈ (.inr ⟨_, rfl⟩) ⟨_, _, up _ _ S.TOz hT2⟩ (D1.frame _ _ _ hj1 fun b hb o e => up b o (fun q => S.zf1 (q ▸ hb)) e) (D2.frame _ _ _ hj2 fun b hb o e => up b o (fun q => S.zf2 (q ▸ hb)) e) hT₈ hz8 fun c o cz cT c1 c2 e => up c o cz (hkk c o cz cT c1 c2 e)
  · simp only [Bool.false_eq_true, if_false]
    replace hz₁ : IsZipG h₁ z TI TO f0 true := hz₁
    replace hs₁ : Heap.SameBut z hp h₁ := hs₁
    refine wpAny_bind ?_
    rw [← Array.forIn_toList]
    simp only [List.forIn_cons, List.forIn_nil]
    refine wpAny_bind (wpAny_bind (wpAny_holding ?_))
    show wpAny _ _ (Builtin.SmallTypes.nextOf (.ref i1) >>= _) _ _ ⟨h₁, g, d, tk0, os⟩
    refine wpAny_bind (D1.item i _ _ _ hlt1 (D1.over st1 hs₁ S.zf1) fun x1 p1 tk1 hx1 sn1 hp1 => wpAny_pure ?_)
    replace hp1 : Heap.SameBut i1 h₁ p1 := hp1
    refine wpAny_pure ?_
    refine wpAny_bind (wpAny_bind (wpAny_holding ?_))
    show wpAny _ _ (Builtin.SmallTypes.nextOf (.ref i2) >>= _) _ _ ⟨p1, g, d, tk1, os⟩
    refine wpAny_bind (D2.item i _ _ _ hlt2 (D2.over (D2.over st2 hs₁ S.zf2) hp1 S.sep1_2) fun x2 p2 tk2 hx2 sn2 hp2 => wpAny_pure ?_)
    replace hp2 : Heap.SameBut i2 p1 p2 := hp2
    refine wpAny_pure (wpAny_pure ?_)
    show wpAny _ _ (newTuple [x1, x2] >>= _) _ _ ⟨p2, g, d, tk2, os⟩
    refine wpAny_bind (wpAny_newTuple ?_)
    have hsz : p2.objs.size = hp.objs.size := by rw [hp2.1, hp1.1, hs₁.1]
    have hz₃ : IsZipG p2 z TI TO f0 true := hp2.extBut _ _ S.zi2 (hp1.extBut _ _ S.zi1 hz₁)
    have hk : ∀ c o, c ≠ z → c ≠ i1 → c ≠ i2 → hp.get? c = some o → p2.get? c = some o := fun c o c1 c2 c3 e => hp2.extBut _ _ c3 (hp1.extBut _ _ c2 (hs₁.extBut _ _ c1 e))
    have hj1 : St1 (i + 1) p2 := D1.over sn1 hp2 S.sep2_1
    refine wpAny_pure ⟨_, rfl, ?_⟩
    show Q (.ref p2.objs.size) ⟨p2.push { cls := .type "tuple", data := .seq #[x1, x2] }, g, d, tk2, os⟩
    have hpp : IsTupOf2 (p2.push { cls := .type "tuple", data := .seq #[x1, x2] }) p2.objs.size x1 x2 := Heap.get?_push_size _ rfl
    have hz4 : (p2.push { cls := .type "tuple", data := .seq #[x1, x2] }).objs.size = p2.objs.size + 1 := Heap.size_push ..
    rw [hsz] at hpp hz4 ⊢
    exact hQ x1 x2 _ tk2 _ _ hx1 hx2 (Heap.get?_push_of_some _ hz₃) ho ⟨_, _, Heap.get?_push_of_some _ (hk _ _ S.TOz S.Ti1 S.Ti2 hTO)⟩ (D1.frame _ _ _ hj1 fun b hb o e => Heap.get?_push_of_some _ e) (D2.frame _ _ _ sn2 fun b hb o e => Heap.get?_push_of_some _ e) hpp hz4 fun c o cz cT c1 c2 e => Heap.get?_push_of_some _ (hk c o cz c1 c2 e)
theorem zipG_next_end {Q : Fin → Shared → Prop} (S : ZipSep2 z TI TO i1 i2 fp1 fp2) (D1 : Draws prog w A i1 fp1 n1 P1 St1) (D2 : Draws prog w A i2 fp2 n2 P2 St2)
    (hz : IsZipG s.heap z TI TO f0 f) (ho : Own0 f0) (hTI : IsTupOf2 s.heap TI (.ref i1) (.ref i2)) (hTO : IsTupOf2 s.heap TO a1 a2) (st1 : St1 i s.heap) (st2 : St2 i s.heap) (hle1 : i ≤ n1) (hle2 : i ≤ n2) (hend : i = n1 ∨ i = n2)
    (hE : ∀ h' tk e, (∀ c o, c ≠ z → c ≠ TO → c ≠ i1 → c ≠ i2 → s.heap.get? c = some o → h'.get? c = some o) → (∃ o, h'.get? e = some o ∧ o.cls = .type "StopIteration") → E (.ref e) { s with heap := h', toks := tk }) :
    wpAny (model prog w) A (Builtin.«zip.__next__» ⟨[.ref z], []⟩) Q E s := by
  obtain ⟨hp, g, d, tk0, os⟩ := s
  show wpAny _ _ (field (.ref z) 2 >>= _) _ _ _
  refine wpAny_bind (wpAny_field hz rfl (x := .bool false) rfl ?_)
  show wpAny _ _ (field (.ref z) 3 >>= _) _ _ _
  refine wpAny_bind (wpAny_field hz rfl (x := .ref TI) rfl ?_)
  refine wpAny_bind (wpAny_seqItems hTI rfl ?_)
  show wpAny _ _ (Builtin.SmallTypes.ownedTupleIsFree (.ref z) >>= _) _ _ _
  refine wpAny_bind (free_zip hz ho ?_ fun h₁ hz₁ hs₁ => ?_)
  · simp only [if_true]
    refine wpAny_bind (wpAny_rule ?_)
    refine wpAny_bind (wpAny_field hz rfl (x := .ref TO) rfl ?_)
    refine wpAny_bind (wpAny_setField_rec hz (by simp) fun g0 hz0 hs0 => ?_)
    replace hz0 : IsZipG g0 z TI TO .ellipsis f := hz0
    replace hs0 : Heap.SameBut z hp g0 := hs0
    refine wpAny_bind ?_
    simp only [List.zipIdx_cons, List.zipIdx_nil, List.forIn_cons, List.forIn_nil]
    refine wpAny_bind (wpAny_bind (wpAny_onRaise ?_))
    show wpAny _ _ (Builtin.SmallTypes.nextOf (.ref i1) >>= _) _ _ ⟨g0, g, d, tk0, os⟩
    by_cases hlt1 : i < n1
    · refine wpAny_bind (D1.item i _ _ _ hlt1 (D1.over st1 hs0 S.zf1) fun x1 p1 tk1 hx1 sn1 hp1 => wpAny_pure ?_)
      replace hp1 : Heap.SameBut i1 g0 p1 := hp1
      have hU1 : IsTupOf2 p1 TO a1 a2 := hp1.extBut _ _ S.Ti1 (hs0.extBut _ _ S.TOz hTO)
      refine wpAny_bind (wpAny_seqItems (s := ⟨p1, g, d, tk1, os⟩) hU1 rfl ?_)
      refine wpAny_bind (updateSeq_IsTupOf2 (s := ⟨p1, g, d, tk1, os⟩) hU1 fun g1 hT1 hs1 => ?_)
      replace hT1 : IsTupOf2 g1 TO x1 a2 := hT1
      replace hs1 : Heap.SameBut TO p1 g1 := hs1
      refine wpAny_bind (wpAny_letGo (wpAny_pure ?_))
      have hi2 : i = n2 := by omega
      refine wpAny_bind (wpAny_bind (wpAny_onRaise ?_))
      show wpAny _ _ (Builtin.SmallTypes.nextOf (.ref i2) >>= _) _ _ ⟨g1, g, d, tk1, os⟩
      refine wpAny_bind (D2.done ⟨g1, g, d, tk1, os⟩ _ _ (by rw [← hi2]; exact (D2.over (D2.over (D2.over st2 hs0 S.zf2) hp1 S.sep1_2) hs1 S.Tf2)) fun q e hq he => ?_)
      replace hq : Heap.ExtBut i2 g1 q := hq
      obtain ⟨oe, hoe, hce⟩ := he
      replace hoe : q.get? e = some oe := hoe
      have hzq : IsZipG q z TI TO .ellipsis f := hq _ _ S.zi2 (hs1.extBut _ _ S.TOz.symm (hp1.extBut _ _ S.zi1 hz0))
      have hez : e ≠ z := fun x => by subst x; rw [hzq] at hoe; cases hoe; simp at hce
      refine wpAny_setField_rec (s := ⟨q, g, d, tk1, os⟩) hzq (by simp) fun q' _ hq' => ?_
      replace hq' : Heap.SameBut z q q' := hq'
      exact hE q' tk1 e (fun c o cz cT c1 c2 x => hq'.extBut _ _ cz (hq _ _ c2 (hs1.extBut _ _ cT (hp1.extBut _ _ c1 (hs0.extBut _ _ cz x))))) ⟨oe, hq'.extBut _ _ hez hoe, hce⟩
    · have hi1 : i = n1 := by omega
      refine wpAny_bind (D1.done ⟨g0, g, d, tk0, os⟩ _ _ (by rw [← hi1]; exact (D1.over st1 hs0 S.zf1)) fun q e hq he => ?_)
      replace hq : Heap.ExtBut i1 g0 q := hq
      obtain ⟨oe, hoe, hce⟩ := he
      replace hoe : q.get? e = some oe := hoe
      have hzq : IsZipG q z TI TO .ellipsis f := hq _ _ S.zi1 hz0
      have hez : e ≠ z := fun x => by subst x; rw [hzq] at hoe; cases hoe; simp at hce
      refine wpAny_setField_rec (s := ⟨q, g, d, tk0, os⟩) hzq (by simp) fun q' _ hq' => ?_
      replace hq' : Heap.SameBut z q q' := hq'
      exact hE q' tk0 e (fun c o cz cT c1 c2 x => hq'.extBut _ _ cz (hq _ _ c1 (hs0.extBut _ _ cz x))) ⟨oe, hq'.extBut _ _ hez hoe, hce⟩
  · simp only [Bool.false_eq_true, if_false]
    replace hz₁ : IsZipG h₁ z TI TO f0 true := hz₁
    replace hs₁ : Heap.SameBut z hp h₁ := hs₁
    refine wpAny_bind ?_
    rw [← Array.forIn_toList]
    simp only [List.forIn_cons, List.forIn_nil]
    refine wpAny_bind (wpAny_bind (wpAny_holding ?_))
    show wpAny _ _ (Builtin.SmallTypes.nextOf (.ref i1) >>= _) _ _ ⟨h₁, g, d, tk0, os⟩
    by_cases hlt1 : i < n1
    · refine wpAny_bind (D1.item i _ _ _ hlt1 (D1.over st1 hs₁ S.zf1) fun x1 p1 tk1 hx1 sn1 hp1 => wpAny_pure ?_)
      replace hp1 : Heap.SameBut i1 h₁ p1 := hp1
      refine wpAny_pure ?_
      have hi2 : i = n2 := by omega
      refine wpAny_bind (wpAny_bind (wpAny_holding ?_))
      show wpAny _ _ (Builtin.SmallTypes.nextOf (.ref i2) >>= _) _ _ ⟨p1, g, d, tk1, os⟩
      refine wpAny_bind (D2.done ⟨p1, g, d, tk1, os⟩ _ _ (by rw [← hi2]; exact D2.over (D2.over st2 hs₁ S.zf2) hp1 S.sep1_2) fun q e hq he => ?_)
      replace hq : Heap.ExtBut i2 p1 q := hq
      exact hE q tk1 e (fun c o cz cT c1 c2 x => hq _ _ c2 (hp1.extBut _ _ c1 (hs₁.extBut _ _ cz x))) he
    · have hi1 : i = n1 := by omega
      refine wpAny_bind (D1.done ⟨h₁, g, d, tk0, os⟩ _ _ (by rw [← hi1]; exact D1.over st1 hs₁ S.zf1) fun q e hq he => ?_)
      replace hq : Heap.ExtBut i1 h₁ q := hq
      exact hE q tk0 e (fun c o cz cT c1 c2 x => hq _ _ c1 (hs₁.extBut _ _ cz x)) he
theorem pyNext_zipG_item {Q : Option Value → Shared → Prop} (S : ZipSep2 z TI TO i1 i2 fp1 fp2) (D1 : Draws prog w A.in1 i1 fp1 n1 P1 St1) (D2 : Draws prog w A.in1 i2 fp2 n2 P2 St2)
    (hz : IsZipG s.heap z TI TO f0 f) (ho : Own0 f0) (hTI : IsTupOf2 s.heap TI (.ref i1) (.ref i2)) (hTO : IsTupOf2 s.heap TO a1 a2) (st1 : St1 i s.heap) (st2 : St2 i s.heap) (hlt1 : i < n1) (hlt2 : i < n2)
    (hQ : ∀ x1 x2 h' tk g0 g, P1 i x1 → P2 i x2 → IsZipG h' z TI TO g0 g → Own0 g0 → (∃ b1 b2, IsTupOf2 h' TO b1 b2) → St1 (i + 1) h' → St2 (i + 1) h' → IsTupOf2 h' s.heap.objs.size x1 x2 → h'.objs.size = s.heap.objs.size + 1 →
      (∀ c o, c ≠ z → c ≠ TO → c ≠ i1 → c ≠ i2 → s.heap.get? c = some o → h'.get? c = some o) → Q (some (.ref s.heap.objs.size)) { s with heap := h', toks := tk }) :
    wpAny (model prog w) A (pyNext (.ref z)) Q E s := by
  have hT : s.TypeIs (.ref z) "zip" := ⟨_, hz, rfl⟩
  unfold pyNext
  exact wpAny_bind (wpAny_attempt (wpAny_callSpecial?_slot (name := Str.ofString "__next__") hT F.slot_zip_next
    (wpAny_call_entry F.slot_zip_next hT F.entry_zip_next
      (zipG_next_item S D1 D2 hz ho hTI hTO st1 st2 hlt1 hlt2 fun x1 x2 h' tk g0 g y1 y2 b1 b0 b2 d1 d2 b5 b6 b7 => wpAny_pure (hQ x1 x2 h' tk g0 g y1 y2 b1 b0 b2 d1 d2 b5 b6 b7)) (F.args_zip_next_1 _))))
theorem pyNext_zipG_end {Q : Option Value → Shared → Prop} (S : ZipSep2 z TI TO i1 i2 fp1 fp2) (D1 : Draws prog w A.in1 i1 fp1 n1 P1 St1) (D2 : Draws prog w A.in1 i2 fp2 n2 P2 St2)
    (hz : IsZipG s.heap z TI TO f0 f) (ho : Own0 f0) (hTI : IsTupOf2 s.heap TI (.ref i1) (.ref i2)) (hTO : IsTupOf2 s.heap TO a1 a2) (st1 : St1 i s.heap) (st2 : St2 i s.heap) (hle1 : i ≤ n1) (hle2 : i ≤ n2) (hend : i = n1 ∨ i = n2)
    (hQ : ∀ h' tk, (∀ c o, c ≠ z → c ≠ TO → c ≠ i1 → c ≠ i2 → s.heap.get? c = some o → h'.get? c = some o) → Q none { s with heap := h', toks := tk }) : wpAny (model prog w) A (pyNext (.ref z)) Q E s := by
  have hT : s.TypeIs (.ref z) "zip" := ⟨_, hz, rfl⟩
  unfold pyNext
  refine wpAny_bind (wpAny_attempt (wpAny_callSpecial?_slot (name := Str.ofString "__next__") hT F.slot_zip_next
    (wpAny_call_entry F.slot_zip_next hT F.entry_zip_next (zipG_next_end S D1 D2 hz ho hTI hTO st1 st2 hle1 hle2 hend fun h' tk e hk he => ?_) (F.args_zip_next_1 _))))
  obtain ⟨o, ho, hc⟩ := he
  refine wpAny_bind (wpAny_isInstance (T := "StopIteration") (b := true) ⟨o, ho, hc⟩ isSubtype_stop ?_)
  exact wpAny_pure (hQ _ _ hk)
theorem pyIter_zipG {Q : Value → Shared → Prop} (hz : IsZipG s.heap z TI TO f0 f) (h : Q (.ref z) s) : wpAny (model prog w) A (pyIter (.ref z)) Q E s := by
  have hT : s.TypeIs (.ref z) "zip" := ⟨_, hz, rfl⟩
  refine wpAny_pyIter_slot hT F.slot_zip_iter (wpAny_call_entry F.slot_zip_iter hT F.entry_zip_iter ?_ (F.args_zip_iter_1 _))
  show wpAny _ _ (ret (.ref z)) _ _ s
  exact wpAny_pure ⟨_, rfl, "zip", _, hT, F.slot_zip_next.lookup, h⟩
end
/-! ### as a turn -/
def zipGSt (s1 s2 : Src) (z TI TO i1 i2 : Addr) (i : Nat) (h : Heap) : Prop := (∃ f0 f, IsZipG h z TI TO f0 f ∧ Own0 f0) ∧ IsTupOf2 h TI (.ref i1) (.ref i2) ∧ (∃ a1 a2, IsTupOf2 h TO a1 a2) ∧ s1.st i1 i h ∧ s2.st i2 i h
theorem turn_zipN {P : Program} {w : World} {K : PySem.W.Frag} {x : Str} {px : Pos} {s1 s2 : Src} {n m : Nat} {z TI TO i1 i2 : Addr} (sep : ZipSep2 z TI TO i1 i2 (s1.fp i1) (s2.fp i2)) (at1 : s1.at_ i1) (at2 : s2.at_ i2) :
    L2.Turn P w K (.Name x px) (Itz2 K n m s1 s2) [z, TI, TO, i1, i2] z (fun i h => zipGSt s1 s2 z TI TO i1 i2 i h ∧ i ≤ min n m) where
  mem := by simp
  obj := fun i h st b hb => by
    obtain ⟨⟨⟨f0, f, hz, _⟩, hTI, ⟨a1, a2, hTO⟩, st1, st2⟩, _⟩ := st
    have e' : b = z ∨ b = TI ∨ b = TO ∨ b = i1 ∨ b = i2 := by simpa using hb
    rcases e' with q | q | q | q | q
    · rw [q]; exact ⟨_, hz, fun v q => nomatch q⟩
    · rw [q]; exact ⟨_, hTI, fun v q => nomatch q⟩
    · rw [q]; exact ⟨_, hTO, fun v q => nomatch q⟩
    · rw [q]; exact Src.st_obj st1
    · rw [q]; exact Src.st_obj st2
  keep := fun i h h' st k => by
    obtain ⟨⟨⟨f0, f, hz, ho⟩, hTI, ⟨a1, a2, hTO⟩, st1, st2⟩, hi⟩ := st
    exact ⟨⟨⟨f0, f, k z (by simp) _ hz, ho⟩, k TI (by simp) _ hTI, ⟨a1, a2, k TO (by simp) _ hTO⟩, Src.st_keep st1 fun o q => k i1 (by simp) o q, Src.st_keep st2 fun o q => k i2 (by simp) o q⟩, hi⟩
  item := by
    intro X hP hw hK hc i pins s σ H E I hf st hg
    subst hP hw hK
    obtain ⟨⟨⟨f0, f, hz, ho⟩, hTI, ⟨c1, c2, hTO⟩, st1, st2⟩, _⟩ := st
    obtain ⟨hlt, ⟨xs, hx, rfl⟩, ⟨ys, hy, rfl⟩⟩ := hg
    obtain ⟨P1, S1, D1, a1, a2, a3⟩ := Src.draws (A := X.A.in1) I hx (I.ok.hd hc) at1
    obtain ⟨P2, S2, D2, b1, b2, b3⟩ := Src.draws (A := X.A.in1) I hy (I.ok.hd hc) at2
    refine pyNext_zipG_item sep D1 D2 hz ho hTI hTO (a1 i st1) (b1 i st2) (by omega) (by omega) fun x1 x2 h' tk g0 g p1 p2 hz' ho' hTO' d1 d2 hT hsz hk => ?_
    refine ⟨_, rfl, wpAny_pure ?_⟩
    obtain ⟨y1, e1, r1⟩ := a3 i x1 p1
    obtain ⟨y2, e2, r2⟩ := b3 i x2 p2
    have hn : H s.heap.objs.size = none := I.hok.fresh (Nat.le_refl _)
    have new : L2.ObjOk X.prog X.w (L2.upd H s.heap.objs.size (.tup [y1, y2])) h' s.heap.objs.size (.tup [y1, y2]) := ⟨by show 2 ≤ sizeLine; decide, [x1, x2], .cons r1 (.cons r2 .nil), ⟨_, hT, rfl, _, rfl⟩⟩
    have I1 : L2.Inv X pins σ (L2.upd H s.heap.objs.size (.tup [y1, y2])) { s with heap := h', toks := tk } := I.turnedNew (ch := [z, TI, TO, i1, i2]) (fun b o hb e => hk b o (fun q => hb (by simp [q])) (fun q => hb (by simp [q])) (fun q => hb (by simp [q])) (fun q => hb (by simp [q])) e) hf (Nat.le_refl _) new
    refine ⟨.ref s.heap.objs.size, _, I1, rfl, ⟨s.heap.objs.size, [y1, y2], rfl, hn, rfl, y1, y2, fun zs hz => by rw [hold_inj I hz hx]; exact e1, fun zs hz => by rw [hold_inj I hz hy]; exact e2, rfl⟩, ⟨⟨⟨g0, g, hz', ho'⟩, hk _ _ sep.TIz sep.TITO sep.TIi1 sep.TIi2 hTI, hTO', a2 _ _ d1, b2 _ _ d2⟩, by omega⟩, fun b hb => ?_⟩
    have lt : ∀ {c o}, s.heap.get? c = some o → c ≠ s.heap.objs.size := fun e => Nat.ne_of_lt (Heap.lt_size e)
    have hb' : b ≠ s.heap.objs.size := by
      have e' : b = z ∨ b = TI ∨ b = TO ∨ b = i1 ∨ b = i2 := by simpa using hb
      rcases e' with q | q | q | q | q
      · rw [q]; exact lt hz
      · rw [q]; exact lt hTI
      · rw [q]; exact lt hTO
      · rw [q]; obtain ⟨o, e, _⟩ := Src.st_obj st1; exact lt e
      · rw [q]; obtain ⟨o, e, _⟩ := Src.st_obj st2; exact lt e
    rw [L2.upd_ne hb']
    exact (hf b hb).1
  done := by
    intro X hP hw hK hc i pins s σ H E I hf st hg
    subst hP hw hK
    obtain ⟨⟨⟨f0, f, hz, ho⟩, hTI, ⟨c1, c2, hTO⟩, st1, st2⟩, hi⟩ := st
    obtain ⟨hle, ⟨xs, hx, rfl⟩, ⟨ys, hy, rfl⟩⟩ := hg
    obtain ⟨P1, S1, D1, a1, a2, a3⟩ := Src.draws (A := X.A.in1) I hx (I.ok.hd hc) at1
    obtain ⟨P2, S2, D2, b1, b2, b3⟩ := Src.draws (A := X.A.in1) I hy (I.ok.hd hc) at2
    exact pyNext_zipG_end sep D1 D2 hz ho hTI hTO (a1 i st1) (b1 i st2) (by omega) (by omega) (by omega) fun h' tk hk => ⟨rfl, I.turnedL (ch := [z, TI, TO, i1, i2]) (fun b o hb e => hk b o (fun q => hb (by simp [q])) (fun q => hb (by simp [q])) (fun q => hb (by simp [q])) (fun q => hb (by simp [q])) e) hf⟩
  self := fun A i s Q E st h => by
    obtain ⟨⟨⟨f0, f, hz, _⟩, _⟩, _⟩ := st
    exact pyIter_zipG hz h
open L2 in
theorem pi_zipN {X : Cx} {e e2 : Expr} {ta : TA} {p pos tpos : Pos} {tx : Str} (hg : Gl X "zip") (hm : X.mg "zip" = none) (ha : PA X [e, e2] ta)
    (hs : starEach [e, e2] X.env = (false, eval e X.env) :: starEach [e2] X.env := by rfl) (hpl : (backTo pos (starEach [e2] X.env)).any (·.1) = false := by rfl) :
    PI X (.Name tx tpos) (.Call (.Name "zip" p) [e, e2] [] pos) (iZipS X.K ta) := by
  refine ⟨fun pins s σ H R I h => ?_⟩
  refine Call_ (ld_blt I hg hm PyProof.Rows.boot_zip (PyProof.Rows.callWith_type1 (thn (ha.run pos pins s σ H _ I h) fun us sx ⟨vs, H1, I1, r1, q1⟩ => ?_) hs hpl))
  obtain ⟨x, y, s1, s2, xs, ys, rfl, c1, c2, hx, hy, q⟩ := q1
  obtain ⟨u, v, rfl, ru, rv⟩ := vals2 r1
  obtain ⟨t1, rfl, hh1, hI1⟩ := src_val c1 ru
  obtain ⟨t2, rfl, hh2, hI2⟩ := src_val c2 rv
  have hx' := (hh1 _ _ _).mpr hx
  have hy' := (hh2 _ _ _).mpr hy
  obtain ⟨Hc, B, hb⟩ := Src.begins I1 hx'
  obtain ⟨Hd, B2, hb2⟩ := Src.begins I1 hy'
  have eI : Itz2 X.K xs.length ys.length t1 t2 = Itz2 X.K xs.length ys.length s1 s2 := by
    have z1 : ∀ H zs, t1.hold X.K H zs = s1.hold X.K H zs := fun H zs => propext (hh1 _ _ _)
    have z2 : ∀ H zs, t2.hold X.K H zs = s2.hold X.K H zs := fun H zs => propext (hh2 _ _ _)
    unfold Itz2
    simp only [z1, z2]
  refine zip_begins2 B B2 hb hb2 fun h' hz hTI hTO i1 i2 hsz hk => pyIter_zipG hz ?_
  have I2 : Inv X pins σ H1 { sx with heap := h' } := I1.kept (t' := sx.toks) hk
  have o1 := src_off I1 hx' (N := sx.heap.objs.size) (Nat.le_refl _)
  have o2 := src_off I1 hy' (N := sx.heap.objs.size + 1) (Nat.le_succ _)
  have sep : ZipSep2 (sx.heap.objs.size + 4) (sx.heap.objs.size + 2) (sx.heap.objs.size + 3) sx.heap.objs.size (sx.heap.objs.size + 1) (t1.fp sx.heap.objs.size) (t2.fp (sx.heap.objs.size + 1)) := by
    have n1 : ∀ j, 0 < j → sx.heap.objs.size + j ∉ t1.fp sx.heap.objs.size := fun j hj hm => by
      rcases o1.2 _ hm with z | z
      · have z' : (sx.heap.objs.size + j : Nat) = sx.heap.objs.size := z
        omega
      · have z' : (sx.heap.objs.size + j : Nat) < sx.heap.objs.size := z
        omega
    have n2 : ∀ j, j ≠ 1 → sx.heap.objs.size + j ∉ t2.fp (sx.heap.objs.size + 1) := fun j hj hm => by
      rcases o2.2 _ hm with z | z
      · have z' : (sx.heap.objs.size + j : Nat) = sx.heap.objs.size + 1 := z
        omega
      · have z' : (sx.heap.objs.size + j : Nat) < sx.heap.objs.size := z
        omega
    have ne : ∀ i j : Nat, i ≠ j → (sx.heap.objs.size + i : Nat) ≠ sx.heap.objs.size + j := fun i j h => by omega
    exact ⟨ne 2 4 (by decide), ne 3 4 (by decide), ne 2 3 (by decide), ne 2 0 (by decide), fp_self _ _, n1 4 (by decide), n1 3 (by decide), ne 2 1 (by decide), fp_self _ _, n2 4 (by decide), n2 3 (by decide), n2 0 (by decide), n1 1 (by decide)⟩
  refine ⟨sx.heap.objs.size + 4, [sx.heap.objs.size + 4, sx.heap.objs.size + 2, sx.heap.objs.size + 3, sx.heap.objs.size, sx.heap.objs.size + 1], _, _, H1, rfl, I2, turn_zipN (n := xs.length) (m := ys.length) sep o1.1 o2.1, ⟨⟨⟨_, _, hz, .inl rfl⟩, hTI, ⟨_, _, hTO⟩, Src.st_begin i1, Src.st_begin i2⟩, Nat.zero_le _⟩, fun b hb => ?_, by rw [eI]; exact q⟩
  have e' : b = sx.heap.objs.size + 4 ∨ b = sx.heap.objs.size + 2 ∨ b = sx.heap.objs.size + 3 ∨ b = sx.heap.objs.size ∨ b = sx.heap.objs.size + 1 := by simpa using hb
  have hle : sx.heap.objs.size ≤ b := by
    rcases e' with z | z | z | z | z
    · rw [z]; exact Nat.le_add_right _ _
    · rw [z]; exact Nat.le_add_right _ _
    · rw [z]; exact Nat.le_add_right _ _
    · rw [z]; exact Nat.le_refl _
    · rw [z]; exact Nat.le_add_right _ _
  exact I1.fpOk hle (I1.hok.fresh hle)
theorem i_zipN {X : L2.Cx} {e e2 : Expr} {ta : L2.TA} {As : List Arg} {p pos tpos : Pos} {tx : Str} (hm : X.mg "zip" = none) (ha : LJ X [e, e2] ta As) (hg : L2.Gl X "zip" := by rfl) (hs : starEach [e, e2] X.env = (false, eval e X.env) :: starEach [e2] X.env := by rfl) (hpl : (backTo pos (starEach [e2] X.env)).any (·.1) = false := by rfl) :
    IJ X (.Name tx tpos) (.Call (.Name "zip" p) [e, e2] [] pos) (iZipS X.K ta) (mArgs As gZip) := ⟨pi_zipN hg hm ha.p hs hpl, den_zip ha.d⟩
end VH

/-! A comprehension over a list of ours, which stays ours. -/
namespace VH
open PySem PySem.Spec PyProof.Rows L2
section
variable {K : Fk}
theorem itOk_own {a : Addr} {b : Bool} {xs : List D} (fz : D.isFzL xs = true) : ItOk K (Itl K a) [(.ref a, .nd b .lst xs)] xs := by
  refine ⟨fun i d H L e r => ?_, fun i H L e r => ?_⟩
  · obtain ⟨b', o, vs, w, e1, h1, _, f, l, hw, r1⟩ := R.childAt r e
    cases e1
    have hd : d.fz = d := D.fz_of d ((D.isFzL_all xs).mp fz d (List.mem_of_getElem? e))
    rw [hd, set_self e] at r1
    have hs := sqL_of h1 f (.inl rfl)
    exact ⟨⟨vs, w, hs, hw⟩, fun x H' ⟨e1, y⟩ => by
      subst e1
      have := y vs hs
      rw [hw] at this; cases this
      exact r1⟩
  · obtain ⟨b', o, vs, e1, h1, _, f, l⟩ := R.look r
    cases e1
    exact ⟨vs, sqL_of h1 f (.inl rfl), by omega⟩
def mCompP (i : Nat) (g : D → Env → Option Env) (c : EM Bool) (m : EM D) (vs : List Nat) : EM D := fun env => match slTake i env with
  | some (.nd b .lst xs, e0) => if D.isFzL xs = true then match compL g c m vs xs (wipeE e0 vs) with
    | some (ys, e1) => if ys.length ≤ sizeLine then some (.nd true .lst ys, e1.set i (some (.nd b .lst xs))) else none
    | none => none else none
  | _ => none
theorem den_compP {ix : List Nat} {i0 : Nat} {g : TG} {tt : TT} {te : TE} {vs : List Nat} {mg : D → Env → Option Env} {mc : EM Bool} {me : EM D} (hg : DenG K ix g mg) (hx : ix.all vs.contains = true) (hc : DenT K tt mc) (he : DenE K te me) :
    DenE K (tLc (iAny K (tVar i0)) g tt te vs) (mCompP i0 mg mc me vs) := by
  intro σ H env L d env' Q re e k
  unfold mCompP at e
  split at e
  · rename_i b0 ds e0 q
    split at e
    · rename_i hfz
      split at e
      · rename_i ys env1 q1
        split at e
        · rename_i hz
          cases e
          obtain ⟨hd0, rfl⟩ := slTake_eq q
          obtain ⟨v0, hv0, r1⟩ := re.take hd0
          obtain ⟨M0, qq⟩ := r1.val
          obtain ⟨a0, o0, vs0, rfl, h10, _, f0, l0⟩ := R.look qq
          have it : ItOk K (Itl K a0) [(.ref a0, .nd b0 .lst ds)] ds := itOk_own hfz
          refine ⟨_, hv0, .inl ⟨a0, rfl, ⟨vs0, sqL_of h10 f0 (.inl rfl)⟩, ?_⟩⟩
          have fin : ∀ {Dp : Addr} (H' : Hp), RE K H' (wipe σ vs) env1 ([(.ref a0, .nd b0 .lst ds)] ++ (.ref Dp, .nd true .lst ys) :: L) → Bare env1 vs → RE K H' σ (env1.set i0 (some (.nd b0 .lst ds))) ((.ref Dp, .nd true .lst ys) :: L) := fun {Dp} H' r hb => RE.back (r.unbare hb) hv0
          have hS : ([(V.ref a0, D.nd b0 .lst ds)] : List (V × D)) = [(.ref a0, .nd b0 .lst ds)] := rfl
          generalize hSS : ([(V.ref a0, D.nd b0 .lst ds)] : List (V × D)) = S at it fin
          have r1 : RE K H σ (env.set i0 none) (S ++ L) := by rw [← hSS]; exact r1
          intro Dp hD
          have hkept : Kept ix (fun τ : L2.St => wipe τ vs = wipe σ vs) := fun τ i w h p => by
            have : i ∈ vs := List.contains_iff_mem.mp (List.all_eq_true.mp hx i h)
            show wipe (τ.set i w) vs = wipe σ vs
            rw [wipe_set this]; exact p
          refine ⟨fun i m H => m = ds.length - i ∧ i ≤ ds.length ∧ ∃ env done rest, RE K H (wipe σ vs) env (S ++ (.ref Dp, .nd true .lst done) :: L) ∧ compL mg mc me vs (ds.drop i) env = some (rest, env1) ∧ done ++ rest = ys ∧ Bare env vs, ⟨ds.length, by simp, Nat.zero_le _, wipeE (env.set i0 none) vs, [], ys, ?_, by simpa using q1, rfl, bare_wipe _ _⟩, ?_⟩
          · have r2 : RE K (L2.upd H Dp (.lst [])) σ (env.set i0 none) ((.ref Dp, .nd true .lst []) :: (S ++ L)) := r1.lift (L1 := []) (L2 := [(.ref Dp, .nd true .lst [])]) fun M r => R.make (ps := []) (h := .lst) r hD (.lst [])
            exact (r2.wipe vs).perm (by exact List.perm_middle.symm)
          · rintro i m H ⟨rfl, hi, env, done, rest, r, ef, ey, hb⟩
            by_cases hlt : i < ds.length
            · refine .inr ⟨(it.goE (List.getElem?_eq_getElem hlt) r).1, ?_⟩
              rw [drop_cons hlt] at ef
              unfold compL at ef
              refine ⟨fun H => ∃ env done rest, RE K H (wipe σ vs) env (S ++ (.ref Dp, .nd true .lst done) :: L) ∧ compL mg mc me vs (ds.drop (i + 1)) env = some (rest, env1) ∧ done ++ rest = ys ∧ Bare env vs, fun H' ⟨env, a, b, h⟩ => ⟨ds.length - (i + 1), by omega, rfl, hlt, env, a, b, h⟩, fun x H' y => ?_⟩
              have r2 := (it.goE (List.getElem?_eq_getElem hlt) r).2 x H' y
              split at ef
              · rename_i e2 q2
                refine hg _ hkept x _ (wipe σ vs) H' env _ e2 _ r2 (by
                  have key : ∀ us : List Nat, (∀ u ∈ us, u ∈ vs) → wipe (wipe σ us) vs = wipe σ vs := by
                    intro us
                    induction us with
                    | nil => intro _; rfl
                    | cons u us ih =>
                      intro h
                      show wipe ((wipe σ us).set u none) vs = _
                      rw [wipe_set (h u List.mem_cons_self), ih fun w hw => h w (List.mem_cons_of_mem _ hw)]
                  exact key vs fun _ h => h) q2 fun σ2 H2 r3 P2 => ⟨P2, ?_⟩
                split at ef
                · rename_i e3 q3
                  refine hc σ2 H2 e2 _ true e3 _ r3 q3 fun H3 r4 => iteT ?_
                  split at ef
                  · rename_i y3 e4 q4
                    split at ef
                    · rename_i ys2 e5 q5
                      cases ef
                      refine he σ2 H3 e3 _ y3 e4 _ r4 q4 fun v H4 r5 => ?_
                      have r6 : RE K H4 σ2 e4 ([(v, y3), (.ref Dp, .nd true .lst done)] ++ (S ++ L)) := by
                        refine (r5.perm ?_)
                        exact List.Perm.cons _ (by exact List.perm_middle)
                      obtain ⟨l, q6, b6⟩ := r6.to
                      obtain ⟨a, us, ea, ha, hl, _⟩ := R.sizeL (q6.perm (.swap _ _ _))
                      cases ea
                      have hle : done.length < sizeLine := by
                        have : ys.length = done.length + (ys2.length + 1) := by rw [← ey]; simp
                        omega
                      refine ⟨us, ha, by omega, wipeE e4 vs, done ++ [y3], ys2, ?_, q5, by rw [← ey]; simp, bare_wipe _ _⟩
                      have r7 : RE K (L2.upd H4 Dp (.lst (us ++ [v]))) σ2 e4 ([(.ref Dp, .nd true .lst (done ++ [y3]))] ++ (S ++ L)) := b6 ((R.push q6 ha).2)
                      have r8 := r7.wipe vs
                      rw [P2] at r8
                      exact RE.perm (L := (.ref Dp, .nd true .lst (done ++ [y3])) :: (S ++ L)) (by exact List.perm_middle.symm) r8
                    · cases ef
                  · cases ef
                · rename_i e3 q3
                  refine hc σ2 H2 e2 _ false e3 _ r3 q3 fun H3 r4 => iteF ?_
                  have r8 := r4.wipe vs
                  rw [P2] at r8
                  exact ⟨_, _, _, r8, ef, ey, bare_wipe _ _⟩
                · cases ef
              · cases ef
            · have hi' : i = ds.length := by omega
              subst hi'
              rw [List.drop_length] at ef
              cases ef
              rw [List.append_nil] at ey
              subst ey
              refine .inl ⟨it.stopE (Nat.le_refl _) r, k _ H ?_⟩
              exact fin H r hb
        · cases e
      · cases e
    · cases e
  · cases e
end
theorem j_compP {X : Cx} (i0 : Nat) {x : Str} {px : Pos} {elt tg : Expr} {ifs : List Expr} {scope : Scope} {pos : Pos} (own : List (Str × Nat)) {g : TG} {ix : List Nat} {tt : TT} {te : TE} {mg : D → Env → Option Env} {mc : EM Bool} {me : EM D} (hc : X.calm = true) (hN : X.N.Nodup) (ok : BlkOk X.N X.env.scope scope own)
    (hg : ∀ (s : Shared) (H : Hp) (C : Addr) (cl : List (Str × Addr)) (fp : List Addr), GJ (X.blk s H scope (compEnvC scope cl C X.env) fp) tg g ix mg) (ht : ∀ (s : Shared) (H : Hp) (C : Addr) (cl : List (Str × Addr)) (fp : List Addr), TsJ (X.blk s H scope (compEnvC scope cl C X.env) fp) ifs tt mc)
    (he : ∀ (s : Shared) (H : Hp) (C : Addr) (cl : List (Str × Addr)) (fp : List Addr), EJ (X.blk s H scope (compEnvC scope cl C X.env) fp) elt te me) (hN0 : X.N[i0]? = some x := by rfl) (hv : Vis X.env.scope x := by first | exact Or.inl rfl | exact Or.inr (Or.inl rfl) | exact Or.inr (Or.inr rfl)) (hd : (x == ("__debug__" : Str)) = false := by decide)
    (hcd : (x == ("__classdict__" : Str)) = false := by decide) (hx : ix.all (own.map (·.2)).contains = true := by rfl) (hs : ∀ y, foldedSetIterable (.Name x px) X.env y = pure y := by intro _; rfl) :
    EJ X (.ListComp elt [⟨tg, .Name x px, ifs, 0⟩] scope pos) (tLc (iAny X.K (tVar i0)) g tt te (own.map (·.2))) (mCompP i0 mg mc me (own.map (·.2))) :=
  ⟨pe_lc hc hN (pi_any (pe_var hN0 hv hd hcd)) ok (fun s H C cl fp => (hg s H C cl fp).p) (fun s H C cl fp => (ht s H C cl fp).p) (fun s H C cl fp => (he s H C cl fp).p) hs,
   den_compP (hg X.s_0 X.H_0 0 [] []).d hx (ht X.s_0 X.H_0 0 [] []).d (he X.s_0 X.H_0 0 [] []).d⟩
theorem j_lcP {X : Cx} (i0 : Nat) {x : Str} {px : Pos} {elt tg : Expr} {ifs : List Expr} {scope : Scope} {pos : Pos} (own : List (Str × Nat)) {g : Fam TG} {ix : List Nat} {tt : Fam TT} {te : Fam TE} {mg : D → Env → Option Env} {mc : EM Bool} {me : EM D} (hc : X.calm = true) (hN : X.N.Nodup) (ok : BlkOk X.N X.env.scope scope own)
    (hg : ∀ (s : Shared) (H : Hp) (C : Addr) (cl : List (Str × Addr)) (fp : List Addr), GJ (X.blk s H scope (compEnvC scope cl C X.env) fp) tg (g s H C cl fp) ix mg) (ht : ∀ (s : Shared) (H : Hp) (C : Addr) (cl : List (Str × Addr)) (fp : List Addr), TsJ (X.blk s H scope (compEnvC scope cl C X.env) fp) ifs (tt s H C cl fp) mc)
    (he : ∀ (s : Shared) (H : Hp) (C : Addr) (cl : List (Str × Addr)) (fp : List Addr), EJ (X.blk s H scope (compEnvC scope cl C X.env) fp) elt (te s H C cl fp) me)
    (eg : ∀ s H C cl fp, g s H C cl fp = g X.s_0 X.H_0 0 [] [] := by intros; rfl) (et : ∀ s H C cl fp, tt s H C cl fp = tt X.s_0 X.H_0 0 [] [] := by intros; rfl) (ee : ∀ s H C cl fp, te s H C cl fp = te X.s_0 X.H_0 0 [] [] := by intros; rfl)
    (hN0 : X.N[i0]? = some x := by rfl) (hv : Vis X.env.scope x := by first | exact Or.inl rfl | exact Or.inr (Or.inl rfl) | exact Or.inr (Or.inr rfl)) (hd : (x == ("__debug__" : Str)) = false := by decide)
    (hcd : (x == ("__classdict__" : Str)) = false := by decide) (hx : ix.all (own.map (·.2)).contains = true := by rfl) (hs : ∀ y, foldedSetIterable (.Name x px) X.env y = pure y := by intro _; rfl) :
    EJ X (.ListComp elt [⟨tg, .Name x px, ifs, 0⟩] scope pos) (tLc (iAny X.K (tVar i0)) (g X.s_0 X.H_0 0 [] []) (tt X.s_0 X.H_0 0 [] []) (te X.s_0 X.H_0 0 [] []) (own.map (·.2))) (mCompP i0 mg mc me (own.map (·.2))) :=
  j_compP i0 own hc hN ok (fun s H C cl fp => eg s H C cl fp ▸ hg s H C cl fp) (fun s H C cl fp => et s H C cl fp ▸ ht s H C cl fp) (fun s H C cl fp => ee s H C cl fp ▸ he s H C cl fp) hN0 hv hd hcd hx hs
theorem wE_compP {env : Env} {Q : D → Env → Prop} {i : Nat} {g : D → Env → Option Env} {c : EM Bool} {m : EM D} {vs : List Nat} {b : Bool} {xs : List D} (h : env[i]? = some (some (.nd b .lst xs))) (hf : D.isFzL xs = true) : wE (mCompP i g c m vs) env Q ↔ wE (compL g c m vs xs) (wipeE (env.set i none) vs) fun ys e => ys.length ≤ sizeLine ∧ Q (.nd true .lst ys) (e.set i (some (.nd b .lst xs))) := by
  have ht : slTake i env = some (.nd b .lst xs, env.set i none) := by simp only [slTake, h]
  constructor
  · rintro ⟨d, e, hh, q⟩
    simp only [mCompP, ht, hf, if_true] at hh
    split at hh
    · rename_i ys e1 h1
      split at hh
      · rename_i hz; cases hh; exact ⟨ys, e1, h1, hz, q⟩
      · cases hh
    · cases hh
  · rintro ⟨ys, e1, h1, hz, q⟩
    exact ⟨_, _, by simp only [mCompP, ht, hf, if_true, h1, hz], q⟩
end VH

namespace VH
open PySem PySem.Spec PyProof.Rows L2
/-! ### a Hook whose defs may stand anywhere, with one look more -/
def obsB (n : Nat) (fa : List He.Fa) (fn : List He5.DefA) (ex : PySem.W.Frag → Bool) (g : Addr → Option Obj) : He.AlD := ((He5.obsAG n fa fn g).1 && ex (He.frG g (He5.asA g n)), (He5.obsAG n fa fn g).2)
def SaysB (fa : List He.Fa) (fn : List He5.DefA) (ex : PySem.W.Frag → Bool) (K : PySem.W.Frag) : Prop := He5.SaysA fa fn K ∧ ex K = true
theorem saysB_of {n : Nat} {fa : List He.Fa} {fn : List He5.DefA} {ex : PySem.W.Frag → Bool} {g : Addr → Option Obj} (h : obsB n fa fn ex g = He5.valA fn) : SaysB fa fn ex (He.frG g (He5.asA g n)) := by
  unfold obsB at h
  have h1 : (((He5.obsAG n fa fn g).1 && ex (He.frG g (He5.asA g n))) = true) := congrArg (fun z : He.AlD => z.1) h
  have h2 : (He5.obsAG n fa fn g).2 = (He5.valA fn).2 := by rw [← h]
  obtain ⟨h3, h4⟩ := Bool.and_eq_true_iff.mp h1
  exact ⟨Prod.ext h3 h2, h4⟩
def hookB (n : Nat) (fa : List He.Fa) (fn : List He5.DefA) (ex : PySem.W.Frag → Bool) : PySem.W.Hook where
  α := He.AlD
  obs := fun s => obsB n fa fn ex s.heap.get?
  val := fun _ => He5.valA fn
  says := fun _ h => ∃ K : PySem.W.Frag, K.In h ∧ SaysB fa fn ex K
  of := fun _ _ e => ⟨_, He.frG_in, saysB_of e⟩
  keeps := fun _ _ _ ⟨K, hK, c⟩ k => ⟨K, PySem.W.Frag.In.keeps hK k, c⟩
theorem obsB_eq {n : Nat} {fa : List He.Fa} {fn : List He5.DefA} {ex : PySem.W.Frag → Bool} {g : Addr → Option Obj} {s : Shared} (h : ∀ a, g a = s.heap.get? a) : obsB n fa fn ex g = (hookB n fa fn ex).obs s := by
  have e : g = s.heap.get? := funext h
  rw [e] <;> rfl
/-! ### facts of a classmethod -/
def creadB (K : PySem.W.Frag) (C : Addr) : Bool := PySem.W.readsIn K C (.type "type") && decide (PySem.W.specialIn K (.ref C) "__getattribute__" = some (some (.builtin "type.__getattribute__")))
theorem creadB_ok {K : PySem.W.Frag} {C : Addr} (h : creadB K C = true) : ClX.CRead K C (.type "type") := by
  obtain ⟨h1, h2⟩ := Bool.and_eq_true_iff.mp h
  exact ⟨h1, of_decide_eq_true h2⟩
def cmetB (K : PySem.W.Frag) (C : Addr) (m : Str) : Bool := He5.wrapB K C "classmethod" "classmethod.__get__" m && PySem.W.fnIn K (He5.wf K C "classmethod" m)
theorem cmetB_ok {K : PySem.W.Frag} {C : Addr} {m : Str} (h : cmetB K C m = true) : ClX.CMet K C (.type "type") m (He.ma K C m) (He5.wf K C "classmethod" m) := by
  obtain ⟨h1, h2⟩ := Bool.and_eq_true_iff.mp h
  exact He5.cmet_of h1 h2
/-- a property's getter -/
def pgA (K : PySem.W.Frag) (C : Addr) (m : Str) : Addr := He5.wf K C "property" m
def propB (K : PySem.W.Frag) (C : Addr) (m : Str) : Bool := decide (PySem.W.findIn K (.ref C) m = some (some (.ref (He.ma K C m)))) && (decide (PySem.W.specialIn K (.ref (He.ma K C m)) "__get__" = some (some (.builtin "property.__get__"))) && (decide (PySem.W.takesIn K (.ref (He.ma K C m)) = some true) && (match PySem.W.recIn K (He.ma K C m) "property" with
    | some (.ref _ :: _) => true
    | _ => false)))
theorem propB_ok {K : PySem.W.Frag} {C : Addr} {m : Str} (h : propB K C m = true) : PropOf K C m (He.ma K C m) (pgA K C m) := by
  obtain ⟨h1, h⟩ := Bool.and_eq_true_iff.mp h
  obtain ⟨h2, h⟩ := Bool.and_eq_true_iff.mp h
  obtain ⟨h3, h4⟩ := Bool.and_eq_true_iff.mp h
  refine ⟨of_decide_eq_true h1, of_decide_eq_true h2, of_decide_eq_true h3, ?_⟩
  unfold pgA He5.wf
  split at h4
  · rename_i f r e
    exact ⟨r, by rw [e]⟩
  · cases h4
end VH

/-! The later operations, by what is wanted behind them. -/
namespace VH
open PySem L2
section
variable {env : Env} {Q : D → Env → Prop} {QF : D → List D → Prop} {QA : List D → List (Option Part) → Env → Prop} {QL : List D → Prop} {m : EM D} {as : List Arg} {i : Nat}
/-! f'..' -/
def fmtP (d : D) (Q : D → Prop) : Prop := match d with
  | .str y => y.length ≤ sizeLine ∧ Q (.str y)
  | .int i => i.natAbs.log2 < 1920 ∧ Q (.str (toString i : PySem.Str))
  | _ => False
theorem wE_fmt : wE (mFmt m) env Q ↔ wE m env fun d e => fmtP d fun x => Q x e := by
  constructor
  · rintro ⟨d, e, h, q⟩
    unfold mFmt at h
    split at h
    · rename_i y e1 h1
      split at h
      · rename_i hz; cases h; exact ⟨_, _, h1, hz, q⟩
      · cases h
    · rename_i j e1 h1
      split at h
      · rename_i hz; cases h; exact ⟨_, _, h1, hz, q⟩
      · cases h
    · cases h
  · rintro ⟨d, e, h, q⟩
    cases d with
    | str y => exact ⟨_, e, by simp only [mFmt, h]; rw [if_pos q.1], q.2⟩
    | int j => exact ⟨_, e, by simp only [mFmt, h]; rw [if_pos q.1], q.2⟩
    | _ => exact q.elim
theorem fmt_str {y : Str} {Q : D → Prop} : fmtP (.str y) Q ↔ y.length ≤ sizeLine ∧ Q (.str y) := Iff.rfl
theorem fmt_int {j : Int} {Q : D → Prop} : fmtP (.int j) Q ↔ j.natAbs.log2 < 1920 ∧ Q (.str (toString j : PySem.Str)) := Iff.rfl
def wJs : List (EM D) → Str → Env → (Str → Env → Prop) → Prop
  | [], acc, env, R => R acc env
  | m :: ms, acc, env, R => wE m env fun d e => ∃ y, d = .str y ∧ (acc ++ y).length ≤ sizeLine ∧ wJs ms (acc ++ y) e R
theorem wJs_ok : ∀ {ms : List (EM D)} {acc : Str} {env : Env} {R : Str → Env → Prop}, (∃ x e, mJs ms acc env = some (x, e) ∧ R x e) ↔ wJs ms acc env R
  | [], acc, env, R => ⟨fun ⟨x, e, h, q⟩ => by cases h; exact q, fun q => ⟨_, _, rfl, q⟩⟩
  | m :: ms, acc, env, R => by
    constructor
    · rintro ⟨x, e, h, q⟩
      unfold mJs at h
      split at h
      · rename_i y e1 h1
        split at h
        · rename_i hz
          exact ⟨_, _, h1, y, rfl, hz, wJs_ok.mp ⟨x, e, h, q⟩⟩
        · cases h
      · cases h
    · rintro ⟨d, e, h, y, rfl, hz, q⟩
      obtain ⟨x, e2, h2, q2⟩ := wJs_ok.mpr q
      exact ⟨x, e2, by simp only [mJs, h]; rw [if_pos hz]; exact h2, q2⟩
theorem wE_joined {ms : List (EM D)} : wE (mJoined ms) env Q ↔ wJs ms Str.empty env fun x e => Q (.str x) e := by
  rw [← wJs_ok]
  constructor
  · rintro ⟨d, e, h, q⟩
    unfold mJoined at h
    split at h
    · rename_i x e1 h1; cases h; exact ⟨x, _, h1, q⟩
    · cases h
  · rintro ⟨x, e, h, q⟩
    exact ⟨_, e, by simp only [mJoined, h], q⟩
theorem wJs_nil {acc : Str} {R : Str → Env → Prop} : wJs [] acc env R ↔ R acc env := Iff.rfl
theorem wJs_cons {ms : List (EM D)} {acc : Str} {R : Str → Env → Prop} : wJs (m :: ms) acc env R ↔ wE m env fun d e => ∃ y, d = .str y ∧ (acc ++ y).length ≤ sizeLine ∧ wJs ms (acc ++ y) e R := Iff.rfl
theorem ex_str {a : Str} {P : Str → Prop} : (∃ b, D.str a = D.str b ∧ P b) ↔ P a := ⟨fun ⟨b, e, q⟩ => by cases e; exact q, fun q => ⟨a, rfl, q⟩⟩
/-! parts at computed places -/
theorem wA_at : wA (.pt i (pAt m) :: as) env QA ↔ wE (slTake i) env fun d e => wE m e fun y e1 => ∃ c p, selAt y d = some (c, p) ∧ wA as e1 fun ds ps e => QA (c :: ds) (some p :: ps) e := by
  constructor
  · rintro ⟨ds, ps, e, h, q⟩
    simp only [evs, Arg.ev, pAt] at h
    cases h1 : slTake i env with
    | none => rw [h1] at h; cases h
    | some x =>
      obtain ⟨d, e1⟩ := x
      rw [h1] at h
      simp only at h
      cases h2 : m e1 with
      | none => rw [h2] at h; cases h
      | some y =>
        obtain ⟨k, e2⟩ := y
        rw [h2] at h
        simp only at h
        cases h3 : selAt k d with
        | none => rw [h3] at h; cases h
        | some z =>
          obtain ⟨c, p⟩ := z
          rw [h3] at h
          simp only at h
          cases h4 : evs as e2 with
          | none => rw [h4] at h; cases h
          | some u =>
            obtain ⟨ds', ps', e3⟩ := u
            rw [h4] at h
            cases h
            exact ⟨d, e1, h1, k, e2, h2, c, p, h3, ds', ps', _, h4, q⟩
  · rintro ⟨d, e1, h1, k, e2, h2, c, p, h3, ds, ps, e3, h4, q⟩
    exact ⟨_, _, _, by simp only [evs, Arg.ev, pAt, h1, h2, h3, h4], q⟩
/-! texts -/
theorem wF_split {a b : Str} : wF fSplit [.str a, .str b] QF ↔ (b.length ≠ 0 ∧ a.length + 2 ≤ sizeLine) ∧ QF (.nd true .lst ((Txt.split a b).map .str)) [.str a, .str b] := wF_if rfl rfl
theorem wF_strI {j : Int} : wF fStrP [.int j] QF ↔ j.natAbs.log2 < 1920 ∧ QF (.str (toString j : PySem.Str)) [.int j] := wF_if rfl rfl
theorem wF_strS {a : Str} : wF fStrP [.str a] QF ↔ QF (.str a) [.str a] := wF_some rfl rfl
theorem wF_sindex {a b : Str} {k : Nat} (h : Txt.index0 a b = some k) : wF fSIndex [.str a, .str b] QF ↔ QF (.int (k : Nat)) [.str a, .str b] := wF_some (by simp only [fSIndex, h]) rfl
/-! methods -/
theorem wF_meth {C : Addr} {nm : Str} {fm : List D → Option (D × List D)} {b : Bool} {ns : List Str} {xs r : List D} (h : kix ns nm = none) : wF (fMeth C nm fm) (.nd b (.ins C ns) xs :: r) QF ↔ wF fm (.nd b (.ins C ns) xs :: r) QF := by
  have e : fMeth C nm fm (.nd b (.ins C ns) xs :: r) = fm (.nd b (.ins C ns) xs :: r) := by simp only [fMeth, h, Option.isNone_none, and_self, if_true]
  unfold wF; rw [e]
theorem wF_cm {C : Addr} {fm : List D → Option (D × List D)} {r : List D} : wF (fCM C fm) (.ref C :: r) QF ↔ wF fm (.ref C :: r) QF := by
  have e : fCM C fm (.ref C :: r) = fm (.ref C :: r) := by simp only [fCM, if_true]
  unfold wF; rw [e]
theorem wF_lenO {C : Addr} {fm : List D → Option (D × List D)} {b : Bool} {ns : List Str} {xs : List D} : wF (fLenO C fm) [.nd b (.ins C ns) xs] QF ↔ wF fm [.nd b (.ins C ns) xs] fun d os => ∃ n, d = .int n ∧ (0 ≤ n ∧ n < 2 ^ 63) ∧ QF (.int n) os := by
  constructor
  · rintro ⟨d, os, h, hl, q⟩
    simp only [fLenO, if_true] at h
    split at h
    · rename_i n os' h1
      split at h
      · rename_i hn; cases h; exact ⟨_, _, h1, hl, n, rfl, hn, q⟩
      · cases h
    · cases h
  · rintro ⟨d, os, h, hl, n, rfl, hn, q⟩
    exact ⟨_, os, by simp only [fLenO, if_true, h]; rw [if_pos hn], hl, q⟩
theorem wF_strO {C : Addr} {fm : List D → Option (D × List D)} {b : Bool} {ns : List Str} {xs : List D} : wF (fStrO C fm) [.nd b (.ins C ns) xs] QF ↔ wF fm [.nd b (.ins C ns) xs] fun d os => ∃ x, d = .str x ∧ QF (.str x) os := by
  constructor
  · rintro ⟨d, os, h, hl, q⟩
    simp only [fStrO, if_true] at h
    split at h
    · rename_i n os' h1; cases h; exact ⟨_, _, h1, hl, n, rfl, q⟩
    · cases h
  · rintro ⟨d, os, h, hl, n, rfl, q⟩
    exact ⟨_, os, by simp only [fStrO, if_true, h], hl, q⟩
theorem wE_makeL {C : Addr} {fm : List D → Option (D × List D)} (h : env[i]? = some (some (.ref C))) : wE (mMakeL i C fm as) env Q ↔ wE (mApp (fMake C fm) as) env Q := by
  have e : mMakeL i C fm as env = mApp (fMake C fm) as env := by simp only [mMakeL, h, if_true]
  unfold wE; rw [e]
/-! walks -/
theorem wO_enumK {k0 : Int} {d : D} {xs : List D} (h : d.items = some xs) : wO (gEnumK k0 [d]) QL ↔ QL (enumD k0 0 xs) := by
  simp only [gEnumK, h]; exact wO_some
theorem wO_zip {d e : D} {xs ys : List D} (h1 : d.items = some xs) (h2 : e.items = some ys) : wO (gZip [d, e]) QL ↔ QL (zipD xs ys) := by
  simp only [gZip, h1, h2]; exact wO_some
end
end VH

local macro_rules
  | `(tactic| bv_omega) => `(tactic| simp only [VH.putB_nil, VH.putB_ex, VH.putB_sl, VH.putB_pt, List.set_cons_zero, List.set_cons_succ, List.map_cons, List.map_nil, List.cons_append, List.nil_append, List.replicate, Nat.reduceSub, List.length_cons, List.length_nil, Nat.reduceAdd,
  VH.fz_int, VH.fz_str, VH.fz_bl, VH.fz_non, VH.fz_nd, VH.fzL_nil, VH.fzL_cons, VH.fzL_ints, VH.fzL_strs, VH.Part.fill, List.take_succ_cons, List.take_zero, List.drop_succ_cons, List.drop_zero, VH.wipeE, if_true, if_false, Bool.not_true, Bool.not_false, Bool.false_eq_true])
local macro_rules
  | `(tactic| ac_nf) => `(tactic| repeat (first | (with_reducible first
  | refine VH.wE_app.mpr ?_ | refine VH.wA_ex.mpr ?_ | refine VH.wA_nil.mpr ?_ | refine VH.wE_c.mpr ?_ | refine VH.wA_sl.mpr ?_
  | refine VH.wS_seq.mpr ?_ | refine VH.nxt_nx.mpr ?_ | refine VH.nxt_rt.mpr ?_ | refine VH.nxt_ct.mpr ?_ | refine VH.nxt_bk.mpr ?_ | refine VH.turned_nx.mpr ?_ | refine VH.turned_rt.mpr ?_ | refine VH.turned_ct.mpr ?_ | refine VH.turned_bk.mpr ?_ | refine VH.wS_asg.mpr ?_ | refine VH.wS_drop.mpr ?_ | refine VH.wS_ret.mpr ?_ | refine VH.wS_if.mpr ?_ | refine VH.wS_retN.mpr ?_ | refine VH.wS_next.mpr ?_ | refine VH.wS_cont.mpr ?_ | refine VH.wS_break.mpr ?_
  | refine VH.wO_some.mpr ?_ | refine VH.gm_name.mpr ?_ | refine VH.gm_nil.mpr ?_ | refine VH.gm_cons.mpr ?_ | refine (VH.gm_tup (by with_unfolding_all rfl)).mpr ?_
  | refine VH.wE_test.mpr ?_ | refine VH.wE_andT.mpr ?_ | refine VH.wE_orT.mpr ?_ | refine VH.wE_notT.mpr ?_ | refine VH.wE_andV.mpr ?_ | refine VH.wE_orV.mpr ?_ | refine VH.wE_notV.mpr ?_ | refine VH.wE_ifE.mpr ?_ | refine VH.wE_tt.mpr ?_
  | refine VH.ex_bl.mpr ?_ | refine VH.ex_int.mpr ?_ | refine VH.ex_two.mpr ?_ | refine VH.ex_three.mpr ?_
  | refine VH.wS_par2.mpr ?_ | refine VH.wS_par3.mpr ?_ | refine VH.wE_apps.mpr ?_ | refine VH.wE_args.mpr ?_ | refine VH.wE_it.mpr ?_ | refine VH.wE_slice.mpr ?_ | refine VH.wE_oNone.mpr ?_ | refine VH.wE_oSome.mpr ?_ | refine VH.wE_comp.mpr ?_ | refine VH.wS_for_.mpr ?_ | refine VH.wE_dnewK.mpr ?_ | refine VH.wE_disp.mpr ?_ | refine VH.wE_dispT.mpr ?_ | refine VH.wP_nil.mpr ?_ | refine VH.wP_cons.mpr ?_ | refine VH.it_lst.mpr ?_ | refine VH.it_tup.mpr ?_) | (first | (with_reducible refine (VH.wE_get (by with_unfolding_all rfl)).mpr ?_) | (with_reducible refine (VH.wE_take (by with_unfolding_all rfl)).mpr ?_) | (with_reducible refine (VH.wA_part (by with_unfolding_all rfl) (by with_unfolding_all rfl)).mpr ?_) | (with_reducible refine VH.gLst_if.mpr ⟨by first | decide | (simp [PySem.sizeLine]; done), ?_⟩) | (with_reducible refine VH.gTup_if.mpr ⟨by first | decide | (simp [PySem.sizeLine]; done), ?_⟩) | (with_reducible refine VH.gTupO_if.mpr ⟨by first | decide | (simp [PySem.sizeLine]; done), ?_⟩)) | bv_omega | (with_reducible first | refine VH.wF_addI.mpr ?_ | refine VH.wF_subI.mpr ?_ | refine VH.wF_gtI.mpr ?_ | refine VH.wF_geI.mpr ?_ | refine VH.wF_leI.mpr ?_ | refine VH.wF_ltI.mpr ?_ | refine VH.wF_addII.mpr ?_ | refine VH.wF_intI.mpr ?_ | refine VH.wF_max2.mpr ?_ | refine VH.wF_lenL.mpr ?_ | refine VH.wF_lenT.mpr ?_ | refine VH.wF_listL.mpr ?_ | refine VH.wF_rev.mpr ?_) | (with_reducible first | refine VH.wE_fmt.mpr ?_ | refine VH.wE_joined.mpr ?_ | refine VH.wJs_cons.mpr ?_ | refine VH.wJs_nil.mpr ?_ | refine VH.ex_str.mpr ?_ | refine VH.wA_at.mpr ?_ | refine VH.wF_strS.mpr ?_ | refine VH.wF_cm.mpr ?_ | refine VH.wF_lenO.mpr ?_ | refine VH.wF_strO.mpr ?_) | (with_reducible first | refine VH.wF_mulI.mpr ⟨by with_unfolding_all first | exact Or.inr (by decide) | exact Or.inl (by decide) | omega, ?_⟩ | refine VH.wF_modI.mpr ⟨by with_unfolding_all first | decide | assumption | omega, ?_⟩ | refine VH.wF_divI.mpr ⟨by with_unfolding_all first | decide | omega, ?_⟩ | refine VH.wF_powI.mpr ⟨by with_unfolding_all first | decide | omega, ?_⟩)))

namespace K02
open PySem L2 VH
def top (i : Nat) : Stmt := PySem.Challenge.pw_veilhouse_k02_texts_of_rules.main.body.getD i (.Pass ⟨0, 0, 0, 0⟩)
/-- where the classes and their methods lie -/
structure Cs where
  Rules : Addr
  f_Rules___init__ : Addr
  f_Rules_read : Addr
  f_Rules___str__ : Addr
  f_Rules___len__ : Addr
  f_Rules___eq__ : Addr
  f_Rules_led : Addr
/-- what the module has -/
structure Tx (K : PySem.W.Frag) (mg : Str → Option Value) (C : Cs) : Prop where
  f_all : mg "all" = none
  f_bool : mg "bool" = none
  f_dict : mg "dict" = none
  f_enumerate : mg "enumerate" = none
  f_int : mg "int" = none
  f_isinstance : mg "isinstance" = none
  f_len : mg "len" = none
  f_list : mg "list" = none
  f_max : mg "max" = none
  f_range : mg "range" = none
  f_repr : mg "repr" = none
  f_set : mg "set" = none
  f_sorted : mg "sorted" = none
  f_str : mg "str" = none
  f_sum : mg "sum" = none
  f_tuple : mg "tuple" = none
  f_zip : mg "zip" = none
  c_BLANK : ∃ t, mg "BLANK" = some (.str " " t)
  c_BREAK : ∃ t, mg "BREAK" = some (.str "\n" t)
  c_DIGITS : ∃ t, mg "DIGITS" = some (.str "0123456789" t)
  c_FIRST_PARTS : ∃ t, mg "FIRST_PARTS" = some (.int (4) t)
  c_LETTERS : ∃ t, mg "LETTERS" = some (.str "abcdefghijklmnopqrstuvwxyz" t)
  c_MOST_DIGITS : ∃ t, mg "MOST_DIGITS" = some (.int (3) t)
  c_MOST_STATES : ∃ t, mg "MOST_STATES" = some (.int (999) t)
  c_MOVE_PARTS_rules : ∃ t, mg "MOVE_PARTS_rules" = some (.int (3) t)
  c_MOVE_PARTS_ruletexts : ∃ t, mg "MOVE_PARTS_ruletexts" = some (.int (5) t)
  c_MOVE_WORD : ∃ t, mg "MOVE_WORD" = some (.str "move" t)
  c_RULES_WORD : ∃ t, mg "RULES_WORD" = some (.str "rules" t)
  g_Rules : mg "Rules" = some (.ref C.Rules)
  k_Rules : Cls K C.Rules
  y_Rules : ClsY K C.Rules
  m_Rules : Mk K C.Rules C.f_Rules___init__
  e_Rules : PySem.W.findIn K (.ref C.Rules) "__eq__" = some (some (.ref C.f_Rules___eq__))
  f_Rules___eq__ : PySem.W.isFn K (.ref C.f_Rules___eq__) = true
  me_Rules___len__ : Meth K C.Rules "__len__" C.f_Rules___len__
  me_Rules___str__ : Meth K C.Rules "__str__" C.f_Rules___str__
  me_Rules_led : Meth K C.Rules "led" C.f_Rules_led
  cr_Rules : ClX.CRead K C.Rules (.type "type")
  cm_Rules_read : ∃ p, ClX.CMet K C.Rules (.type "type") "read" p C.f_Rules_read
  n_Rules_heard : NoAttr K C.Rules "heard"
  n_Rules_rows : NoAttr K C.Rules "rows"
  n_Rules_steps : NoAttr K C.Rules "steps"
  n_Rules_written : NoAttr K C.Rules "written"
section
variable {P : Program} {w : World} {K : PySem.W.Frag} {mg : Str → Option Value} {base : Heap} {C : Cs}
abbrev s_are_letters : Stmt := top 16
abbrev N_are_letters : List Str := ["thing", "sign", "one", "other"]
theorem sc_are_letters : FnScope ["thing", "sign", "one", "other"] ["thing"] (defScope s_are_letters) := ⟨rfl, rfl, rfl, by decide +kernel, rfl, by decide +kernel, by decide +kernel⟩
def m_are_letters (C : Cs) : SM := (sSeq (sIf (mOrT (mNotT (mTest (mApp fIsi [(.ex (mVar 0)), .ex (mC (.hole (.ty "str")))]))) (mOrT (mTest (mApp fEq [(.ex (mVar 0)), (.ex (mC (.str "")))])) (mNotT (mTest (mApp fAll [(.ex (mComp (mIt (mVar 0)) (gmName 1) (fun env => some (true, env)) (mApp (fInS false) [(.ex (mVar 1)), (.ex (mC (.str "abcdefghijklmnopqrstuvwxyz")))]) [1]))]))))) (sRet (mC (.bl false))) sNext)
  (sRet (mApp fAll [(.ex (mComp (mArgs [(.ex (mSlice (mVar 0) oNone (oSome (mNeg (mC (.int 1)))))), (.ex (mSlice (mVar 0) (oSome (mC (.int 1))) oNone))] gZip) (gmTup 2 (gmCons (gmName 2) (gmCons (gmName 3) gmNil))) (fun env => some (true, env)) (mApp fLt [(.ex (mVar 2)), (.ex (mVar 3))]) [2, 3]))])))
def fm_are_letters (C : Cs) := fnD 1 4 [] (m_are_letters C)
theorem bj_are_letters {f : Addr} (T : Tx K mg C)  (cdv : Value) (A : Around) (outer : List PySem.Env) (s : Shared) (H : Hp) (E : XK) (hr : Room 0 (A.deeper (PyProof.Rows.envOfC "are_letters" (defScope s_are_letters) s.heap.objs.size f cdv))) : ∃ t, BJ (cxOf (L2.CX P w) P w K mg base ["thing", "sign", "one", "other"] "are_letters" (defScope s_are_letters) f cdv A outer s H E).nox [] (defBody s_are_letters) t (m_are_letters C) :=
  have sc := sc_are_letters
  have hu := hu_of hr
  ⟨_, (b_cons (s_if (t_w (w_or (t_not (t_val (j_cb call_isi den_isi T.f_isinstance (l_cons (a_e (j_var 0)) (l_cons (a_e (j_ty T.f_str (by decide +kernel))) l_nil))))) (w_or (t_cmp (op_eqD hr.units) den_eq (nomark _) (a_e (j_var 0)) (a_e j_str)) (w_or1 (t_not (t_val (j_cb (cr_all rfl) den_all T.f_all (l_cons (a_e (j_lc [("sign", 1)] rfl sc.nd (blkOk_by (by first | (show blkC N_are_letters (defScope s_are_letters) _ _ = true; decide +kernel) | rfl)) (i_any (j_var 0)) (fun _ _ _ _ _ => (g_name 1 sc.nd)) (fun _ _ _ _ _ => ts_nil) (fun _ _ _ _ _ => (j_cmp op_inS (den_inS false) (by rfl) (a_e (j_var 1)) (a_e (j_glob (v := .str "abcdefghijklmnopqrstuvwxyz") T.c_LETTERS.choose_spec ⟨_, rfl⟩ (.str _))))))) l_nil)))))))) (b_one (s_ret j_bl)) b_nil)
      (b_one (s_ret (j_cb (cr_all rfl) den_all T.f_all (l_cons (a_e (j_lc [("one", 2), ("other", 3)] rfl sc.nd (blkOk_by (by first | (show blkC N_are_letters (defScope s_are_letters) _ _ = true; decide +kernel) | rfl)) (i_zip T.f_zip (l_cons (a_e (j_slice (j_var 0) o_none (o_some (j_neg j_int)))) (l_cons (a_e (j_slice (j_var 0) (o_some j_int) o_none)) l_nil))) (fun _ _ _ _ _ => (g_tupK K 2 rfl (gs_cons (g_name 2 sc.nd) (gs_cons (g_name 3 sc.nd) gs_nil)))) (fun _ _ _ _ _ => ts_nil) (fun _ _ _ _ _ => (j_cmp op_ltA den_ord (nomark _) (a_e (j_var 2)) (a_e (j_var 3)))))) l_nil)))))⟩
theorem ok_are_letters {f : Addr} {fd : FuncData} (F : FunD K "are_letters" "are_letters" (defArgs s_are_letters) (defBody s_are_letters) (defScope s_are_letters) [] [] f fd) (T : Tx K mg C) (hm : mg "are_letters" = some (.ref f)) (hb : Binds K fd ["thing"] [])  : Df P w K mg base "are_letters" 1 1 (fm_are_letters C) := df_of F sc_are_letters hm hb rfl rfl (by decide) (bj_are_letters T )
abbrev s_number_in : Stmt := top 17
abbrev N_number_in : List Str := ["word", "number", "sign"]
theorem sc_number_in : FnScope ["word", "number", "sign"] ["word"] (defScope s_number_in) := ⟨rfl, rfl, rfl, by decide +kernel, rfl, by decide +kernel, by decide +kernel⟩
def m_number_in (C : Cs) : SM := (sSeq (sIf (mOrT (mTest (mApp fEq [(.ex (mVar 0)), (.ex (mC (.str "")))])) (mOrT (mTest (mApp fGt [(.ex (mApp fLen [(.ex (mVar 0))])), (.ex (mC (.int (3))))])) (mNotT (mTest (mApp fAll [(.ex (mComp (mIt (mVar 0)) (gmName 2) (fun env => some (true, env)) (mApp (fInS false) [(.ex (mVar 2)), (.ex (mC (.str "0123456789")))]) [2]))]))))) (sRet (mC .non)) sNext)
  (sSeq (sIf (mAndT (mTest (mApp fEq [(.ex (mApp fIx [(.ex (mVar 0)), (.ex (mC (.int 0)))])), (.ex (mC (.str "0")))])) (mTest (mApp fNe [(.ex (mVar 0)), (.ex (mC (.str "0")))]))) (sRet (mC .non)) sNext)
  (sSeq (sAsg (mC (.int 0)) (gmName 1))
  (sSeq (sFor (mIt (mVar 0)) (gmName 2) (sAsg (mApp fAdd [(.ex (mApp fMulA [(.ex (mVar 1)), (.ex (mC (.int 10)))])), (.ex (mApp fSIndex [(.ex (mC (.str "0123456789"))), (.ex (mVar 2))]))]) (gmName 1)))
  (sRet (mVar 1))))))
def fm_number_in (C : Cs) := fnD 1 3 [] (m_number_in C)
theorem bj_number_in {f : Addr} (T : Tx K mg C)  (cdv : Value) (A : Around) (outer : List PySem.Env) (s : Shared) (H : Hp) (E : XK) (hr : Room 0 (A.deeper (PyProof.Rows.envOfC "number_in" (defScope s_number_in) s.heap.objs.size f cdv))) : ∃ t, BJ (cxOf (L2.CX P w) P w K mg base ["word", "number", "sign"] "number_in" (defScope s_number_in) f cdv A outer s H E).nox [] (defBody s_number_in) t (m_number_in C) :=
  have sc := sc_number_in
  have hu := hu_of hr
  ⟨_, (b_cons (s_if (t_w (w_or (t_cmp (op_eqD hr.units) den_eq (nomark _) (a_e (j_var 0)) (a_e j_str)) (w_or (t_cmp op_gt den_gt (nomark _) (a_e (j_cb call_len den_len T.f_len (l_cons (a_e (j_var 0)) l_nil))) (a_e (j_glob (v := .int (3)) T.c_MOST_DIGITS.choose_spec ⟨_, rfl⟩ (.int _)))) (w_or1 (t_not (t_val (j_cb (cr_all rfl) den_all T.f_all (l_cons (a_e (j_lc [("sign", 2)] rfl sc.nd (blkOk_by (by first | (show blkC N_number_in (defScope s_number_in) _ _ = true; decide +kernel) | rfl)) (i_any (j_var 0)) (fun _ _ _ _ _ => (g_name 2 sc.nd)) (fun _ _ _ _ _ => ts_nil) (fun _ _ _ _ _ => (j_cmp op_inS (den_inS false) (by rfl) (a_e (j_var 2)) (a_e (j_glob (v := .str "0123456789") T.c_DIGITS.choose_spec ⟨_, rfl⟩ (.str _))))))) l_nil)))))))) (b_one (s_ret j_non)) b_nil)
      (b_cons (s_if (t_w (w_and (t_cmp (op_eqD hr.units) den_eq (nomark _) (a_e (j_ix (a_e (j_var 0)) (a_e j_int))) (a_e j_str)) (w_and1 (t_cmp (op_neD hr.units) den_ne (nomark _) (a_e (j_var 0)) (a_e j_str))))) (b_one (s_ret j_non)) b_nil)
      (b_cons (s_set 1 sc.nd j_int)
      (b_cons (s_for PassesOwn.never rfl (i_any (j_var 0)) (g_name 2 sc.nd) (b_one (s_set 1 sc.nd (j_op op_addA den_add (a_e (j_op op_mulA den_mulA (a_e (j_var 1)) (a_e j_int))) (a_e (j_m1 PySem.F.slot_str_index PySem.F.type_str_index mt_sindex den_sindex ty_sindex (a_e (j_glob (v := .str "0123456789") T.c_DIGITS.choose_spec ⟨_, rfl⟩ (.str _))) (a_e (j_var 2))))))))
      (b_one (s_ret (j_var 1)))))))⟩
theorem ok_number_in {f : Addr} {fd : FuncData} (F : FunD K "number_in" "number_in" (defArgs s_number_in) (defBody s_number_in) (defScope s_number_in) [] [] f fd) (T : Tx K mg C) (hm : mg "number_in" = some (.ref f)) (hb : Binds K fd ["word"] [])  : Df P w K mg base "number_in" 1 1 (fm_number_in C) := df_of F sc_number_in hm hb rfl rfl (by decide) (bj_number_in T )
abbrev s_text_of : Stmt := top 18
abbrev N_text_of : List Str := ["heard", "written", "rows", "lines", "state", "row", "sign", "letter", "target"]
theorem sc_text_of : FnScope ["heard", "written", "rows", "lines", "state", "row", "sign", "letter", "target"] ["heard", "written", "rows"] (defScope s_text_of) := ⟨rfl, rfl, rfl, by decide +kernel, rfl, by decide +kernel, by decide +kernel⟩
def m_text_of (C : Cs) : SM := (sSeq (sAsg (mApps gLst [(.ex (mJoined [(mFmt (mC (.str "rules"))), (mC (.str " ")), (mFmt (mVar 0)), (mC (.str " ")), (mFmt (mVar 1)), (mC (.str " ")), (mFmt (mApp fLen [(.ex (mVar 2))]))]))]) (gmName 3))
  (sSeq (sFor (mArgs [(.ex (mVar 2))] gEnum) (gmTup 2 (gmCons (gmName 4) (gmCons (gmName 5) gmNil))) (sDrop (mApp fExtend [(.sl 3), (.ex (mComp (mIt (mVar 5)) (gmTup 3 (gmCons (gmName 6) (gmCons (gmName 7) (gmCons (gmName 8) gmNil)))) (fun env => some (true, env)) (mJoined [(mFmt (mC (.str "move"))), (mC (.str " ")), (mFmt (mVar 4)), (mC (.str " ")), (mFmt (mVar 6)), (mC (.str " ")), (mFmt (mVar 7)), (mC (.str " ")), (mFmt (mVar 8))]) [6, 7, 8]))])))
  (sRet (mApp fJoin [(.ex (mC (.str "\n"))), (.ex (mVar 3))]))))
def fm_text_of (C : Cs) := fnD 3 9 [] (m_text_of C)
theorem bj_text_of {f : Addr} (T : Tx K mg C)  (cdv : Value) (A : Around) (outer : List PySem.Env) (s : Shared) (H : Hp) (E : XK) (hr : Room 0 (A.deeper (PyProof.Rows.envOfC "text_of" (defScope s_text_of) s.heap.objs.size f cdv))) : ∃ t, BJ (cxOf (L2.CX P w) P w K mg base ["heard", "written", "rows", "lines", "state", "row", "sign", "letter", "target"] "text_of" (defScope s_text_of) f cdv A outer s H E).nox [] (defBody s_text_of) t (m_text_of C) :=
  have sc := sc_text_of
  have hu := hu_of hr
  ⟨_, (b_cons (s_set 3 sc.nd (j_lst (l_cons (a_e (j_joined (js_cons (j_fmt (j_glob (v := .str "rules") T.c_RULES_WORD.choose_spec ⟨_, rfl⟩ (.str _))) (js_cons j_str (js_cons (j_fmt (j_var 0)) (js_cons j_str (js_cons (j_fmt (j_var 1)) (js_cons j_str (js_cons (j_fmt (j_cb call_len den_len T.f_len (l_cons (a_e (j_var 2)) l_nil))) js_nil))))))))) l_nil)))
      (b_cons (s_for PassesOwn.never rfl (i_enum T.f_enumerate (l_cons (a_e (j_var 2)) l_nil)) (g_tupK K 2 rfl (gs_cons (g_name 4 sc.nd) (gs_cons (g_name 5 sc.nd) gs_nil))) (b_one (s_expr (j_bm PySem.F.plainAttrs_list PySem.F.slot_list_extend PySem.F.type_list_extend mt_extend den_extend ty_extend (a_sl 3) (l_cons (a_e (j_lc [("sign", 6), ("letter", 7), ("target", 8)] rfl sc.nd (blkOk_by (by first | (show blkC N_text_of (defScope s_text_of) _ _ = true; decide +kernel) | rfl)) (i_any (j_var 5)) (fun _ _ _ _ _ => (g_tupK K 3 rfl (gs_cons (g_name 6 sc.nd) (gs_cons (g_name 7 sc.nd) (gs_cons (g_name 8 sc.nd) gs_nil))))) (fun _ _ _ _ _ => ts_nil) (fun _ _ _ _ _ => (j_joined (js_cons (j_fmt (j_glob (v := .str "move") T.c_MOVE_WORD.choose_spec ⟨_, rfl⟩ (.str _))) (js_cons j_str (js_cons (j_fmt (j_var 4)) (js_cons j_str (js_cons (j_fmt (j_var 6)) (js_cons j_str (js_cons (j_fmt (j_var 7)) (js_cons j_str (js_cons (j_fmt (j_var 8)) js_nil))))))))))))) l_nil)))))
      (b_one (s_ret (j_m1 PySem.F.slot_str_join PySem.F.type_str_join mt_join den_join ty_join (a_e (j_glob (v := .str "\n") T.c_BREAK.choose_spec ⟨_, rfl⟩ (.str _))) (a_e (j_var 3)))))))⟩
theorem ok_text_of {f : Addr} {fd : FuncData} (F : FunD K "text_of" "text_of" (defArgs s_text_of) (defBody s_text_of) (defScope s_text_of) [] [] f fd) (T : Tx K mg C) (hm : mg "text_of" = some (.ref f)) (hb : Binds K fd ["heard", "written", "rows"] [])  : Df P w K mg base "text_of" 3 1 (fm_text_of C) := df_of F sc_text_of hm hb rfl rfl (by decide) (bj_text_of T )
abbrev s_first_line : Stmt := top 19
abbrev N_first_line : List Str := ["line", "parts", "many"]
theorem sc_first_line : FnScope ["line", "parts", "many"] ["line"] (defScope s_first_line) := ⟨rfl, rfl, rfl, by decide +kernel, rfl, by decide +kernel, by decide +kernel⟩
def m_first_line (C : Cs) : SM := (sSeq (sAsg (mApp fSplit [(.ex (mVar 0)), (.ex (mC (.str " ")))]) (gmName 1))
  (sSeq (sIf (mOrT (mTest (mApp fNe [(.ex (mApp fLen [(.ex (mVar 1))])), (.ex (mC (.int (4))))])) (mTest (mApp fNe [(.ex (mApp fIx [(.ex (mVar 1)), (.ex (mC (.int 0)))])), (.ex (mC (.str "rules")))]))) (sRet (mC .non)) sNext)
  (sSeq (sAsg (mApp (fm_number_in C) [(.ex (mApp fIx [(.ex (mVar 1)), (.ex (mC (.int 3)))]))]) (gmName 2))
  (sSeq (sIf (mOrT (mNotT (mTest (mApp (fm_are_letters C) [(.ex (mApp fIx [(.ex (mVar 1)), (.ex (mC (.int 1)))]))]))) (mOrT (mNotT (mTest (mApp (fm_are_letters C) [(.ex (mApp fIx [(.ex (mVar 1)), (.ex (mC (.int 2)))]))]))) (mOrT (mTest (mApp (fIs false) [(.ex (mVar 2)), (.ex (mC .non))])) (mTest (mApp fEq [(.ex (mVar 2)), (.ex (mC (.int 0)))]))))) (sRet (mC .non)) sNext)
  (sRet (mApps VH.gTup [(.ex (mApp fIx [(.ex (mVar 1)), (.ex (mC (.int 1)))])), (.ex (mApp fIx [(.ex (mVar 1)), (.ex (mC (.int 2)))])), (.ex (mVar 2))]))))))
def fm_first_line (C : Cs) := fnD 1 3 [] (m_first_line C)
theorem bj_first_line {f : Addr} (T : Tx K mg C) (D_number_in : Df P w K mg base "number_in" 1 1 (fm_number_in C)) (D_are_letters : Df P w K mg base "are_letters" 1 1 (fm_are_letters C)) (cdv : Value) (A : Around) (outer : List PySem.Env) (s : Shared) (H : Hp) (E : XK) (hr : Room 1 (A.deeper (PyProof.Rows.envOfC "first_line" (defScope s_first_line) s.heap.objs.size f cdv))) : ∃ t, BJ (cxOf (L2.CX P w) P w K mg base ["line", "parts", "many"] "first_line" (defScope s_first_line) f cdv A outer s H E).nox [] (defBody s_first_line) t (m_first_line C) :=
  have sc := sc_first_line
  have hu := hu_of hr
  ⟨_, (b_cons (s_set 1 sc.nd (j_m1 PySem.F.slot_str_split PySem.F.type_str_split mt_split den_split ty_split (a_e (j_var 0)) (a_e (j_glob (v := .str " ") T.c_BLANK.choose_spec ⟨_, rfl⟩ (.str _)))))
      (b_cons (s_if (t_w (w_or (t_cmp (op_neD hr.units) den_ne (nomark _) (a_e (j_cb call_len den_len T.f_len (l_cons (a_e (j_var 1)) l_nil))) (a_e (j_glob (v := .int (4)) T.c_FIRST_PARTS.choose_spec ⟨_, rfl⟩ (.int _)))) (w_or1 (t_cmp (op_neD hr.units) den_ne (nomark _) (a_e (j_ix (a_e (j_var 1)) (a_e j_int))) (a_e (j_glob (v := .str "rules") T.c_RULES_WORD.choose_spec ⟨_, rfl⟩ (.str _))))))) (b_one (s_ret j_non)) b_nil)
      (b_cons (s_set 2 sc.nd (j_call D_number_in (hr.mono (by decide)) (l_cons (a_e (j_ix (a_e (j_var 1)) (a_e j_int))) l_nil)))
      (b_cons (s_if (t_w (w_or (t_not (t_val (j_call D_are_letters (hr.mono (by decide)) (l_cons (a_e (j_ix (a_e (j_var 1)) (a_e j_int))) l_nil)))) (w_or (t_not (t_val (j_call D_are_letters (hr.mono (by decide)) (l_cons (a_e (j_ix (a_e (j_var 1)) (a_e j_int))) l_nil)))) (w_or (t_cmp op_isA den_is (by rfl) (a_e (j_var 2)) (a_e j_non)) (w_or1 (t_cmp (op_eqD hr.units) den_eq (nomark _) (a_e (j_var 2)) (a_e j_int))))))) (b_one (s_ret j_non)) b_nil)
      (b_one (s_ret (j_tup (l_cons (a_e (j_ix (a_e (j_var 1)) (a_e j_int))) (l_cons (a_e (j_ix (a_e (j_var 1)) (a_e j_int))) (l_cons (a_e (j_var 2)) l_nil))))))))))⟩
theorem ok_first_line {f : Addr} {fd : FuncData} (F : FunD K "first_line" "first_line" (defArgs s_first_line) (defBody s_first_line) (defScope s_first_line) [] [] f fd) (T : Tx K mg C) (hm : mg "first_line" = some (.ref f)) (hb : Binds K fd ["line"] []) (D_number_in : Df P w K mg base "number_in" 1 1 (fm_number_in C)) (D_are_letters : Df P w K mg base "are_letters" 1 1 (fm_are_letters C)) : Df P w K mg base "first_line" 1 2 (fm_first_line C) := df_of F sc_first_line hm hb rfl rfl (by decide) (bj_first_line T D_number_in D_are_letters)
abbrev s_move_line : Stmt := top 20
abbrev N_move_line : List Str := ["line", "heard", "written", "many", "parts", "state", "target"]
theorem sc_move_line : FnScope ["line", "heard", "written", "many", "parts", "state", "target"] ["line", "heard", "written", "many"] (defScope s_move_line) := ⟨rfl, rfl, rfl, by decide +kernel, rfl, by decide +kernel, by decide +kernel⟩
def m_move_line (C : Cs) : SM := (sSeq (sAsg (mApp fSplit [(.ex (mVar 0)), (.ex (mC (.str " ")))]) (gmName 4))
  (sSeq (sIf (mOrT (mTest (mApp fNe [(.ex (mApp fLen [(.ex (mVar 4))])), (.ex (mC (.int (5))))])) (mTest (mApp fNe [(.ex (mApp fIx [(.ex (mVar 4)), (.ex (mC (.int 0)))])), (.ex (mC (.str "move")))]))) (sRet (mC .non)) sNext)
  (sSeq (sPar2 5 6 [(.ex (mApp (fm_number_in C) [(.ex (mApp fIx [(.ex (mVar 4)), (.ex (mC (.int 1)))]))])), (.ex (mApp (fm_number_in C) [(.ex (mApp fIx [(.ex (mVar 4)), (.ex (mC (.int 4)))]))]))])
  (sSeq (sIf (mOrT (mTest (mApp (fIs false) [(.ex (mVar 5)), (.ex (mC .non))])) (mOrT (mTest (mApp (fIs false) [(.ex (mVar 6)), (.ex (mC .non))])) (mOrT (mTest (mApp fGe [(.ex (mVar 5)), (.ex (mVar 3))])) (mTest (mApp fGe [(.ex (mVar 6)), (.ex (mVar 3))]))))) (sRet (mC .non)) sNext)
  (sSeq (sIf (mOrT (mTest (mApp fNe [(.ex (mApp fLen [(.ex (mApp fIx [(.ex (mVar 4)), (.ex (mC (.int 2)))]))])), (.ex (mC (.int 1)))])) (mOrT (mTest (mApp fNe [(.ex (mApp fLen [(.ex (mApp fIx [(.ex (mVar 4)), (.ex (mC (.int 3)))]))])), (.ex (mC (.int 1)))])) (mOrT (mTest (mApp (fInS true) [(.ex (mApp fIx [(.ex (mVar 4)), (.ex (mC (.int 2)))])), (.ex (mVar 1))])) (mTest (mApp (fInS true) [(.ex (mApp fIx [(.ex (mVar 4)), (.ex (mC (.int 3)))])), (.ex (mVar 2))]))))) (sRet (mC .non)) sNext)
  (sRet (mApps VH.gTup [(.ex (mVar 5)), (.ex (mApp fIx [(.ex (mVar 4)), (.ex (mC (.int 2)))])), (.ex (mApp fIx [(.ex (mVar 4)), (.ex (mC (.int 3)))])), (.ex (mVar 6))])))))))
def fm_move_line (C : Cs) := fnD 4 7 [] (m_move_line C)
theorem bj_move_line {f : Addr} (T : Tx K mg C) (D_number_in : Df P w K mg base "number_in" 1 1 (fm_number_in C)) (cdv : Value) (A : Around) (outer : List PySem.Env) (s : Shared) (H : Hp) (E : XK) (hr : Room 1 (A.deeper (PyProof.Rows.envOfC "move_line" (defScope s_move_line) s.heap.objs.size f cdv))) : ∃ t, BJ (cxOf (L2.CX P w) P w K mg base ["line", "heard", "written", "many", "parts", "state", "target"] "move_line" (defScope s_move_line) f cdv A outer s H E).nox [] (defBody s_move_line) t (m_move_line C) :=
  have sc := sc_move_line
  have hu := hu_of hr
  ⟨_, (b_cons (s_set 4 sc.nd (j_m1 PySem.F.slot_str_split PySem.F.type_str_split mt_split den_split ty_split (a_e (j_var 0)) (a_e (j_glob (v := .str " ") T.c_BLANK.choose_spec ⟨_, rfl⟩ (.str _)))))
      (b_cons (s_if (t_w (w_or (t_cmp (op_neD hr.units) den_ne (nomark _) (a_e (j_cb call_len den_len T.f_len (l_cons (a_e (j_var 4)) l_nil))) (a_e (j_glob (v := .int (5)) T.c_MOVE_PARTS_ruletexts.choose_spec ⟨_, rfl⟩ (.int _)))) (w_or1 (t_cmp (op_neD hr.units) den_ne (nomark _) (a_e (j_ix (a_e (j_var 4)) (a_e j_int))) (a_e (j_glob (v := .str "move") T.c_MOVE_WORD.choose_spec ⟨_, rfl⟩ (.str _))))))) (b_one (s_ret j_non)) b_nil)
      (b_cons (s_par2 5 6 sc.nd (l_cons (a_e (j_call D_number_in (hr.mono (by decide)) (l_cons (a_e (j_ix (a_e (j_var 4)) (a_e j_int))) l_nil))) (l_cons (a_e (j_call D_number_in (hr.mono (by decide)) (l_cons (a_e (j_ix (a_e (j_var 4)) (a_e j_int))) l_nil))) l_nil)))
      (b_cons (s_if (t_w (w_or (t_cmp op_isA den_is (by rfl) (a_e (j_var 5)) (a_e j_non)) (w_or (t_cmp op_isA den_is (by rfl) (a_e (j_var 6)) (a_e j_non)) (w_or (t_cmp op_ge den_ge (nomark _) (a_e (j_var 5)) (a_e (j_var 3))) (w_or1 (t_cmp op_ge den_ge (nomark _) (a_e (j_var 6)) (a_e (j_var 3)))))))) (b_one (s_ret j_non)) b_nil)
      (b_cons (s_if (t_w (w_or (t_cmp (op_neD hr.units) den_ne (nomark _) (a_e (j_cb call_len den_len T.f_len (l_cons (a_e (j_ix (a_e (j_var 4)) (a_e j_int))) l_nil))) (a_e j_int)) (w_or (t_cmp (op_neD hr.units) den_ne (nomark _) (a_e (j_cb call_len den_len T.f_len (l_cons (a_e (j_ix (a_e (j_var 4)) (a_e j_int))) l_nil))) (a_e j_int)) (w_or (t_cmp op_notInS (den_inS true) (by rfl) (a_e (j_ix (a_e (j_var 4)) (a_e j_int))) (a_e (j_var 1))) (w_or1 (t_cmp op_notInS (den_inS true) (by rfl) (a_e (j_ix (a_e (j_var 4)) (a_e j_int))) (a_e (j_var 2)))))))) (b_one (s_ret j_non)) b_nil)
      (b_one (s_ret (j_tup (l_cons (a_e (j_var 5)) (l_cons (a_e (j_ix (a_e (j_var 4)) (a_e j_int))) (l_cons (a_e (j_ix (a_e (j_var 4)) (a_e j_int))) (l_cons (a_e (j_var 6)) l_nil))))))))))))⟩
theorem ok_move_line {f : Addr} {fd : FuncData} (F : FunD K "move_line" "move_line" (defArgs s_move_line) (defBody s_move_line) (defScope s_move_line) [] [] f fd) (T : Tx K mg C) (hm : mg "move_line" = some (.ref f)) (hb : Binds K fd ["line", "heard", "written", "many"] []) (D_number_in : Df P w K mg base "number_in" 1 1 (fm_number_in C)) : Df P w K mg base "move_line" 4 2 (fm_move_line C) := df_of F sc_move_line hm hb rfl rfl (by decide) (bj_move_line T D_number_in)
abbrev s_parts_in : Stmt := top 21
abbrev N_parts_in : List Str := ["text", "lines", "first", "heard", "written", "many", "rows", "last", "place", "line", "move", "state", "row"]
theorem sc_parts_in : FnScope ["text", "lines", "first", "heard", "written", "many", "rows", "last", "place", "line", "move", "state", "row"] ["text"] (defScope s_parts_in) := ⟨rfl, rfl, rfl, by decide +kernel, rfl, by decide +kernel, by decide +kernel⟩
def m_parts_in (C : Cs) : SM := (sSeq (sIf (mNotT (mTest (mApp fIsi [(.ex (mVar 0)), .ex (mC (.hole (.ty "str")))]))) sNever sNext)
  (sSeq (sAsg (mApp fSplit [(.ex (mVar 0)), (.ex (mC (.str "\n")))]) (gmName 1))
  (sSeq (sAsg (mApp (fm_first_line C) [(.ex (mApp fIx [(.ex (mVar 1)), (.ex (mC (.int 0)))]))]) (gmName 2))
  (sSeq (sIf (mTest (mApp (fIs false) [(.ex (mVar 2)), (.ex (mC .non))])) sNever sNext)
  (sSeq (sAsg (mVar 2) (gmTup 3 (gmCons (gmName 3) (gmCons (gmName 4) (gmCons (gmName 5) gmNil)))))
  (sSeq (sAsg (mComp (mArgs [(.ex (mVar 5))] gRange1) (gmName 11) (fun env => some (true, env)) (mApps gLst []) [11]) (gmName 6))
  (sSeq (sAsg (mC .non) (gmName 7))
  (sSeq (sFor (mArgs [(.ex (mSlice (mVar 1) (oSome (mC (.int 1))) oNone))] (gEnumK 1)) (gmTup 2 (gmCons (gmName 8) (gmCons (gmName 9) gmNil))) (sSeq (sAsg (mApp (fm_move_line C) [(.ex (mVar 9)), (.ex (mVar 3)), (.ex (mVar 4)), (.ex (mVar 5))]) (gmName 10))
  (sSeq (sIf (mOrT (mTest (mApp (fIs false) [(.ex (mVar 10)), (.ex (mC .non))])) (mAndT (mTest (mApp (fIs true) [(.ex (mVar 7)), (.ex (mC .non))])) (mTest (mApp fLeD [(.ex (mSlice (mVar 10) oNone (oSome (mC (.int 3))))), (.ex (mSlice (mVar 7) oNone (oSome (mC (.int 3)))))])))) sNever sNext)
  (sSeq (sDrop (mApp fAppend [(.pt 6 (pAt (mApp fIx [(.ex (mVar 10)), (.ex (mC (.int 0)))]))), (.ex (mSlice (mVar 10) (oSome (mC (.int 1))) oNone))]))
  (sAsg (mVar 10) (gmName 7))))))
  (sRet (mApps VH.gTup [(.ex (mVar 3)), (.ex (mVar 4)), (.ex (mApp fTuple [(.ex (mComp (mIt (mVar 6)) (gmName 12) (fun env => some (true, env)) (mApp fTuple [(.ex (mVar 12))]) [12]))]))]))))))))))
def fm_parts_in (C : Cs) := fnD 1 13 [] (m_parts_in C)
theorem bj_parts_in {f : Addr} (T : Tx K mg C) (D_first_line : Df P w K mg base "first_line" 1 2 (fm_first_line C)) (D_move_line : Df P w K mg base "move_line" 4 2 (fm_move_line C)) (cdv : Value) (A : Around) (outer : List PySem.Env) (s : Shared) (H : Hp) (E : XK) (hr : Room 2 (A.deeper (PyProof.Rows.envOfC "parts_in" (defScope s_parts_in) s.heap.objs.size f cdv))) : ∃ t, BJ (cxOf (L2.CX P w) P w K mg base ["text", "lines", "first", "heard", "written", "many", "rows", "last", "place", "line", "move", "state", "row"] "parts_in" (defScope s_parts_in) f cdv A outer s H E).nox [] (defBody s_parts_in) t (m_parts_in C) :=
  have sc := sc_parts_in
  have hu := hu_of hr
  ⟨_, (b_cons (s_if (t_not (t_val (j_cb call_isi den_isi T.f_isinstance (l_cons (a_e (j_var 0)) (l_cons (a_e (j_ty T.f_str (by decide +kernel))) l_nil))))) (b_one s_never) b_nil)
      (b_cons (s_set 1 sc.nd (j_m1 PySem.F.slot_str_split PySem.F.type_str_split mt_split den_split ty_split (a_e (j_var 0)) (a_e (j_glob (v := .str "\n") T.c_BREAK.choose_spec ⟨_, rfl⟩ (.str _)))))
      (b_cons (s_set 2 sc.nd (j_call D_first_line (hr.mono (by decide)) (l_cons (a_e (j_ix (a_e (j_var 1)) (a_e j_int))) l_nil)))
      (b_cons (s_if (t_cmp op_isA den_is (by rfl) (a_e (j_var 2)) (a_e j_non)) (b_one s_never) b_nil)
      (b_cons (s_asg (j_var 2) (g_tupK K 3 rfl (gs_cons (g_name 3 sc.nd) (gs_cons (g_name 4 sc.nd) (gs_cons (g_name 5 sc.nd) gs_nil)))))
      (b_cons (s_lc 6 [("state", 11)] rfl sc.nd (blkOk_by (by first | (show blkC N_parts_in (defScope s_parts_in) _ _ = true; decide +kernel) | rfl)) (i_range1 T.f_range (l_cons (a_e (j_var 5)) l_nil)) (fun _ _ _ _ _ => (g_name 11 sc.nd)) (fun _ _ _ _ _ => ts_nil) (fun _ _ _ _ _ => (j_lst l_nil)) (sw_true rfl rfl rfl (by decide +kernel)))
      (b_cons (s_set 7 sc.nd j_non)
      (b_cons (s_for PassesOwn.never rfl (i_enumK 1 T.f_enumerate (l_cons (a_e (j_slice (j_var 1) (o_some j_int) o_none)) l_nil)) (g_tupK K 2 rfl (gs_cons (g_name 8 sc.nd) (gs_cons (g_name 9 sc.nd) gs_nil))) (b_cons (s_set 10 sc.nd (j_call D_move_line (hr.mono (by decide)) (l_cons (a_e (j_var 9)) (l_cons (a_e (j_var 3)) (l_cons (a_e (j_var 4)) (l_cons (a_e (j_var 5)) l_nil))))))
      (b_cons (s_if (t_w (w_or (t_cmp op_isA den_is (by rfl) (a_e (j_var 10)) (a_e j_non)) (w_or1 (t_w (w_and (t_cmp op_isnA den_isn (by rfl) (a_e (j_var 7)) (a_e j_non)) (w_and1 (t_cmp (op_leD hr.units) den_leD (nomark _) (a_e (j_slice (j_var 10) o_none (o_some j_int))) (a_e (j_slice (j_var 7) o_none (o_some j_int)))))))))) (b_one s_never) b_nil)
      (b_cons (s_expr (j_bm PySem.F.plainAttrs_list PySem.F.slot_list_append PySem.F.type_list_append mt_append den_append ty_append (a_at 6 hr.units (j_ix (a_e (j_var 10)) (a_e j_int))) (l_cons (a_e (j_slice (j_var 10) (o_some j_int) o_none)) l_nil)))
      (b_one (s_set 7 sc.nd (j_var 10)))))))
      (b_one (s_ret (j_tup (l_cons (a_e (j_var 3)) (l_cons (a_e (j_var 4)) (l_cons (a_e (j_ct call_tuple_of den_tuple T.f_tuple (l_cons (a_e (j_lc [("row", 12)] rfl sc.nd (blkOk_by (by first | (show blkC N_parts_in (defScope s_parts_in) _ _ = true; decide +kernel) | rfl)) (i_any (j_var 6)) (fun _ _ _ _ _ => (g_name 12 sc.nd)) (fun _ _ _ _ _ => ts_nil) (fun _ _ _ _ _ => (j_ct call_tuple_of den_tuple T.f_tuple (l_cons (a_e (j_var 12)) l_nil))))) l_nil))) l_nil))))))))))))))⟩
theorem ok_parts_in {f : Addr} {fd : FuncData} (F : FunD K "parts_in" "parts_in" (defArgs s_parts_in) (defBody s_parts_in) (defScope s_parts_in) [] [] f fd) (T : Tx K mg C) (hm : mg "parts_in" = some (.ref f)) (hb : Binds K fd ["text"] []) (D_first_line : Df P w K mg base "first_line" 1 2 (fm_first_line C)) (D_move_line : Df P w K mg base "move_line" 4 2 (fm_move_line C)) : Df P w K mg base "parts_in" 1 3 (fm_parts_in C) := df_of F sc_parts_in hm hb rfl rfl (by decide) (bj_parts_in T D_first_line D_move_line)
abbrev s_is_letter_of : Stmt := top 27
abbrev N_is_letter_of : List Str := ["letters", "thing"]
theorem sc_is_letter_of : FnScope ["letters", "thing"] ["letters", "thing"] (defScope s_is_letter_of) := ⟨rfl, rfl, rfl, by decide +kernel, rfl, by decide +kernel, by decide +kernel⟩
def m_is_letter_of (C : Cs) : SM := (sRet (mAndV (mApp fIsi [(.ex (mVar 1)), .ex (mC (.hole (.ty "str")))]) (mAndV (mApp fEq [(.ex (mApp fLen [(.ex (mVar 1))])), (.ex (mC (.int 1)))]) (mApp (fInS false) [(.ex (mVar 1)), (.ex (mVar 0))]))))
def fm_is_letter_of (C : Cs) := fnD 2 2 [] (m_is_letter_of C)
theorem bj_is_letter_of {f : Addr} (T : Tx K mg C)  (cdv : Value) (A : Around) (outer : List PySem.Env) (s : Shared) (H : Hp) (E : XK) (hr : Room 0 (A.deeper (PyProof.Rows.envOfC "is_letter_of" (defScope s_is_letter_of) s.heap.objs.size f cdv))) : ∃ t, BJ (cxOf (L2.CX P w) P w K mg base ["letters", "thing"] "is_letter_of" (defScope s_is_letter_of) f cdv A outer s H E).nox [] (defBody s_is_letter_of) t (m_is_letter_of C) :=
  have sc := sc_is_letter_of
  have hu := hu_of hr
  ⟨_, (b_one (s_ret (j_and (j_cb call_isi den_isi T.f_isinstance (l_cons (a_e (j_var 1)) (l_cons (a_e (j_ty T.f_str (by decide +kernel))) l_nil))) (j_and (j_cmp (op_eqD hr.units) den_eq (nomark _) (a_e (j_cb call_len den_len T.f_len (l_cons (a_e (j_var 1)) l_nil))) (a_e j_int)) (j_one (j_cmp op_inS (den_inS false) (by rfl) (a_e (j_var 1)) (a_e (j_var 0))))))))⟩
theorem ok_is_letter_of {f : Addr} {fd : FuncData} (F : FunD K "is_letter_of" "is_letter_of" (defArgs s_is_letter_of) (defBody s_is_letter_of) (defScope s_is_letter_of) [] [] f fd) (T : Tx K mg C) (hm : mg "is_letter_of" = some (.ref f)) (hb : Binds K fd ["letters", "thing"] [])  : Df P w K mg base "is_letter_of" 2 1 (fm_is_letter_of C) := df_of F sc_is_letter_of hm hb rfl rfl (by decide) (bj_is_letter_of T )
abbrev s_is_integer : Stmt := top 26
abbrev N_is_integer : List Str := ["thing"]
theorem sc_is_integer : FnScope ["thing"] ["thing"] (defScope s_is_integer) := ⟨rfl, rfl, rfl, by decide +kernel, rfl, by decide +kernel, by decide +kernel⟩
def m_is_integer (C : Cs) : SM := (sRet (mAndV (mApp fIsi [(.ex (mVar 0)), .ex (mC (.hole (.ty "int")))]) (mNotV (mApp fIsi [(.ex (mVar 0)), .ex (mC (.hole (.ty "bool")))]))))
def fm_is_integer (C : Cs) := fnD 1 1 [] (m_is_integer C)
theorem bj_is_integer {f : Addr} (T : Tx K mg C)  (cdv : Value) (A : Around) (outer : List PySem.Env) (s : Shared) (H : Hp) (E : XK) (hr : Room 0 (A.deeper (PyProof.Rows.envOfC "is_integer" (defScope s_is_integer) s.heap.objs.size f cdv))) : ∃ t, BJ (cxOf (L2.CX P w) P w K mg base ["thing"] "is_integer" (defScope s_is_integer) f cdv A outer s H E).nox [] (defBody s_is_integer) t (m_is_integer C) :=
  have sc := sc_is_integer
  have hu := hu_of hr
  ⟨_, (b_one (s_ret (j_and (j_cb call_isi den_isi T.f_isinstance (l_cons (a_e (j_var 0)) (l_cons (a_e (j_ty T.f_int (by decide +kernel))) l_nil))) (j_one (j_not (j_cb call_isi den_isi T.f_isinstance (l_cons (a_e (j_var 0)) (l_cons (a_e (j_ty T.f_bool (by decide +kernel))) l_nil))))))))⟩
theorem ok_is_integer {f : Addr} {fd : FuncData} (F : FunD K "is_integer" "is_integer" (defArgs s_is_integer) (defBody s_is_integer) (defScope s_is_integer) [] [] f fd) (T : Tx K mg C) (hm : mg "is_integer" = some (.ref f)) (hb : Binds K fd ["thing"] [])  : Df P w K mg base "is_integer" 1 1 (fm_is_integer C) := df_of F sc_is_integer hm hb rfl rfl (by decide) (bj_is_integer T )
abbrev s_is_move : Stmt := top 28
abbrev N_is_move : List Str := ["heard", "written", "many", "thing"]
theorem sc_is_move : FnScope ["heard", "written", "many", "thing"] ["heard", "written", "many", "thing"] (defScope s_is_move) := ⟨rfl, rfl, rfl, by decide +kernel, rfl, by decide +kernel, by decide +kernel⟩
def m_is_move (C : Cs) : SM := (sSeq (sIf (mOrT (mNotT (mTest (mApp fIsi [(.ex (mVar 3)), .ex (mC (.hole (.ty "tuple")))]))) (mTest (mApp fNe [(.ex (mApp fLen [(.ex (mVar 3))])), (.ex (mC (.int (3))))]))) (sRet (mC (.bl false))) sNext)
  (sSeq (sIf (mOrT (mNotT (mTest (mApp (fm_is_letter_of C) [(.ex (mVar 0)), (.ex (mApp fIx [(.ex (mVar 3)), (.ex (mC (.int 0)))]))]))) (mNotT (mTest (mApp (fm_is_letter_of C) [(.ex (mVar 1)), (.ex (mApp fIx [(.ex (mVar 3)), (.ex (mC (.int 1)))]))])))) (sRet (mC (.bl false))) sNext)
  (sRet (mAndV (mApp (fm_is_integer C) [(.ex (mApp fIx [(.ex (mVar 3)), (.ex (mC (.int 2)))]))]) (mChain (fun i j => decide (i ≤ j)) (fun i j => decide (i < j)) (mC (.int 0)) (mApp fIx [(.ex (mVar 3)), (.ex (mC (.int 2)))]) (mVar 2))))))
def fm_is_move (C : Cs) := fnD 4 4 [] (m_is_move C)
theorem bj_is_move {f : Addr} (T : Tx K mg C) (D_is_letter_of : Df P w K mg base "is_letter_of" 2 1 (fm_is_letter_of C)) (D_is_integer : Df P w K mg base "is_integer" 1 1 (fm_is_integer C)) (cdv : Value) (A : Around) (outer : List PySem.Env) (s : Shared) (H : Hp) (E : XK) (hr : Room 1 (A.deeper (PyProof.Rows.envOfC "is_move" (defScope s_is_move) s.heap.objs.size f cdv))) : ∃ t, BJ (cxOf (L2.CX P w) P w K mg base ["heard", "written", "many", "thing"] "is_move" (defScope s_is_move) f cdv A outer s H E).nox [] (defBody s_is_move) t (m_is_move C) :=
  have sc := sc_is_move
  have hu := hu_of hr
  ⟨_, (b_cons (s_if (t_w (w_or (t_not (t_val (j_cb call_isi den_isi T.f_isinstance (l_cons (a_e (j_var 3)) (l_cons (a_e (j_ty T.f_tuple (by decide +kernel))) l_nil))))) (w_or1 (t_cmp (op_neD hr.units) den_ne (nomark _) (a_e (j_cb call_len den_len T.f_len (l_cons (a_e (j_var 3)) l_nil))) (a_e (j_glob (v := .int (3)) T.c_MOVE_PARTS_rules.choose_spec ⟨_, rfl⟩ (.int _))))))) (b_one (s_ret j_bl)) b_nil)
      (b_cons (s_if (t_w (w_or (t_not (t_val (j_call D_is_letter_of (hr.mono (by decide)) (l_cons (a_e (j_var 0)) (l_cons (a_e (j_ix (a_e (j_var 3)) (a_e j_int))) l_nil))))) (w_or1 (t_not (t_val (j_call D_is_letter_of (hr.mono (by decide)) (l_cons (a_e (j_var 1)) (l_cons (a_e (j_ix (a_e (j_var 3)) (a_e j_int))) l_nil)))))))) (b_one (s_ret j_bl)) b_nil)
      (b_one (s_ret (j_and (j_call D_is_integer (hr.mono (by decide)) (l_cons (a_e (j_ix (a_e (j_var 3)) (a_e j_int))) l_nil)) (j_one (j_chain op_le op_lt rI0_bl rI0_bl j_int (j_ix (a_e (j_var 3)) (a_e j_int)) (j_var 2))))))))⟩
theorem ok_is_move {f : Addr} {fd : FuncData} (F : FunD K "is_move" "is_move" (defArgs s_is_move) (defBody s_is_move) (defScope s_is_move) [] [] f fd) (T : Tx K mg C) (hm : mg "is_move" = some (.ref f)) (hb : Binds K fd ["heard", "written", "many", "thing"] []) (D_is_letter_of : Df P w K mg base "is_letter_of" 2 1 (fm_is_letter_of C)) (D_is_integer : Df P w K mg base "is_integer" 1 1 (fm_is_integer C)) : Df P w K mg base "is_move" 4 2 (fm_is_move C) := df_of F sc_is_move hm hb rfl rfl (by decide) (bj_is_move T D_is_letter_of D_is_integer)
abbrev s_is_row : Stmt := top 29
abbrev N_is_row : List Str := ["heard", "written", "many", "thing", "move", "one", "other"]
theorem sc_is_row : FnScope ["heard", "written", "many", "thing", "move", "one", "other"] ["heard", "written", "many", "thing"] (defScope s_is_row) := ⟨rfl, rfl, rfl, by decide +kernel, rfl, by decide +kernel, by decide +kernel⟩
def m_is_row (C : Cs) : SM := (sSeq (sIf (mOrT (mNotT (mTest (mApp fIsi [(.ex (mVar 3)), .ex (mC (.hole (.ty "tuple")))]))) (mNotT (mTest (mApp fAll [(.ex (mComp (mIt (mVar 3)) (gmName 4) (fun env => some (true, env)) (mApp (fm_is_move C) [(.ex (mVar 0)), (.ex (mVar 1)), (.ex (mVar 2)), (.ex (mVar 4))]) [4]))])))) (sRet (mC (.bl false))) sNext)
  (sRet (mApp fAll [(.ex (mComp (mArgs [(.ex (mSlice (mVar 3) oNone (oSome (mNeg (mC (.int 1)))))), (.ex (mSlice (mVar 3) (oSome (mC (.int 1))) oNone))] gZip) (gmTup 2 (gmCons (gmName 5) (gmCons (gmName 6) gmNil))) (fun env => some (true, env)) (mApp fLtD [(.ex (mSlice (mVar 5) oNone (oSome (mC (.int 2))))), (.ex (mSlice (mVar 6) oNone (oSome (mC (.int 2)))))]) [5, 6]))])))
def fm_is_row (C : Cs) := fnD 4 7 [] (m_is_row C)
theorem bj_is_row {f : Addr} (T : Tx K mg C) (D_is_move : Df P w K mg base "is_move" 4 2 (fm_is_move C)) (cdv : Value) (A : Around) (outer : List PySem.Env) (s : Shared) (H : Hp) (E : XK) (hr : Room 2 (A.deeper (PyProof.Rows.envOfC "is_row" (defScope s_is_row) s.heap.objs.size f cdv))) : ∃ t, BJ (cxOf (L2.CX P w) P w K mg base ["heard", "written", "many", "thing", "move", "one", "other"] "is_row" (defScope s_is_row) f cdv A outer s H E).nox [] (defBody s_is_row) t (m_is_row C) :=
  have sc := sc_is_row
  have hu := hu_of hr
  ⟨_, (b_cons (s_if (t_w (w_or (t_not (t_val (j_cb call_isi den_isi T.f_isinstance (l_cons (a_e (j_var 3)) (l_cons (a_e (j_ty T.f_tuple (by decide +kernel))) l_nil))))) (w_or1 (t_not (t_val (j_cb (cr_all rfl) den_all T.f_all (l_cons (a_e (j_lc [("move", 4)] rfl sc.nd (blkOk_by (by first | (show blkC N_is_row (defScope s_is_row) _ _ = true; decide +kernel) | rfl)) (i_any (j_var 3)) (fun _ _ _ _ _ => (g_name 4 sc.nd)) (fun _ _ _ _ _ => ts_nil) (fun _ _ _ _ _ => (j_call D_is_move (hr.mono (by decide)) (l_cons (a_e (j_var 0)) (l_cons (a_e (j_var 1)) (l_cons (a_e (j_var 2)) (l_cons (a_e (j_var 4)) l_nil)))))))) l_nil))))))) (b_one (s_ret j_bl)) b_nil)
      (b_one (s_ret (j_cb (cr_all rfl) den_all T.f_all (l_cons (a_e (j_lc [("one", 5), ("other", 6)] rfl sc.nd (blkOk_by (by first | (show blkC N_is_row (defScope s_is_row) _ _ = true; decide +kernel) | rfl)) (i_zip T.f_zip (l_cons (a_e (j_slice (j_var 3) o_none (o_some (j_neg j_int)))) (l_cons (a_e (j_slice (j_var 3) (o_some j_int) o_none)) l_nil))) (fun _ _ _ _ _ => (g_tupK K 2 rfl (gs_cons (g_name 5 sc.nd) (gs_cons (g_name 6 sc.nd) gs_nil)))) (fun _ _ _ _ _ => ts_nil) (fun _ _ _ _ _ => (j_cmp (op_ltD hr.units) den_ltD (nomark _) (a_e (j_slice (j_var 5) o_none (o_some j_int))) (a_e (j_slice (j_var 6) o_none (o_some j_int))))))) l_nil)))))⟩
theorem ok_is_row {f : Addr} {fd : FuncData} (F : FunD K "is_row" "is_row" (defArgs s_is_row) (defBody s_is_row) (defScope s_is_row) [] [] f fd) (T : Tx K mg C) (hm : mg "is_row" = some (.ref f)) (hb : Binds K fd ["heard", "written", "many", "thing"] []) (D_is_move : Df P w K mg base "is_move" 4 2 (fm_is_move C)) : Df P w K mg base "is_row" 4 3 (fm_is_row C) := df_of F sc_is_row hm hb rfl rfl (by decide) (bj_is_row T D_is_move)
abbrev s_steps_of : Stmt := top 30
abbrev N_steps_of : List Str := ["row", "sign", "letter", "target"]
theorem sc_steps_of : FnScope ["row", "sign", "letter", "target"] ["row"] (defScope s_steps_of) := ⟨rfl, rfl, rfl, by decide +kernel, rfl, by decide +kernel, by decide +kernel⟩
def m_steps_of (C : Cs) : SM := (sRet (mApp fDict [(.ex (mComp (mIt (mVar 0)) (gmTup 3 (gmCons (gmName 1) (gmCons (gmName 2) (gmCons (gmName 3) gmNil)))) (fun env => some (true, env)) (mApps VH.gTup [(.ex (mApps VH.gTup [(.ex (mVar 1)), (.ex (mVar 2))])), (.ex (mVar 3))]) [1, 2, 3]))]))
def fm_steps_of (C : Cs) := fnD 1 4 [] (m_steps_of C)
theorem bj_steps_of {f : Addr} (T : Tx K mg C)  (cdv : Value) (A : Around) (outer : List PySem.Env) (s : Shared) (H : Hp) (E : XK) (hr : Room 0 (A.deeper (PyProof.Rows.envOfC "steps_of" (defScope s_steps_of) s.heap.objs.size f cdv))) : ∃ t, BJ (cxOf (L2.CX P w) P w K mg base ["row", "sign", "letter", "target"] "steps_of" (defScope s_steps_of) f cdv A outer s H E).nox [] (defBody s_steps_of) t (m_steps_of C) :=
  have sc := sc_steps_of
  have hu := hu_of hr
  ⟨_, (b_one (s_ret (j_ct (cr_dictA rfl hr.units) den_dict T.f_dict (l_cons (a_e (j_lc [("sign", 1), ("letter", 2), ("target", 3)] rfl sc.nd (blkOk_by (by first | (show blkC N_steps_of (defScope s_steps_of) _ _ = true; decide +kernel) | rfl)) (i_any (j_var 0)) (fun _ _ _ _ _ => (g_tupK K 3 rfl (gs_cons (g_name 1 sc.nd) (gs_cons (g_name 2 sc.nd) (gs_cons (g_name 3 sc.nd) gs_nil))))) (fun _ _ _ _ _ => ts_nil) (fun _ _ _ _ _ => (j_tup (l_cons (a_e (j_tup (l_cons (a_e (j_var 1)) (l_cons (a_e (j_var 2)) l_nil)))) (l_cons (a_e (j_var 3)) l_nil)))))) l_nil))))⟩
theorem ok_steps_of {f : Addr} {fd : FuncData} (F : FunD K "steps_of" "steps_of" (defArgs s_steps_of) (defBody s_steps_of) (defScope s_steps_of) [] [] f fd) (T : Tx K mg C) (hm : mg "steps_of" = some (.ref f)) (hb : Binds K fd ["row"] [])  : Df P w K mg base "steps_of" 1 1 (fm_steps_of C) := df_of F sc_steps_of hm hb rfl rfl (by decide) (bj_steps_of T )
abbrev s_Rules___init__ : Stmt := inClass (top 38) 0
abbrev N_Rules___init__ : List Str := ["self", "heard", "written", "rows", "state", "row"]
theorem sc_Rules___init__ : FnScope ["self", "heard", "written", "rows", "state", "row"] ["self", "heard", "written", "rows"] (defScope s_Rules___init__) := ⟨rfl, rfl, rfl, by decide +kernel, rfl, by decide +kernel, by decide +kernel⟩
def m_Rules___init__ (C : Cs) : SM := (sSeq (sIf (mNotT (mTest (mApp (fm_are_letters C) [(.ex (mVar 1))]))) sNever sNext)
  (sSeq (sIf (mNotT (mTest (mApp (fm_are_letters C) [(.ex (mVar 2))]))) sNever sNext)
  (sSeq (sIf (mOrT (mNotT (mTest (mApp fIsi [(.ex (mVar 3)), .ex (mC (.hole (.ty "tuple")))]))) (mNotT (mTest (mChain (fun i j => decide (i ≤ j)) (fun i j => decide (i ≤ j)) (mC (.int 1)) (mApp fLen [(.ex (mVar 3))]) (mC (.int (999))))))) sNever sNext)
  (sSeq (sFor (mArgs [(.ex (mVar 3))] gEnum) (gmTup 2 (gmCons (gmName 4) (gmCons (gmName 5) gmNil))) (sIf (mNotT (mTest (mApp (fm_is_row C) [(.ex (mVar 1)), (.ex (mVar 2)), (.ex (mApp fLen [(.ex (mVar 3))])), (.ex (mVar 5))]))) sNever sNext))
  (sSeq (sDrop (mApp (fFPut C.Rules "heard") [(.ex (mVar 1)), (.sl 0)]))
  (sSeq (sDrop (mApp (fFPut C.Rules "written") [(.ex (mVar 2)), (.sl 0)]))
  (sSeq (sDrop (mApp (fFPut C.Rules "rows") [(.ex (mVar 3)), (.sl 0)]))
  (sDrop (mApp (fFPut C.Rules "steps") [(.ex (mComp (mIt (mVar 3)) (gmName 5) (fun env => some (true, env)) (mApp (fm_steps_of C) [(.ex (mVar 5))]) [5])), (.sl 0)])))))))))
def fm_Rules___init__ (C : Cs) := fnD 4 6 [0] (m_Rules___init__ C)
theorem bj_Rules___init__ {f : Addr} (T : Tx K mg C) (D_are_letters : Df P w K mg base "are_letters" 1 1 (fm_are_letters C)) (D_is_row : Df P w K mg base "is_row" 4 3 (fm_is_row C)) (D_steps_of : Df P w K mg base "steps_of" 1 1 (fm_steps_of C)) (cdv : Value) (A : Around) (outer : List PySem.Env) (s : Shared) (H : Hp) (E : XK) (hr : Room 3 (A.deeper (PyProof.Rows.envOfC "Rules.__init__" (defScope s_Rules___init__) s.heap.objs.size f cdv))) : ∃ t, BJ (cxOf (L2.CX P w) P w K mg base ["self", "heard", "written", "rows", "state", "row"] "Rules.__init__" (defScope s_Rules___init__) f cdv A outer s H E).nox [0] (defBody s_Rules___init__) t (m_Rules___init__ C) :=
  have sc := sc_Rules___init__
  have hu := hu_of hr
  ⟨_, (b_cons (s_if (t_not (t_val (j_call D_are_letters (hr.mono (by decide)) (l_cons (a_e (j_var 1)) l_nil)))) (b_one s_never) b_nil)
      (b_cons (s_if (t_not (t_val (j_call D_are_letters (hr.mono (by decide)) (l_cons (a_e (j_var 2)) l_nil)))) (b_one s_never) b_nil)
      (b_cons (s_if (t_w (w_or (t_not (t_val (j_cb call_isi den_isi T.f_isinstance (l_cons (a_e (j_var 3)) (l_cons (a_e (j_ty T.f_tuple (by decide +kernel))) l_nil))))) (w_or1 (t_not (t_chain op_le op_le rI0_bl rI0_bl j_int (j_cb call_len den_len T.f_len (l_cons (a_e (j_var 3)) l_nil)) (j_glob (v := .int (999)) T.c_MOST_STATES.choose_spec ⟨_, rfl⟩ (.int _))))))) (b_one s_never) b_nil)
      (b_cons (s_for PassesOwn.never rfl (i_enum T.f_enumerate (l_cons (a_e (j_var 3)) l_nil)) (g_tupK K 2 rfl (gs_cons (g_name 4 sc.nd) (gs_cons (g_name 5 sc.nd) gs_nil))) (b_one (s_if (t_not (t_val (j_call D_is_row (hr.mono (by decide)) (l_cons (a_e (j_var 1)) (l_cons (a_e (j_var 2)) (l_cons (a_e (j_cb call_len den_len T.f_len (l_cons (a_e (j_var 3)) l_nil))) (l_cons (a_e (j_var 5)) l_nil))))))) (b_one s_never) b_nil)))
      (b_cons (s_fput T.k_Rules T.n_Rules_heard (a_e (j_var 1)) (a_sl 0))
      (b_cons (s_fput T.k_Rules T.n_Rules_written (a_e (j_var 2)) (a_sl 0))
      (b_cons (s_fput T.k_Rules T.n_Rules_rows (a_e (j_var 3)) (a_sl 0))
      (b_one (s_fput T.k_Rules T.n_Rules_steps (a_e (j_lc [("row", 5)] rfl sc.nd (blkOk_by (by first | (show blkC N_Rules___init__ (defScope s_Rules___init__) _ _ = true; decide +kernel) | rfl)) (i_any (j_var 3)) (fun _ _ _ _ _ => (g_name 5 sc.nd)) (fun _ _ _ _ _ => ts_nil) (fun _ _ _ _ _ => (j_call D_steps_of (hr.mono (by decide)) (l_cons (a_e (j_var 5)) l_nil))))) (a_sl 0))))))))))⟩
theorem ok_Rules___init__ {f : Addr} {fd : FuncData} (F : FunD K "__init__" "Rules.__init__" (defArgs s_Rules___init__) (defBody s_Rules___init__) (defScope s_Rules___init__) [] [] f fd) (T : Tx K mg C) (hb : Binds K fd ["self", "heard", "written", "rows"] []) (D_are_letters : Df P w K mg base "are_letters" 1 1 (fm_are_letters C)) (D_is_row : Df P w K mg base "is_row" 4 3 (fm_is_row C)) (D_steps_of : Df P w K mg base "steps_of" 1 1 (fm_steps_of C)) : Fx P w K mg base f 4 4 (fm_Rules___init__ C) := fx_of F sc_Rules___init__ hb rfl rfl (by decide) (bj_Rules___init__ T D_are_letters D_is_row D_steps_of)
abbrev s_Rules_read : Stmt := inClass (top 38) 1
abbrev N_Rules_read : List Str := ["cls", "text", "heard", "written", "rows"]
theorem sc_Rules_read : FnScope ["cls", "text", "heard", "written", "rows"] ["cls", "text"] (defScope s_Rules_read) := ⟨rfl, rfl, rfl, by decide +kernel, rfl, by decide +kernel, by decide +kernel⟩
def m_Rules_read (C : Cs) : SM := (sSeq (sAsg (mApp (fm_parts_in C) [(.ex (mVar 1))]) (gmTup 3 (gmCons (gmName 2) (gmCons (gmName 3) (gmCons (gmName 4) gmNil)))))
  (sRet (mMakeL 0 C.Rules (fm_Rules___init__ C) [(.ex (mVar 2)), (.ex (mVar 3)), (.ex (mVar 4))])))
def fm_Rules_read (C : Cs) := fnD 2 5 [] (m_Rules_read C)
theorem bj_Rules_read {f : Addr} (T : Tx K mg C) (D_parts_in : Df P w K mg base "parts_in" 1 3 (fm_parts_in C)) (D_Rules___init__ : Fx P w K mg base C.f_Rules___init__ 4 4 (fm_Rules___init__ C)) (cdv : Value) (A : Around) (outer : List PySem.Env) (s : Shared) (H : Hp) (E : XK) (hr : Room 5 (A.deeper (PyProof.Rows.envOfC "Rules.read" (defScope s_Rules_read) s.heap.objs.size f cdv))) : ∃ t, BJ (cxOf (L2.CX P w) P w K mg base ["cls", "text", "heard", "written", "rows"] "Rules.read" (defScope s_Rules_read) f cdv A outer s H E).nox [] (defBody s_Rules_read) t (m_Rules_read C) :=
  have sc := sc_Rules_read
  have hu := hu_of hr
  ⟨_, (b_cons (s_asg (j_call D_parts_in (hr.mono (by decide)) (l_cons (a_e (j_var 1)) l_nil)) (g_tupK K 3 rfl (gs_cons (g_name 2 sc.nd) (gs_cons (g_name 3 sc.nd) (gs_cons (g_name 4 sc.nd) gs_nil)))))
      (b_one (s_ret (j_makeL 0 T.m_Rules D_Rules___init__ (hr.mono (by decide)) (l_cons (a_e (j_var 2)) (l_cons (a_e (j_var 3)) (l_cons (a_e (j_var 4)) l_nil)))))))⟩
theorem ok_Rules_read {f : Addr} {fd : FuncData} (F : FunD K "read" "Rules.read" (defArgs s_Rules_read) (defBody s_Rules_read) (defScope s_Rules_read) [] [] f fd) (T : Tx K mg C) (hb : Binds K fd ["cls", "text"] []) (D_parts_in : Df P w K mg base "parts_in" 1 3 (fm_parts_in C)) (D_Rules___init__ : Fx P w K mg base C.f_Rules___init__ 4 4 (fm_Rules___init__ C)) : Fx P w K mg base f 2 6 (fm_Rules_read C) := fx_of F sc_Rules_read hb rfl rfl (by decide) (bj_Rules_read T D_parts_in D_Rules___init__)
theorem okW_Rules_read_1 {f : Addr} {fd : FuncData} (F : FunD K "read" "Rules.read" (defArgs s_Rules_read) (defBody s_Rules_read) (defScope s_Rules_read) [] [] f fd) (T : Tx K mg C) (hb : ∀ (s : Shared) (us ws : List Value), us.length = 1 → ws.length = (List.drop 1 (["cls", "text"] : List Str)).length → BindsTo s fd ⟨us, (List.drop 1 (["cls", "text"] : List Str)).zip ws⟩ ((["cls", "text"] : List Str).zip (us ++ ws))) (D_parts_in : Df P w K mg base "parts_in" 1 3 (fm_parts_in C)) (D_Rules___init__ : Fx P w K mg base C.f_Rules___init__ 4 4 (fm_Rules___init__ C)) : FxK P w K mg base f ["cls", "text"] 1 6 (fm_Rules_read C) := fxK_of F sc_Rules_read hb rfl (by decide) (bj_Rules_read T D_parts_in D_Rules___init__)
abbrev s_Rules___str__ : Stmt := inClass (top 38) 2
abbrev N_Rules___str__ : List Str := ["self"]
theorem sc_Rules___str__ : FnScope ["self"] ["self"] (defScope s_Rules___str__) := ⟨rfl, rfl, rfl, by decide +kernel, rfl, by decide +kernel, by decide +kernel⟩
def m_Rules___str__ (C : Cs) : SM := (sRet (mApp fStrP [(.ex (mApp (fm_text_of C) [(.ex (mApp (fFld C.Rules "heard") [(.ex (mVar 0))])), (.ex (mApp (fFld C.Rules "written") [(.ex (mVar 0))])), (.ex (mApp (fFld C.Rules "rows") [(.ex (mVar 0))]))]))]))
def fm_Rules___str__ (C : Cs) := fnD 1 1 [] (m_Rules___str__ C)
theorem bj_Rules___str__ {f : Addr} (T : Tx K mg C) (D_text_of : Df P w K mg base "text_of" 3 1 (fm_text_of C)) (cdv : Value) (A : Around) (outer : List PySem.Env) (s : Shared) (H : Hp) (E : XK) (hr : Room 1 (A.deeper (PyProof.Rows.envOfC "Rules.__str__" (defScope s_Rules___str__) s.heap.objs.size f cdv))) : ∃ t, BJ (cxOf (L2.CX P w) P w K mg base ["self"] "Rules.__str__" (defScope s_Rules___str__) f cdv A outer s H E).nox [] (defBody s_Rules___str__) t (m_Rules___str__ C) :=
  have sc := sc_Rules___str__
  have hu := hu_of hr
  ⟨_, (b_one (s_ret (j_ct call_strP den_strP T.f_str (l_cons (a_e (j_call D_text_of (hr.mono (by decide)) (l_cons (a_e (j_fld T.k_Rules T.n_Rules_heard (a_e (j_var 0)))) (l_cons (a_e (j_fld T.k_Rules T.n_Rules_written (a_e (j_var 0)))) (l_cons (a_e (j_fld T.k_Rules T.n_Rules_rows (a_e (j_var 0)))) l_nil))))) l_nil))))⟩
theorem ok_Rules___str__ {f : Addr} {fd : FuncData} (F : FunD K "__str__" "Rules.__str__" (defArgs s_Rules___str__) (defBody s_Rules___str__) (defScope s_Rules___str__) [] [] f fd) (T : Tx K mg C) (hb : Binds K fd ["self"] []) (D_text_of : Df P w K mg base "text_of" 3 1 (fm_text_of C)) : Fx P w K mg base f 1 2 (fm_Rules___str__ C) := fx_of F sc_Rules___str__ hb rfl rfl (by decide) (bj_Rules___str__ T D_text_of)
abbrev s_Rules___len__ : Stmt := inClass (top 38) 3
abbrev N_Rules___len__ : List Str := ["self"]
theorem sc_Rules___len__ : FnScope ["self"] ["self"] (defScope s_Rules___len__) := ⟨rfl, rfl, rfl, by decide +kernel, rfl, by decide +kernel, by decide +kernel⟩
def m_Rules___len__ (C : Cs) : SM := (sRet (mApp fLen [(.ex (mApp (fFld C.Rules "rows") [(.ex (mVar 0))]))]))
def fm_Rules___len__ (C : Cs) := fnD 1 1 [] (m_Rules___len__ C)
theorem bj_Rules___len__ {f : Addr} (T : Tx K mg C)  (cdv : Value) (A : Around) (outer : List PySem.Env) (s : Shared) (H : Hp) (E : XK) (hr : Room 0 (A.deeper (PyProof.Rows.envOfC "Rules.__len__" (defScope s_Rules___len__) s.heap.objs.size f cdv))) : ∃ t, BJ (cxOf (L2.CX P w) P w K mg base ["self"] "Rules.__len__" (defScope s_Rules___len__) f cdv A outer s H E).nox [] (defBody s_Rules___len__) t (m_Rules___len__ C) :=
  have sc := sc_Rules___len__
  have hu := hu_of hr
  ⟨_, (b_one (s_ret (j_cb call_len den_len T.f_len (l_cons (a_e (j_fld T.k_Rules T.n_Rules_rows (a_e (j_var 0)))) l_nil))))⟩
theorem ok_Rules___len__ {f : Addr} {fd : FuncData} (F : FunD K "__len__" "Rules.__len__" (defArgs s_Rules___len__) (defBody s_Rules___len__) (defScope s_Rules___len__) [] [] f fd) (T : Tx K mg C) (hb : Binds K fd ["self"] [])  : Fx P w K mg base f 1 1 (fm_Rules___len__ C) := fx_of F sc_Rules___len__ hb rfl rfl (by decide) (bj_Rules___len__ T )
abbrev s_Rules___eq__ : Stmt := inClass (top 38) 4
abbrev N_Rules___eq__ : List Str := ["self", "other"]
theorem sc_Rules___eq__ : FnScope ["self", "other"] ["self", "other"] (defScope s_Rules___eq__) := ⟨rfl, rfl, rfl, by decide +kernel, rfl, by decide +kernel, by decide +kernel⟩
def m_Rules___eq__ (C : Cs) : SM := (sSeq (sIf (mNotT (mTest (mApp (fIsiC C.Rules) [(.ex (mVar 1)), .ex (mC (.ref C.Rules))]))) (sRet (mC (.bl false))) sNext)
  (sRet (mApp fEq [(.ex (mApps VH.gTup [(.ex (mApp (fFld C.Rules "heard") [(.ex (mVar 0))])), (.ex (mApp (fFld C.Rules "written") [(.ex (mVar 0))])), (.ex (mApp (fFld C.Rules "rows") [(.ex (mVar 0))]))])), (.ex (mApps VH.gTup [(.ex (mApp (fFld C.Rules "heard") [(.ex (mVar 1))])), (.ex (mApp (fFld C.Rules "written") [(.ex (mVar 1))])), (.ex (mApp (fFld C.Rules "rows") [(.ex (mVar 1))]))]))])))
def fm_Rules___eq__ (C : Cs) := fnD 2 2 [] (m_Rules___eq__ C)
theorem bj_Rules___eq__ {f : Addr} (T : Tx K mg C)  (cdv : Value) (A : Around) (outer : List PySem.Env) (s : Shared) (H : Hp) (E : XK) (hr : Room 0 (A.deeper (PyProof.Rows.envOfC "Rules.__eq__" (defScope s_Rules___eq__) s.heap.objs.size f cdv))) : ∃ t, BJ (cxOf (L2.CX P w) P w K mg base ["self", "other"] "Rules.__eq__" (defScope s_Rules___eq__) f cdv A outer s H E).nox [] (defBody s_Rules___eq__) t (m_Rules___eq__ C) :=
  have sc := sc_Rules___eq__
  have hu := hu_of hr
  ⟨_, (b_cons (s_if (t_not (t_val (j_cb call_isi (den_isiC T.k_Rules T.y_Rules) T.f_isinstance (l_cons (a_e (j_var 1)) (l_cons (a_e (j_glob (v := .ref _) T.g_Rules rfl (.ref _))) l_nil))))) (b_one (s_ret j_bl)) b_nil)
      (b_one (s_ret (j_cmp (op_eqD hr.units) den_eq (nomark _) (a_e (j_tup (l_cons (a_e (j_fld T.k_Rules T.n_Rules_heard (a_e (j_var 0)))) (l_cons (a_e (j_fld T.k_Rules T.n_Rules_written (a_e (j_var 0)))) (l_cons (a_e (j_fld T.k_Rules T.n_Rules_rows (a_e (j_var 0)))) l_nil))))) (a_e (j_tup (l_cons (a_e (j_fld T.k_Rules T.n_Rules_heard (a_e (j_var 1)))) (l_cons (a_e (j_fld T.k_Rules T.n_Rules_written (a_e (j_var 1)))) (l_cons (a_e (j_fld T.k_Rules T.n_Rules_rows (a_e (j_var 1)))) l_nil)))))))))⟩
theorem ok_Rules___eq__ {f : Addr} {fd : FuncData} (F : FunD K "__eq__" "Rules.__eq__" (defArgs s_Rules___eq__) (defBody s_Rules___eq__) (defScope s_Rules___eq__) [] [] f fd) (T : Tx K mg C) (hb : Binds K fd ["self", "other"] [])  : Fx P w K mg base f 2 1 (fm_Rules___eq__ C) := fx_of F sc_Rules___eq__ hb rfl rfl (by decide) (bj_Rules___eq__ T )
abbrev s_Rules_led : Stmt := inClass (top 38) 5
abbrev N_Rules_led : List Str := ["self", "state", "speech", "caption", "found", "key"]
theorem sc_Rules_led : FnScope ["self", "state", "speech", "caption", "found", "key"] ["self", "state", "speech", "caption"] (defScope s_Rules_led) := ⟨rfl, rfl, rfl, by decide +kernel, rfl, by decide +kernel, by decide +kernel⟩
def m_Rules_led (C : Cs) : SM := (sSeq (sIf (mTest (mApp fNe [(.ex (mApp fLen [(.ex (mVar 2))])), (.ex (mApp fLen [(.ex (mVar 3))]))])) (sRet (mC .non)) sNext)
  (sSeq (sAsg (mVar 1) (gmName 4))
  (sSeq (sFor (mArgs [(.ex (mVar 2)), (.ex (mVar 3))] gZip) (gmName 5) (sSeq (sAsg (mApp fGet1U [(.ex (mApp fIx [(.ex (mApp (fFld C.Rules "steps") [(.ex (mVar 0))])), (.ex (mVar 4))])), (.ex (mVar 5))]) (gmName 4))
  (sIf (mTest (mApp (fIs false) [(.ex (mVar 4)), (.ex (mC .non))])) (sRet (mC .non)) sNext)))
  (sRet (mVar 4)))))
def fm_Rules_led (C : Cs) := fnD 4 6 [] (m_Rules_led C)
theorem bj_Rules_led {f : Addr} (T : Tx K mg C)  (cdv : Value) (A : Around) (outer : List PySem.Env) (s : Shared) (H : Hp) (E : XK) (hr : Room 0 (A.deeper (PyProof.Rows.envOfC "Rules.led" (defScope s_Rules_led) s.heap.objs.size f cdv))) : ∃ t, BJ (cxOf (L2.CX P w) P w K mg base ["self", "state", "speech", "caption", "found", "key"] "Rules.led" (defScope s_Rules_led) f cdv A outer s H E).nox [] (defBody s_Rules_led) t (m_Rules_led C) :=
  have sc := sc_Rules_led
  have hu := hu_of hr
  ⟨_, (b_cons (s_if (t_cmp (op_neD hr.units) den_ne (nomark _) (a_e (j_cb call_len den_len T.f_len (l_cons (a_e (j_var 2)) l_nil))) (a_e (j_cb call_len den_len T.f_len (l_cons (a_e (j_var 3)) l_nil)))) (b_one (s_ret j_non)) b_nil)
      (b_cons (s_set 4 sc.nd (j_var 1))
      (b_cons (s_for PassesOwn.never rfl (i_zipN T.f_zip (l_cons (a_e (j_var 2)) (l_cons (a_e (j_var 3)) l_nil))) (g_name 5 sc.nd) (b_cons (s_set 4 sc.nd (j_get1 hr.units (a_e (j_ix (a_e (j_fld T.k_Rules T.n_Rules_steps (a_e (j_var 0)))) (a_e (j_var 4)))) (l_cons (a_e (j_var 5)) l_nil)))
      (b_one (s_if (t_cmp op_isA den_is (by rfl) (a_e (j_var 4)) (a_e j_non)) (b_one (s_ret j_non)) b_nil))))
      (b_one (s_ret (j_var 4))))))⟩
theorem ok_Rules_led {f : Addr} {fd : FuncData} (F : FunD K "led" "Rules.led" (defArgs s_Rules_led) (defBody s_Rules_led) (defScope s_Rules_led) [] [] f fd) (T : Tx K mg C) (hb : Binds K fd ["self", "state", "speech", "caption"] [])  : Fx P w K mg base f 4 1 (fm_Rules_led C) := fx_of F sc_Rules_led hb rfl rfl (by decide) (bj_Rules_led T )
abbrev s__law_deck : Stmt := top 40
abbrev N__law_deck : List Str := ["script", "cells", "ground", "cell"]
theorem sc__law_deck : FnScope ["script", "cells", "ground", "cell"] ["script"] (defScope s__law_deck) := ⟨rfl, rfl, rfl, by decide +kernel, rfl, by decide +kernel, by decide +kernel⟩
def m__law_deck (C : Cs) : SM := (sSeq (sPar2 1 2 [(.ex (mApp fList [(.ex (mSlice (mVar 0) oNone (oSome (mC (.int 63)))))])), (.ex (mC (.int 10866002)))])
  (sSeq (sFor (mIt (mVar 1)) (gmName 3) (sAsg (mApp fMod [(.ex (mApp fInt [(.ex (mApp fAdd [(.ex (mApp fAdd [(.ex (mApp fMulA [(.ex (mVar 2)), (.ex (mC (.int 48271)))])), (.ex (mApp fMod [(.ex (mApp fInt [(.ex (mVar 3))])), (.ex (mC (.int 2147483629)))]))])), (.ex (mC (.int 602)))]))])), (.ex (mC (.int 2147483587)))]) (gmName 2)))
  (sRet (mDisp [((mC (.str "cells")), (mApp fRev [(.ex (mVar 1))])), ((mC (.str "ground")), (mVar 2)), ((mC (.str "draws")), (mC (.int 0)))]))))
def fm__law_deck (C : Cs) := fnD 1 4 [] (m__law_deck C)
theorem bj__law_deck {f : Addr} (T : Tx K mg C)  (cdv : Value) (A : Around) (outer : List PySem.Env) (s : Shared) (H : Hp) (E : XK) (hr : Room 0 (A.deeper (PyProof.Rows.envOfC "_law_deck" (defScope s__law_deck) s.heap.objs.size f cdv))) : ∃ t, BJ (cxOf (L2.CX P w) P w K mg base ["script", "cells", "ground", "cell"] "_law_deck" (defScope s__law_deck) f cdv A outer s H E).nox [] (defBody s__law_deck) t (m__law_deck C) :=
  have sc := sc__law_deck
  have hu := hu_of hr
  ⟨_, (b_cons (s_par2 1 2 sc.nd (l_cons (a_e (j_ct call_list_of den_list T.f_list (l_cons (a_e (j_slice (j_var 0) o_none (o_some j_int))) l_nil))) (l_cons (a_e j_int) l_nil)))
      (b_cons (s_for PassesOwn.never rfl (i_any (j_var 1)) (g_name 3 sc.nd) (b_one (s_set 2 sc.nd (j_op op_mod den_mod (a_e (j_ct call_int1 den_intR T.f_int (l_cons (a_e (j_op op_addA den_add (a_e (j_op op_addA den_add (a_e (j_op op_mulA den_mulA (a_e (j_var 2)) (a_e j_int))) (a_e (j_op op_mod den_mod (a_e (j_ct call_int1 den_intR T.f_int (l_cons (a_e (j_var 3)) l_nil))) (a_e j_int))))) (a_e j_int))) l_nil))) (a_e j_int)))))
      (b_one (s_ret (j_disp (d_cons j_str (j_rev (a_e (j_var 1))) (d_cons j_str (j_var 2) (d_cons j_str j_int d_nil))))))))⟩
theorem ok__law_deck {f : Addr} {fd : FuncData} (F : FunD K "_law_deck" "_law_deck" (defArgs s__law_deck) (defBody s__law_deck) (defScope s__law_deck) [] [] f fd) (T : Tx K mg C) (hm : mg "_law_deck" = some (.ref f)) (hb : Binds K fd ["script"] [])  : Df P w K mg base "_law_deck" 1 1 (fm__law_deck C) := df_of F sc__law_deck hm hb rfl rfl (by decide) (bj__law_deck T )
abbrev s__law_draw : Stmt := top 41
abbrev N__law_draw : List Str := ["deck", "below", "turn", "figure", "cell"]
theorem sc__law_draw : FnScope ["deck", "below", "turn", "figure", "cell"] ["deck", "below"] (defScope s__law_draw) := ⟨rfl, rfl, rfl, by decide +kernel, rfl, by decide +kernel, by decide +kernel⟩
def m__law_draw (C : Cs) : SM := (sSeq (sDrop (mApp fDPut [(.ex (mApp fAdd [(.ex (mApp fDGet [(.sl 0), (.ex (mC (.str "draws")))])), (.ex (mC (.int 1)))])), (.sl 0), (.ex (mC (.str "draws")))]))
  (sSeq (sPar2 2 3 [(.ex (mApp fDGet [(.sl 0), (.ex (mC (.str "draws")))])), (.ex (mApp fDGet [(.sl 0), (.ex (mC (.str "ground")))]))])
  (sSeq (sIf (mTest (mApp fNe [(.pt 0 (pKey (.inr "cells"))), (.ex (mApps gLst []))])) (sSeq (sAsg (mApp fPop [(.pt 0 (pKey (.inr "cells")))]) (gmName 4))
  (sSeq (sIf (mTest (mApp fGe [(.ex (mVar 4)), (.ex (mApp fPow [(.ex (mC (.int 10))), (.ex (mC (.int 18)))]))])) (sSeq (sDrop (mApp fAppend [(.pt 0 (pKey (.inr "cells"))), (.ex (mApp fDiv [(.ex (mVar 4)), (.ex (mVar 1))]))]))
  (sRet (mApp fMod [(.ex (mApp fInt [(.ex (mVar 4))])), (.ex (mVar 1))]))) sNext)
  (sAsg (mApp fAdd [(.ex (mVar 3)), (.ex (mApp fMod [(.ex (mApp fInt [(.ex (mVar 4))])), (.ex (mC (.int 2147483563)))]))]) (gmName 3)))) sNext)
  (sSeq (sAsg (mApp fMod [(.ex (mApp fMulA [(.ex (mApp fInt [(.ex (mApp fAdd [(.ex (mApp fAdd [(.ex (mApp fMod [(.ex (mVar 3)), (.ex (mC (.int 2147483629)))])), (.ex (mApp fMulA [(.ex (mApp fMulA [(.ex (mC (.int 62219))), (.ex (mVar 2))])), (.ex (mVar 2))]))])), (.ex (mC (.int 67)))]))])), (.ex (mC (.int 40692)))])), (.ex (mC (.int 2147483647)))]) (gmName 3))
  (sSeq (sAsg (mApp fMod [(.ex (mApp fInt [(.ex (mApp fAdd [(.ex (mApp fAdd [(.ex (mApp fMulA [(.ex (mVar 3)), (.ex (mVar 3))])), (.ex (mApp fMulA [(.ex (mC (.int 39373))), (.ex (mVar 2))]))])), (.ex (mC (.int 602)))]))])), (.ex (mC (.int 2147483579)))]) (gmName 3))
  (sRet (mApp fMod [(.ex (mApp fDiv [(.ex (mApp fMod [(.ex (mApp fInt [(.ex (mApp fMulA [(.ex (mVar 3)), (.ex (mC (.int 69621)))]))])), (.ex (mC (.int 2147483549)))])), (.ex (mC (.int 64)))])), (.ex (mVar 1))])))))))
def fm__law_draw (C : Cs) := fnD 2 5 [0] (m__law_draw C)
theorem bj__law_draw {f : Addr} (T : Tx K mg C)  (cdv : Value) (A : Around) (outer : List PySem.Env) (s : Shared) (H : Hp) (E : XK) (hr : Room 0 (A.deeper (PyProof.Rows.envOfC "_law_draw" (defScope s__law_draw) s.heap.objs.size f cdv))) : ∃ t, BJ (cxOf (L2.CX P w) P w K mg base ["deck", "below", "turn", "figure", "cell"] "_law_draw" (defScope s__law_draw) f cdv A outer s H E).nox [0] (defBody s__law_draw) t (m__law_draw C) :=
  have sc := sc__law_draw
  have hu := hu_of hr
  ⟨_, (b_cons (s_dput hu (a_e (j_op op_addA den_add (a_e (j_dget hu (a_sl 0) (a_e j_str))) (a_e j_int))) (a_sl 0) (a_e j_str))
      (b_cons (s_par2 2 3 sc.nd (l_cons (a_e (j_dget hu (a_sl 0) (a_e j_str))) (l_cons (a_e (j_dget hu (a_sl 0) (a_e j_str))) l_nil)))
      (b_cons (s_if (t_cmp (op_neD hr.units) den_ne (nomark _) (a_keyS 0 "cells" hu) (a_e (j_lst l_nil))) (b_cons (s_set 4 sc.nd (j_bm0 PySem.F.plainAttrs_list PySem.F.slot_list_pop PySem.F.type_list_pop mt_pop den_pop ty_pop (a_keyS 0 "cells" hu)))
      (b_cons (s_if (t_cmp op_ge den_ge (nomark _) (a_e (j_var 4)) (a_e (j_op op_pow den_pow (a_e j_int) (a_e j_int)))) (b_cons (s_expr (j_bm PySem.F.plainAttrs_list PySem.F.slot_list_append PySem.F.type_list_append mt_append den_append ty_append (a_keyS 0 "cells" hu) (l_cons (a_e (j_op op_fdivN den_fdiv (a_e (j_var 4)) (a_e (j_var 1)))) l_nil)))
      (b_one (s_ret (j_op op_mod den_mod (a_e (j_ct call_int1 den_intR T.f_int (l_cons (a_e (j_var 4)) l_nil))) (a_e (j_var 1)))))) b_nil)
      (b_one (s_set 3 sc.nd (j_op op_addA den_add (a_e (j_var 3)) (a_e (j_op op_mod den_mod (a_e (j_ct call_int1 den_intR T.f_int (l_cons (a_e (j_var 4)) l_nil))) (a_e j_int)))))))) b_nil)
      (b_cons (s_set 3 sc.nd (j_op op_mod den_mod (a_e (j_op op_mulA den_mulA (a_e (j_ct call_int1 den_intR T.f_int (l_cons (a_e (j_op op_addA den_add (a_e (j_op op_addA den_add (a_e (j_op op_mod den_mod (a_e (j_var 3)) (a_e j_int))) (a_e (j_op op_mulA den_mulA (a_e (j_op op_mulA den_mulA (a_e j_int) (a_e (j_var 2)))) (a_e (j_var 2)))))) (a_e j_int))) l_nil))) (a_e j_int))) (a_e j_int)))
      (b_cons (s_set 3 sc.nd (j_op op_mod den_mod (a_e (j_ct call_int1 den_intR T.f_int (l_cons (a_e (j_op op_addA den_add (a_e (j_op op_addA den_add (a_e (j_op op_mulA den_mulA (a_e (j_var 3)) (a_e (j_var 3)))) (a_e (j_op op_mulA den_mulA (a_e j_int) (a_e (j_var 2)))))) (a_e j_int))) l_nil))) (a_e j_int)))
      (b_one (s_ret (j_op op_mod den_mod (a_e (j_op op_fdivN den_fdiv (a_e (j_op op_mod den_mod (a_e (j_ct call_int1 den_intR T.f_int (l_cons (a_e (j_op op_mulA den_mulA (a_e (j_var 3)) (a_e j_int))) l_nil))) (a_e j_int))) (a_e j_int))) (a_e (j_var 1))))))))))⟩
theorem ok__law_draw {f : Addr} {fd : FuncData} (F : FunD K "_law_draw" "_law_draw" (defArgs s__law_draw) (defBody s__law_draw) (defScope s__law_draw) [] [] f fd) (T : Tx K mg C) (hm : mg "_law_draw" = some (.ref f)) (hb : Binds K fd ["deck", "below"] [])  : Df P w K mg base "_law_draw" 2 1 (fm__law_draw C) := df_of F sc__law_draw hm hb rfl rfl (by decide) (bj__law_draw T )
abbrev s__law_pick : Stmt := top 42
abbrev N__law_pick : List Str := ["deck", "some"]
theorem sc__law_pick : FnScope ["deck", "some"] ["deck", "some"] (defScope s__law_pick) := ⟨rfl, rfl, rfl, by decide +kernel, rfl, by decide +kernel, by decide +kernel⟩
def m__law_pick (C : Cs) : SM := (sRet (mApp fIx [(.ex (mVar 1)), (.ex (mApp (fm__law_draw C) [(.sl 0), (.ex (mApp fLen [(.ex (mVar 1))]))]))]))
def fm__law_pick (C : Cs) := fnD 2 2 [0] (m__law_pick C)
theorem bj__law_pick {f : Addr} (T : Tx K mg C) (D__law_draw : Df P w K mg base "_law_draw" 2 1 (fm__law_draw C)) (cdv : Value) (A : Around) (outer : List PySem.Env) (s : Shared) (H : Hp) (E : XK) (hr : Room 1 (A.deeper (PyProof.Rows.envOfC "_law_pick" (defScope s__law_pick) s.heap.objs.size f cdv))) : ∃ t, BJ (cxOf (L2.CX P w) P w K mg base ["deck", "some"] "_law_pick" (defScope s__law_pick) f cdv A outer s H E).nox [0] (defBody s__law_pick) t (m__law_pick C) :=
  have sc := sc__law_pick
  have hu := hu_of hr
  ⟨_, (b_one (s_ret (j_ix (a_e (j_var 1)) (a_e (j_call D__law_draw (hr.mono (by decide)) (l_cons (a_sl 0) (l_cons (a_e (j_cb call_len den_len T.f_len (l_cons (a_e (j_var 1)) l_nil))) l_nil)))))))⟩
theorem ok__law_pick {f : Addr} {fd : FuncData} (F : FunD K "_law_pick" "_law_pick" (defArgs s__law_pick) (defBody s__law_pick) (defScope s__law_pick) [] [] f fd) (T : Tx K mg C) (hm : mg "_law_pick" = some (.ref f)) (hb : Binds K fd ["deck", "some"] []) (D__law_draw : Df P w K mg base "_law_draw" 2 1 (fm__law_draw C)) : Df P w K mg base "_law_pick" 2 2 (fm__law_pick C) := df_of F sc__law_pick hm hb rfl rfl (by decide) (bj__law_pick T D__law_draw)
abbrev s__law_signs : Stmt := top 43
abbrev N__law_signs : List Str := ["deck", "many", "alphabet", "go"]
theorem sc__law_signs : FnScope ["deck", "many", "alphabet", "go"] ["deck", "many"] (defScope s__law_signs) := ⟨rfl, rfl, rfl, by decide +kernel, rfl, by decide +kernel, by decide +kernel⟩
def m__law_signs (C : Cs) : SM := (sSeq (sAsg (mC (.str "abcdefghijklmnopqrstuvwxyz")) (gmName 2))
  (sSeq (sIf (mTest (mApp fGt [(.ex (mApp (fm__law_draw C) [(.sl 0), (.ex (mC (.int 3)))])), (.ex (mC (.int 0)))])) (sRet (mApp (fm__law_pick C) [(.sl 0), (.ex (mApps gLst [(.ex (mC (.str "ab"))), (.ex (mC (.str "ab"))), (.ex (mC (.str "abc"))), (.ex (mC (.str "a")))]))])) sNext)
  (sRet (mApp fJoin [(.ex (mC (.str ""))), (.ex (mApp fSortSet [(.ex (mComp (mArgs [(.ex (mApp fAdd [(.ex (mC (.int 1))), (.ex (mApp (fm__law_draw C) [(.sl 0), (.ex (mVar 1))]))]))] gRange1) (gmName 3) (fun env => some (true, env)) (mApp (fm__law_pick C) [(.sl 0), (.ex (mVar 2))]) [3]))]))]))))
def fm__law_signs (C : Cs) := fnD 2 4 [0] (m__law_signs C)
theorem bj__law_signs {f : Addr} (T : Tx K mg C) (D__law_draw : Df P w K mg base "_law_draw" 2 1 (fm__law_draw C)) (D__law_pick : Df P w K mg base "_law_pick" 2 2 (fm__law_pick C)) (cdv : Value) (A : Around) (outer : List PySem.Env) (s : Shared) (H : Hp) (E : XK) (hr : Room 2 (A.deeper (PyProof.Rows.envOfC "_law_signs" (defScope s__law_signs) s.heap.objs.size f cdv))) : ∃ t, BJ (cxOf (L2.CX P w) P w K mg base ["deck", "many", "alphabet", "go"] "_law_signs" (defScope s__law_signs) f cdv A outer s H E).nox [0] (defBody s__law_signs) t (m__law_signs C) :=
  have sc := sc__law_signs
  have hu := hu_of hr
  ⟨_, (b_cons (s_set 2 sc.nd j_str)
      (b_cons (s_if (t_cmp op_gt den_gt (nomark _) (a_e (j_call D__law_draw (hr.mono (by decide)) (l_cons (a_sl 0) (l_cons (a_e j_int) l_nil)))) (a_e j_int)) (b_one (s_ret (j_call D__law_pick (hr.mono (by decide)) (l_cons (a_sl 0) (l_cons (a_e (j_lst (l_cons (a_e j_str) (l_cons (a_e j_str) (l_cons (a_e j_str) (l_cons (a_e j_str) l_nil)))))) l_nil))))) b_nil)
      (b_one (s_ret (j_m1 PySem.F.slot_str_join PySem.F.type_str_join mt_join den_join ty_join (a_e j_str) (a_e (j_nest (cr_sortAny rfl) (cr_setAny rfl) den_sortSet T.f_sorted T.f_set (l_cons (a_e (j_lc [("go", 3)] rfl sc.nd (blkOk_by (by first | (show blkC N__law_signs (defScope s__law_signs) _ _ = true; decide +kernel) | rfl)) (i_range1 T.f_range (l_cons (a_e (j_op op_addA den_add (a_e j_int) (a_e (j_call D__law_draw (hr.mono (by decide)) (l_cons (a_sl 0) (l_cons (a_e (j_var 1)) l_nil)))))) l_nil)) (fun _ _ _ _ _ => (g_name 3 sc.nd)) (fun _ _ _ _ _ => ts_nil) (fun _ _ _ _ _ => (j_call D__law_pick (hr.mono (by decide)) (l_cons (a_sl 0) (l_cons (a_e (j_var 2)) l_nil)))))) l_nil))))))))⟩
theorem ok__law_signs {f : Addr} {fd : FuncData} (F : FunD K "_law_signs" "_law_signs" (defArgs s__law_signs) (defBody s__law_signs) (defScope s__law_signs) [] [] f fd) (T : Tx K mg C) (hm : mg "_law_signs" = some (.ref f)) (hb : Binds K fd ["deck", "many"] []) (D__law_draw : Df P w K mg base "_law_draw" 2 1 (fm__law_draw C)) (D__law_pick : Df P w K mg base "_law_pick" 2 2 (fm__law_pick C)) : Df P w K mg base "_law_signs" 2 3 (fm__law_signs C) := df_of F sc__law_signs hm hb rfl rfl (by decide) (bj__law_signs T D__law_draw D__law_pick)
abbrev s__law_once : Stmt := top 45
abbrev N__law_once : List Str := ["deck", "top", "is_total", "count", "hs", "cs", "lines", "dense", "s", "row", "h", "some", "c"]
theorem sc__law_once : FnScope ["deck", "top", "is_total", "count", "hs", "cs", "lines", "dense", "s", "row", "h", "some", "c"] ["deck", "top", "is_total"] (defScope s__law_once) := ⟨rfl, rfl, rfl, by decide +kernel, rfl, by decide +kernel, by decide +kernel⟩
def m__law_once (C : Cs) : SM := (sSeq (sAsg (mApps gTupO [(.ex (mApp fAdd [(.ex (mC (.int 1))), (.ex (mApp fMax2 [(.ex (mApp (fm__law_draw C) [(.sl 0), (.ex (mVar 1))])), (.ex (mApp (fm__law_draw C) [(.sl 0), (.ex (mVar 1))]))]))])), (.ex (mApp (fm__law_signs C) [(.sl 0), (.ex (mC (.int 3)))])), (.ex (mApp (fm__law_signs C) [(.sl 0), (.ex (mC (.int 3)))]))]) (gmTup 3 (gmCons (gmName 3) (gmCons (gmName 4) (gmCons (gmName 5) gmNil)))))
  (sSeq (sAsg (mApps gTupO [(.ex (mApps gLst [])), (.ex (mApp (fm__law_draw C) [(.sl 0), (.ex (mC (.int 3)))]))]) (gmTup 2 (gmCons (gmName 6) (gmCons (gmName 7) gmNil))))
  (sSeq (sFor (mArgs [(.ex (mVar 3))] gRange1) (gmName 8) (sSeq (sAsg (mApps gLst []) (gmName 9))
  (sSeq (sFor (mIt (mVar 4)) (gmName 10) (sSeq (sAsg (mComp (mIt (mVar 5)) (gmName 12) (mTest (mApp fLt [(.ex (mApp (fm__law_draw C) [(.sl 0), (.ex (mC (.int 5)))])), (.ex (mApp fAdd [(.ex (mC (.int 2))), (.ex (mVar 7))]))])) (mVar 12) [12]) (gmName 11))
  (sSeq (sIf (mAndT (mTest (mVar 2)) (mTest (mApp fEq [(.ex (mVar 11)), (.ex (mApps gLst []))]))) (sAsg (mApps gLst [(.ex (mApp (fm__law_pick C) [(.sl 0), (.ex (mVar 5))]))]) (gmName 11)) sNext)
  (sDrop (mApp fExtend [(.sl 9), (.ex (mComp (mIt (mVar 11)) (gmName 12) (fun env => some (true, env)) (mApps VH.gTup [(.ex (mVar 10)), (.ex (mVar 12)), (.ex (mApp (fm__law_draw C) [(.sl 0), (.ex (mVar 3))]))]) [12]))])))))
  (sDrop (mApp fAppend [(.sl 6), (.ex (mApp fTuple [(.ex (mVar 9))]))])))))
  (sRet (mDisp [((mC (.str "hs")), (mVar 4)), ((mC (.str "cs")), (mVar 5)), ((mC (.str "lines")), (mApp fTuple [(.ex (mVar 6))]))])))))
def fm__law_once (C : Cs) := fnD 3 13 [0] (m__law_once C)
theorem bj__law_once {f : Addr} (T : Tx K mg C) (D__law_draw : Df P w K mg base "_law_draw" 2 1 (fm__law_draw C)) (D__law_signs : Df P w K mg base "_law_signs" 2 3 (fm__law_signs C)) (D__law_pick : Df P w K mg base "_law_pick" 2 2 (fm__law_pick C)) (cdv : Value) (A : Around) (outer : List PySem.Env) (s : Shared) (H : Hp) (E : XK) (hr : Room 3 (A.deeper (PyProof.Rows.envOfC "_law_once" (defScope s__law_once) s.heap.objs.size f cdv))) : ∃ t, BJ (cxOf (L2.CX P w) P w K mg base ["deck", "top", "is_total", "count", "hs", "cs", "lines", "dense", "s", "row", "h", "some", "c"] "_law_once" (defScope s__law_once) f cdv A outer s H E).nox [0] (defBody s__law_once) t (m__law_once C) :=
  have sc := sc__law_once
  have hu := hu_of hr
  ⟨_, (b_cons (s_asg (j_tupO (l_cons (a_e (j_op op_addA den_add (a_e j_int) (a_e (j_cb (call_max2 rfl) den_max2 T.f_max (l_cons (a_e (j_call D__law_draw (hr.mono (by decide)) (l_cons (a_sl 0) (l_cons (a_e (j_var 1)) l_nil)))) (l_cons (a_e (j_call D__law_draw (hr.mono (by decide)) (l_cons (a_sl 0) (l_cons (a_e (j_var 1)) l_nil)))) l_nil)))))) (l_cons (a_e (j_call D__law_signs (hr.mono (by decide)) (l_cons (a_sl 0) (l_cons (a_e j_int) l_nil)))) (l_cons (a_e (j_call D__law_signs (hr.mono (by decide)) (l_cons (a_sl 0) (l_cons (a_e j_int) l_nil)))) l_nil)))) (g_tupK K 3 rfl (gs_cons (g_name 3 sc.nd) (gs_cons (g_name 4 sc.nd) (gs_cons (g_name 5 sc.nd) gs_nil)))))
      (b_cons (s_asg (j_tupO (l_cons (a_e (j_lst l_nil)) (l_cons (a_e (j_call D__law_draw (hr.mono (by decide)) (l_cons (a_sl 0) (l_cons (a_e j_int) l_nil)))) l_nil))) (g_tupK K 2 rfl (gs_cons (g_name 6 sc.nd) (gs_cons (g_name 7 sc.nd) gs_nil))))
      (b_cons (s_for PassesOwn.never rfl (i_range1 T.f_range (l_cons (a_e (j_var 3)) l_nil)) (g_name 8 sc.nd) (b_cons (s_set 9 sc.nd (j_lst l_nil))
      (b_cons (s_for PassesOwn.never rfl (i_any (j_var 4)) (g_name 10 sc.nd) (b_cons (s_lc 11 [("c", 12)] rfl sc.nd (blkOk_by (by first | (show blkC N__law_once (defScope s__law_once) _ _ = true; decide +kernel) | rfl)) (i_any (j_var 5)) (fun _ _ _ _ _ => (g_name 12 sc.nd)) (fun _ _ _ _ _ => (ts_one (t_cmp op_ltA den_ord (nomark _) (a_e (j_call D__law_draw (hr.mono (by decide)) (l_cons (a_sl 0) (l_cons (a_e j_int) l_nil)))) (a_e (j_op op_addA den_add (a_e j_int) (a_e (j_var 7))))))) (fun _ _ _ _ _ => (j_var 12)) (sw_true rfl rfl rfl (by decide +kernel)))
      (b_cons (s_if (t_w (w_and (t_val (j_var 2)) (w_and1 (t_cmp (op_eqD hr.units) den_eq (nomark _) (a_e (j_var 11)) (a_e (j_lst l_nil)))))) (b_one (s_set 11 sc.nd (j_lst (l_cons (a_e (j_call D__law_pick (hr.mono (by decide)) (l_cons (a_sl 0) (l_cons (a_e (j_var 5)) l_nil)))) l_nil)))) b_nil)
      (b_one (s_expr (j_bm PySem.F.plainAttrs_list PySem.F.slot_list_extend PySem.F.type_list_extend mt_extend den_extend ty_extend (a_sl 9) (l_cons (a_e (j_lc [("c", 12)] rfl sc.nd (blkOk_by (by first | (show blkC N__law_once (defScope s__law_once) _ _ = true; decide +kernel) | rfl)) (i_any (j_var 11)) (fun _ _ _ _ _ => (g_name 12 sc.nd)) (fun _ _ _ _ _ => ts_nil) (fun _ _ _ _ _ => (j_tup (l_cons (a_e (j_var 10)) (l_cons (a_e (j_var 12)) (l_cons (a_e (j_call D__law_draw (hr.mono (by decide)) (l_cons (a_sl 0) (l_cons (a_e (j_var 3)) l_nil)))) l_nil))))))) l_nil)))))))
      (b_one (s_expr (j_bm PySem.F.plainAttrs_list PySem.F.slot_list_append PySem.F.type_list_append mt_append den_append ty_append (a_sl 6) (l_cons (a_e (j_ct call_tuple_of den_tuple T.f_tuple (l_cons (a_e (j_var 9)) l_nil))) l_nil)))))))
      (b_one (s_ret (j_disp (d_cons j_str (j_var 4) (d_cons j_str (j_var 5) (d_cons j_str (j_ct call_tuple_of den_tuple T.f_tuple (l_cons (a_e (j_var 6)) l_nil)) d_nil)))))))))⟩
theorem ok__law_once {f : Addr} {fd : FuncData} (F : FunD K "_law_once" "_law_once" (defArgs s__law_once) (defBody s__law_once) (defScope s__law_once) [] [] f fd) (T : Tx K mg C) (hm : mg "_law_once" = some (.ref f)) (hb : Binds K fd ["deck", "top", "is_total"] []) (D__law_draw : Df P w K mg base "_law_draw" 2 1 (fm__law_draw C)) (D__law_signs : Df P w K mg base "_law_signs" 2 3 (fm__law_signs C)) (D__law_pick : Df P w K mg base "_law_pick" 2 2 (fm__law_pick C)) : Df P w K mg base "_law_once" 3 4 (fm__law_once C) := df_of F sc__law_once hm hb rfl rfl (by decide) (bj__law_once T D__law_draw D__law_signs D__law_pick)
abbrev s__law_world : Stmt := top 44
abbrev N__law_world : List Str := ["deck", "top", "is_total", "w", "go", "h", "c", "t"]
theorem sc__law_world : FnScope ["deck", "top", "is_total", "w", "go", "h", "c", "t"] ["deck", "top", "is_total"] (defScope s__law_world) := ⟨rfl, rfl, rfl, by decide +kernel, rfl, by decide +kernel, by decide +kernel⟩
def m__law_world (C : Cs) : SM := (sSeq (sAsg (mApp (fm__law_once C) [(.sl 0), (.ex (mVar 1)), (.ex (mVar 2))]) (gmName 3))
  (sSeq (sFor (mArgs [(.ex (mApp (fm__law_draw C) [(.sl 0), (.ex (mC (.int 4)))]))] gRange1) (gmName 4) (sIf (mTest (mApp fEq [(.ex (mComp (mIt (mApp fIx [(.ex (mApp fDGet [(.ex (mVar 3)), (.ex (mC (.str "lines")))])), (.ex (mC (.int 0)))])) (gmTup 3 (gmCons (gmName 5) (gmCons (gmName 6) (gmCons (gmName 7) gmNil)))) (mTest (mApp fNe [(.ex (mVar 7)), (.ex (mC (.int 0)))])) (mC (.int 1)) [5, 6, 7])), (.ex (mApps gLst []))])) (sAsg (mApp (fm__law_once C) [(.sl 0), (.ex (mVar 1)), (.ex (mVar 2))]) (gmName 3)) sNext))
  (sRet (mVar 3))))
def fm__law_world (C : Cs) := fnD 3 8 [0] (m__law_world C)
theorem bj__law_world {f : Addr} (T : Tx K mg C) (D__law_once : Df P w K mg base "_law_once" 3 4 (fm__law_once C)) (D__law_draw : Df P w K mg base "_law_draw" 2 1 (fm__law_draw C)) (cdv : Value) (A : Around) (outer : List PySem.Env) (s : Shared) (H : Hp) (E : XK) (hr : Room 4 (A.deeper (PyProof.Rows.envOfC "_law_world" (defScope s__law_world) s.heap.objs.size f cdv))) : ∃ t, BJ (cxOf (L2.CX P w) P w K mg base ["deck", "top", "is_total", "w", "go", "h", "c", "t"] "_law_world" (defScope s__law_world) f cdv A outer s H E).nox [0] (defBody s__law_world) t (m__law_world C) :=
  have sc := sc__law_world
  have hu := hu_of hr
  ⟨_, (b_cons (s_set 3 sc.nd (j_call D__law_once (hr.mono (by decide)) (l_cons (a_sl 0) (l_cons (a_e (j_var 1)) (l_cons (a_e (j_var 2)) l_nil)))))
      (b_cons (s_for PassesOwn.never rfl (i_range1 T.f_range (l_cons (a_e (j_call D__law_draw (hr.mono (by decide)) (l_cons (a_sl 0) (l_cons (a_e j_int) l_nil)))) l_nil)) (g_name 4 sc.nd) (b_one (s_if (t_cmp (op_eqD hr.units) den_eq (nomark _) (a_e (j_lc [("h", 5), ("c", 6), ("t", 7)] rfl sc.nd (blkOk_by (by first | (show blkC N__law_world (defScope s__law_world) _ _ = true; decide +kernel) | rfl)) (i_any (j_ix (a_e (j_dget hu (a_e (j_var 3)) (a_e j_str))) (a_e j_int))) (fun _ _ _ _ _ => (g_tupK K 3 rfl (gs_cons (g_name 5 sc.nd) (gs_cons (g_name 6 sc.nd) (gs_cons (g_name 7 sc.nd) gs_nil))))) (fun _ _ _ _ _ => (ts_one (t_cmp (op_neD hr.units) den_ne (nomark _) (a_e (j_var 7)) (a_e j_int)))) (fun _ _ _ _ _ => j_int))) (a_e (j_lst l_nil))) (b_one (s_set 3 sc.nd (j_call D__law_once (hr.mono (by decide)) (l_cons (a_sl 0) (l_cons (a_e (j_var 1)) (l_cons (a_e (j_var 2)) l_nil)))))) b_nil)))
      (b_one (s_ret (j_var 3)))))⟩
theorem ok__law_world {f : Addr} {fd : FuncData} (F : FunD K "_law_world" "_law_world" (defArgs s__law_world) (defBody s__law_world) (defScope s__law_world) [] [] f fd) (T : Tx K mg C) (hm : mg "_law_world" = some (.ref f)) (hb : Binds K fd ["deck", "top", "is_total"] []) (D__law_once : Df P w K mg base "_law_once" 3 4 (fm__law_once C)) (D__law_draw : Df P w K mg base "_law_draw" 2 1 (fm__law_draw C)) : Df P w K mg base "_law_world" 3 5 (fm__law_world C) := df_of F sc__law_world hm hb rfl rfl (by decide) (bj__law_world T D__law_once D__law_draw)
abbrev s__law_code : Stmt := top 46
abbrev N__law_code : List Str := ["w"]
theorem sc__law_code : FnScope ["w"] ["w"] (defScope s__law_code) := ⟨rfl, rfl, rfl, by decide +kernel, rfl, by decide +kernel, by decide +kernel⟩
def m__law_code (C : Cs) : SM := (sRet (mApp (fMake C.Rules (fm_Rules___init__ C)) [(.ex (mApp fDGet [(.ex (mVar 0)), (.ex (mC (.str "hs")))])), (.ex (mApp fDGet [(.ex (mVar 0)), (.ex (mC (.str "cs")))])), (.ex (mApp fDGet [(.ex (mVar 0)), (.ex (mC (.str "lines")))]))]))
def fm__law_code (C : Cs) := fnD 1 1 [] (m__law_code C)
theorem bj__law_code {f : Addr} (T : Tx K mg C) (D_Rules___init__ : Fx P w K mg base C.f_Rules___init__ 4 4 (fm_Rules___init__ C)) (cdv : Value) (A : Around) (outer : List PySem.Env) (s : Shared) (H : Hp) (E : XK) (hr : Room 5 (A.deeper (PyProof.Rows.envOfC "_law_code" (defScope s__law_code) s.heap.objs.size f cdv))) : ∃ t, BJ (cxOf (L2.CX P w) P w K mg base ["w"] "_law_code" (defScope s__law_code) f cdv A outer s H E).nox [] (defBody s__law_code) t (m__law_code C) :=
  have sc := sc__law_code
  have hu := hu_of hr
  ⟨_, (b_one (s_ret (j_make T.m_Rules D_Rules___init__ (hr.mono (by decide)) T.g_Rules (l_cons (a_e (j_dget hu (a_e (j_var 0)) (a_e j_str))) (l_cons (a_e (j_dget hu (a_e (j_var 0)) (a_e j_str))) (l_cons (a_e (j_dget hu (a_e (j_var 0)) (a_e j_str))) l_nil))))))⟩
theorem ok__law_code {f : Addr} {fd : FuncData} (F : FunD K "_law_code" "_law_code" (defArgs s__law_code) (defBody s__law_code) (defScope s__law_code) [] [] f fd) (T : Tx K mg C) (hm : mg "_law_code" = some (.ref f)) (hb : Binds K fd ["w"] []) (D_Rules___init__ : Fx P w K mg base C.f_Rules___init__ 4 4 (fm_Rules___init__ C)) : Df P w K mg base "_law_code" 1 6 (fm__law_code C) := df_of F sc__law_code hm hb rfl rfl (by decide) (bj__law_code T D_Rules___init__)
abbrev s__law_led : Stmt := top 47
abbrev N__law_led : List Str := ["w", "s", "said", "put", "h", "c", "far", "x", "y", "t"]
theorem sc__law_led : FnScope ["w", "s", "said", "put", "h", "c", "far", "x", "y", "t"] ["w", "s", "said", "put"] (defScope s__law_led) := ⟨rfl, rfl, rfl, by decide +kernel, rfl, by decide +kernel, by decide +kernel⟩
def m__law_led (C : Cs) : SM := (sSeq (sIf (mTest (mApp fNe [(.ex (mApp fLen [(.ex (mVar 2))])), (.ex (mApp fLen [(.ex (mVar 3))]))])) (sRet (mC .non)) sNext)
  (sSeq (sFor (mArgs [(.ex (mVar 2)), (.ex (mVar 3))] gZip) (gmTup 2 (gmCons (gmName 4) (gmCons (gmName 5) gmNil))) (sSeq (sAsg (mComp (mIt (mApp fIx [(.ex (mApp fDGet [(.ex (mVar 0)), (.ex (mC (.str "lines")))])), (.ex (mVar 1))])) (gmTup 3 (gmCons (gmName 7) (gmCons (gmName 8) (gmCons (gmName 9) gmNil)))) (mTest (mApp fEq [(.ex (mApps VH.gTup [(.ex (mVar 7)), (.ex (mVar 8))])), (.ex (mApps VH.gTup [(.ex (mVar 4)), (.ex (mVar 5))]))])) (mVar 9) [7, 8, 9]) (gmName 6))
  (sSeq (sIf (mTest (mApp fEq [(.ex (mVar 6)), (.ex (mApps gLst []))])) (sRet (mC .non)) sNext)
  (sAsg (mApp fIx [(.ex (mVar 6)), (.ex (mC (.int 0)))]) (gmName 1)))))
  (sRet (mVar 1))))
def fm__law_led (C : Cs) := fnD 4 10 [] (m__law_led C)
theorem bj__law_led {f : Addr} (T : Tx K mg C)  (cdv : Value) (A : Around) (outer : List PySem.Env) (s : Shared) (H : Hp) (E : XK) (hr : Room 0 (A.deeper (PyProof.Rows.envOfC "_law_led" (defScope s__law_led) s.heap.objs.size f cdv))) : ∃ t, BJ (cxOf (L2.CX P w) P w K mg base ["w", "s", "said", "put", "h", "c", "far", "x", "y", "t"] "_law_led" (defScope s__law_led) f cdv A outer s H E).nox [] (defBody s__law_led) t (m__law_led C) :=
  have sc := sc__law_led
  have hu := hu_of hr
  ⟨_, (b_cons (s_if (t_cmp (op_neD hr.units) den_ne (nomark _) (a_e (j_cb call_len den_len T.f_len (l_cons (a_e (j_var 2)) l_nil))) (a_e (j_cb call_len den_len T.f_len (l_cons (a_e (j_var 3)) l_nil)))) (b_one (s_ret j_non)) b_nil)
      (b_cons (s_for PassesOwn.never rfl (i_zip T.f_zip (l_cons (a_e (j_var 2)) (l_cons (a_e (j_var 3)) l_nil))) (g_tupK K 2 rfl (gs_cons (g_name 4 sc.nd) (gs_cons (g_name 5 sc.nd) gs_nil))) (b_cons (s_lc 6 [("x", 7), ("y", 8), ("t", 9)] rfl sc.nd (blkOk_by (by first | (show blkC N__law_led (defScope s__law_led) _ _ = true; decide +kernel) | rfl)) (i_any (j_ix (a_e (j_dget hu (a_e (j_var 0)) (a_e j_str))) (a_e (j_var 1)))) (fun _ _ _ _ _ => (g_tupK K 3 rfl (gs_cons (g_name 7 sc.nd) (gs_cons (g_name 8 sc.nd) (gs_cons (g_name 9 sc.nd) gs_nil))))) (fun _ _ _ _ _ => (ts_one (t_cmp (op_eqD hr.units) den_eq (nomark _) (a_e (j_tup (l_cons (a_e (j_var 7)) (l_cons (a_e (j_var 8)) l_nil)))) (a_e (j_tup (l_cons (a_e (j_var 4)) (l_cons (a_e (j_var 5)) l_nil))))))) (fun _ _ _ _ _ => (j_var 9)) (sw_true rfl rfl rfl (by decide +kernel)))
      (b_cons (s_if (t_cmp (op_eqD hr.units) den_eq (nomark _) (a_e (j_var 6)) (a_e (j_lst l_nil))) (b_one (s_ret j_non)) b_nil)
      (b_one (s_set 1 sc.nd (j_ix (a_e (j_var 6)) (a_e j_int)))))))
      (b_one (s_ret (j_var 1)))))⟩
theorem ok__law_led {f : Addr} {fd : FuncData} (F : FunD K "_law_led" "_law_led" (defArgs s__law_led) (defBody s__law_led) (defScope s__law_led) [] [] f fd) (T : Tx K mg C) (hm : mg "_law_led" = some (.ref f)) (hb : Binds K fd ["w", "s", "said", "put"] [])  : Df P w K mg base "_law_led" 4 1 (fm__law_led C) := df_of F sc__law_led hm hb rfl rfl (by decide) (bj__law_led T )
abbrev s__law_texts : Stmt := top 48
abbrev N__law_texts : List Str := ["signs", "bound", "found", "edge", "go", "it", "sign"]
theorem sc__law_texts : FnScope ["signs", "bound", "found", "edge", "go", "it", "sign"] ["signs", "bound"] (defScope s__law_texts) := ⟨rfl, rfl, rfl, by decide +kernel, rfl, by decide +kernel, by decide +kernel⟩
def m__law_texts (C : Cs) : SM := (sSeq (sPar2 2 3 [(.ex (mApps gLst [(.ex (mC (.str "")))])), (.ex (mApps gLst [(.ex (mC (.str "")))]))])
  (sSeq (sFor (mArgs [(.ex (mVar 1))] gRange1) (gmName 4) (sSeq (sAsg (mApp fSumL [(.ex (mComp (mIt (mVar 3)) (gmName 5) (fun env => some (true, env)) (mComp (mIt (mVar 0)) (gmName 6) (fun env => some (true, env)) (mApp fAdd [(.ex (mVar 5)), (.ex (mVar 6))]) [6]) [5])), (.ex (mApps gLst []))]) (gmName 3))
  (sAsg (mApp fAdd [(.ex (mVar 2)), (.ex (mVar 3))]) (gmName 2))))
  (sRet (mVar 2))))
def fm__law_texts (C : Cs) := fnD 2 7 [] (m__law_texts C)
theorem bj__law_texts {f : Addr} (T : Tx K mg C)  (cdv : Value) (A : Around) (outer : List PySem.Env) (s : Shared) (H : Hp) (E : XK) (hr : Room 0 (A.deeper (PyProof.Rows.envOfC "_law_texts" (defScope s__law_texts) s.heap.objs.size f cdv))) : ∃ t, BJ (cxOf (L2.CX P w) P w K mg base ["signs", "bound", "found", "edge", "go", "it", "sign"] "_law_texts" (defScope s__law_texts) f cdv A outer s H E).nox [] (defBody s__law_texts) t (m__law_texts C) :=
  have sc := sc__law_texts
  have hu := hu_of hr
  ⟨_, (b_cons (s_par2 2 3 sc.nd (l_cons (a_e (j_lst (l_cons (a_e j_str) l_nil))) (l_cons (a_e (j_lst (l_cons (a_e j_str) l_nil))) l_nil)))
      (b_cons (s_for PassesOwn.never rfl (i_range1 T.f_range (l_cons (a_e (j_var 1)) l_nil)) (g_name 4 sc.nd) (b_cons (s_set 3 sc.nd (j_cb (cr_sumL rfl) den_sumL T.f_sum (l_cons (a_e (j_lc [("it", 5)] rfl sc.nd (blkOk_by (by first | (show blkC N__law_texts (defScope s__law_texts) _ _ = true; decide +kernel) | rfl)) (i_any (j_var 3)) (fun _ _ _ _ _ => (g_name 5 sc.nd)) (fun _ _ _ _ _ => ts_nil) (fun _ _ _ _ _ => (j_lc [("sign", 6)] rfl sc.nd (blkOk_by (by first | (show blkC N__law_texts (defScope s__law_texts) _ _ = true; decide +kernel) | rfl)) (i_any (j_var 0)) (fun _ _ _ _ _ => (g_name 6 sc.nd)) (fun _ _ _ _ _ => ts_nil) (fun _ _ _ _ _ => (j_op op_addA den_add (a_e (j_var 5)) (a_e (j_var 6)))))))) (l_cons (a_e (j_lst l_nil)) l_nil))))
      (b_one (s_set 2 sc.nd (j_op op_addA den_add (a_e (j_var 2)) (a_e (j_var 3)))))))
      (b_one (s_ret (j_var 2)))))⟩
theorem ok__law_texts {f : Addr} {fd : FuncData} (F : FunD K "_law_texts" "_law_texts" (defArgs s__law_texts) (defBody s__law_texts) (defScope s__law_texts) [] [] f fd) (T : Tx K mg C) (hm : mg "_law_texts" = some (.ref f)) (hb : Binds K fd ["signs", "bound"] [])  : Df P w K mg base "_law_texts" 2 1 (fm__law_texts C) := df_of F sc__law_texts hm hb rfl rfl (by decide) (bj__law_texts T )
abbrev s__law_written : Stmt := top 49
abbrev N__law_written : List Str := ["w", "found", "s", "line", "h", "c", "t"]
theorem sc__law_written : FnScope ["w", "found", "s", "line", "h", "c", "t"] ["w"] (defScope s__law_written) := ⟨rfl, rfl, rfl, by decide +kernel, rfl, by decide +kernel, by decide +kernel⟩
def m__law_written (C : Cs) : SM := (sSeq (sAsg (mApps gLst [(.ex (mApp fAdd [(.ex (mApp fAdd [(.ex (mApp fAdd [(.ex (mApp fAdd [(.ex (mApp fAdd [(.ex (mC (.str "rules "))), (.ex (mApp fDGet [(.ex (mVar 0)), (.ex (mC (.str "hs")))]))])), (.ex (mC (.str " ")))])), (.ex (mApp fDGet [(.ex (mVar 0)), (.ex (mC (.str "cs")))]))])), (.ex (mC (.str " ")))])), (.ex (mApp fStrP [(.ex (mApp fLen [(.ex (mApp fDGet [(.ex (mVar 0)), (.ex (mC (.str "lines")))]))]))]))]))]) (gmName 1))
  (sSeq (sFor (mArgs [(.ex (mApp fDGet [(.ex (mVar 0)), (.ex (mC (.str "lines")))]))] gEnum) (gmTup 2 (gmCons (gmName 2) (gmCons (gmName 3) gmNil))) (sDrop (mApp fExtend [(.sl 1), (.ex (mComp (mIt (mVar 3)) (gmTup 3 (gmCons (gmName 4) (gmCons (gmName 5) (gmCons (gmName 6) gmNil)))) (fun env => some (true, env)) (mApp fJoin [(.ex (mC (.str " "))), (.ex (mApps gLst [(.ex (mC (.str "move"))), (.ex (mApp fStrP [(.ex (mVar 2))])), (.ex (mVar 4)), (.ex (mVar 5)), (.ex (mApp fStrP [(.ex (mVar 6))]))]))]) [4, 5, 6]))])))
  (sRet (mApp fJoin [(.ex (mC (.str "\n"))), (.ex (mVar 1))]))))
def fm__law_written (C : Cs) := fnD 1 7 [] (m__law_written C)
theorem bj__law_written {f : Addr} (T : Tx K mg C)  (cdv : Value) (A : Around) (outer : List PySem.Env) (s : Shared) (H : Hp) (E : XK) (hr : Room 0 (A.deeper (PyProof.Rows.envOfC "_law_written" (defScope s__law_written) s.heap.objs.size f cdv))) : ∃ t, BJ (cxOf (L2.CX P w) P w K mg base ["w", "found", "s", "line", "h", "c", "t"] "_law_written" (defScope s__law_written) f cdv A outer s H E).nox [] (defBody s__law_written) t (m__law_written C) :=
  have sc := sc__law_written
  have hu := hu_of hr
  ⟨_, (b_cons (s_set 1 sc.nd (j_lst (l_cons (a_e (j_op op_addA den_add (a_e (j_op op_addA den_add (a_e (j_op op_addA den_add (a_e (j_op op_addA den_add (a_e (j_op op_addA den_add (a_e j_str) (a_e (j_dget hu (a_e (j_var 0)) (a_e j_str))))) (a_e j_str))) (a_e (j_dget hu (a_e (j_var 0)) (a_e j_str))))) (a_e j_str))) (a_e (j_ct call_strP den_strP T.f_str (l_cons (a_e (j_cb call_len den_len T.f_len (l_cons (a_e (j_dget hu (a_e (j_var 0)) (a_e j_str))) l_nil))) l_nil))))) l_nil)))
      (b_cons (s_for PassesOwn.never rfl (i_enum T.f_enumerate (l_cons (a_e (j_dget hu (a_e (j_var 0)) (a_e j_str))) l_nil)) (g_tupK K 2 rfl (gs_cons (g_name 2 sc.nd) (gs_cons (g_name 3 sc.nd) gs_nil))) (b_one (s_expr (j_bm PySem.F.plainAttrs_list PySem.F.slot_list_extend PySem.F.type_list_extend mt_extend den_extend ty_extend (a_sl 1) (l_cons (a_e (j_lc [("h", 4), ("c", 5), ("t", 6)] rfl sc.nd (blkOk_by (by first | (show blkC N__law_written (defScope s__law_written) _ _ = true; decide +kernel) | rfl)) (i_any (j_var 3)) (fun _ _ _ _ _ => (g_tupK K 3 rfl (gs_cons (g_name 4 sc.nd) (gs_cons (g_name 5 sc.nd) (gs_cons (g_name 6 sc.nd) gs_nil))))) (fun _ _ _ _ _ => ts_nil) (fun _ _ _ _ _ => (j_m1 PySem.F.slot_str_join PySem.F.type_str_join mt_join den_join ty_join (a_e j_str) (a_e (j_lst (l_cons (a_e j_str) (l_cons (a_e (j_ct call_strP den_strP T.f_str (l_cons (a_e (j_var 2)) l_nil))) (l_cons (a_e (j_var 4)) (l_cons (a_e (j_var 5)) (l_cons (a_e (j_ct call_strP den_strP T.f_str (l_cons (a_e (j_var 6)) l_nil))) l_nil))))))))))) l_nil)))))
      (b_one (s_ret (j_m1 PySem.F.slot_str_join PySem.F.type_str_join mt_join den_join ty_join (a_e j_str) (a_e (j_var 1)))))))⟩
theorem ok__law_written {f : Addr} {fd : FuncData} (F : FunD K "_law_written" "_law_written" (defArgs s__law_written) (defBody s__law_written) (defScope s__law_written) [] [] f fd) (T : Tx K mg C) (hm : mg "_law_written" = some (.ref f)) (hb : Binds K fd ["w"] [])  : Df P w K mg base "_law_written" 1 1 (fm__law_written C) := df_of F sc__law_written hm hb rfl rfl (by decide) (bj__law_written T )
abbrev s__law_right : Stmt := top 50
abbrev N__law_right : List Str := ["w", "bound", "code", "page", "far", "said", "put"]
theorem sc__law_right : FnScope ["w", "bound", "code", "page", "far", "said", "put"] ["w", "bound"] (defScope s__law_right) := ⟨rfl, rfl, rfl, by decide +kernel, rfl, by decide +kernel, by decide +kernel⟩
def m__law_right (C : Cs) : SM := (sSeq (sPar2 2 3 [(.ex (mApp (fm__law_code C) [(.ex (mVar 0))])), (.ex (mApp (fm__law_written C) [(.ex (mVar 0))]))])
  (sSeq (sIf (mTest (mApp fNe [(.ex (mApps gLst [(.ex (mApp (fStrO C.Rules (fm_Rules___str__ C)) [(.ex (mVar 2))])), (.ex (mApp (fStrO C.Rules (fm_Rules___str__ C)) [(.ex (mVar 2))]))])), (.ex (mApps gLst [(.ex (mVar 3)), (.ex (mVar 3))]))])) (sRet (mC (.bl false))) sNext)
  (sSeq (sFor (mIt (mApps VH.gTup [(.ex (mApp (fCM C.Rules (fm_Rules_read C)) [.ex (mC (.ref C.Rules)), (.ex (mVar 3))])), (.ex (mApp (fCM C.Rules (fm_Rules_read C)) [.ex (mC (.ref C.Rules)), (.ex (mVar 3))]))])) (gmName 4) (sSeq (sIf (mOrT (mNotT (mTest (mApp (fIsiC C.Rules) [(.ex (mVar 4)), .ex (mC (.ref C.Rules))]))) (mOrT (mNotT (mTest (mApp (fEqA C.Rules (fm_Rules___eq__ C)) [(.ex (mVar 4)), (.ex (mVar 2))]))) (mOrT (mTest (mApp fNe [(.ex (mApp (fStrO C.Rules (fm_Rules___str__ C)) [(.ex (mVar 4))])), (.ex (mVar 3))])) (mTest (mApp fNe [(.ex (mApp (fLenO C.Rules (fm_Rules___len__ C)) [(.ex (mVar 4))])), (.ex (mApp fLen [(.ex (mApp fDGet [(.ex (mVar 0)), (.ex (mC (.str "lines")))]))]))]))))) (sRet (mC (.bl false))) sNext)
  (sIf (mTest (mApp fNe [(.ex (mApp fRepr [(.ex (mApps gLst [(.ex (mApp (fFld C.Rules "heard") [(.ex (mVar 4))])), (.ex (mApp (fFld C.Rules "written") [(.ex (mVar 4))])), (.ex (mApp (fFld C.Rules "rows") [(.ex (mVar 4))]))]))])), (.ex (mApp fRepr [(.ex (mApps gLst [(.ex (mApp fDGet [(.ex (mVar 0)), (.ex (mC (.str "hs")))])), (.ex (mApp fDGet [(.ex (mVar 0)), (.ex (mC (.str "cs")))])), (.ex (mApp fDGet [(.ex (mVar 0)), (.ex (mC (.str "lines")))]))]))]))])) (sRet (mC (.bl false))) sNext)))
  (sSeq (sAsg (mApp (fCM C.Rules (fm_Rules_read C)) [.ex (mC (.ref C.Rules)), (.ex (mVar 3))]) (gmName 4))
  (sSeq (sFor (mIt (mApp (fm__law_texts C) [(.ex (mSlice (mApp fDGet [(.ex (mVar 0)), (.ex (mC (.str "hs")))]) oNone (oSome (mC (.int 2))))), (.ex (mVar 1))])) (gmName 5) (sFor (mIt (mApp (fm__law_texts C) [(.ex (mSlice (mApp fDGet [(.ex (mVar 0)), (.ex (mC (.str "cs")))]) oNone (oSome (mC (.int 2))))), (.ex (mVar 1))])) (gmName 6) (sIf (mAndT (mTest (mApp fEq [(.ex (mApp fLen [(.ex (mVar 5))])), (.ex (mApp fLen [(.ex (mVar 6))]))])) (mTest (mApp fNe [(.ex (mApp (fMeth C.Rules "led" (fm_Rules_led C)) [(.ex (mVar 4)), (.ex (mC (.int 0))), (.ex (mVar 5)), (.ex (mVar 6))])), (.ex (mApp (fm__law_led C) [(.ex (mVar 0)), (.ex (mC (.int 0))), (.ex (mVar 5)), (.ex (mVar 6))]))]))) (sRet (mC (.bl false))) sNext)))
  (sRet (mC (.bl true))))))))
def fm__law_right (C : Cs) := fnD 2 7 [] (m__law_right C)
theorem bj__law_right {f : Addr} (T : Tx K mg C) (D__law_code : Df P w K mg base "_law_code" 1 6 (fm__law_code C)) (D__law_written : Df P w K mg base "_law_written" 1 1 (fm__law_written C)) (D_Rules___str__ : Fx P w K mg base C.f_Rules___str__ 1 2 (fm_Rules___str__ C)) (D_Rules_read : Fx P w K mg base C.f_Rules_read 2 6 (fm_Rules_read C)) (D_Rules___eq__ : Fx P w K mg base C.f_Rules___eq__ 2 1 (fm_Rules___eq__ C)) (D_Rules___len__ : Fx P w K mg base C.f_Rules___len__ 1 1 (fm_Rules___len__ C)) (D__law_texts : Df P w K mg base "_law_texts" 2 1 (fm__law_texts C)) (D_Rules_led : Fx P w K mg base C.f_Rules_led 4 1 (fm_Rules_led C)) (D__law_led : Df P w K mg base "_law_led" 4 1 (fm__law_led C)) (W_Rules_read_1 : FxK P w K mg base C.f_Rules_read ["cls", "text"] 1 6 (fm_Rules_read C)) (cdv : Value) (A : Around) (outer : List PySem.Env) (s : Shared) (H : Hp) (E : XK) (hG : A.guards = some []) (hr : Room 6 (A.deeper (PyProof.Rows.envOfC "_law_right" (defScope s__law_right) s.heap.objs.size f cdv))) : ∃ t, BJ (cxOf (L2.CX P w) P w K mg base ["w", "bound", "code", "page", "far", "said", "put"] "_law_right" (defScope s__law_right) f cdv A outer s H E).nox [] (defBody s__law_right) t (m__law_right C) :=
  have sc := sc__law_right
  have hu := hu_of hr
  ⟨_, (b_cons (s_par2 2 3 sc.nd (l_cons (a_e (j_call D__law_code (hr.mono (by decide)) (l_cons (a_e (j_var 0)) l_nil))) (l_cons (a_e (j_call D__law_written (hr.mono (by decide)) (l_cons (a_e (j_var 0)) l_nil))) l_nil)))
      (b_cons (s_if (t_cmp (op_neD hr.units) den_ne (nomark _) (a_e (j_lst (l_cons (a_e (j_ct (call_strO D_Rules___str__ T.me_Rules___str__.at_ T.me_Rules___str__.fn (hr.mono (by decide))) (den_strO D_Rules___str__.ln) T.f_str (l_cons (a_e (j_var 2)) l_nil))) (l_cons (a_e (j_ct (call_strO D_Rules___str__ T.me_Rules___str__.at_ T.me_Rules___str__.fn (hr.mono (by decide))) (den_strO D_Rules___str__.ln) T.f_str (l_cons (a_e (j_var 2)) l_nil))) l_nil)))) (a_e (j_lst (l_cons (a_e (j_var 3)) (l_cons (a_e (j_var 3)) l_nil))))) (b_one (s_ret j_bl)) b_nil)
      (b_cons (s_for PassesOwn.never rfl (i_any (j_tup (l_cons (a_e (j_cm (a_e (j_glob (v := .ref _) T.g_Rules rfl (.ref _))) T.cr_Rules T.cm_Rules_read.choose_spec D_Rules_read (hr.mono (by decide)) (l_cons (a_e (j_var 3)) l_nil))) (l_cons (a_e (j_cmK (a_e (j_glob (v := .ref _) T.g_Rules rfl (.ref _))) T.cr_Rules T.cm_Rules_read.choose_spec W_Rules_read_1 (hr.mono (by decide)) (k_cons (a_e (j_var 3)) k_nil))) l_nil)))) (g_name 4 sc.nd) (b_cons (s_if (t_w (w_or (t_not (t_val (j_cb call_isi (den_isiC T.k_Rules T.y_Rules) T.f_isinstance (l_cons (a_e (j_var 4)) (l_cons (a_e (j_glob (v := .ref _) T.g_Rules rfl (.ref _))) l_nil))))) (w_or (t_not (t_cmp (op_eqA D_Rules___eq__ T.e_Rules T.f_Rules___eq__ (hr.mono (by decide))) (den_eqA D_Rules___eq__.ln) (nomark _) (a_e (j_var 4)) (a_e (j_var 2)))) (w_or (t_cmp (op_neD hr.units) den_ne (nomark _) (a_e (j_ct (call_strO D_Rules___str__ T.me_Rules___str__.at_ T.me_Rules___str__.fn (hr.mono (by decide))) (den_strO D_Rules___str__.ln) T.f_str (l_cons (a_e (j_var 4)) l_nil))) (a_e (j_var 3))) (w_or1 (t_cmp (op_neD hr.units) den_ne (nomark _) (a_e (j_cb (call_lenO D_Rules___len__ T.me_Rules___len__.at_ T.me_Rules___len__.fn (hr.mono (by decide))) (den_lenO D_Rules___len__.ln) T.f_len (l_cons (a_e (j_var 4)) l_nil))) (a_e (j_cb call_len den_len T.f_len (l_cons (a_e (j_dget hu (a_e (j_var 0)) (a_e j_str))) l_nil))))))))) (b_one (s_ret j_bl)) b_nil)
      (b_one (s_if (t_cmp (op_neD hr.units) den_ne (nomark _) (a_e (j_cb (cr_repr hG hr.units) den_repr T.f_repr (l_cons (a_e (j_lst (l_cons (a_e (j_fld T.k_Rules T.n_Rules_heard (a_e (j_var 4)))) (l_cons (a_e (j_fld T.k_Rules T.n_Rules_written (a_e (j_var 4)))) (l_cons (a_e (j_fld T.k_Rules T.n_Rules_rows (a_e (j_var 4)))) l_nil))))) l_nil))) (a_e (j_cb (cr_repr hG hr.units) den_repr T.f_repr (l_cons (a_e (j_lst (l_cons (a_e (j_dget hu (a_e (j_var 0)) (a_e j_str))) (l_cons (a_e (j_dget hu (a_e (j_var 0)) (a_e j_str))) (l_cons (a_e (j_dget hu (a_e (j_var 0)) (a_e j_str))) l_nil))))) l_nil)))) (b_one (s_ret j_bl)) b_nil))))
      (b_cons (s_set 4 sc.nd (j_cm (a_e (j_glob (v := .ref _) T.g_Rules rfl (.ref _))) T.cr_Rules T.cm_Rules_read.choose_spec D_Rules_read (hr.mono (by decide)) (l_cons (a_e (j_var 3)) l_nil)))
      (b_cons (s_for PassesOwn.never rfl (i_any (j_call D__law_texts (hr.mono (by decide)) (l_cons (a_e (j_slice (j_dget hu (a_e (j_var 0)) (a_e j_str)) o_none (o_some j_int))) (l_cons (a_e (j_var 1)) l_nil)))) (g_name 5 sc.nd) (b_one (s_for PassesOwn.never rfl (i_any (j_call D__law_texts (hr.mono (by decide)) (l_cons (a_e (j_slice (j_dget hu (a_e (j_var 0)) (a_e j_str)) o_none (o_some j_int))) (l_cons (a_e (j_var 1)) l_nil)))) (g_name 6 sc.nd) (b_one (s_if (t_w (w_and (t_cmp (op_eqD hr.units) den_eq (nomark _) (a_e (j_cb call_len den_len T.f_len (l_cons (a_e (j_var 5)) l_nil))) (a_e (j_cb call_len den_len T.f_len (l_cons (a_e (j_var 6)) l_nil)))) (w_and1 (t_cmp (op_neD hr.units) den_ne (nomark _) (a_e (j_meth (a_e (j_var 4)) T.k_Rules T.me_Rules_led D_Rules_led (hr.mono (by decide)) (l_cons (a_e j_int) (l_cons (a_e (j_var 5)) (l_cons (a_e (j_var 6)) l_nil))))) (a_e (j_call D__law_led (hr.mono (by decide)) (l_cons (a_e (j_var 0)) (l_cons (a_e j_int) (l_cons (a_e (j_var 5)) (l_cons (a_e (j_var 6)) l_nil)))))))))) (b_one (s_ret j_bl)) b_nil)))))
      (b_one (s_ret j_bl)))))))⟩
theorem ok__law_right {f : Addr} {fd : FuncData} (F : FunD K "_law_right" "_law_right" (defArgs s__law_right) (defBody s__law_right) (defScope s__law_right) [] [] f fd) (T : Tx K mg C) (hm : mg "_law_right" = some (.ref f)) (hb : Binds K fd ["w", "bound"] []) (D__law_code : Df P w K mg base "_law_code" 1 6 (fm__law_code C)) (D__law_written : Df P w K mg base "_law_written" 1 1 (fm__law_written C)) (D_Rules___str__ : Fx P w K mg base C.f_Rules___str__ 1 2 (fm_Rules___str__ C)) (D_Rules_read : Fx P w K mg base C.f_Rules_read 2 6 (fm_Rules_read C)) (D_Rules___eq__ : Fx P w K mg base C.f_Rules___eq__ 2 1 (fm_Rules___eq__ C)) (D_Rules___len__ : Fx P w K mg base C.f_Rules___len__ 1 1 (fm_Rules___len__ C)) (D__law_texts : Df P w K mg base "_law_texts" 2 1 (fm__law_texts C)) (D_Rules_led : Fx P w K mg base C.f_Rules_led 4 1 (fm_Rules_led C)) (D__law_led : Df P w K mg base "_law_led" 4 1 (fm__law_led C)) (W_Rules_read_1 : FxK P w K mg base C.f_Rules_read ["cls", "text"] 1 6 (fm_Rules_read C)) : DfG P w K mg base "_law_right" 2 7 (fm__law_right C) := dfG_of F sc__law_right hm hb rfl rfl (by decide) (bj__law_right T D__law_code D__law_written D_Rules___str__ D_Rules_read D_Rules___eq__ D_Rules___len__ D__law_texts D_Rules_led D__law_led W_Rules_read_1)
abbrev s_law : Stmt := top 51
abbrev N_law : List Str := ["script", "deck", "past", "go", "w", "code", "some", "lines", "elder"]
theorem sc_law : FnScope ["script", "deck", "past", "go", "w", "code", "some", "lines", "elder"] ["script"] (defScope s_law) := ⟨rfl, rfl, rfl, by decide +kernel, rfl, by decide +kernel, by decide +kernel⟩
def m_law (C : Cs) : SM := (sSeq (sPar2 1 2 [(.ex (mApp (fm__law_deck C) [(.ex (mVar 0))])), (.ex (mApps gLst []))])
  (sSeq (sFor (mArgs [(.ex (mC (.int 7)))] gRange1) (gmName 3) (sSeq (sAsg (mApp (fm__law_world C) [(.sl 1), (.ex (mC (.int 5))), (.ex (mC (.bl false)))]) (gmName 4))
  (sSeq (sIf (mNotT (mTest (mApp (fm__law_right C) [(.ex (mVar 4)), (.ex (mC (.int 2)))]))) (sRet (mC (.bl false))) sNext)
  (sSeq (sAsg (mApp (fm__law_code C) [(.ex (mVar 4))]) (gmName 5))
  (sSeq (sIf (mTest (mApp fNe [(.ex (mCompP 2 (gmName 8) (mTest (mApp fNe [(.ex (mApp (fEqA C.Rules (fm_Rules___eq__ C)) [(.ex (mVar 8)), (.ex (mVar 5))])), (.ex (mApp fEq [(.ex (mApp (fStrO C.Rules (fm_Rules___str__ C)) [(.ex (mVar 8))])), (.ex (mApp (fStrO C.Rules (fm_Rules___str__ C)) [(.ex (mVar 5))]))]))])) (mC (.int 1)) [8])), (.ex (mApps gLst []))])) (sRet (mC (.bl false))) sNext)
  (sDrop (mApp fAppend [(.sl 2), (.ex (mVar 5))])))))))
  (sSeq (sAsg (mApps gLst [(.ex (mDisp [((mC (.str "hs")), (mC (.str "q"))), ((mC (.str "cs")), (mC (.str "xz"))), ((mC (.str "lines")), (mApps VH.gTup [(.ex (mApps VH.gTup []))]))]))]) (gmName 6))
  (sSeq (sDrop (mApp fAppend [(.sl 6), (.ex (mDisp [((mC (.str "hs")), (mC (.str "a"))), ((mC (.str "cs")), (mC (.str "b"))), ((mC (.str "lines")), (mApp fAdd [(.ex (mApp fMulU [(.ex (mApps VH.gTup [(.ex (mApps VH.gTup []))])), (.ex (mC (.int 998)))])), (.ex (mApps VH.gTup [(.ex (mApps VH.gTup [(.ex (mApps VH.gTup [(.ex (mC (.str "a"))), (.ex (mC (.str "b"))), (.ex (mC (.int 998)))]))]))]))]))]))]))
  (sSeq (sAsg (mApp fAdd [(.ex (mApp fMulU [(.ex (mApps VH.gTup [(.ex (mApps VH.gTup []))])), (.ex (mC (.int 9)))])), (.ex (mApps VH.gTup [(.ex (mApps VH.gTup [(.ex (mApps VH.gTup [(.ex (mC (.str "a"))), (.ex (mC (.str "x"))), (.ex (mC (.int 10)))])), (.ex (mApps VH.gTup [(.ex (mC (.str "a"))), (.ex (mC (.str "y"))), (.ex (mC (.int 9)))])), (.ex (mApps VH.gTup [(.ex (mC (.str "b"))), (.ex (mC (.str "x"))), (.ex (mC (.int 2)))]))])), (.ex (mApps VH.gTup [(.ex (mApps VH.gTup [(.ex (mC (.str "a"))), (.ex (mC (.str "x"))), (.ex (mC (.int 11)))]))])), (.ex (mApps VH.gTup [(.ex (mApps VH.gTup [(.ex (mC (.str "b"))), (.ex (mC (.str "y"))), (.ex (mC (.int 0)))]))]))]))]) (gmName 7))
  (sSeq (sDrop (mApp fAppend [(.sl 6), (.ex (mDisp [((mC (.str "hs")), (mC (.str "ab"))), ((mC (.str "cs")), (mC (.str "xy"))), ((mC (.str "lines")), (mApp fAdd [(.ex (mApps VH.gTup [(.ex (mApps VH.gTup [(.ex (mApps VH.gTup [(.ex (mC (.str "a"))), (.ex (mC (.str "x"))), (.ex (mC (.int 9)))]))]))])), (.ex (mSlice (mVar 7) (oSome (mC (.int 1))) oNone))]))]))]))
  (sSeq (sIf (mTest (mApp fNe [(.ex (mComp (mIt (mVar 6)) (gmName 4) (mNotT (mTest (mApp (fm__law_right C) [(.ex (mVar 4)), (.ex (mC (.int 2)))]))) (mVar 4) [4])), (.ex (mApps gLst []))])) (sRet (mC (.bl false))) sNext)
  (sSeq (sAsg (mApp (fMake C.Rules (fm_Rules___init__ C)) [(.ex (mC (.str "a"))), (.ex (mC (.str "xy"))), (.ex (mApps VH.gTup [(.ex (mApps VH.gTup [(.ex (mApps VH.gTup [(.ex (mC (.str "a"))), (.ex (mC (.str "x"))), (.ex (mC (.int 1)))]))])), (.ex (mApps VH.gTup [(.ex (mApps VH.gTup [(.ex (mC (.str "a"))), (.ex (mC (.str "y"))), (.ex (mC (.int 0)))]))]))]))]) (gmName 5))
  (sRet (mAndV (mApp fEq [(.ex (mApp (fStrO C.Rules (fm_Rules___str__ C)) [(.ex (mVar 5))])), (.ex (mC (.str "rules a xy 2\nmove 0 a x 1\nmove 1 a y 0")))]) (mApp (fEqA C.Rules (fm_Rules___eq__ C)) [(.ex (mApp (fCM C.Rules (fm_Rules_read C)) [.ex (mC (.ref C.Rules)), (.ex (mApp (fStrO C.Rules (fm_Rules___str__ C)) [(.ex (mVar 5))]))])), (.ex (mVar 5))])))))))))))
def fm_law (C : Cs) := fnD 1 9 [] (m_law C)
theorem bj_law {f : Addr} (T : Tx K mg C) (D__law_deck : Df P w K mg base "_law_deck" 1 1 (fm__law_deck C)) (D__law_world : Df P w K mg base "_law_world" 3 5 (fm__law_world C)) (D__law_right : DfG P w K mg base "_law_right" 2 7 (fm__law_right C)) (D__law_code : Df P w K mg base "_law_code" 1 6 (fm__law_code C)) (D_Rules___eq__ : Fx P w K mg base C.f_Rules___eq__ 2 1 (fm_Rules___eq__ C)) (D_Rules___str__ : Fx P w K mg base C.f_Rules___str__ 1 2 (fm_Rules___str__ C)) (D_Rules___init__ : Fx P w K mg base C.f_Rules___init__ 4 4 (fm_Rules___init__ C)) (D_Rules_read : Fx P w K mg base C.f_Rules_read 2 6 (fm_Rules_read C)) (cdv : Value) (A : Around) (outer : List PySem.Env) (s : Shared) (H : Hp) (E : XK) (hG : A.guards = some []) (hr : Room 7 (A.deeper (PyProof.Rows.envOfC "law" (defScope s_law) s.heap.objs.size f cdv))) : ∃ t, BJ (cxOf (L2.CX P w) P w K mg base ["script", "deck", "past", "go", "w", "code", "some", "lines", "elder"] "law" (defScope s_law) f cdv A outer s H E).nox [] (defBody s_law) t (m_law C) :=
  have sc := sc_law
  have hu := hu_of hr
  ⟨_, (b_cons (s_par2 1 2 sc.nd (l_cons (a_e (j_call D__law_deck (hr.mono (by decide)) (l_cons (a_e (j_var 0)) l_nil))) (l_cons (a_e (j_lst l_nil)) l_nil)))
      (b_cons (s_for PassesOwn.never rfl (i_range1 T.f_range (l_cons (a_e j_int) l_nil)) (g_name 3 sc.nd) (b_cons (s_set 4 sc.nd (j_call D__law_world (hr.mono (by decide)) (l_cons (a_sl 1) (l_cons (a_e j_int) (l_cons (a_e j_bl) l_nil)))))
      (b_cons (s_if (t_not (t_val (j_callG D__law_right (hr.mono (by decide)) hG (l_cons (a_e (j_var 4)) (l_cons (a_e j_int) l_nil))))) (b_one (s_ret j_bl)) b_nil)
      (b_cons (s_set 5 sc.nd (j_call D__law_code (hr.mono (by decide)) (l_cons (a_e (j_var 4)) l_nil)))
      (b_cons (s_if (t_cmp (op_neD hr.units) den_ne (nomark _) (a_e (j_lcP 2 [("elder", 8)] rfl sc.nd (blkOk_by (by first | (show blkC N_law (defScope s_law) _ _ = true; decide +kernel) | rfl)) (fun _ _ _ _ _ => (g_name 8 sc.nd)) (fun _ _ _ _ _ => (ts_one (t_cmp (op_neD hr.units) den_ne (nomark _) (a_e (j_cmp (op_eqA D_Rules___eq__ T.e_Rules T.f_Rules___eq__ (hr.mono (by decide))) (den_eqA D_Rules___eq__.ln) (nomark _) (a_e (j_var 8)) (a_e (j_var 5)))) (a_e (j_cmp (op_eqD hr.units) den_eq (nomark _) (a_e (j_ct (call_strO D_Rules___str__ T.me_Rules___str__.at_ T.me_Rules___str__.fn (hr.mono (by decide))) (den_strO D_Rules___str__.ln) T.f_str (l_cons (a_e (j_var 8)) l_nil))) (a_e (j_ct (call_strO D_Rules___str__ T.me_Rules___str__.at_ T.me_Rules___str__.fn (hr.mono (by decide))) (den_strO D_Rules___str__.ln) T.f_str (l_cons (a_e (j_var 5)) l_nil)))))))) (fun _ _ _ _ _ => j_int))) (a_e (j_lst l_nil))) (b_one (s_ret j_bl)) b_nil)
      (b_one (s_expr (j_bm PySem.F.plainAttrs_list PySem.F.slot_list_append PySem.F.type_list_append mt_append den_append ty_append (a_sl 2) (l_cons (a_e (j_var 5)) l_nil)))))))))
      (b_cons (s_set 6 sc.nd (j_lst (l_cons (a_e (j_disp (d_cons j_str j_str (d_cons j_str j_str (d_cons j_str (j_tup (l_cons (a_e (j_tup l_nil)) l_nil)) d_nil))))) l_nil)))
      (b_cons (s_expr (j_bm PySem.F.plainAttrs_list PySem.F.slot_list_append PySem.F.type_list_append mt_append den_append ty_append (a_sl 6) (l_cons (a_e (j_disp (d_cons j_str j_str (d_cons j_str j_str (d_cons j_str (j_op op_addA den_add (a_e (j_op op_mulU den_mulU (a_e (j_tup (l_cons (a_e (j_tup l_nil)) l_nil))) (a_e j_int))) (a_e (j_tup (l_cons (a_e (j_tup (l_cons (a_e (j_tup (l_cons (a_e j_str) (l_cons (a_e j_str) (l_cons (a_e j_int) l_nil))))) l_nil))) l_nil)))) d_nil))))) l_nil)))
      (b_cons (s_set 7 sc.nd (j_op op_addA den_add (a_e (j_op op_mulU den_mulU (a_e (j_tup (l_cons (a_e (j_tup l_nil)) l_nil))) (a_e j_int))) (a_e (j_tup (l_cons (a_e (j_tup (l_cons (a_e (j_tup (l_cons (a_e j_str) (l_cons (a_e j_str) (l_cons (a_e j_int) l_nil))))) (l_cons (a_e (j_tup (l_cons (a_e j_str) (l_cons (a_e j_str) (l_cons (a_e j_int) l_nil))))) (l_cons (a_e (j_tup (l_cons (a_e j_str) (l_cons (a_e j_str) (l_cons (a_e j_int) l_nil))))) l_nil))))) (l_cons (a_e (j_tup (l_cons (a_e (j_tup (l_cons (a_e j_str) (l_cons (a_e j_str) (l_cons (a_e j_int) l_nil))))) l_nil))) (l_cons (a_e (j_tup (l_cons (a_e (j_tup (l_cons (a_e j_str) (l_cons (a_e j_str) (l_cons (a_e j_int) l_nil))))) l_nil))) l_nil)))))))
      (b_cons (s_expr (j_bm PySem.F.plainAttrs_list PySem.F.slot_list_append PySem.F.type_list_append mt_append den_append ty_append (a_sl 6) (l_cons (a_e (j_disp (d_cons j_str j_str (d_cons j_str j_str (d_cons j_str (j_op op_addA den_add (a_e (j_tup (l_cons (a_e (j_tup (l_cons (a_e (j_tup (l_cons (a_e j_str) (l_cons (a_e j_str) (l_cons (a_e j_int) l_nil))))) l_nil))) l_nil))) (a_e (j_slice (j_var 7) (o_some j_int) o_none))) d_nil))))) l_nil)))
      (b_cons (s_if (t_cmp (op_neD hr.units) den_ne (nomark _) (a_e (j_lc [("w", 4)] rfl sc.nd (blkOk_by (by first | (show blkC N_law (defScope s_law) _ _ = true; decide +kernel) | rfl)) (i_any (j_var 6)) (fun _ _ _ _ _ => (g_name 4 sc.nd)) (fun _ _ _ _ _ => (ts_one (t_not (t_val (j_callG D__law_right (hr.mono (by decide)) hG (l_cons (a_e (j_var 4)) (l_cons (a_e j_int) l_nil))))))) (fun _ _ _ _ _ => (j_var 4)))) (a_e (j_lst l_nil))) (b_one (s_ret j_bl)) b_nil)
      (b_cons (s_set 5 sc.nd (j_make T.m_Rules D_Rules___init__ (hr.mono (by decide)) T.g_Rules (l_cons (a_e j_str) (l_cons (a_e j_str) (l_cons (a_e (j_tup (l_cons (a_e (j_tup (l_cons (a_e (j_tup (l_cons (a_e j_str) (l_cons (a_e j_str) (l_cons (a_e j_int) l_nil))))) l_nil))) (l_cons (a_e (j_tup (l_cons (a_e (j_tup (l_cons (a_e j_str) (l_cons (a_e j_str) (l_cons (a_e j_int) l_nil))))) l_nil))) l_nil)))) l_nil)))))
      (b_one (s_ret (j_and (j_cmp (op_eqD hr.units) den_eq (nomark _) (a_e (j_ct (call_strO D_Rules___str__ T.me_Rules___str__.at_ T.me_Rules___str__.fn (hr.mono (by decide))) (den_strO D_Rules___str__.ln) T.f_str (l_cons (a_e (j_var 5)) l_nil))) (a_e j_str)) (j_one (j_cmp (op_eqA D_Rules___eq__ T.e_Rules T.f_Rules___eq__ (hr.mono (by decide))) (den_eqA D_Rules___eq__.ln) (nomark _) (a_e (j_cm (a_e (j_glob (v := .ref _) T.g_Rules rfl (.ref _))) T.cr_Rules T.cm_Rules_read.choose_spec D_Rules_read (hr.mono (by decide)) (l_cons (a_e (j_ct (call_strO D_Rules___str__ T.me_Rules___str__.at_ T.me_Rules___str__.fn (hr.mono (by decide))) (den_strO D_Rules___str__.ln) T.f_str (l_cons (a_e (j_var 5)) l_nil))) l_nil))) (a_e (j_var 5)))))))))))))))⟩
theorem ok_law {f : Addr} {fd : FuncData} (F : FunD K "law" "law" (defArgs s_law) (defBody s_law) (defScope s_law) [] [] f fd) (T : Tx K mg C) (hm : mg "law" = some (.ref f)) (hb : Binds K fd ["script"] []) (D__law_deck : Df P w K mg base "_law_deck" 1 1 (fm__law_deck C)) (D__law_world : Df P w K mg base "_law_world" 3 5 (fm__law_world C)) (D__law_right : DfG P w K mg base "_law_right" 2 7 (fm__law_right C)) (D__law_code : Df P w K mg base "_law_code" 1 6 (fm__law_code C)) (D_Rules___eq__ : Fx P w K mg base C.f_Rules___eq__ 2 1 (fm_Rules___eq__ C)) (D_Rules___str__ : Fx P w K mg base C.f_Rules___str__ 1 2 (fm_Rules___str__ C)) (D_Rules___init__ : Fx P w K mg base C.f_Rules___init__ 4 4 (fm_Rules___init__ C)) (D_Rules_read : Fx P w K mg base C.f_Rules_read 2 6 (fm_Rules_read C)) : DfG P w K mg base "law" 1 8 (fm_law C) := dfG_of F sc_law hm hb rfl rfl (by decide) (bj_law T D__law_deck D__law_world D__law_right D__law_code D_Rules___eq__ D_Rules___str__ D_Rules___init__ D_Rules_read)
end
end K02


set_option maxHeartbeats 0
namespace K02H
open PySem PySem.Spec PyProof.Rows L2 VH K02
abbrev R : PySem.W.OpenRow := PySem.W.OpenLaw.row PySem.Challenge.rw_veilhouse_k02_texts_of_rules
def d_are_letters : He5.DefA := ⟨fun K => He.fAd K ("are_letters", none), "are_letters", "are_letters", defArgs s_are_letters, defBody s_are_letters, defScope s_are_letters, [], []⟩
def d_number_in : He5.DefA := ⟨fun K => He.fAd K ("number_in", none), "number_in", "number_in", defArgs s_number_in, defBody s_number_in, defScope s_number_in, [], []⟩
def d_text_of : He5.DefA := ⟨fun K => He.fAd K ("text_of", none), "text_of", "text_of", defArgs s_text_of, defBody s_text_of, defScope s_text_of, [], []⟩
def d_first_line : He5.DefA := ⟨fun K => He.fAd K ("first_line", none), "first_line", "first_line", defArgs s_first_line, defBody s_first_line, defScope s_first_line, [], []⟩
def d_move_line : He5.DefA := ⟨fun K => He.fAd K ("move_line", none), "move_line", "move_line", defArgs s_move_line, defBody s_move_line, defScope s_move_line, [], []⟩
def d_parts_in : He5.DefA := ⟨fun K => He.fAd K ("parts_in", none), "parts_in", "parts_in", defArgs s_parts_in, defBody s_parts_in, defScope s_parts_in, [], []⟩
def d_is_letter_of : He5.DefA := ⟨fun K => He.fAd K ("is_letter_of", none), "is_letter_of", "is_letter_of", defArgs s_is_letter_of, defBody s_is_letter_of, defScope s_is_letter_of, [], []⟩
def d_is_integer : He5.DefA := ⟨fun K => He.fAd K ("is_integer", none), "is_integer", "is_integer", defArgs s_is_integer, defBody s_is_integer, defScope s_is_integer, [], []⟩
def d_is_move : He5.DefA := ⟨fun K => He.fAd K ("is_move", none), "is_move", "is_move", defArgs s_is_move, defBody s_is_move, defScope s_is_move, [], []⟩
def d_is_row : He5.DefA := ⟨fun K => He.fAd K ("is_row", none), "is_row", "is_row", defArgs s_is_row, defBody s_is_row, defScope s_is_row, [], []⟩
def d_steps_of : He5.DefA := ⟨fun K => He.fAd K ("steps_of", none), "steps_of", "steps_of", defArgs s_steps_of, defBody s_steps_of, defScope s_steps_of, [], []⟩
def d_Rules___init__ : He5.DefA := ⟨fun K => He.fAd K ("Rules", some "__init__"), "__init__", "Rules.__init__", defArgs s_Rules___init__, defBody s_Rules___init__, defScope s_Rules___init__, [], []⟩
def d_Rules_read : He5.DefA := ⟨fun K => He5.wf K (He.ga K "Rules") "classmethod" "read", "read", "Rules.read", defArgs s_Rules_read, defBody s_Rules_read, defScope s_Rules_read, [], []⟩
def d_Rules___str__ : He5.DefA := ⟨fun K => He.fAd K ("Rules", some "__str__"), "__str__", "Rules.__str__", defArgs s_Rules___str__, defBody s_Rules___str__, defScope s_Rules___str__, [], []⟩
def d_Rules___len__ : He5.DefA := ⟨fun K => He.fAd K ("Rules", some "__len__"), "__len__", "Rules.__len__", defArgs s_Rules___len__, defBody s_Rules___len__, defScope s_Rules___len__, [], []⟩
def d_Rules___eq__ : He5.DefA := ⟨fun K => He.fAd K ("Rules", some "__eq__"), "__eq__", "Rules.__eq__", defArgs s_Rules___eq__, defBody s_Rules___eq__, defScope s_Rules___eq__, [], []⟩
def d_Rules_led : He5.DefA := ⟨fun K => He.fAd K ("Rules", some "led"), "led", "Rules.led", defArgs s_Rules_led, defBody s_Rules_led, defScope s_Rules_led, [], []⟩
def d__law_deck : He5.DefA := ⟨fun K => He.fAd K ("_law_deck", none), "_law_deck", "_law_deck", defArgs s__law_deck, defBody s__law_deck, defScope s__law_deck, [], []⟩
def d__law_draw : He5.DefA := ⟨fun K => He.fAd K ("_law_draw", none), "_law_draw", "_law_draw", defArgs s__law_draw, defBody s__law_draw, defScope s__law_draw, [], []⟩
def d__law_pick : He5.DefA := ⟨fun K => He.fAd K ("_law_pick", none), "_law_pick", "_law_pick", defArgs s__law_pick, defBody s__law_pick, defScope s__law_pick, [], []⟩
def d__law_signs : He5.DefA := ⟨fun K => He.fAd K ("_law_signs", none), "_law_signs", "_law_signs", defArgs s__law_signs, defBody s__law_signs, defScope s__law_signs, [], []⟩
def d__law_once : He5.DefA := ⟨fun K => He.fAd K ("_law_once", none), "_law_once", "_law_once", defArgs s__law_once, defBody s__law_once, defScope s__law_once, [], []⟩
def d__law_world : He5.DefA := ⟨fun K => He.fAd K ("_law_world", none), "_law_world", "_law_world", defArgs s__law_world, defBody s__law_world, defScope s__law_world, [], []⟩
def d__law_code : He5.DefA := ⟨fun K => He.fAd K ("_law_code", none), "_law_code", "_law_code", defArgs s__law_code, defBody s__law_code, defScope s__law_code, [], []⟩
def d__law_led : He5.DefA := ⟨fun K => He.fAd K ("_law_led", none), "_law_led", "_law_led", defArgs s__law_led, defBody s__law_led, defScope s__law_led, [], []⟩
def d__law_texts : He5.DefA := ⟨fun K => He.fAd K ("_law_texts", none), "_law_texts", "_law_texts", defArgs s__law_texts, defBody s__law_texts, defScope s__law_texts, [], []⟩
def d__law_written : He5.DefA := ⟨fun K => He.fAd K ("_law_written", none), "_law_written", "_law_written", defArgs s__law_written, defBody s__law_written, defScope s__law_written, [], []⟩
def d__law_right : He5.DefA := ⟨fun K => He.fAd K ("_law_right", none), "_law_right", "_law_right", defArgs s__law_right, defBody s__law_right, defScope s__law_right, [], []⟩
def d_law : He5.DefA := ⟨fun K => He.fAd K ("law", none), "law", "law", defArgs s_law, defBody s_law, defScope s_law, [], []⟩
def fn : List He5.DefA := [d_are_letters, d_number_in, d_text_of, d_first_line, d_move_line, d_parts_in, d_is_letter_of, d_is_integer, d_is_move, d_is_row, d_steps_of, d_Rules___init__, d_Rules_read, d_Rules___str__, d_Rules___len__, d_Rules___eq__, d_Rules_led, d__law_deck, d__law_draw, d__law_pick, d__law_signs, d__law_once, d__law_world, d__law_code, d__law_led, d__law_texts, d__law_written, d__law_right, d_law]
def fa0 : List He.Fa := [.free "all", .free "bool", .free "dict", .free "enumerate", .free "int", .free "isinstance", .free "len", .free "list", .free "max", .free "range", .free "repr", .free "set", .free "sorted", .free "str", .free "sum", .free "tuple", .free "zip", .str "BLANK" " ", .str "BREAK" "\n", .str "DIGITS" "0123456789", .int "FIRST_PARTS" (4), .str "LETTERS" "abcdefghijklmnopqrstuvwxyz", .int "MOST_DIGITS" (3), .int "MOST_STATES" (999), .int "MOVE_PARTS_rules" (3), .int "MOVE_PARTS_ruletexts" (5), .str "MOVE_WORD" "move", .str "RULES_WORD" "rules", .glo "Rules", .cls "Rules"]
def fa1 : List He.Fa := [.mkr "Rules", .meth "Rules" "__eq__", .meth "Rules" "__len__", .meth "Rules" "__str__", .meth "Rules" "led", .noat "Rules" "heard", .noat "Rules" "rows", .noat "Rules" "steps", .noat "Rules" "written", .glo "are_letters", .glo "number_in", .glo "text_of", .glo "first_line", .glo "move_line", .glo "parts_in", .glo "is_letter_of", .glo "is_integer", .glo "is_move", .glo "is_row", .glo "steps_of", .glo "_law_deck", .glo "_law_draw", .glo "_law_pick", .glo "_law_signs", .glo "_law_once", .glo "_law_world", .glo "_law_code", .glo "_law_led", .glo "_law_texts", .glo "_law_written"]
def fa2 : List He.Fa := [.glo "_law_right", .glo "law"]
def fa : List He.Fa := fa0 ++ fa1 ++ fa2
def ex (K : PySem.W.Frag) : Bool := ((["Rules"] : List Str).all fun x => clsYB K (He.ga K x)) && (((["Rules"] : List Str).all fun x => creadB K (He.ga K x)) && (([("Rules", "read")] : List (Str × Str)).all fun x => cmetB K (He.ga K x.1) x.2))
abbrev hk : PySem.W.Hook := hookB 5 fa fn ex
def ob (s : PySem.W.SharedT) : He.AlD := obsB 5 fa fn ex (HandSHeadRun.getT s)
theorem ob_eq (s : PySem.W.SharedT) : ob s = hk.obs s.abs := obsB_eq (HandSHeadRun.getT_eq s)
def nm0 : List Str := ["_wall", "CaptionError", "BadRules", "BadText", "OtherLetters", "RULES_WORD", "MOVE_WORD", "BREAK", "BLANK", "DIGITS", "MOST_DIGITS", "FIRST_PARTS", "MOVE_PARTS_ruletexts", "LETTERS", "are_letters", "number_in", "text_of", "first_line", "move_line", "parts_in", "MOST_STATES", "MOVE_PARTS_rules", "NOWHERE", "is_integer", "is_letter_of", "is_move", "is_row", "steps_of", "states_met", "classes_of"]
def nm1 : List Str := ["least_rows", "step_at", "paired_steps", "one_keys", "check_letters", "Rules", "_law_deck", "_law_draw", "_law_pick", "_law_signs", "_law_world", "_law_once", "_law_code", "_law_led", "_law_texts", "_law_written", "_law_right"]
def names : List Str := nm0 ++ nm1
set_option maxHeartbeats 0 in
theorem run (w : World) : HandSHeadRun.RunEq R (PySem.W.view R.prog [51]) hk ob 4000 names w := by
  intro os
  kernel_rfl
def cs (K : PySem.W.Frag) : Cs := { Rules := He.ga K "Rules", f_Rules___init__ := d_Rules___init__.at_ K, f_Rules_read := d_Rules_read.at_ K, f_Rules___str__ := d_Rules___str__.at_ K, f_Rules___len__ := d_Rules___len__.at_ K, f_Rules___eq__ := d_Rules___eq__.at_ K, f_Rules_led := d_Rules_led.at_ K }
section
variable {P : Program} {w : World} {K : PySem.W.Frag} {h : Heap} {mg : Str → Option Value}
theorem tx (X : K.In h) (G : h.Ns mainGlobals mg) (c : SaysB fa fn ex K) : Tx K mg (cs K) where
  f_all := He.free_ok X G (c.1.fact 0 (f := .free "all") rfl)
  f_bool := He.free_ok X G (c.1.fact 1 (f := .free "bool") rfl)
  f_dict := He.free_ok X G (c.1.fact 2 (f := .free "dict") rfl)
  f_enumerate := He.free_ok X G (c.1.fact 3 (f := .free "enumerate") rfl)
  f_int := He.free_ok X G (c.1.fact 4 (f := .free "int") rfl)
  f_isinstance := He.free_ok X G (c.1.fact 5 (f := .free "isinstance") rfl)
  f_len := He.free_ok X G (c.1.fact 6 (f := .free "len") rfl)
  f_list := He.free_ok X G (c.1.fact 7 (f := .free "list") rfl)
  f_max := He.free_ok X G (c.1.fact 8 (f := .free "max") rfl)
  f_range := He.free_ok X G (c.1.fact 9 (f := .free "range") rfl)
  f_repr := He.free_ok X G (c.1.fact 10 (f := .free "repr") rfl)
  f_set := He.free_ok X G (c.1.fact 11 (f := .free "set") rfl)
  f_sorted := He.free_ok X G (c.1.fact 12 (f := .free "sorted") rfl)
  f_str := He.free_ok X G (c.1.fact 13 (f := .free "str") rfl)
  f_sum := He.free_ok X G (c.1.fact 14 (f := .free "sum") rfl)
  f_tuple := He.free_ok X G (c.1.fact 15 (f := .free "tuple") rfl)
  f_zip := He.free_ok X G (c.1.fact 16 (f := .free "zip") rfl)
  c_BLANK := He.str_ok X G (c.1.fact 17 (f := .str "BLANK" " ") rfl)
  c_BREAK := He.str_ok X G (c.1.fact 18 (f := .str "BREAK" "\n") rfl)
  c_DIGITS := He.str_ok X G (c.1.fact 19 (f := .str "DIGITS" "0123456789") rfl)
  c_FIRST_PARTS := He.int_ok X G (c.1.fact 20 (f := .int "FIRST_PARTS" (4)) rfl)
  c_LETTERS := He.str_ok X G (c.1.fact 21 (f := .str "LETTERS" "abcdefghijklmnopqrstuvwxyz") rfl)
  c_MOST_DIGITS := He.int_ok X G (c.1.fact 22 (f := .int "MOST_DIGITS" (3)) rfl)
  c_MOST_STATES := He.int_ok X G (c.1.fact 23 (f := .int "MOST_STATES" (999)) rfl)
  c_MOVE_PARTS_rules := He.int_ok X G (c.1.fact 24 (f := .int "MOVE_PARTS_rules" (3)) rfl)
  c_MOVE_PARTS_ruletexts := He.int_ok X G (c.1.fact 25 (f := .int "MOVE_PARTS_ruletexts" (5)) rfl)
  c_MOVE_WORD := He.str_ok X G (c.1.fact 26 (f := .str "MOVE_WORD" "move") rfl)
  c_RULES_WORD := He.str_ok X G (c.1.fact 27 (f := .str "RULES_WORD" "rules") rfl)
  g_Rules := He.glo_ok X G (c.1.fact 28 (f := .glo "Rules") rfl)
  k_Rules := He.cls_ok (c.1.fact 29 (f := .cls "Rules") rfl)
  y_Rules := clsY_of (List.all_eq_true.mp (Bool.and_eq_true_iff.mp c.2).1 "Rules" (List.mem_of_getElem? (i := 0) rfl))
  m_Rules := He.mkr_ok (c.1.fact 30 (f := .mkr "Rules") rfl)
  e_Rules := (He.meth_ok (c.1.fact 31 (f := .meth "Rules" "__eq__") rfl)).1
  f_Rules___eq__ := (He.meth_ok (c.1.fact 31 (f := .meth "Rules" "__eq__") rfl)).2
  me_Rules___len__ := He.meth_ok (c.1.fact 32 (f := .meth "Rules" "__len__") rfl)
  me_Rules___str__ := He.meth_ok (c.1.fact 33 (f := .meth "Rules" "__str__") rfl)
  me_Rules_led := He.meth_ok (c.1.fact 34 (f := .meth "Rules" "led") rfl)
  cr_Rules := creadB_ok (List.all_eq_true.mp (Bool.and_eq_true_iff.mp (Bool.and_eq_true_iff.mp c.2).2).1 "Rules" (List.mem_of_getElem? (i := 0) rfl))
  cm_Rules_read := ⟨_, cmetB_ok (List.all_eq_true.mp (Bool.and_eq_true_iff.mp (Bool.and_eq_true_iff.mp c.2).2).2 ("Rules", "read") (List.mem_of_getElem? (i := 0) rfl))⟩
  n_Rules_heard := He.noat_ok (c.1.fact 35 (f := .noat "Rules" "heard") rfl)
  n_Rules_rows := He.noat_ok (c.1.fact 36 (f := .noat "Rules" "rows") rfl)
  n_Rules_steps := He.noat_ok (c.1.fact 37 (f := .noat "Rules" "steps") rfl)
  n_Rules_written := He.noat_ok (c.1.fact 38 (f := .noat "Rules" "written") rfl)
theorem facts {f : Addr} (X : K.In h) (G : h.Ns mainGlobals mg) (hfa : mg ("law" : Str) = some (.ref f)) (c : SaysB fa fn ex K) :
    ∃ fd : FuncData, (∀ (s : Shared) (v : Value), BindsTo s fd ⟨[v], []⟩ [("script", v)]) ∧ ∀ base : Heap, K.In base → base.Ns mainGlobals mg → FnG P w K mg base (L2.CX P w) 8 f fd ["script"] (spD ⟨K, P, w⟩ 1 (fm_law (cs K))) := by
  have T := tx X G c
  obtain ⟨fd_are_letters, F_are_letters⟩ := c.1.def_ 0 (d := d_are_letters) rfl
  obtain ⟨fd_number_in, F_number_in⟩ := c.1.def_ 1 (d := d_number_in) rfl
  obtain ⟨fd_text_of, F_text_of⟩ := c.1.def_ 2 (d := d_text_of) rfl
  obtain ⟨fd_first_line, F_first_line⟩ := c.1.def_ 3 (d := d_first_line) rfl
  obtain ⟨fd_move_line, F_move_line⟩ := c.1.def_ 4 (d := d_move_line) rfl
  obtain ⟨fd_parts_in, F_parts_in⟩ := c.1.def_ 5 (d := d_parts_in) rfl
  obtain ⟨fd_is_letter_of, F_is_letter_of⟩ := c.1.def_ 6 (d := d_is_letter_of) rfl
  obtain ⟨fd_is_integer, F_is_integer⟩ := c.1.def_ 7 (d := d_is_integer) rfl
  obtain ⟨fd_is_move, F_is_move⟩ := c.1.def_ 8 (d := d_is_move) rfl
  obtain ⟨fd_is_row, F_is_row⟩ := c.1.def_ 9 (d := d_is_row) rfl
  obtain ⟨fd_steps_of, F_steps_of⟩ := c.1.def_ 10 (d := d_steps_of) rfl
  obtain ⟨fd_Rules___init__, F_Rules___init__⟩ := c.1.def_ 11 (d := d_Rules___init__) rfl
  obtain ⟨fd_Rules_read, F_Rules_read⟩ := c.1.def_ 12 (d := d_Rules_read) rfl
  obtain ⟨fd_Rules___str__, F_Rules___str__⟩ := c.1.def_ 13 (d := d_Rules___str__) rfl
  obtain ⟨fd_Rules___len__, F_Rules___len__⟩ := c.1.def_ 14 (d := d_Rules___len__) rfl
  obtain ⟨fd_Rules___eq__, F_Rules___eq__⟩ := c.1.def_ 15 (d := d_Rules___eq__) rfl
  obtain ⟨fd_Rules_led, F_Rules_led⟩ := c.1.def_ 16 (d := d_Rules_led) rfl
  obtain ⟨fd__law_deck, F__law_deck⟩ := c.1.def_ 17 (d := d__law_deck) rfl
  obtain ⟨fd__law_draw, F__law_draw⟩ := c.1.def_ 18 (d := d__law_draw) rfl
  obtain ⟨fd__law_pick, F__law_pick⟩ := c.1.def_ 19 (d := d__law_pick) rfl
  obtain ⟨fd__law_signs, F__law_signs⟩ := c.1.def_ 20 (d := d__law_signs) rfl
  obtain ⟨fd__law_once, F__law_once⟩ := c.1.def_ 21 (d := d__law_once) rfl
  obtain ⟨fd__law_world, F__law_world⟩ := c.1.def_ 22 (d := d__law_world) rfl
  obtain ⟨fd__law_code, F__law_code⟩ := c.1.def_ 23 (d := d__law_code) rfl
  obtain ⟨fd__law_led, F__law_led⟩ := c.1.def_ 24 (d := d__law_led) rfl
  obtain ⟨fd__law_texts, F__law_texts⟩ := c.1.def_ 25 (d := d__law_texts) rfl
  obtain ⟨fd__law_written, F__law_written⟩ := c.1.def_ 26 (d := d__law_written) rfl
  obtain ⟨fd__law_right, F__law_right⟩ := c.1.def_ 27 (d := d__law_right) rfl
  obtain ⟨fd_law, F_law⟩ := c.1.def_ 28 (d := d_law) rfl
  have e := hfa.symm.trans (He.glo_ok X G (c.1.fact 61 (f := .glo "law") rfl))
  cases e
  have b := FunD.bindsA (ps := ["script"]) F_law fun _ _ _ _ _ _ us hl => match us, hl with | [_], _ => rfl
  refine ⟨fd_law, fun s v => b s [v] rfl, fun base _ _ => ?_⟩
  have D_are_letters := ok_are_letters (P := P) (w := w) (base := base) F_are_letters T (He.glo_ok X G (c.1.fact 39 (f := .glo "are_letters") rfl)) (FunD.bindsN F_are_letters fun _ _ _ _ _ _ us hl => match us, hl with | [_], _ => rfl) 
  have D_number_in := ok_number_in (P := P) (w := w) (base := base) F_number_in T (He.glo_ok X G (c.1.fact 40 (f := .glo "number_in") rfl)) (FunD.bindsN F_number_in fun _ _ _ _ _ _ us hl => match us, hl with | [_], _ => rfl) 
  have D_text_of := ok_text_of (P := P) (w := w) (base := base) F_text_of T (He.glo_ok X G (c.1.fact 41 (f := .glo "text_of") rfl)) (FunD.bindsN F_text_of fun _ _ _ _ _ _ us hl => match us, hl with | [_, _, _], _ => rfl) 
  have D_first_line := ok_first_line (P := P) (w := w) (base := base) F_first_line T (He.glo_ok X G (c.1.fact 42 (f := .glo "first_line") rfl)) (FunD.bindsN F_first_line fun _ _ _ _ _ _ us hl => match us, hl with | [_], _ => rfl) D_number_in D_are_letters
  have D_move_line := ok_move_line (P := P) (w := w) (base := base) F_move_line T (He.glo_ok X G (c.1.fact 43 (f := .glo "move_line") rfl)) (FunD.bindsN F_move_line fun _ _ _ _ _ _ us hl => match us, hl with | [_, _, _, _], _ => rfl) D_number_in
  have D_parts_in := ok_parts_in (P := P) (w := w) (base := base) F_parts_in T (He.glo_ok X G (c.1.fact 44 (f := .glo "parts_in") rfl)) (FunD.bindsN F_parts_in fun _ _ _ _ _ _ us hl => match us, hl with | [_], _ => rfl) D_first_line D_move_line
  have D_is_letter_of := ok_is_letter_of (P := P) (w := w) (base := base) F_is_letter_of T (He.glo_ok X G (c.1.fact 45 (f := .glo "is_letter_of") rfl)) (FunD.bindsN F_is_letter_of fun _ _ _ _ _ _ us hl => match us, hl with | [_, _], _ => rfl) 
  have D_is_integer := ok_is_integer (P := P) (w := w) (base := base) F_is_integer T (He.glo_ok X G (c.1.fact 46 (f := .glo "is_integer") rfl)) (FunD.bindsN F_is_integer fun _ _ _ _ _ _ us hl => match us, hl with | [_], _ => rfl) 
  have D_is_move := ok_is_move (P := P) (w := w) (base := base) F_is_move T (He.glo_ok X G (c.1.fact 47 (f := .glo "is_move") rfl)) (FunD.bindsN F_is_move fun _ _ _ _ _ _ us hl => match us, hl with | [_, _, _, _], _ => rfl) D_is_letter_of D_is_integer
  have D_is_row := ok_is_row (P := P) (w := w) (base := base) F_is_row T (He.glo_ok X G (c.1.fact 48 (f := .glo "is_row") rfl)) (FunD.bindsN F_is_row fun _ _ _ _ _ _ us hl => match us, hl with | [_, _, _, _], _ => rfl) D_is_move
  have D_steps_of := ok_steps_of (P := P) (w := w) (base := base) F_steps_of T (He.glo_ok X G (c.1.fact 49 (f := .glo "steps_of") rfl)) (FunD.bindsN F_steps_of fun _ _ _ _ _ _ us hl => match us, hl with | [_], _ => rfl) 
  have D_Rules___init__ := ok_Rules___init__ (P := P) (w := w) (base := base) F_Rules___init__ T (FunD.bindsN F_Rules___init__ fun _ _ _ _ _ _ us hl => match us, hl with | [_, _, _, _], _ => rfl) D_are_letters D_is_row D_steps_of
  have D_Rules_read := ok_Rules_read (P := P) (w := w) (base := base) F_Rules_read T (FunD.bindsN F_Rules_read fun _ _ _ _ _ _ us hl => match us, hl with | [_, _], _ => rfl) D_parts_in D_Rules___init__
  have W_Rules_read_1 := okW_Rules_read_1 (P := P) (w := w) (base := base) F_Rules_read T (kw_bind F_Rules_read fun _ _ _ _ _ _ us ws h1 h2 => match us, ws, h1, h2 with | [_], [_], _, _ => rfl) D_parts_in D_Rules___init__
  have D_Rules___str__ := ok_Rules___str__ (P := P) (w := w) (base := base) F_Rules___str__ T (FunD.bindsN F_Rules___str__ fun _ _ _ _ _ _ us hl => match us, hl with | [_], _ => rfl) D_text_of
  have D_Rules___len__ := ok_Rules___len__ (P := P) (w := w) (base := base) F_Rules___len__ T (FunD.bindsN F_Rules___len__ fun _ _ _ _ _ _ us hl => match us, hl with | [_], _ => rfl) 
  have D_Rules___eq__ := ok_Rules___eq__ (P := P) (w := w) (base := base) F_Rules___eq__ T (FunD.bindsN F_Rules___eq__ fun _ _ _ _ _ _ us hl => match us, hl with | [_, _], _ => rfl) 
  have D_Rules_led := ok_Rules_led (P := P) (w := w) (base := base) F_Rules_led T (FunD.bindsN F_Rules_led fun _ _ _ _ _ _ us hl => match us, hl with | [_, _, _, _], _ => rfl) 
  have D__law_deck := ok__law_deck (P := P) (w := w) (base := base) F__law_deck T (He.glo_ok X G (c.1.fact 50 (f := .glo "_law_deck") rfl)) (FunD.bindsN F__law_deck fun _ _ _ _ _ _ us hl => match us, hl with | [_], _ => rfl) 
  have D__law_draw := ok__law_draw (P := P) (w := w) (base := base) F__law_draw T (He.glo_ok X G (c.1.fact 51 (f := .glo "_law_draw") rfl)) (FunD.bindsN F__law_draw fun _ _ _ _ _ _ us hl => match us, hl with | [_, _], _ => rfl) 
  have D__law_pick := ok__law_pick (P := P) (w := w) (base := base) F__law_pick T (He.glo_ok X G (c.1.fact 52 (f := .glo "_law_pick") rfl)) (FunD.bindsN F__law_pick fun _ _ _ _ _ _ us hl => match us, hl with | [_, _], _ => rfl) D__law_draw
  have D__law_signs := ok__law_signs (P := P) (w := w) (base := base) F__law_signs T (He.glo_ok X G (c.1.fact 53 (f := .glo "_law_signs") rfl)) (FunD.bindsN F__law_signs fun _ _ _ _ _ _ us hl => match us, hl with | [_, _], _ => rfl) D__law_draw D__law_pick
  have D__law_once := ok__law_once (P := P) (w := w) (base := base) F__law_once T (He.glo_ok X G (c.1.fact 54 (f := .glo "_law_once") rfl)) (FunD.bindsN F__law_once fun _ _ _ _ _ _ us hl => match us, hl with | [_, _, _], _ => rfl) D__law_draw D__law_signs D__law_pick
  have D__law_world := ok__law_world (P := P) (w := w) (base := base) F__law_world T (He.glo_ok X G (c.1.fact 55 (f := .glo "_law_world") rfl)) (FunD.bindsN F__law_world fun _ _ _ _ _ _ us hl => match us, hl with | [_, _, _], _ => rfl) D__law_once D__law_draw
  have D__law_code := ok__law_code (P := P) (w := w) (base := base) F__law_code T (He.glo_ok X G (c.1.fact 56 (f := .glo "_law_code") rfl)) (FunD.bindsN F__law_code fun _ _ _ _ _ _ us hl => match us, hl with | [_], _ => rfl) D_Rules___init__
  have D__law_led := ok__law_led (P := P) (w := w) (base := base) F__law_led T (He.glo_ok X G (c.1.fact 57 (f := .glo "_law_led") rfl)) (FunD.bindsN F__law_led fun _ _ _ _ _ _ us hl => match us, hl with | [_, _, _, _], _ => rfl) 
  have D__law_texts := ok__law_texts (P := P) (w := w) (base := base) F__law_texts T (He.glo_ok X G (c.1.fact 58 (f := .glo "_law_texts") rfl)) (FunD.bindsN F__law_texts fun _ _ _ _ _ _ us hl => match us, hl with | [_, _], _ => rfl) 
  have D__law_written := ok__law_written (P := P) (w := w) (base := base) F__law_written T (He.glo_ok X G (c.1.fact 59 (f := .glo "_law_written") rfl)) (FunD.bindsN F__law_written fun _ _ _ _ _ _ us hl => match us, hl with | [_], _ => rfl) 
  have D__law_right := ok__law_right (P := P) (w := w) (base := base) F__law_right T (He.glo_ok X G (c.1.fact 60 (f := .glo "_law_right") rfl)) (FunD.bindsN F__law_right fun _ _ _ _ _ _ us hl => match us, hl with | [_, _], _ => rfl) D__law_code D__law_written D_Rules___str__ D_Rules_read D_Rules___eq__ D_Rules___len__ D__law_texts D_Rules_led D__law_led W_Rules_read_1
  exact dfG_mk F_law sc_law rfl (by decide) (by decide) (bj_law T D__law_deck D__law_world D__law_right D__law_code D_Rules___eq__ D_Rules___str__ D_Rules___init__ D_Rules_read)
end
end K02H
open PySem PySem.W PySem.Calls PyProof.Rows
theorem K02.of_law (pl : ∀ (C : K02.Cs) (ns : List Int), ns.length ≤ 63 → ∃ o, K02.fm_law C [.nd false .sl (ns.map .int)] = some (.bl true, o)) : PySem.Challenge.rw_veilhouse_k02_texts_of_rules.Holds := by
  w_on; o_law
  refine HandSHeadRun.head_any (r := OpenLaw.row PySem.Challenge.rw_veilhouse_k02_texts_of_rules) (q := view (OpenLaw.row PySem.Challenge.rw_veilhouse_k02_texts_of_rules).prog [51]) (H := K02H.hk) (ob := K02H.ob) (M := 4000) (loose := K02H.names) (d := HandSHeadRun.topDef (OpenLaw.row PySem.Challenge.rw_veilhouse_k02_texts_of_rules).prog 51) (kwd := []) K02H.ob_eq
    (by kernel_rfl) (fun s => by kernel_rfl) K02H.run (by kernel_rfl) (by kernel_rfl) (by kernel_rfl) (by rfl) (by first | assumption | decide +kernel) (by decide +kernel) ⟨rfl, rfl, rfl, rfl, rfl, by decide +kernel⟩ ?hw ?hc
  case hw => w_witness2
  case hc =>
    refine VH.walk_ofG (l := PySem.Challenge.rw_veilhouse_k02_texts_of_rules) (n := 63) (k := 8) (x := "script") (CX := fun w => L2.CX (PySem.Challenge.rw_veilhouse_k02_texts_of_rules).prog w) rfl (by decide) (by kernel_rfl) ⟨rfl, by decide, by decide⟩ ?F (fun _ _ _ _ _ z => by obtain ⟨_, _, _, _, _, _, _, _, _, _, _, _, z⟩ := z; exact z)
    intro w mg fa h Y G hmg0
    obtain ⟨K, KX, c⟩ := Y
    have hmg : mg ("law" : PySem.Str) = some (.ref fa) := by
      have e : (HandSHeadRun.topDef (OpenLaw.row PySem.Challenge.rw_veilhouse_k02_texts_of_rules).prog 51).name = ("law" : PySem.Str) := by kernel_rfl
      rw [← e]; exact hmg0
    obtain ⟨fd, hb, hF⟩ := K02H.facts (P := (PySem.Challenge.rw_veilhouse_k02_texts_of_rules).prog) (w := w) KX G hmg c
    refine ⟨K, fd, _, KX, hb, fun H a ns hl hO hS => ?_, hF⟩
    obtain ⟨o, e⟩ := pl (K02H.cs K) ns hl
    exact VH.sp_law hO hS o e


namespace K02
open PySem L2 VH
abbrev kD : List Key := [.inr "cells", .inr "ground", .inr "draws"]
/-- the deck -/
def deckD (cells : List Int) (g n : Int) : D := .nd true (.dK kD) [.nd true .lst (cells.map .int), .int g, .int n]
theorem get_draws {cells : List D} {g n : D} {Q : D → List D → Prop} : wF fDGet [.nd true (.dK kD) [.nd true .lst cells, g, n], .str "draws"] Q ↔ Q n.fz [.nd true (.dK kD) [.nd true .lst cells, g, n.fz], .str "draws"] := wF_some rfl rfl
theorem get_ground {cells : List D} {g n : D} {Q : D → List D → Prop} : wF fDGet [.nd true (.dK kD) [.nd true .lst cells, g, n], .str "ground"] Q ↔ Q g.fz [.nd true (.dK kD) [.nd true .lst cells, g.fz, n], .str "ground"] := wF_some rfl rfl
theorem put_draws {cells : List D} {v g n : D} {Q : D → List D → Prop} : wF fDPut [v, .nd true (.dK kD) [.nd true .lst cells, g, n], .str "draws"] Q ↔ Q .non [.any, .nd true (.dK kD) [.nd true .lst cells, g, v.fz], .str "draws"] := wF_some rfl rfl
/-- b more cards may be drawn -/
def DeckOk (b : Nat) (d : D) : Prop := ∃ cells g n, d = deckD cells g n ∧ cells.length ≤ 63 ∧ 0 ≤ n ∧ n + b < 2 ^ 62 
theorem py_ints : ∀ l : List Int, D.pyL (l.map .int) = some (l.map .int)
  | [] => rfl
  | i :: l => by
    show (match (D.int i).py, D.pyL (l.map .int) with | some p, some ps => some (p :: ps) | _, _ => none) = _
    rw [py_ints l]; rfl
theorem lay_ints : ∀ l : List Int, PyData.canLayAll0 (l.map .int) = true
  | [] => rfl
  | i :: l => by simp only [List.map_cons, PyData.canLayAll0, PyData.canLay0, lay_ints l, Bool.and_self]
theorem dep_ints : ∀ l : List Int, PyData.depthAll (l.map .int) ≤ 1
  | [] => by simp [PyData.depthAll]
  | i :: l => by
    have := dep_ints l
    simp only [List.map_cons, PyData.depthAll, PyData.depth]
    omega
theorem shp_ints (l : List Int) : SeqAt.shaped (.list (l.map .int)) = true := by
  have := dep_ints l
  simp only [SeqAt.shaped, PyData.canLay0, lay_ints, PyData.depth, Bool.true_and, decide_eq_true_eq]
  exact decide_eq_true (by omega)
theorem pop_int {l : List Int} {c : Int} {Q : D → List D → Prop} : wF fPop [.nd true .lst ((l ++ [c]).map .int)] Q ↔ Q (.int c) [.nd true .lst (l.map .int)] := by
  rw [wF_pop]
  simp only [List.map_append, List.map_cons, List.map_nil, List.getLast?_concat, List.dropLast_concat]
  exact wO_some
theorem eqv_nil (l : List Int) (c : Int) : PyData.eqv (.list ((l ++ [c]).map .int)) (.list []) = false := by
  cases l <;> rfl
theorem draw {C : Cs} {d : D} {b : Nat} {below : Int} (hd : DeckOk (b + 1) d) (h0 : 0 < below) (h1 : below < 2 ^ 20) : wF (fm__law_draw C) [d, .int below] fun r os => ∃ i d', r = .int i ∧ 0 ≤ i ∧ i < below ∧ os = [d', .any] ∧ DeckOk b d' := by
  obtain ⟨cells, g, n, rfl, hl, hn, hb⟩ := hd
  have fin : ∀ (x : Int) (cs : List Int) (g' : Int) (y z w : Option D), cs.length ≤ 63 → ∃ i d', D.int (x % below) = D.int i ∧ 0 ≤ i ∧ i < below ∧ outs [0] 0 2 [some (D.nd true (Hd.dK kD) [D.nd true .lst (cs.map .int), D.int g', D.int (n + 1)]), some (D.int below), y, z, w] = [d', D.any] ∧ DeckOk b d' := fun x cs g' y z w hc =>
    ⟨_, _, rfl, Int.emod_nonneg _ (by omega), Int.emod_lt_of_pos _ h0, rfl, cs, g', n + 1, rfl, hc, by omega, by omega⟩
  refine wF_fn rfl ?_
  unfold m__law_draw deckD
  ac_nf
  refine get_draws.mpr ?_
  ac_nf
  refine put_draws.mpr ?_
  ac_nf
  refine get_draws.mpr ?_
  ac_nf
  refine get_ground.mpr ?_
  ac_nf
  refine wF_neD.mpr ⟨.list (cells.map .int), .list [], ?_, rfl, ?_, ?_⟩
  · show (D.pyL (cells.map .int)).map PyData.list = _
    rw [py_ints]; rfl
  · rw [shp_ints]; rfl
  ac_nf
  rcases List.eq_nil_or_concat cells with rfl | ⟨l, c, rfl⟩
  · simp only [List.map_nil, PyData.eqv, PyData.eqvAll, Bool.not_true, Bool.false_eq_true, if_false]
    ac_nf
    exact fin _ [] _ _ _ _ hl
  · simp only [List.concat_eq_append] at hl ⊢
    rw [eqv_nil]
    simp only [Bool.not_false, if_true]
    have hl2 : l.length ≤ 62 := by simp at hl; omega
    ac_nf
    refine pop_int.mpr ?_
    ac_nf
    split
    · ac_nf
      refine wF_append.mpr ⟨by simp [sizeLine]; omega, ?_⟩
      ac_nf
      have e : (l.map D.int ++ [D.int (c.fdiv below)]) = (l ++ [c.fdiv below]).map .int := by simp
      rw [e]
      exact fin _ _ _ _ _ _ (by simp; omega)
    · ac_nf
      exact fin _ l _ _ _ _ (by omega)
theorem cut_map {α β : Type} (f : α → β) (l : List α) (lo hi : Option Int) : cutL (l.map f) lo hi = (cutL l lo hi).map f := by
  simp only [cutL, List.length_map, ← List.map_drop, ← List.map_take]
theorem cut_len {α : Type} (l : List α) (lo hi : Option Int) : (cutL l lo hi).length ≤ l.length := by
  simp only [cutL, List.length_take, List.length_drop]; omega
theorem mem_ints {l : List Int} {i : Nat} {d : D} (h : (l.map D.int)[i]? = some d) : ∃ c, d = .int c := by
  rw [List.getElem?_map] at h
  cases q : l[i]? with
  | none => rw [q] at h; cases h
  | some c => rw [q] at h; cases h; exact ⟨c, rfl⟩
theorem deck {C : Cs} {b : Nat} {ns : List Int} (hn : ns.length ≤ 63) (hb : b < 2 ^ 61) : wF (fm__law_deck C) [.nd false .sl (ns.map .int)] fun r os => DeckOk b r := by
  refine wF_fn rfl ?_
  unfold m__law_deck
  ac_nf
  show wO (some (D.nd true .lst (cutL (ns.map D.int) none (some 63)))) _
  rw [cut_map]
  ac_nf
  refine wL (fun i e => ∃ g x, e = [some (D.nd false Hd.sl (ns.map D.int)), some (.nd false .lst ((cutL ns none (some 63)).map .int)), some (.int g), x]) ⟨_, _, rfl⟩ ?_ ?_
  · rintro i d e hd ⟨g, x, rfl⟩
    obtain ⟨c, rfl⟩ := mem_ints hd
    ac_nf
    exact ⟨_, _, rfl⟩
  · rintro e ⟨g, x, rfl⟩
    ac_nf
    refine ⟨_, rfl, ⟨by decide +kernel, by decide⟩, (cutL ns none (some 63)).reverse, g, 0, by simp [deckD], ?_, by omega, by omega⟩
    have := cut_len ns none (some 63)
    simp; omega
theorem DeckOk.le {b c : Nat} {d : D} (h : DeckOk b d) (hc : c ≤ b) : DeckOk c d := by
  obtain ⟨cells, g, n, rfl, h1, h2, h3⟩ := h
  exact ⟨cells, g, n, rfl, h1, h2, by omega⟩
theorem ixN_ok {n : Nat} {i : Int} (h0 : 0 ≤ i) (h1 : i < n) : ixN n i = some i.toNat := by
  unfold ixN
  rw [if_pos h0, if_pos h1]
theorem mem_fz {xs : List D} (hf : D.fzL xs = xs) {x : D} (hx : x ∈ xs) : x.fz = x := by
  rw [D.fzL_map] at hf
  obtain ⟨i, hi, rfl⟩ := List.mem_iff_getElem.mp hx
  have := congrArg (fun l => l[i]?) hf
  simp only [List.getElem?_map, List.getElem?_eq_getElem hi, Option.map_some, Option.some.injEq] at this
  exact this
/-- something of a list -/
theorem pickL {C : Cs} {d : D} {b : Nat} {m : Bool} {xs : List D} (hd : DeckOk (b + 1) d) (h0 : xs ≠ []) (h1 : xs.length < 1000) (hf : D.fzL xs = xs) : wF (fm__law_pick C) [d, .nd m .lst xs] fun r os => ∃ d', r ∈ xs ∧ os = [d', .any] ∧ DeckOk b d' := by
  have hp : 0 < xs.length := List.length_pos_iff.mpr h0
  refine wF_fn rfl ?_
  unfold m__law_pick
  ac_nf
  simp only [hf]
  refine (draw hd (by omega) (by omega)).mono ?_
  rintro _ _ ⟨i, d', rfl, hi0, hi1, rfl, hd'⟩
  ac_nf
  refine (wF_ix (.inl rfl)).mpr ⟨i.toNat, ixN_ok hi0 hi1, xs[i.toNat]'(by omega), List.getElem?_eq_getElem _, ?_⟩
  ac_nf
  exact ⟨d', by rw [mem_fz hf (List.getElem_mem _)]; exact List.getElem_mem _, rfl, hd'⟩
theorem wF_ixS {z : Str} {i : Int} {Q : D → List D → Prop} (h0 : 0 ≤ i) (h1 : i < z.cps.size) (hz : z.length ≤ sizeLine) : wF fIx [.str z, .int i] Q ↔ Q (.str ⟨#[z.cps.toList[i.toNat]'(by simp; omega)]⟩) [.str z, .int i] := by
  refine wF_some ?_ rfl
  simp only [fIx, hz, if_true, atI]
  rw [ixN_ok h0 (by simpa using h1)]
  simp only [Option.bind_some]
  rw [List.getElem?_eq_getElem (by simp; omega)]
/-- a sign of a text -/
theorem pickS {C : Cs} {d : D} {b : Nat} {z : Str} (hd : DeckOk (b + 1) d) (h0 : z.cps.size ≠ 0) (h1 : z.cps.size < 1000) : wF (fm__law_pick C) [d, .str z] fun r os => ∃ c d', r = .str ⟨#[c]⟩ ∧ c ∈ z.cps.toList ∧ os = [d', .any] ∧ DeckOk b d' := by
  have hz : z.length ≤ sizeLine := by show z.cps.size ≤ 16777216; omega
  refine wF_fn rfl ?_
  unfold m__law_pick
  ac_nf
  refine wF_lenS.mpr ⟨hz, ?_⟩
  ac_nf
  have hl : (z.length : Int) = z.cps.size := rfl
  refine (draw hd (by rw [hl]; omega) (by rw [hl]; omega)).mono ?_
  rintro _ _ ⟨i, d', rfl, hi0, hi1, rfl, hd'⟩
  ac_nf
  refine (wF_ixS hi0 (by rw [← hl]; exact hi1) hz).mpr ?_
  ac_nf
  exact ⟨_, d', rfl, List.getElem_mem _, rfl, hd'⟩
end K02

namespace K02
open PySem L2 VH
/-- a text of these signs -/
def tx (l : List Nat) : Str := ⟨l.toArray⟩
theorem tx_list (l : List Nat) : (tx l).cps.toList = l := rfl
theorem tx_inj {a b : List Nat} (h : tx a = tx b) : a = b := congrArg (fun z : Str => z.cps.toList) h
theorem tx_of (z : Str) : z = tx z.cps.toList := by cases z; rfl
def one (c : Nat) : Str := tx [c]
def ltN (a b : Nat) : Bool := decide (a < b)
theorem stoN : STO ltN := ⟨fun a => by simp [ltN], fun a b c => by simp only [ltN, decide_eq_true_eq]; omega, fun a b => by simp only [ltN, decide_eq_false_iff_not]; omega⟩
theorem lt_one {a b : Nat} : ltS (one a) (one b) = ltN a b := by
  unfold ltS ltN one
  rw [tx_list, tx_list]
  exact decide_eq_decide.mpr (by simp [List.cons_lt_cons_iff])
theorem one_inj {a b : Nat} (h : one a = one b) : a = b := by simpa using tx_inj h
theorem dsort_one (l : List Nat) : dsort ltS (l.map one) = (dsort ltN l).map one := by
  refine (dsort_eq stoS ?_ ?_).symm
  · rw [List.pairwise_map]
    exact (dsort_sorted stoN l).imp fun {a b} h => by rw [lt_one]; exact h
  · intro k
    simp only [List.mem_map]
    constructor
    · rintro ⟨a, ha, rfl⟩
      exact ⟨a, (dsort_mem stoN a l).mp ha, rfl⟩
    · rintro ⟨a, ha, rfl⟩
      exact ⟨a, (dsort_mem stoN a l).mpr ha, rfl⟩
theorem join_one (l : List Nat) : Txt.join ⟨#[]⟩ (l.map one) = tx l := by
  have h : TL.tl (Txt.join ⟨#[]⟩ (l.map one)) = l := by
    rw [TL.join_eq, TL.tl_join]
    have : ∀ l : List Nat, TL.joinL (TL.tl ⟨#[]⟩) ((l.map one).map TL.tl) = l := by
      intro l
      induction l with
      | nil => rfl
      | cons a r ih =>
        cases r with
        | nil => rfl
        | cons b r => 
          show [a] ++ ([] ++ TL.joinL (TL.tl ⟨#[]⟩) (((b :: r).map one).map TL.tl)) = _
          rw [ih]; rfl
    exact this l
  exact (tx_of _).trans (congrArg tx h)
/-- ascending letters -/
structure Alpha (s : List Nat) : Prop where
  ne : s ≠ []
  len : s.length ≤ 3
  asc : s.Pairwise (· < ·)
  abc : ∀ c ∈ s, 97 ≤ c ∧ c ≤ 122
theorem range_if {j : Int} {Q : List D → Prop} : wO (gRange1 [.int j]) Q ↔ (-(2 ^ 62) ≤ j ∧ j < 2 ^ 62) ∧ Q (rangeD 0 j.toNat) := by
  simp only [gRange1]
  split
  · rename_i h; rw [wO_some]; exact ⟨fun q => ⟨h, q⟩, fun q => q.2⟩
  · rename_i h; rw [wO_none]; exact ⟨False.elim, fun q => absurd q.1 h⟩
theorem range_len (lo : Int) (n : Nat) : (rangeD lo n).length = n := by simp [rangeD]
theorem allI_strs {k : Str} {ks : List Str} : acI.all ((k :: ks).map .str) = none := rfl
theorem sort_strs {ks : List Str} {m : Bool} {Q : D → List D → Prop} (h0 : ks ≠ []) (h1 : ks.length < 64) : wF fSortSet [.nd m .lst (ks.map .str)] Q ↔ Q (.nd true .lst ((dsort ltS ks).map .str)) [.nd m .lst (ks.map .str)] := by
  refine wF_some ?_ rfl
  obtain ⟨k, r, rfl⟩ := List.exists_cons_of_ne_nil h0
  have e : acS.all ((k :: r).map D.str) = some (k :: r) := AC.all_map acS (k :: r)
  simp only [fSortSet, allI_strs, e, h1, if_true]
theorem join_strs {ks : List Str} {a : Str} {m : Bool} {Q : D → List D → Prop} (h : (ks.map (·.length)).sum + ks.length * a.length ≤ 16777216) : wF fJoin [.str a, .nd m .lst (ks.map .str)] Q ↔ Q (.str (Txt.join a ks)) [.str a, .nd m .lst (ks.map .str)] := by
  refine wF_some ?_ rfl
  have e : acS.all (ks.map D.str) = some ks := AC.all_map acS ks
  simp only [fJoin, e]
  exact if_pos h
theorem dsort_len {α : Type} {lt : α → α → Bool} : ∀ l : List α, (dsort lt l).length ≤ l.length := by
  have hi : ∀ (k : α) (l : List α), (insD lt k l).length ≤ l.length + 1 := by
    intro k l
    induction l with
    | nil => simp [insD]
    | cons x r ih =>
      unfold insD
      split
      · simp
      · split
        · simp; omega
        · simp
  intro l
  induction l with
  | nil => simp [dsort]
  | cons x r ih =>
    have := hi x (dsort lt r)
    simp only [dsort, List.length_cons]; omega
theorem signs {C : Cs} {d : D} {b : Nat} (hd : DeckOk (b + 5) d) : wF (fm__law_signs C) [d, .int 3] fun r os => ∃ s d', r = .str (tx s) ∧ Alpha s ∧ os = [d', .any] ∧ DeckOk b d' := by
  refine wF_fn rfl ?_
  unfold m__law_signs
  ac_nf
  refine (draw (b := b + 4) hd (by decide) (by decide)).mono ?_
  rintro _ _ ⟨i, d1, rfl, hi0, hi1, rfl, hd1⟩
  ac_nf
  split
  · ac_nf
    refine (pickL (b := b) (hd1.le (by omega)) (by simp) (by simp) rfl).mono ?_
    rintro r _ ⟨d2, hr, rfl, hd2⟩
    ac_nf
    simp only [List.mem_cons, List.not_mem_nil, or_false] at hr
    rcases hr with rfl | rfl | rfl | rfl
    · exact ⟨[97, 98], d2, rfl, ⟨by decide, by decide, by decide, by decide⟩, rfl, hd2⟩
    · exact ⟨[97, 98], d2, rfl, ⟨by decide, by decide, by decide, by decide⟩, rfl, hd2⟩
    · exact ⟨[97, 98, 99], d2, rfl, ⟨by decide, by decide, by decide, by decide⟩, rfl, hd2⟩
    · exact ⟨[97], d2, rfl, ⟨by decide, by decide, by decide, by decide⟩, rfl, hd2⟩
  · ac_nf
    refine (draw (b := b + 3) hd1 (by decide) (by decide)).mono ?_
    rintro _ _ ⟨j, d2, rfl, hj0, hj1, rfl, hd2⟩
    ac_nf
    refine range_if.mpr ⟨by omega, ?_⟩
    ac_nf
    have hn : (rangeD 0 (1 + j).toNat).length = (1 + j).toNat := range_len _ _
    refine wC (fun i ys e => ∃ (l : List Nat) (d' : D), ys = (l.map one).map .str ∧ l.length = i ∧ i ≤ 3 ∧ (∀ c ∈ l, 97 ≤ c ∧ c ≤ 122) ∧ e = [some d', some (.int 3), some (.str "abcdefghijklmnopqrstuvwxyz"), none] ∧ DeckOk (b + 3 - i) d') ⟨[], d2, rfl, rfl, by omega, (by simp), rfl, hd2⟩ ?_ ?_
    · rintro i x ys e hx ⟨l, d', rfl, hl, hi, ha, rfl, hd'⟩
      have hlt : i < (1 + j).toNat := by rw [← hn]; exact lt_of hx
      ac_nf
      try simp only [if_true]
      ac_nf
      refine (pickS (b := b + 3 - (i + 1)) (hd'.le (by omega)) (by decide) (by decide)).mono ?_
      rintro _ _ ⟨c, d3, rfl, hc, rfl, hd3⟩
      ac_nf
      refine ⟨l ++ [c], d3, by simp [one, tx], by simp [hl], by omega, ?_, rfl, hd3⟩
      intro a hm
      rcases List.mem_append.mp hm with hm | hm
      · exact ha a hm
      · obtain rfl := List.mem_singleton.mp hm
        have : ∀ c ∈ ("abcdefghijklmnopqrstuvwxyz" : Str).cps.toList, 97 ≤ c ∧ c ≤ 122 := by decide
        exact this _ hc
    · rintro ys e ⟨l, d', rfl, hl, hi, ha, rfl, hd'⟩
      rw [hn] at hl hi hd'
      have hne : l ≠ [] := by rintro rfl; simp at hl; omega
      refine ⟨by simp [hl, sizeLine]; omega, ?_⟩
      ac_nf
      refine (sort_strs (by simpa using hne) (by simp; omega)).mpr ?_
      ac_nf
      rw [dsort_one]
      have hd3 := dsort_len (lt := ltN) l
      refine (join_strs ?_).mpr ?_
      · have : (((dsort ltN l).map one).map (·.length)).sum = (dsort ltN l).length := by
          generalize dsort ltN l = z
          induction z with
          | nil => rfl
          | cons a r ih => simp only [List.map_cons, List.sum_cons, ih, List.length_cons]; show 1 + r.length = _; omega
        rw [this, List.length_map]
        show _ + _ * 0 ≤ _
        omega
      ac_nf
      refine ⟨dsort ltN l, d', ?_, ⟨?_, by omega, ?_, fun c hc => ha c ((dsort_mem stoN c l).mp hc)⟩, rfl, hd'.le (by omega)⟩
      · exact congrArg D.str (join_one _)
      · intro z
        obtain ⟨a, r, rfl⟩ := List.exists_cons_of_ne_nil hne
        have := (dsort_mem stoN a (a :: r)).mpr (by simp)
        rw [z] at this
        cases this
      · exact (dsort_sorted stoN l).imp fun {a b} h => of_decide_eq_true h
end K02

namespace K02
open PySem L2 VH
/-- heard, written, target -/
abbrev Mv := Nat × Nat × Nat
def mvD (m : Mv) : D := .nd false .tup [.str (one m.1), .str (one m.2.1), .int m.2.2]
def rowD (r : List Mv) : D := .nd false .tup (r.map mvD)
structure Wd where
  hs : List Nat
  cs : List Nat
  rows : List (List Mv)
def linesD (rows : List (List Mv)) : D := .nd false .tup (rows.map rowD)
abbrev kW : List Key := [.inr "hs", .inr "cs", .inr "lines"]
def wD (m : Bool) (w : Wd) : D := .nd m (.dK kW) [.str (tx w.hs), .str (tx w.cs), linesD w.rows]
theorem fz_mv (m : Mv) : (mvD m).fz = mvD m := rfl
theorem fzL_mvs (r : List Mv) : D.fzL (r.map mvD) = r.map mvD := by rw [D.fzL_map, List.map_map]; rfl
theorem fz_row (r : List Mv) : (rowD r).fz = rowD r := by show D.nd false .tup (D.fzL (r.map mvD)) = _; rw [fzL_mvs]; rfl
theorem fzL_rows (rs : List (List Mv)) : D.fzL (rs.map rowD) = rs.map rowD := by
  rw [D.fzL_map, List.map_map]
  exact List.map_congr_left fun r _ => fz_row r
theorem fz_lines (rs : List (List Mv)) : (linesD rs).fz = linesD rs := by show D.nd false .tup (D.fzL (rs.map rowD)) = _; rw [fzL_rows]; rfl
def ltM (a b : Mv) : Prop := a.1 < b.1 ∨ (a.1 = b.1 ∧ a.2.1 < b.2.1)
structure RowOk (hs cs : List Nat) (n : Nat) (r : List Mv) : Prop where
  asc : r.Pairwise ltM
  mem : ∀ m ∈ r, m.1 ∈ hs ∧ m.2.1 ∈ cs ∧ m.2.2 < n
  len : r.length ≤ 3 * hs.length
structure WOk (w : Wd) : Prop where
  hs : Alpha w.hs
  cs : Alpha w.cs
  l0 : 1 ≤ w.rows.length
  l5 : w.rows.length ≤ 999
  rows : ∀ r ∈ w.rows, RowOk w.hs w.cs w.rows.length r
def Tot (w : Wd) : Prop := ∀ r ∈ w.rows, ∀ h ∈ w.hs, ∃ m ∈ r, m.1 = h
theorem signs_tx (l : List Nat) : signsD (tx l) = (l.map one).map .str := by
  show l.map _ = _
  rw [List.map_map]; rfl
theorem mem_ones {l : List Nat} {i : Nat} {d : D} (h : ((l.map one).map D.str)[i]? = some d) : ∃ c, l[i]? = some c ∧ d = .str (one c) := by
  rw [List.map_map, List.getElem?_map] at h
  cases q : l[i]? with
  | none => rw [q] at h; cases h
  | some c => rw [q] at h; cases h; exact ⟨c, rfl, rfl⟩
theorem it_tx {l : List Nat} {Q : List D → Prop} : wO (D.items (.str (tx l))) Q ↔ Q ((l.map one).map .str) := by
  rw [← signs_tx]; exact wO_some
theorem drawR {C : Cs} {d : D} {b : Nat} {below : Int} {Q : D → List D → Prop} (hd : DeckOk (b + 1) d) (h0 : 0 < below) (h1 : below < 2 ^ 20) (k : ∀ i d', 0 ≤ i → i < below → DeckOk b d' → Q (.int i) [d', .any]) : wF (fm__law_draw C) [d, .int below] Q :=
  (draw hd h0 h1).mono fun _ _ ⟨i, d', e1, a0, a1, e2, hd'⟩ => by subst e1; subst e2; exact k i d' a0 a1 hd'
theorem signsR {C : Cs} {d : D} {b : Nat} {Q : D → List D → Prop} (hd : DeckOk (b + 5) d) (k : ∀ s d', Alpha s → DeckOk b d' → Q (.str (tx s)) [d', .any]) : wF (fm__law_signs C) [d, .int 3] Q :=
  (signs hd).mono fun _ _ ⟨s, d', e1, a, e2, hd'⟩ => by subst e1; subst e2; exact k s d' a hd'
theorem pickT {C : Cs} {d : D} {b : Nat} {l : List Nat} {Q : D → List D → Prop} (hd : DeckOk (b + 1) d) (h0 : l ≠ []) (h1 : l.length < 1000) (k : ∀ c d', c ∈ l → DeckOk b d' → Q (.str (one c)) [d', .any]) : wF (fm__law_pick C) [d, .str (tx l)] Q :=
  (pickS (z := tx l) hd (by simpa [tx] using h0) (by simpa [tx] using h1)).mono fun _ _ ⟨c, d', e1, a, e2, hd'⟩ => by subst e1; subst e2; exact k c d' a hd'
theorem py_strs : ∀ l : List Str, D.pyL (l.map .str) = some (l.map .str)
  | [] => rfl
  | i :: l => by
    show (match (D.str i).py, D.pyL (l.map .str) with | some p, some ps => some (p :: ps) | _, _ => none) = _
    rw [py_strs l]; rfl
theorem lay_ones : ∀ {l : List Nat}, (∀ c ∈ l, c ≤ 122) → PyData.canLayAll0 ((l.map one).map .str) = true
  | [], _ => rfl
  | c :: l, h => by
    have h1 : PyData.strOk (one c) = true := by
      have := h c (by simp)
      simp [PyData.strOk, one, tx]; omega
    simp only [List.map_cons, PyData.canLayAll0, PyData.canLay0, h1, lay_ones fun c hc => h c (List.mem_cons_of_mem _ hc), Bool.and_self]
theorem dep_strs : ∀ l : List Str, PyData.depthAll (l.map .str) ≤ 1
  | [] => by simp [PyData.depthAll]
  | i :: l => by
    have := dep_strs l
    simp only [List.map_cons, PyData.depthAll, PyData.depth]
    omega
theorem eq_nil_ones {l : List Nat} {m : Bool} {Q : D → List D → Prop} (h : ∀ c ∈ l, c ≤ 122) (q : ∀ os, Q (.bl (decide (l = []))) [.nd m .lst ((l.map one).map .str), os]) : wF fEq [.nd m .lst ((l.map one).map .str), .nd true .lst []] Q := by
  refine wF_eqD.mpr ⟨.list ((l.map one).map .str), .list [], ?_, rfl, ?_, ?_⟩
  · show (D.pyL _).map PyData.list = _
    rw [py_strs]; rfl
  · have := dep_strs (l.map one)
    have hs : SeqAt.shaped (.list ((l.map one).map .str)) = true := by
      simp only [SeqAt.shaped, PyData.canLay0, lay_ones h, PyData.depth, Bool.true_and]
      exact decide_eq_true (by omega)
    rw [hs]; rfl
  · have e : PyData.eqv (.list ((l.map one).map .str)) (.list []) = decide (l = []) := by cases l <;> rfl
    rw [e]
    exact q _
theorem row_step {hs cs l : List Nat} {n j h : Nat} {r ms : List Mv} (Ah : hs.Pairwise (· < ·)) (Ac : cs.Pairwise (· < ·)) (hh : hs[j]? = some h) (hr : RowOk (hs.take j) cs n r) (hl : l.Sublist cs) (e : ms.map (·.2.1) = l) (hm : ∀ m ∈ ms, m.1 = h ∧ m.2.2 < n) (c3 : cs.length ≤ 3) : RowOk (hs.take (j + 1)) cs n (r ++ ms) := by
  have tk : hs.take (j + 1) = hs.take j ++ [h] := by rw [List.take_succ, hh]; rfl
  have lt : ∀ a ∈ hs.take j, a < h := by
    intro a ha
    obtain ⟨i, hi, rfl⟩ := List.mem_iff_getElem.mp ha
    have hi2 : i < j := by simp at hi; omega
    have hj : j < hs.length := lt_of hh
    have e2 : h = hs[j] := by rw [List.getElem?_eq_getElem hj] at hh; exact (Option.some.inj hh).symm
    rw [List.getElem_take, e2]
    exact List.pairwise_iff_getElem.mp Ah i j (by omega) hj hi2
  refine ⟨List.pairwise_append.mpr ⟨hr.asc, ?_, fun a ha b hb => .inl ?_⟩, fun m hmm => ?_, ?_⟩
  · have : (ms.map (·.2.1)).Pairwise (· < ·) := by rw [e]; exact Ac.sublist hl
    rw [List.pairwise_map] at this
    exact this.imp_of_mem fun {a b} ha hb z => .inr ⟨(hm a ha).1.trans (hm b hb).1.symm, z⟩
  · rw [(hm b hb).1]
    exact lt _ (hr.mem a ha).1
  · rw [tk]
    rcases List.mem_append.mp hmm with z | z
    · obtain ⟨h1, h2, h3⟩ := hr.mem m z
      exact ⟨List.mem_append_left _ h1, h2, h3⟩
    · obtain ⟨h1, h2⟩ := hm m z
      refine ⟨by rw [h1]; simp, hl.subset ?_, h2⟩
      rw [← e]
      exact List.mem_map.mpr ⟨m, z, rfl⟩
  · have h1 := hr.len
    have h2 := hl.length_le
    have h3 := congrArg List.length e
    rw [List.length_map] at h3
    rw [tk, List.length_append, List.length_append, List.length_singleton]
    omega
theorem once {C : Cs} {d : D} {b : Nat} {tot : Bool} (hd : DeckOk (b + 200) d) : wF (fm__law_once C) [d, .int 5, .bl tot] fun r os => ∃ w d', r = wD true w ∧ WOk w ∧ (tot = true → Tot w) ∧ os = [d', .any, .any] ∧ DeckOk b d' := by
  refine wF_fn rfl ?_
  unfold m__law_once
  ac_nf
  refine drawR (b := b + 199) (below := 5) hd (by decide) (by decide) fun i1 d1 a0 a1 hd1 => ?_
  ac_nf
  refine drawR (b := b + 198) hd1 (by decide) (by decide) fun i2 d2 b0 b1 hd2 => ?_
  ac_nf
  refine signsR (b := b + 193) hd2 fun hs d3 Ah hd3 => ?_
  ac_nf
  refine signsR (b := b + 188) hd3 fun cs d4 Ac hd4 => ?_
  ac_nf
  refine drawR (b := b + 187) hd4 (by decide) (by decide) fun dense d5 c0 c1 hd5 => ?_
  ac_nf
  obtain ⟨n, hn, n1, n5⟩ : ∃ n : Nat, (1 + if i2 > i1 then i2 else i1) = (n : Int) ∧ 1 ≤ n ∧ n ≤ 5 := ⟨(1 + if i2 > i1 then i2 else i1).toNat, by split <;> omega, by split <;> omega, by split <;> omega⟩
  rw [hn]
  refine range_if.mpr ⟨by omega, ?_⟩
  have rl : (rangeD 0 (n : Int).toNat).length = n := by rw [range_len]; omega
  ac_nf
  refine wL (fun k e => ∃ (rows : List (List Mv)) (d' : D) (x8 x9 x10 x11 x12 : Option D), e = [some d', some (.int 5), some (.bl tot), some (.int n), some (.str (tx hs)), some (.str (tx cs)), some (.nd true .lst (rows.map rowD)), some (.int dense), x8, x9, x10, x11, x12] ∧ rows.length = k ∧ k ≤ n ∧ (∀ r ∈ rows, RowOk hs cs n r) ∧ (tot = true → ∀ r ∈ rows, ∀ h ∈ hs, ∃ m ∈ r, m.1 = h) ∧ DeckOk (b + 30 * (n - k)) d') ⟨[], d5, _, _, _, _, _, rfl, rfl, by omega, by simp, by simp, hd5.le (by omega)⟩ ?_ ?_
  · rintro k x e hx ⟨rows, d', x8, x9, x10, x11, x12, rfl, hl, hk, hr, ht, hd'⟩
    have hlt : k < n := by rw [← rl]; exact lt_of hx
    ac_nf
    refine it_tx.mpr ?_
    ac_nf
    refine wL (fun j e => ∃ (r : List Mv) (d' : D) (x10 x11 x12 : Option D), e = [some d', some (.int 5), some (.bl tot), some (.int n), some (.str (tx hs)), some (.str (tx cs)), some (.nd true .lst (rows.map rowD)), some (.int dense), some x, some (.nd true .lst (r.map mvD)), x10, x11, x12] ∧ j ≤ hs.length ∧ RowOk (hs.take j) cs n r ∧ (tot = true → ∀ h ∈ hs.take j, ∃ m ∈ r, m.1 = h) ∧ r.length ≤ 3 * j ∧ DeckOk (b + 30 * (n - (k + 1)) + 10 * (3 - j)) d') ⟨[], d', _, _, _, rfl, by omega, ⟨by simp, by simp, by simp⟩, by simp, by simp, hd'.le (by omega)⟩ ?_ ?_
    · rintro j y e hy ⟨r, d', x10, x11, x12, rfl, hj, hro, hto, hrl, hd'⟩
      obtain ⟨h, hh, rfl⟩ := mem_ones hy
      have hj3 : j < hs.length := lt_of hh
      have hh3 := Ah.len
      have hc3 := Ac.len
      ac_nf
      refine it_tx.mpr ?_
      ac_nf
      refine wC (fun i ys e => ∃ (l : List Nat) (d' : D), ys = (l.map one).map .str ∧ l.Sublist (cs.take i) ∧ i ≤ cs.length ∧ e = [some d', some (.int 5), some (.bl tot), some (.int n), some (.str (tx hs)), some (.str (tx cs)), some (.nd true .lst (rows.map rowD)), some (.int dense), some x, some (.nd true .lst (r.map mvD)), some (.str (one h)), x11, none] ∧ DeckOk (b + 30 * (n - (k + 1)) + 10 * (3 - (j + 1)) + 4 + (3 - i)) d') ⟨[], d', rfl, by simp, by omega, rfl, hd'.le (by omega)⟩ ?_ ?_
      · rintro i y ys e hy2 ⟨l, d', rfl, hl, hi, rfl, hd'⟩
        obtain ⟨c, hc, rfl⟩ := mem_ones hy2
        have hi3 : i < cs.length := lt_of hc
        have tk : cs.take (i + 1) = cs.take i ++ [c] := by
          rw [List.take_succ, hc]; rfl
        ac_nf
        refine drawR (b := b + 30 * (n - (k + 1)) + 10 * (3 - (j + 1)) + 4 + (3 - (i + 1))) (hd'.le (by omega)) (by decide) (by decide) fun v d2 v0 v1 hd2 => ?_
        ac_nf
        split
        · ac_nf
          refine ⟨l ++ [c], d2, by simp, ?_, by omega, rfl, hd2⟩
          rw [tk]
          exact hl.append (List.Sublist.refl _)
        · ac_nf
          refine ⟨l, d2, rfl, ?_, by omega, rfl, hd2⟩
          rw [tk]
          exact hl.trans (List.sublist_append_left _ _)
      · rintro ys e ⟨l, d', rfl, hl, hi, rfl, hd'⟩
        have hll := hl.length_le
        have hsz : (List.map D.str (List.map one l)).length ≤ sizeLine := by
          simp only [List.length_map, sizeLine]; simp at hll; omega
        refine ⟨hsz, ?_⟩
        refine gm_name.mpr ?_
        refine nxt_nx.mpr ?_
        refine wS_seq.mpr ?_
        bv_omega
        refine wS.mono (Q := fun o => ∃ (l : List Nat) (d' : D) (m m1 : Bool), o = .nx [some d', some (.int 5), some (.bl tot), some (.int n), some (.str (tx hs)), some (.str (tx cs)), some (.nd true .lst (rows.map rowD)), some (.int dense), some x, some (.nd true .lst (r.map mvD)), some (.str (one h)), some (.nd m .lst ((l.map one).map .str)), none] ∧ l.Sublist cs ∧ (tot = true → l ≠ []) ∧ DeckOk (b + 30 * (n - (k + 1)) + 10 * (3 - (j + 1)) + 3) d') ?_ ?_
        · ac_nf
          cases tot with
          | false =>
            simp only [Bool.false_eq_true, if_false]
            ac_nf
            exact ⟨l, d', true, true, rfl, by simpa using hl, by simp, hd'.le (by omega)⟩
          | true =>
            simp only [if_true]
            ac_nf
            refine eq_nil_ones (fun c hc => (Ac.abc c (by simpa using hl.subset hc)).2) fun os => ?_
            ac_nf
            split
            · ac_nf
              refine pickT (b := b + 30 * (n - (k + 1)) + 10 * (3 - (j + 1)) + 3) (hd'.le (by omega)) Ac.ne (by omega) fun c d2 hc hd2 => ?_
              ac_nf
              exact ⟨[c], d2, true, true, rfl, by simpa using hc, by simp, hd2⟩
            · rename_i hne
              ac_nf
              exact ⟨l, d', false, true, rfl, by simpa using hl, fun _ z => hne (by simp [z]), hd'.le (by omega)⟩
        · rintro o ⟨l, d', m, m1, rfl, hl, hne, hd'⟩
          have hll := hl.length_le
          ac_nf
          refine wC (fun i ys e => ∃ (ms : List Mv) (d' : D), ys = ms.map mvD ∧ ms.map (·.2.1) = l.take i ∧ i ≤ l.length ∧ (∀ m ∈ ms, m.1 = h ∧ m.2.2 < n) ∧ e = [some d', some (.int 5), some (.bl tot), some (.int n), some (.str (tx hs)), some (.str (tx cs)), some (.nd true .lst (rows.map rowD)), some (.int dense), some x, none, some (.str (one h)), some (.nd false .lst ((l.map one).map .str)), none] ∧ DeckOk (b + 30 * (n - (k + 1)) + 10 * (3 - (j + 1)) + (3 - i)) d') ⟨[], d', rfl, rfl, by omega, by simp, rfl, hd'.le (by omega)⟩ ?_ ?_
          · rintro i y ys e hy2 ⟨ms, d', rfl, hms, hi, hmm, rfl, hd'⟩
            obtain ⟨c, hc, rfl⟩ := mem_ones hy2
            have hi3 : i < l.length := lt_of hc
            have tk : l.take (i + 1) = l.take i ++ [c] := by rw [List.take_succ, hc]; rfl
            ac_nf
            try simp only [if_true]
            ac_nf
            refine drawR (b := b + 30 * (n - (k + 1)) + 10 * (3 - (j + 1)) + (3 - (i + 1))) (hd'.le (by omega)) (by omega) (by omega) fun v d2 v0 v1 hd2 => ?_
            ac_nf
            refine ⟨ms ++ [(h, c, v.toNat)], d2, ?_, by rw [tk, List.map_append, hms]; rfl, by omega, ?_, rfl, hd2⟩
            · rw [List.map_append]
              have : ((v.toNat : Nat) : Int) = v := by omega
              simp only [List.map_cons, List.map_nil, mvD, this]
            · intro m hm
              rcases List.mem_append.mp hm with z | z
              · exact hmm m z
              · obtain rfl := List.mem_singleton.mp z
                exact ⟨rfl, by simp; omega⟩
          · rintro ys e ⟨ms, d', rfl, hms, hi, hmm, rfl, hd'⟩
            have hml : ms.length ≤ 3 := by
              have := congrArg List.length hms
              simp at this
              omega
            refine ⟨by simp [sizeLine]; omega, ?_⟩
            ac_nf
            refine wF_extend.mpr ⟨by simp [sizeLine]; omega, ?_⟩
            rw [fzL_mvs]
            ac_nf
            have hms2 : ms.map (·.2.1) = l := by rw [hms]; simp
            refine ⟨r ++ ms, d', _, _, _, by rw [List.map_append], by omega, row_step Ah.asc Ac.asc hh hro hl hms2 hmm Ac.len, ?_, by simp; omega, hd'.le (by omega)⟩
            intro ht' a ha
            have tk : hs.take (j + 1) = hs.take j ++ [h] := by rw [List.take_succ, hh]; rfl
            rw [tk] at ha
            rcases List.mem_append.mp ha with z | z
            · obtain ⟨m, hm, e⟩ := hto ht' a z
              exact ⟨m, List.mem_append_left _ hm, e⟩
            · obtain rfl := List.mem_singleton.mp z
              have : ms ≠ [] := by
                rintro rfl
                exact hne ht' (by rw [← hms2]; rfl)
              obtain ⟨m, r2, rfl⟩ := List.exists_cons_of_ne_nil this
              exact ⟨m, by simp, (hmm m (by simp)).1⟩
    · rintro e ⟨r, d', x10, x11, x12, rfl, hj, hro, hto, hrl, hd'⟩
      simp only [List.length_map, List.take_length] at hj hro hto hrl hd'
      have hh3 := Ah.len
      ac_nf
      refine wF_tupleL.mpr ?_
      bv_omega
      rw [fzL_mvs, fzL_mvs]
      ac_nf
      refine wF_append.mpr ⟨by simp [sizeLine]; omega, ?_⟩
      ac_nf
      refine ⟨rows ++ [r], d', some x, some (.nd false .lst (r.map mvD)), x10, x11, x12, ?_, by simp [hl], by omega, ?_, ?_, hd'.le (by omega)⟩
      · rw [List.map_append]
        simp only [List.map_cons, List.map_nil, rowD, fzL_mvs]
      · intro a ha
        rcases List.mem_append.mp ha with z | z
        · exact hr a z
        · obtain rfl := List.mem_singleton.mp z
          exact hro
      · intro t a ha
        rcases List.mem_append.mp ha with z | z
        · exact ht t a z
        · obtain rfl := List.mem_singleton.mp z
          exact hto t
  · rintro e ⟨rows, d', x8, x9, x10, x11, x12, rfl, hl, hk, hr, ht, hd'⟩
    rw [rl] at hl
    ac_nf
    refine wF_tupleL.mpr ?_
    bv_omega
    simp only [fzL_rows]
    ac_nf
    refine wO_some.mpr ⟨⟨by decide +kernel, by decide⟩, ⟨hs, cs, rows⟩, d', rfl, ⟨Ah, Ac, by simp; omega, by simp; omega, ?_⟩, ht, rfl, hd'.le (by omega)⟩
    intro r hrr
    simp only [hl]
    exact hr r hrr
end K02

namespace K02
open PySem L2 VH
theorem onceR {C : Cs} {d : D} {b : Nat} {tot : Bool} {Q : D → List D → Prop} (hd : DeckOk (b + 200) d) (k : ∀ w d', WOk w → (tot = true → Tot w) → DeckOk b d' → Q (wD true w) [d', .any, .any]) : wF (fm__law_once C) [d, .int 5, .bl tot] Q :=
  (once hd).mono fun _ _ ⟨w, d', e1, a, t, e2, hd'⟩ => by subst e1; subst e2; exact k w d' a t hd'
theorem fz_w (m : Bool) (w : Wd) : (wD m w).fz = wD false w := by
  show D.nd false _ (D.fzL [_, _, linesD w.rows]) = _
  simp only [D.fzL, fz_lines]; rfl
theorem get_hs {m : Bool} {w : Wd} {Q : D → List D → Prop} : wF fDGet [wD m w, .str "hs"] Q ↔ Q (.str (tx w.hs)) [wD m w, .str "hs"] := wF_some rfl rfl
theorem get_cs {m : Bool} {w : Wd} {Q : D → List D → Prop} : wF fDGet [wD m w, .str "cs"] Q ↔ Q (.str (tx w.cs)) [wD m w, .str "cs"] := wF_some rfl rfl
theorem get_lines {m : Bool} {w : Wd} {Q : D → List D → Prop} : wF fDGet [wD m w, .str "lines"] Q ↔ Q (linesD w.rows) [wD m w, .str "lines"] := by
  refine wF_some ?_ rfl
  have h : fDGet [wD m w, .str "lines"] = some ((linesD w.rows).fz, [.nd m (.dK kW) [.str (tx w.hs), .str (tx w.cs), (linesD w.rows).fz], .str "lines"]) := rfl
  rw [h, fz_lines]; rfl
theorem ix_row {rows : List (List Mv)} {i : Int} {r : List Mv} {Q : D → List D → Prop} (h0 : 0 ≤ i) (h : rows[i.toNat]? = some r) : wF fIx [linesD rows, .int i] Q ↔ Q (rowD r) [linesD rows, .int i] := by
  have hlt := lt_of h
  refine wF_some ?_ rfl
  have e1 : ixN (rows.map rowD).length i = some i.toNat := ixN_ok h0 (by simp; omega)
  have e2 : (rows.map rowD)[i.toNat]? = some (rowD r) := by rw [List.getElem?_map, h]; rfl
  show (if Hd.tup = .lst ∨ Hd.tup = .sl ∨ Hd.tup = .tup ∨ Hd.tup = .st then (match ixN (rows.map rowD).length i with
    | some j => (match (rows.map rowD)[j]? with
      | some d => some (d.fz, [D.nd false .tup ((rows.map rowD).set j d.fz), .int i])
      | none => none)
    | none => none) else none) = _
  simp only [e1, e2, fz_row]
  have e3 : (rows.map rowD).set i.toNat (rowD r) = rows.map rowD := by
    refine List.ext_getElem? fun k => ?_
    rw [List.getElem?_set]
    split
    · rename_i hk; subst hk
      split
      · exact e2.symm
      · rename_i z; simp at z; omega
    · rfl
  simp [e3, linesD]
theorem mem_mvs {r : List Mv} {i : Nat} {d : D} (h : (r.map mvD)[i]? = some d) : ∃ m, r[i]? = some m ∧ d = mvD m := by
  rw [List.getElem?_map] at h
  cases q : r[i]? with
  | none => rw [q] at h; cases h
  | some c => rw [q] at h; cases h; exact ⟨c, rfl, rfl⟩
theorem it_row {r : List Mv} {Q : List D → Prop} : wO (D.items (rowD r)) Q ↔ Q (r.map mvD) := by
  show wO (some (D.fzL (r.map mvD))) Q ↔ _
  rw [fzL_mvs]; exact wO_some
theorem eq_nil_ints {l : List Int} {m : Bool} {Q : D → List D → Prop} (q : ∀ b os, Q (.bl b) [.nd m .lst (l.map .int), os]) : wF fEq [.nd m .lst (l.map .int), .nd true .lst []] Q := by
  refine wF_eqD.mpr ⟨.list (l.map .int), .list [], ?_, rfl, ?_, ?_⟩
  · show (D.pyL _).map PyData.list = _
    rw [py_ints]; rfl
  · rw [shp_ints]; rfl
  · exact q _ _
theorem ne_ints {i j : Int} {Q : D → List D → Prop} : wF fNe [.int i, .int j] Q ↔ Q (.bl (!(i == j))) [.int i, .int j] := wF_some rfl rfl
theorem world {C : Cs} {d : D} {b : Nat} {tot : Bool} (hd : DeckOk (b + 1000) d) : wF (fm__law_world C) [d, .int 5, .bl tot] fun r os => ∃ w d', r = wD false w ∧ WOk w ∧ (tot = true → Tot w) ∧ os = [d', .any, .any] ∧ DeckOk b d' := by
  refine wF_fn rfl ?_
  unfold m__law_world
  ac_nf
  refine onceR (b := b + 800) hd fun w d1 hw ht hd1 => ?_
  ac_nf
  refine drawR (b := b + 799) hd1 (by decide) (by decide) fun v d2 v0 v1 hd2 => ?_
  ac_nf
  refine range_if.mpr ⟨by omega, ?_⟩
  have rl : (rangeD 0 v.toNat).length = v.toNat := range_len _ _
  ac_nf
  refine wL (fun k e => ∃ (w : Wd) (d' : D) (m : Bool) (x4 x5 x6 x7 : Option D), e = [some d', some (.int 5), some (.bl tot), some (wD m w), x4, x5, x6, x7] ∧ k ≤ 3 ∧ WOk w ∧ (tot = true → Tot w) ∧ DeckOk (b + 200 * (3 - k)) d') ⟨w, d2, true, _, _, _, _, rfl, by omega, hw, ht, hd2.le (by omega)⟩ ?_ ?_
  · rintro k x e hx ⟨w, d', m, x4, x5, x6, x7, rfl, hk, hw, ht, hd'⟩
    have hlt : k < v.toNat := by rw [← rl]; exact lt_of hx
    ac_nf
    rw [fz_w]
    refine get_lines.mpr ?_
    ac_nf
    obtain ⟨r, hr⟩ : ∃ r, w.rows[0]? = some r := ⟨w.rows[0]'hw.l0, List.getElem?_eq_getElem hw.l0⟩
    refine (ix_row (by decide) hr).mpr ?_
    ac_nf
    refine it_row.mpr ?_
    refine wC (fun i ys e => ∃ l : List Int, ys = l.map .int ∧ l.length ≤ i ∧ e = [some d', some (.int 5), some (.bl tot), some (wD false w), some x, none, none, none]) ⟨[], rfl, Nat.le_refl _, rfl⟩ ?_ ?_
    · rintro i y ys e hy ⟨l, rfl, hl, rfl⟩
      obtain ⟨mv, hmv, rfl⟩ := mem_mvs hy
      unfold mvD
      ac_nf
      refine ne_ints.mpr ?_
      ac_nf
      split
      · ac_nf
        exact ⟨l ++ [1], by simp, by simp; omega, by trivial⟩
      · ac_nf
        exact ⟨l, rfl, by omega, by trivial⟩
    · rintro ys e ⟨l, rfl, hl, rfl⟩
      have hrl := (hw.rows r (List.mem_of_getElem? hr)).len
      have hhl := hw.hs.len
      refine ⟨by simp [sizeLine]; simp at hl; omega, ?_⟩
      ac_nf
      refine eq_nil_ints fun q os => ?_
      ac_nf
      split
      · ac_nf
        refine onceR (b := b + 200 * (3 - (k + 1))) (hd'.le (by omega)) fun w2 d3 hw2 ht2 hd3 => ?_
        ac_nf
        exact ⟨w2, d3, true, _, _, _, _, rfl, by omega, hw2, ht2, hd3⟩
      · ac_nf
        exact ⟨w, d', false, _, _, _, _, rfl, by omega, hw, ht, hd'.le (by omega)⟩
  · rintro e ⟨w, d', m, x4, x5, x6, x7, rfl, hk, hw, ht, hd'⟩
    ac_nf
    rw [fz_w]
    exact ⟨w, d', rfl, hw, ht, rfl, hd'.le (by omega)⟩
end K02

namespace K02
open PySem L2 VH
theorem isi_str {z : Str} {Q : D → List D → Prop} : wF fIsi [.str z, .hole (.ty "str")] Q ↔ Q (.bl true) [.str z, .any] := wF_some rfl rfl
theorem isi_int {i : Int} {Q : D → List D → Prop} : wF fIsi [.int i, .hole (.ty "int")] Q ↔ Q (.bl true) [.int i, .any] := wF_some rfl rfl
theorem isi_bool {i : Int} {Q : D → List D → Prop} : wF fIsi [.int i, .hole (.ty "bool")] Q ↔ Q (.bl false) [.int i, .any] := wF_some rfl rfl
theorem isi_tup {m : Bool} {xs : List D} {Q : D → List D → Prop} : wF fIsi [.nd m .tup xs, .hole (.ty "tuple")] Q ↔ Q (.bl true) [.nd m .tup xs, .any] := wF_some rfl rfl
/-- a def that answers v, and changes nothing -/
def Ans (fm : List D → Option (D × List D)) (ds : List D) (v : D) : Prop := ∃ os, fm ds = some (v, os) ∧ os.length = ds.length
theorem Ans.wF {fm : List D → Option (D × List D)} {ds : List D} {v : D} {Q : D → List D → Prop} (h : Ans fm ds v) (q : ∀ os, os.length = ds.length → Q v os) : wF fm ds Q := by
  obtain ⟨os, h1, h2⟩ := h
  exact ⟨v, os, h1, h2, q os h2⟩
theorem ans_of {fm : List D → Option (D × List D)} {ds : List D} {v : D} (h : VH.wF fm ds fun r os => r = v) : Ans fm ds v := by
  obtain ⟨d, os, h1, h2, rfl⟩ := h
  exact ⟨os, h1, h2⟩
theorem isint {C : Cs} {i : Int} : Ans (fm_is_integer C) [.int i] (.bl true) := by
  refine ans_of (wF_fn rfl ?_)
  unfold m_is_integer
  ac_nf
  refine isi_int.mpr ?_
  ac_nf
  refine isi_bool.mpr ?_
  ac_nf
theorem strOk_of {l : List Nat} (h : ∀ c ∈ l, c ≤ 122) : PyData.strOk (tx l) = true := by
  simp [PyData.strOk, tx]
  intro c hc
  have := h c hc
  omega
theorem eq_strs {a b : Str} {Q : D → List D → Prop} (ha : PyData.strOk a = true) (hb : PyData.strOk b = true) : wF fEq [.str a, .str b] Q ↔ Q (.bl (a == b)) [.str a, .str b] := by
  refine wF_some ?_ rfl
  have h : ∀ z : Str, PyData.strOk z = true → SeqAt.shaped (.str z) = true := fun z hz => by
    simp only [SeqAt.shaped, PyData.canLay0, hz, PyData.depth, Bool.true_and]
    rfl
  show (if (SeqAt.shaped (.str a) && SeqAt.shaped (.str b)) = true then _ else _) = _
  rw [h a ha, h b hb]
  rfl
theorem all_true {m : Bool} {k : Nat} {Q : D → List D → Prop} : wF fAll [.nd m .lst (List.replicate k (.bl true))] Q ↔ Q (.bl true) [.nd m .lst (List.replicate k (.bl true))] := by
  refine wF_some ?_ rfl
  have h : acB.all ((List.replicate k true).map acB.d) = some (List.replicate k true) := AC.all_map acB _
  have e : (List.replicate k true).map acB.d = List.replicate k (.bl true) := by rw [List.map_replicate]; rfl
  rw [e] at h
  simp only [fAll, h]
  have : (List.replicate k true).all id = true := by simp
  rw [this]
theorem cut_last {α : Type} (l : List α) : cutL l none (some (-1)) = l.dropLast := by
  simp only [cutL, HT.sIx]
  rw [if_pos (by decide), List.drop_zero, List.dropLast_eq_take]
  congr 1
  omega
theorem cut_first {α : Type} (l : List α) : cutL l (some 1) none = l.drop 1 := by
  simp only [cutL, HT.sIx]
  rw [if_neg (by decide)]
  cases l with
  | nil => rfl
  | cons a r =>
    have : min (1 : Int).toNat (a :: r).length = 1 := by simp
    rw [this]
    simp
theorem cutS_tx (l : List Nat) (lo hi : Option Int) : cutS (tx l) lo hi = tx (cutL l lo hi) := rfl
theorem zip_adj {α : Type} {f : α → D} : ∀ {xs : List α} {i : Nat} {d : D}, (zipD (xs.dropLast.map f) ((xs.drop 1).map f))[i]? = some d → ∃ a b, xs[i]? = some a ∧ xs[i + 1]? = some b ∧ d = .nd false .tup [f a, f b] := by
  intro xs i d h
  obtain ⟨x, y, h1, h2, rfl⟩ := zipD_at h
  rw [List.getElem?_map] at h1 h2
  cases e1 : xs.dropLast[i]? with
  | none => rw [e1] at h1; cases h1
  | some a =>
    cases e2 : (xs.drop 1)[i]? with
    | none => rw [e2] at h2; cases h2
    | some b =>
      rw [e1] at h1; rw [e2] at h2
      cases h1; cases h2
      refine ⟨a, b, ?_, ?_, rfl⟩
      · rw [List.getElem?_dropLast] at e1
        split at e1
        · exact e1
        · cases e1
      · rw [List.getElem?_drop] at e2
        rw [Nat.add_comm]; exact e2
theorem zip_if {a b : D} {Q : List D → Prop} {xs ys : List D} (h1 : a.items = some xs) (h2 : b.items = some ys) : wO (gZip [a, b]) Q ↔ Q (zipD xs ys) := by
  simp only [gZip, h1, h2]; exact wO_some
theorem items_tx (l : List Nat) : D.items (.str (tx l)) = some ((l.map one).map .str) := congrArg some (signs_tx l)
theorem in_abc {c : Nat} {Q : D → List D → Prop} (h1 : 97 ≤ c) (h2 : c ≤ 122) : wF (fInS false) [.str (one c), .str "abcdefghijklmnopqrstuvwxyz"] Q ↔ Q (.bl true) [.any, .any] := by
  refine wF_some ?_ rfl
  have : decide (c ∈ ("abcdefghijklmnopqrstuvwxyz" : Str).cps.toList) = true := by
    have : ∀ k : Fin 26, (97 + k.val) ∈ ("abcdefghijklmnopqrstuvwxyz" : Str).cps.toList := by decide
    have h := this ⟨c - 97, by omega⟩
    have e : 97 + (c - 97) = c := by omega
    simp only [e] at h
    exact decide_eq_true h
  show some (D.bl (if false = true then _ else decide (c ∈ _)), [D.any, D.any]) = _
  rw [this]; rfl
theorem neg_I {i : Int} {Q : D → List D → Prop} : wF fNeg [.int i] Q ↔ Q (.int (-i)) [.any] := wF_some rfl rfl
theorem letters {C : Cs} {s : List Nat} (h : Alpha s) : Ans (fm_are_letters C) [.str (tx s)] (.bl true) := by
  have hz : (tx s).length ≤ sizeLine := by have := h.len; show s.length ≤ 16777216; omega
  refine ans_of (wF_fn rfl ?_)
  unfold m_are_letters
  ac_nf
  refine isi_str.mpr ?_
  ac_nf
  refine (eq_strs (strOk_of fun c hc => (h.abc c hc).2) (strOk_of (l := []) (by simp))).mpr ?_
  have hne : (tx s == tx []) = false := beq_eq_false_iff_ne.mpr fun z => h.ne (tx_inj z)
  rw [hne]
  ac_nf
  refine it_tx.mpr ?_
  ac_nf
  refine wC (fun i ys e => ys = List.replicate i (.bl true) ∧ e = [some (.str (tx s)), none, none, none]) ⟨rfl, rfl⟩ ?_ ?_
  · rintro i y ys e hy ⟨rfl, rfl⟩
    obtain ⟨c, hc, rfl⟩ := mem_ones hy
    have := h.abc c (List.mem_of_getElem? hc)
    ac_nf
    refine (in_abc this.1 this.2).mpr ?_
    ac_nf
    exact ⟨List.replicate_succ'.symm, by trivial⟩
  · rintro ys e ⟨rfl, rfl⟩
    refine ⟨by simp [sizeLine]; have := h.len; omega, ?_⟩
    ac_nf
    refine all_true.mpr ?_
    ac_nf
    refine neg_I.mpr ?_
    ac_nf
    show wO (gCut none (some (-1)) (.str (tx s))) _
    have c1 : gCut none (some (-1)) (.str (tx s)) = some (.str (tx s.dropLast)) := by
      show (if (tx s).length ≤ sizeLine then some (D.str (cutS (tx s) none (some (-1)))) else none) = _
      rw [if_pos hz, cutS_tx, cut_last]
    have c2 : gCut (some 1) none (.str (tx s)) = some (.str (tx (s.drop 1))) := by
      show (if (tx s).length ≤ sizeLine then some (D.str (cutS (tx s) (some 1) none)) else none) = _
      rw [if_pos hz, cutS_tx, cut_first]
    rw [c1]
    ac_nf
    rw [c2]
    ac_nf
    refine (zip_if (items_tx _) (items_tx _)).mpr ?_
    ac_nf
    refine wC (fun i ys e => ys = List.replicate i (.bl true) ∧ ∃ x1, e = [some (.str (tx s)), x1, none, none]) ⟨rfl, _, rfl⟩ ?_ ?_
    · rintro i y ys e hy ⟨rfl, x1, rfl⟩
      rw [List.map_map, List.map_map] at hy
      obtain ⟨a, b, ha, hb, rfl⟩ := zip_adj (f := fun c => D.str (one c)) hy
      have hab : a < b := by
        have h1 := lt_of hb
        rw [List.getElem?_eq_getElem (by omega)] at ha hb
        cases ha; cases hb
        exact List.pairwise_iff_getElem.mp h.asc _ _ _ _ (by omega)
      ac_nf
      have e1 : strLt (one a) (one b) = true := (lt_one (a := a) (b := b)).trans (decide_eq_true hab)
      refine wF_ltS.mpr ?_
      rw [e1]
      ac_nf
      exact ⟨List.replicate_succ'.symm, _, rfl⟩
    · rintro ys e ⟨rfl, x1, rfl⟩
      refine ⟨?_, ?_⟩
      · have := h.len
        have hz : ∀ xs ys : List D, (zipD xs ys).length ≤ xs.length := by
          intro xs
          induction xs with
          | nil => intro ys; simp [zipD]
          | cons x r ih =>
            intro ys
            cases ys with
            | nil => simp [zipD]
            | cons y ys => simp only [zipD, List.length_cons]; have := ih ys; omega
        have h1 := hz ((s.dropLast.map one).map .str) (((s.drop 1).map one).map .str)
        simp only [List.length_map, List.length_dropLast] at h1
        simp only [List.length_replicate, sizeLine]
        omega
      ac_nf
      refine all_true.mpr ?_
      ac_nf
end K02

namespace K02
open PySem L2 VH
theorem eqI {i j : Int} {Q : D → List D → Prop} : wF fEq [.int i, .int j] Q ↔ Q (.bl (i == j)) [.int i, .int j] := wF_some rfl rfl
theorem in_tx {c : Nat} {l : List Nat} {Q : D → List D → Prop} (h : c ∈ l) : wF (fInS false) [.str (one c), .str (tx l)] Q ↔ Q (.bl true) [.any, .any] := by
  refine wF_some ?_ rfl
  have : decide (c ∈ (tx l).cps.toList) = true := decide_eq_true h
  show some (D.bl (if false = true then _ else decide (c ∈ (tx l).cps.toList)), [D.any, D.any]) = _
  rw [this]; rfl
theorem isletter {C : Cs} {c : Nat} {l : List Nat} (h : c ∈ l) : Ans (fm_is_letter_of C) [.str (tx l), .str (one c)] (.bl true) := by
  refine ans_of (wF_fn rfl ?_)
  unfold m_is_letter_of
  ac_nf
  refine isi_str.mpr ?_
  ac_nf
  refine wF_lenS.mpr ⟨by show 1 ≤ 16777216; omega, ?_⟩
  ac_nf
  refine eqI.mpr ?_
  have e : (((one c).length : Int) == 1) = true := rfl
  rw [e]
  ac_nf
  refine (in_tx h).mpr ?_
  ac_nf
theorem ix3 {a b c : D} {m : Bool} {Q : D → List D → Prop} : wF fIx [.nd m .tup [a, b, c], .int 0] Q ↔ Q a.fz [.nd m .tup [a.fz, b, c], .int 0] := wF_some rfl rfl
theorem ix3b {a b c : D} {m : Bool} {Q : D → List D → Prop} : wF fIx [.nd m .tup [a, b, c], .int 1] Q ↔ Q b.fz [.nd m .tup [a, b.fz, c], .int 1] := wF_some rfl rfl
theorem ix3c {a b c : D} {m : Bool} {Q : D → List D → Prop} : wF fIx [.nd m .tup [a, b, c], .int 2] Q ↔ Q c.fz [.nd m .tup [a, b, c.fz], .int 2] := wF_some rfl rfl
theorem neI {i j : Int} {Q : D → List D → Prop} : wF fNe [.int i, .int j] Q ↔ Q (.bl (!(i == j))) [.int i, .int j] := wF_some rfl rfl
theorem wE_chain {p q : Int → Int → Bool} {ma mb mc : EM D} {env : VH.Env} {Q : D → VH.Env → Prop} : wE (mChain p q ma mb mc) env Q ↔ wE ma env fun a e => ∃ i, a = .int i ∧ wE mb e fun b e => ∃ j, b = .int j ∧ if p i j = true then wE mc e fun c e => ∃ l, c = .int l ∧ Q (.bl (q j l)) e else Q (.bl false) e := by
  constructor
  · rintro ⟨d, e, h, z⟩
    unfold mChain at h
    split at h
    · rename_i i e1 h1
      split at h
      · rename_i j e2 h2
        split at h
        · rename_i hp
          split at h
          · rename_i l e3 h3; cases h
            exact ⟨_, _, h1, i, rfl, _, _, h2, j, rfl, by rw [if_pos hp]; exact ⟨_, _, h3, l, rfl, z⟩⟩
          · cases h
        · rename_i hp; cases h
          exact ⟨_, _, h1, i, rfl, _, _, h2, j, rfl, by rw [if_neg hp]; exact z⟩
      · cases h
    · cases h
  · rintro ⟨a, e1, h1, i, rfl, b, e2, h2, j, rfl, z⟩
    by_cases hp : p i j = true
    · rw [if_pos hp] at z
      obtain ⟨c, e3, h3, l, rfl, z⟩ := z
      exact ⟨.bl (q j l), e3, by simp only [mChain, h1, h2, h3, hp, if_true], z⟩
    · rw [if_neg hp] at z
      refine ⟨_, e2, ?_, z⟩
      simp only [mChain, h1, h2]
      exact if_neg hp
theorem ismove {C : Cs} {hs cs : List Nat} {n : Nat} {mv : Mv} (h1 : mv.1 ∈ hs) (h2 : mv.2.1 ∈ cs) (h3 : mv.2.2 < n) : Ans (fm_is_move C) [.str (tx hs), .str (tx cs), .int n, mvD mv] (.bl true) := by
  refine ans_of (wF_fn rfl ?_)
  unfold m_is_move mvD
  ac_nf
  refine isi_tup.mpr ?_
  ac_nf
  refine neI.mpr ?_
  ac_nf
  rw [show (((3 : Nat) : Int) == 3) = true from rfl]
  ac_nf
  refine ix3.mpr ?_
  ac_nf
  refine (isletter h1).wF fun os hos => ?_
  match os, hos with
  | [o1, o2], _ =>
  ac_nf
  refine ix3b.mpr ?_
  ac_nf
  refine (isletter h2).wF fun os hos => ?_
  match os, hos with
  | [o3, o4], _ =>
  ac_nf
  refine ix3c.mpr ?_
  ac_nf
  refine isint.wF fun os hos => ?_
  match os, hos with
  | [o5], _ =>
  ac_nf
  refine wE_chain.mpr ?_
  ac_nf
  refine ix3c.mpr ?_
  ac_nf
  rw [show decide ((0 : Int) ≤ (mv.2.2 : Int)) = true from decide_eq_true (by omega)]
  ac_nf
  exact congrArg D.bl (decide_eq_true (by omega))
end K02

namespace K02
open PySem L2 VH
theorem lt_pair {a c b d : Nat} (h : a < c ∨ (a = c ∧ b < d)) : PySem.W.dataLt (.tuple [.str (one a), .str (one b)]) (.tuple [.str (one c), .str (one d)]) = true := by
  unfold PySem.W.dataLt
  simp only [PySem.W.keyToks, PySem.W.keyToksAll, List.cons_append, List.nil_append, one, tx_list]
  rw [PyProof.Rows.lex_self]
  rcases h with h | ⟨rfl, h⟩
  · refine PyProof.Rows.lex_true.mpr (.inl ?_)
    exact decide_eq_true (List.cons_lt_cons_iff.mpr (.inl h))
  · rw [PyProof.Rows.lex_self, PyProof.Rows.lex_self]
    refine PyProof.Rows.lex_true.mpr (.inl ?_)
    exact decide_eq_true (List.cons_lt_cons_iff.mpr (.inl h))
theorem zip_len : ∀ xs ys : List D, (zipD xs ys).length ≤ xs.length := by
  intro xs
  induction xs with
  | nil => intro ys; simp [zipD]
  | cons x r ih =>
    intro ys
    cases ys with
    | nil => simp [zipD]
    | cons y ys => simp only [zipD, List.length_cons]; have := ih ys; omega
theorem cut2 {a b c : D} {m : Bool} {Q : D → Prop} : wO (gCut none (some 2) (.nd m .tup [a, b, c])) Q ↔ Q (.nd false .tup [a.fz, b.fz]) := wO_some
theorem ltD {p q : PyData} {x y : D} {Q : D → List D → Prop} (hx : x.py = some p) (hy : y.py = some q) (h1 : PySem.W.alike p q = true) (h2 : pyN p = false) (h3 : min p.depth q.depth ≤ 32) : wF fLtD [x, y] Q ↔ Q (.bl (PySem.W.dataLt p q)) [x, y] := by
  refine wF_some ?_ rfl
  simp only [fLtD, hx, hy, h1, h2, h3, and_self, if_true]
theorem isrow {C : Cs} {hs cs : List Nat} {n : Nat} {r : List Mv} (h : RowOk hs cs n r) (hl : hs.length ≤ 3) : Ans (fm_is_row C) [.str (tx hs), .str (tx cs), .int n, rowD r] (.bl true) := by
  have hrl := h.len
  refine ans_of (wF_fn rfl ?_)
  unfold m_is_row rowD
  ac_nf
  refine isi_tup.mpr ?_
  ac_nf
  simp only [fzL_mvs]
  refine wC (fun i ys e => ys = List.replicate i (.bl true) ∧ e = [some (.str (tx hs)), some (.str (tx cs)), some (.int n), some (.nd false .tup (r.map mvD)), none, none, none]) ⟨rfl, rfl⟩ ?_ ?_
  · rintro i y ys e hy ⟨rfl, rfl⟩
    obtain ⟨mv, hmv, rfl⟩ := mem_mvs hy
    obtain ⟨m1, m2, m3⟩ := h.mem mv (List.mem_of_getElem? hmv)
    ac_nf
    refine (ismove m1 m2 m3).wF fun os hos => ?_
    match os, hos with
    | [o1, o2, o3, o4], _ =>
    ac_nf
    exact ⟨List.replicate_succ'.symm, by trivial⟩
  · rintro ys e ⟨rfl, rfl⟩
    refine ⟨by simp [sizeLine]; omega, ?_⟩
    ac_nf
    refine all_true.mpr ?_
    ac_nf
    simp only [fzL_mvs]
    refine neg_I.mpr ?_
    ac_nf
    have c1 : gCut none (some (-1)) (.nd false .tup (r.map mvD)) = some (.tup (r.dropLast.map mvD)) := by
      show some (D.tup (cutL (D.fzL (r.map mvD)) none (some (-1)))) = _
      rw [fzL_mvs, cut_map, cut_last]
    have c2 : gCut (some 1) none (.nd false .tup (r.map mvD)) = some (.tup ((r.drop 1).map mvD)) := by
      show some (D.tup (cutL (D.fzL (r.map mvD)) (some 1) none)) = _
      rw [fzL_mvs, cut_map, cut_first]
    show wO (gCut none (some (-1)) (.nd false .tup (r.map mvD))) _
    rw [c1]
    ac_nf
    simp only [fzL_mvs]
    rw [c2]
    ac_nf
    have it : ∀ l : List Mv, D.items (.tup (l.map mvD)) = some (l.map mvD) := fun l => by
      show some (D.fzL (l.map mvD)) = _
      rw [fzL_mvs]
    refine (zip_if (it _) (it _)).mpr ?_
    ac_nf
    refine wC (fun i ys e => ys = List.replicate i (.bl true) ∧ e = [some (.str (tx hs)), some (.str (tx cs)), some (.int n), some (.nd false .tup (r.map mvD)), none, none, none]) ⟨rfl, rfl⟩ ?_ ?_
    · rintro i y ys e hy ⟨rfl, rfl⟩
      obtain ⟨a, b, ha, hb, rfl⟩ := zip_adj (f := mvD) hy
      have hab : ltM a b := by
        have h1 := lt_of hb
        rw [List.getElem?_eq_getElem (by omega)] at ha hb
        cases ha; cases hb
        exact List.pairwise_iff_getElem.mp h.asc _ _ _ _ (by omega)
      unfold mvD
      ac_nf
      refine cut2.mpr ?_
      ac_nf
      refine cut2.mpr ?_
      ac_nf
      refine (ltD (p := .tuple [.str (one a.1), .str (one a.2.1)]) (q := .tuple [.str (one b.1), .str (one b.2.1)]) rfl rfl rfl rfl (by simp only [PyData.depth, PyData.depthAll]; omega)).mpr ?_
      rw [lt_pair hab]
      ac_nf
      exact ⟨List.replicate_succ'.symm, by trivial⟩
    · rintro ys e ⟨rfl, rfl⟩
      refine ⟨?_, ?_⟩
      · have h1 := zip_len (r.dropLast.map mvD) ((r.drop 1).map mvD)
        simp only [List.length_map, List.length_dropLast] at h1
        simp only [List.length_replicate, sizeLine]
        omega
      ac_nf
      refine all_true.mpr ?_
      ac_nf
end K02

namespace K02
open PySem L2 VH
theorem putA_new {κ β : Type} [DecidableEq κ] {kvs : List (κ × β)} {k : κ} {v : β} (h : ∀ p ∈ kvs, p.1 ≠ k) : putA kvs k v = kvs ++ [(k, v)] := by
  unfold putA
  rw [if_neg]
  intro z
  obtain ⟨p, hp, e⟩ := List.any_eq_true.mp z
  exact h p hp (by simpa using e)
theorem mergeP_new {κ β : Type} [DecidableEq κ] : ∀ {more kvs : List (κ × β)}, ((kvs ++ more).map (·.1)).Nodup → mergeP kvs more = kvs ++ more
  | [], kvs, _ => by simp [mergeP]
  | p :: more, kvs, nd => by
    show mergeP (putA kvs p.1 p.2) more = _
    have h : ∀ q ∈ kvs, q.1 ≠ p.1 := by
      intro q hq e
      rw [List.map_append, List.map_cons] at nd
      exact (List.nodup_append.mp nd).2.2 q.1 (List.mem_map.mpr ⟨q, hq, rfl⟩) p.1 (by simp) e
    rw [putA_new h, mergeP_new (by simpa using nd)]
    simp
def kM (m : Mv) : List Key := [.inr (one m.1), .inr (one m.2.1)]
theorem kM_inj {a b : Mv} (h : kM a = kM b) : a.1 = b.1 ∧ a.2.1 = b.2.1 := by
  unfold kM at h
  have h1 := (List.cons.inj h).1
  have h2 := (List.cons.inj (List.cons.inj h).2).1
  exact ⟨one_inj (Sum.inr.inj h1), one_inj (Sum.inr.inj h2)⟩
/-- the steps of a row -/
def stD (m : Bool) (r : List Mv) : D := .nd m (.dT (r.map kM)) (r.map fun z => .int z.2.2)
theorem kM_nodup {r : List Mv} (h : r.Pairwise ltM) : (r.map kM).Nodup := by
  rw [List.Nodup, List.pairwise_map]
  refine h.imp fun {a b} z e => ?_
  obtain ⟨e1, e2⟩ := kM_inj e
  rcases z with z | ⟨_, z⟩ <;> omega
theorem fz_st (m : Bool) (r : List Mv) : (stD m r).fz = stD false r := by
  show D.nd false _ (D.fzL (r.map fun z => .int z.2.2)) = _
  rw [D.fzL_map, List.map_map]; rfl
theorem dict_pairs {r : List Mv} : pairsT (r.map fun m => D.nd false .tup [.nd false .tup [.str (one m.1), .str (one m.2.1)], .int m.2.2]) = some (r.map fun m => (kM m, D.int m.2.2)) := by
  induction r with
  | nil => rfl
  | cons m r ih =>
    rw [List.map_cons]
    simp only [pairsT, keysD, D.key, ih]
    rfl
theorem steps {C : Cs} {r : List Mv} (hr : r.length ≤ 1000) (hp : r.Pairwise ltM) : Ans (fm_steps_of C) [rowD r] (stD true r) := by
  refine ans_of (wF_fn rfl ?_)
  unfold m_steps_of rowD
  ac_nf
  simp only [fzL_mvs]
  refine wC (fun i ys e => ys = (r.take i).map (fun m => D.nd false .tup [.nd false .tup [.str (one m.1), .str (one m.2.1)], .int m.2.2]) ∧ e = [some (.nd false .tup (r.map mvD)), none, none, none]) ⟨rfl, rfl⟩ ?_ ?_
  · rintro i y ys e hy ⟨rfl, rfl⟩
    obtain ⟨mv, hmv, rfl⟩ := mem_mvs hy
    have tk : r.take (i + 1) = r.take i ++ [mv] := by rw [List.take_succ, hmv]; rfl
    unfold mvD
    ac_nf
    exact ⟨by rw [tk]; simp, by trivial⟩
  · rintro ys e ⟨rfl, rfl⟩
    refine ⟨by simp [sizeLine]; omega, ?_⟩
    ac_nf
    rw [List.length_map, List.take_length]
    have e1 : mkDict Hd.dT (r.map fun m => (kM m, D.int m.2.2)) = stD true r := by
      have e2 : mergeP [] (r.map fun m => (kM m, D.int m.2.2)) = r.map fun m => (kM m, D.int m.2.2) := by
        rw [mergeP_new (by rw [List.nil_append, List.map_map]; exact kM_nodup hp)]; rfl
      unfold mkDict stD
      rw [e2, List.map_map, List.map_map]; rfl
    have e3 : fDict [.nd true .lst (r.map fun m => D.nd false .tup [.nd false .tup [.str (one m.1), .str (one m.2.1)], .int m.2.2])] = some (stD true r, [.any]) := by simp only [fDict, dict_pairs, e1]
    refine (wF_some e3 rfl).mpr ?_
    ac_nf
/-- an instance of the rules -/
abbrev nsR : List Str := ["heard", "written", "rows", "steps"]
def stsD (m : Bool) (w : Wd) : D := .nd m .lst (w.rows.map (stD m))
theorem fz_sts (m : Bool) (w : Wd) : (stsD m w).fz = stsD false w := by
  show D.nd false .lst (D.fzL (w.rows.map (stD m))) = _
  rw [D.fzL_map, List.map_map]
  unfold stsD
  congr 1
  exact List.map_congr_left fun r _ => fz_st m r
def instD (C : Cs) (m : Bool) (w : Wd) : D := .nd m (.ins C.Rules nsR) [.str (tx w.hs), .str (tx w.cs), linesD w.rows, stsD false w]
theorem fz_inst {C : Cs} {m : Bool} {w : Wd} : (instD C m w).fz = instD C false w := by
  show D.nd false _ (D.fzL [_, _, linesD w.rows, stsD false w]) = _
  simp only [D.fzL, fz_lines, fz_sts]; rfl
theorem items_lines (rows : List (List Mv)) : D.items (linesD rows) = some (rows.map rowD) := by
  show some (D.fzL (rows.map rowD)) = _
  rw [fzL_rows]
theorem mem_rows {rows : List (List Mv)} {i : Nat} {d : D} (h : (rows.map rowD)[i]? = some d) : ∃ r, rows[i]? = some r ∧ d = rowD r := by
  rw [List.getElem?_map] at h
  cases q : rows[i]? with
  | none => rw [q] at h; cases h
  | some c => rw [q] at h; cases h; exact ⟨c, rfl, rfl⟩
theorem enum_if {rows : List (List Mv)} {Q : List D → Prop} : wO (gEnum [.nd false .tup (rows.map rowD)]) Q ↔ Q (enumD 0 0 (rows.map rowD)) := by
  have h : D.items (.nd false .tup (rows.map rowD)) = some (rows.map rowD) := items_lines rows
  simp only [gEnum, h]; exact wO_some
theorem put_new {C : Addr} {f : Str} {v : D} {ns : List Str} {xs : List D} {Q : D → List D → Prop} (h1 : kix ns f = none) (h2 : ns.length < 1000) : wF (fFPut C f) [v, .nd true (.ins C ns) xs] Q ↔ Q .non [.any, .nd true (.ins C (ns ++ [f])) (xs ++ [v.fz])] := by
  refine wF_some ?_ rfl
  simp only [fFPut, h1, h2, and_self, if_true]
theorem init {C : Cs} {w : Wd} (hw : WOk w) : wF (fm_Rules___init__ C) [.nd true (.ins C.Rules []) [], .str (tx w.hs), .str (tx w.cs), linesD w.rows] fun r os => r = .non ∧ os = [instD C true w, .any, .any, .any] := by
  have l5 := hw.l5
  have l0 := hw.l0
  refine wF_fn rfl ?_
  unfold m_Rules___init__
  ac_nf
  refine (letters hw.hs).wF fun os hos => ?_
  match os, hos with
  | [o1], _ =>
  ac_nf
  refine (letters hw.cs).wF fun os hos => ?_
  match os, hos with
  | [o2], _ =>
  unfold linesD
  ac_nf
  refine isi_tup.mpr ?_
  ac_nf
  refine wE_chain.mpr ?_
  ac_nf
  simp only [fzL_rows, List.length_map]
  rw [show decide ((1 : Int) ≤ (w.rows.length : Int)) = true from decide_eq_true (by omega)]
  ac_nf
  rw [show decide ((w.rows.length : Int) ≤ 999) = true from decide_eq_true (by omega)]
  ac_nf
  simp only [fzL_rows]
  refine enum_if.mpr ?_
  refine wL (fun i e => ∃ x y, e = [some (.nd true (.ins C.Rules []) []), some (.str (tx w.hs)), some (.str (tx w.cs)), some (.nd false .tup (w.rows.map rowD)), x, y]) ⟨_, _, rfl⟩ ?_ ?_
  · rintro i d e hd ⟨x, y, rfl⟩
    rw [enumD_at] at hd
    cases q : (w.rows.map rowD)[i]? with
    | none => rw [q] at hd; cases hd
    | some z =>
      rw [q] at hd
      cases hd
      obtain ⟨r, hr, rfl⟩ := mem_rows q
      have ok := hw.rows r (List.mem_of_getElem? hr)
      have rz := fz_row r
      ac_nf
      simp only [fzL_rows, fz_row, List.length_map]
      refine (isrow ok hw.hs.len).wF fun os hos => ?_
      match os, hos with
      | [o1, o2, o3, o4], _ =>
      ac_nf
      exact ⟨_, _, rfl⟩
  · rintro e ⟨x, y, rfl⟩
    ac_nf
    refine (put_new rfl (by decide)).mpr ?_
    ac_nf
    refine (put_new (by decide +kernel) (by decide)).mpr ?_
    ac_nf
    refine (put_new (by decide +kernel) (by decide)).mpr ?_
    ac_nf
    simp only [fzL_rows]
    refine wC (fun i ys e => ys = (w.rows.take i).map (stD true) ∧ e = [some (.nd true (.ins C.Rules ["heard", "written", "rows"]) [.str (tx w.hs), .str (tx w.cs), .nd false .tup (w.rows.map rowD)]), some (.str (tx w.hs)), some (.str (tx w.cs)), some (.nd false .tup (w.rows.map rowD)), x, none]) ⟨rfl, rfl⟩ ?_ ?_
    · rintro i y ys e hy ⟨rfl, rfl⟩
      obtain ⟨r, hr, rfl⟩ := mem_rows hy
      have ok := hw.rows r (List.mem_of_getElem? hr)
      have h3 := hw.hs.len
      have tk : w.rows.take (i + 1) = w.rows.take i ++ [r] := by rw [List.take_succ, hr]; rfl
      ac_nf
      rw [fz_row]
      refine (steps (C := C) (r := r) (by have := ok.len; omega) ok.asc).wF fun os hos => ?_
      match os, hos with
      | [o1], _ =>
      ac_nf
      exact ⟨by rw [tk]; simp, by trivial⟩
    · rintro ys e ⟨rfl, rfl⟩
      refine ⟨by simp [sizeLine]; omega, ?_⟩
      ac_nf
      refine (put_new (by decide +kernel) (by decide)).mpr ?_
      ac_nf
      have e1 : D.nd false .lst (D.fzL (List.map (stD true) (List.take (List.map rowD w.rows).length w.rows))) = stsD false w := by
        rw [List.length_map, List.take_length]
        exact fz_sts true w
      refine ⟨trivial, ?_⟩
      rw [e1]
      rfl
end K02

namespace K02
open PySem L2 VH
theorem makeR {C : Cs} {w : Wd} {Q : D → List D → Prop} (hw : WOk w) (k : Q (instD C true w) [.any, .any, .any]) : wF (fMake C.Rules (fm_Rules___init__ C)) [.str (tx w.hs), .str (tx w.cs), linesD w.rows] Q := by
  obtain ⟨d, os, h1, h2, rfl, rfl⟩ := init (C := C) hw
  exact ⟨instD C true w, [.any, .any, .any], by simp only [fMake, h1], rfl, k⟩
theorem code {C : Cs} {w : Wd} {m : Bool} (hw : WOk w) : Ans (fm__law_code C) [wD m w] (instD C true w) := by
  refine ans_of (wF_fn rfl ?_)
  unfold m__law_code
  ac_nf
  rw [fz_w]
  refine get_hs.mpr ?_
  ac_nf
  rw [fz_w]
  refine get_cs.mpr ?_
  ac_nf
  rw [fz_w]
  refine get_lines.mpr ?_
  ac_nf
  refine makeR hw ?_
  ac_nf
end K02

namespace K02
open PySem L2 VH
/-! numbers as texts -/
def numS (n : Nat) : Str := toString (n : Int)
def nl (n : Nat) : List Nat := (numS n).cps.toList
theorem numS_tx (n : Nat) : numS n = tx (nl n) := tx_of _
def numB (n : Nat) : Bool := let l := nl n
  !l.isEmpty && decide (l.length ≤ 3) && (l.all fun c => decide (48 ≤ c) && decide (c ≤ 57)) && (decide (l.head? ≠ some 48) || decide (l = [48])) && decide (l.foldl (fun a c => a * 10 + (c - 48)) 0 = n)
theorem num_all : ((List.range 1000).all numB) = true := by decide +kernel
structure NumOk (l : List Nat) (n : Nat) : Prop where
  ne : l ≠ []
  len : l.length ≤ 3
  dig : ∀ c ∈ l, 48 ≤ c ∧ c ≤ 57
  zero : l.head? = some 48 → l = [48]
  val : l.foldl (fun a c => a * 10 + (c - 48)) 0 = n
theorem num_ok {n : Nat} (h : n < 1000) : NumOk (nl n) n := by
  have h1 := List.all_eq_true.mp num_all n (List.mem_range.mpr h)
  simp only [numB, Bool.and_eq_true, Bool.or_eq_true, decide_eq_true_eq, List.all_eq_true, Bool.not_eq_true'] at h1
  obtain ⟨⟨⟨⟨a, b⟩, c⟩, d⟩, e⟩ := h1
  refine ⟨fun z => (by rw [z] at a; cases a), b, c, fun z => ?_, e⟩
  rcases d with d | d
  · exact absurd z d
  · exact d
theorem in_digits {c : Nat} {Q : D → List D → Prop} (h1 : 48 ≤ c) (h2 : c ≤ 57) : wF (fInS false) [.str (one c), .str "0123456789"] Q ↔ Q (.bl true) [.any, .any] := by
  refine wF_some ?_ rfl
  have : decide (c ∈ ("0123456789" : Str).cps.toList) = true := by
    have : ∀ k : Fin 10, (48 + k.val) ∈ ("0123456789" : Str).cps.toList := by decide
    have h := this ⟨c - 48, by omega⟩
    have e : 48 + (c - 48) = c := by omega
    simp only [e] at h
    exact decide_eq_true h
  show some (D.bl (if false = true then _ else decide (c ∈ _)), [D.any, D.any]) = _
  rw [this]; rfl
theorem idx_digits {c : Nat} (h1 : 48 ≤ c) (h2 : c ≤ 57) : Txt.index0 "0123456789" (one c) = some (c - 48) := by
  have : ∀ k : Fin 10, Txt.index0 "0123456789" (one (48 + k.val)) = some k.val := by decide +kernel
  have h := this ⟨c - 48, by omega⟩
  have e : 48 + (c - 48) = c := by omega
  simp only [e] at h
  exact h
theorem ne_strs {a b : Str} {Q : D → List D → Prop} (ha : PyData.strOk a = true) (hb : PyData.strOk b = true) : wF fNe [.str a, .str b] Q ↔ Q (.bl (!(a == b))) [.str a, .str b] := by
  refine wF_some ?_ rfl
  have h : ∀ z : Str, PyData.strOk z = true → SeqAt.shaped (.str z) = true := fun z hz => by
    simp only [SeqAt.shaped, PyData.canLay0, hz, PyData.depth, Bool.true_and]
    rfl
  show (if (SeqAt.shaped (.str a) && SeqAt.shaped (.str b)) = true then _ else _) = _
  rw [h a ha, h b hb]
  rfl
theorem beq_tx {a b : List Nat} : (tx a == tx b) = decide (a = b) := by
  by_cases h : a = b
  · subst h; simp
  · rw [decide_eq_false h]; exact beq_eq_false_iff_ne.mpr fun z => h (tx_inj z)
theorem number {C : Cs} {l : List Nat} {n : Nat} (h : NumOk l n) (hn : n < 1000) : Ans (fm_number_in C) [.str (tx l)] (.int n) := by
  have hz : (tx l).length ≤ sizeLine := by have := h.len; show l.length ≤ 16777216; omega
  have ok : PyData.strOk (tx l) = true := strOk_of fun c hc => by have := h.dig c hc; omega
  refine ans_of (wF_fn rfl ?_)
  unfold m_number_in
  ac_nf
  refine (eq_strs ok (strOk_of (l := []) (by simp))).mpr ?_
  rw [beq_tx, decide_eq_false h.ne]
  ac_nf
  refine wF_lenS.mpr ⟨hz, ?_⟩
  ac_nf
  rw [decide_eq_false (show ¬ (((tx l).length : Int) > 3) by have := h.len; show ¬ ((l.length : Int) > 3); omega)]
  ac_nf
  refine it_tx.mpr ?_
  refine wC (fun i ys e => ys = List.replicate i (.bl true) ∧ e = [some (.str (tx l)), none, none]) ⟨rfl, rfl⟩ ?_ ?_
  · rintro i y ys e hy ⟨rfl, rfl⟩
    obtain ⟨c, hc, rfl⟩ := mem_ones hy
    have := h.dig c (List.mem_of_getElem? hc)
    ac_nf
    refine (in_digits this.1 this.2).mpr ?_
    ac_nf
    exact ⟨List.replicate_succ'.symm, by trivial⟩
  · rintro ys e ⟨rfl, rfl⟩
    refine ⟨by simp [sizeLine]; have := h.len; omega, ?_⟩
    ac_nf
    refine all_true.mpr ?_
    ac_nf
    have h0 : 0 < l.length := List.length_pos_iff.mpr h.ne
    have hsz : (0 : Int) < (tx l).cps.size := by
      have : (tx l).cps.size = l.length := by simp [tx]
      omega
    refine (wF_ixS (i := 0) (by decide) hsz hz).mpr ?_
    have e1 : (⟨#[(tx l).cps.toList[(0 : Int).toNat]'(by simpa [tx] using h0)]⟩ : Str) = one l[0] := rfl
    rw [e1]
    ac_nf
    have ok1 : PyData.strOk (one l[0]) = true := strOk_of (l := [l[0]]) fun c hc => by
      have := h.dig _ (List.getElem_mem h0)
      have e : c = l[0] := by simpa using hc
      omega
    refine (eq_strs ok1 (strOk_of (l := [48]) (by simp))).mpr ?_
    have fin : wO (D.items (.str (tx l))) fun xs => wS (forL (gmName 2) (sAsg (mApp fAdd [(.ex (mApp fMulA [(.ex (mVar 1)), (.ex (mC (.int 10)))])), (.ex (mApp fSIndex [(.ex (mC (.str "0123456789"))), (.ex (mVar 2))]))]) (gmName 1)) xs) [some (.str (tx l)), some (.int 0), none] (nxt (sRet (mVar 1)) fun o => match o with
        | .rt d e => d = .int n
        | .nx e => D.non = .int n
        | _ => False) := by
      refine it_tx.mpr ?_
      refine wL (fun i e => ∃ x, e = [some (.str (tx l)), some (.int (((l.take i).foldl (fun a c => a * 10 + (c - 48)) 0 : Nat) : Int)), x] ∧ ((l.take i).foldl (fun a c => a * 10 + (c - 48)) 0) < 1000) ⟨none, rfl, by simp⟩ ?_ ?_
      · rintro i d e hd ⟨x, rfl, hlt⟩
        obtain ⟨c, hc, rfl⟩ := mem_ones hd
        have dg := h.dig c (List.mem_of_getElem? hc)
        have tk : l.take (i + 1) = l.take i ++ [c] := by rw [List.take_succ, hc]; rfl
        have l3 := h.len
        ac_nf
        refine (wF_sindex (idx_digits dg.1 dg.2)).mpr ?_
        ac_nf
        refine ⟨some (.str (one c)), ?_, ?_⟩
        · have e5 : (((l.take (i + 1)).foldl (fun a c => a * 10 + (c - 48)) 0 : Nat) : Int) = (((l.take i).foldl (fun a c => a * 10 + (c - 48)) 0 : Nat) : Int) * 10 + ((c - 48 : Nat) : Int) := by
            rw [tk, List.foldl_append]
            simp only [List.foldl_cons, List.foldl_nil]
            omega
          rw [e5]
        · have mono : ∀ (r : List Nat) (a : Nat), a ≤ r.foldl (fun a c => a * 10 + (c - 48)) a := by
            intro r
            induction r with
            | nil => intro a; exact Nat.le_refl _
            | cons b r ih => intro a; exact Nat.le_trans (show a ≤ a * 10 + (b - 48) by omega) (ih _)
          have e2 : (l.take (i + 1)).foldl (fun a c => a * 10 + (c - 48)) 0 ≤ l.foldl (fun a c => a * 10 + (c - 48)) 0 := by
            conv => rhs; rw [← List.take_append_drop (i + 1) l, List.foldl_append]
            exact mono _ _
          rw [h.val] at e2
          omega
      · rintro e ⟨x, rfl, _⟩
        ac_nf
        simp only [List.length_map, List.take_length, h.val]
    by_cases h48 : l[0] = 48
    · have el : l = [48] := h.zero (by rw [List.head?_eq_getElem?, List.getElem?_eq_getElem h0, h48])
      have e2 : (one l[0] == tx [48]) = true := by rw [h48]; exact beq_self_eq_true _
      rw [show ("0" : Str) = tx [48] from rfl, e2]
      ac_nf
      refine (ne_strs ok (strOk_of (l := [48]) (by simp))).mpr ?_
      rw [beq_tx, decide_eq_true el]
      ac_nf
      all_goals exact fin
    · have e2 : (one l[0] == tx [48]) = false := by
        rw [show one l[0] = tx [l[0]] from rfl, beq_tx]
        exact decide_eq_false fun z => h48 (List.cons.inj z).1
      rw [show ("0" : Str) = tx [48] from rfl, e2]
      ac_nf
      all_goals exact fin
end K02

namespace K02
open PySem L2 VH
theorem tx_app (a b : List Nat) : tx a ++ tx b = tx (a ++ b) := by
  show Str.mk (a.toArray ++ b.toArray) = Str.mk (a ++ b).toArray
  simp
theorem join_tx (a : List Nat) (ps : List (List Nat)) : Txt.join (tx a) (ps.map tx) = tx (TL.joinL a ps) := by
  have h : TL.tl (Txt.join (tx a) (ps.map tx)) = TL.joinL a ps := by
    rw [TL.join_eq, TL.tl_join, List.map_map]
    have : (TL.tl ∘ tx) = id := by funext l; rfl
    rw [this, List.map_id]; rfl
  exact (tx_of _).trans (congrArg tx h)
/-! the text of rules, by signs -/
abbrev moveL : List Nat := [109, 111, 118, 101]
abbrev rulesL : List Nat := [114, 117, 108, 101, 115]
def lineL (s : Nat) (m : Mv) : List Nat := TL.joinL [32] [moveL, nl s, [m.1], [m.2.1], nl m.2.2]
def headL (w : Wd) : List Nat := TL.joinL [32] [rulesL, w.hs, w.cs, nl w.rows.length]
/-- the moves, numbered by their states -/
def nums : Nat → List (List Mv) → List (Nat × Mv)
  | _, [] => []
  | k, r :: rs => r.map (fun m => (k, m)) ++ nums (k + 1) rs
theorem nums_snoc : ∀ (rs : List (List Mv)) (k : Nat) (r : List Mv), nums k (rs ++ [r]) = nums k rs ++ r.map fun m => (k + rs.length, m)
  | [], k, r => by simp [nums]
  | a :: rs, k, r => by
    simp only [List.cons_append, nums, nums_snoc rs (k + 1) r, List.length_cons, List.append_assoc]
    rw [show k + 1 + rs.length = k + (rs.length + 1) by omega]
def bodyL (rows : List (List Mv)) : List (List Nat) := (nums 0 rows).map fun p => lineL p.1 p.2
theorem body_take {rows : List (List Mv)} {i : Nat} {r : List Mv} (h : rows[i]? = some r) : bodyL (rows.take (i + 1)) = bodyL (rows.take i) ++ r.map (lineL i) := by
  have tk : rows.take (i + 1) = rows.take i ++ [r] := by rw [List.take_succ, h]; rfl
  have hl : (rows.take i).length = i := by
    have := lt_of h
    simp; omega
  unfold bodyL
  rw [tk, nums_snoc, List.map_append, List.map_map, hl, Nat.zero_add]
  rfl
def pageL (w : Wd) : List Nat := TL.joinL [10] (headL w :: bodyL w.rows)
theorem nl_len {n : Nat} (h : n < 1000) : (nl n).length ≤ 3 := (num_ok h).len
theorem line_len {s : Nat} {m : Mv} (h1 : s < 1000) (h2 : m.2.2 < 1000) : (lineL s m).length ≤ 20 := by
  have := nl_len h1; have := nl_len h2
  simp only [lineL, TL.joinL, List.length_append, List.length_cons, List.length_nil]
  omega
theorem head_len {w : Wd} (hw : WOk w) : (headL w).length ≤ 20 := by
  have := hw.l5
  have := nl_len (n := w.rows.length) (by omega)
  have := hw.hs.len; have := hw.cs.len
  simp only [headL, TL.joinL, List.length_append, List.length_cons, List.length_nil]
  omega
theorem nums_mem : ∀ {rs : List (List Mv)} {k : Nat} {p : Nat × Mv}, p ∈ nums k rs → k ≤ p.1 ∧ ∃ r, rs[p.1 - k]? = some r ∧ p.2 ∈ r
  | r :: rs, k, p, h => by
    rcases List.mem_append.mp h with h | h
    · obtain ⟨m, hm, rfl⟩ := List.mem_map.mp h
      exact ⟨Nat.le_refl _, r, by simp, hm⟩
    · obtain ⟨a, r', b, c⟩ := nums_mem h
      refine ⟨by omega, r', ?_, c⟩
      rw [show p.1 - k = (p.1 - (k + 1)) + 1 by omega]
      exact b
theorem nums_len {rs : List (List Mv)} (h : ∀ r ∈ rs, r.length ≤ 9) : ∀ k, (nums k rs).length ≤ 9 * rs.length := by
  induction rs with
  | nil => intro k; simp [nums]
  | cons r rs ih =>
    intro k
    have h1 := h r (by simp)
    have h2 := ih (fun x hx => h x (List.mem_cons_of_mem _ hx)) (k + 1)
    simp only [nums, List.length_append, List.length_map, List.length_cons]
    omega
theorem row9 {w : Wd} (hw : WOk w) {r : List Mv} (hr : r ∈ w.rows) : r.length ≤ 9 := by
  have := (hw.rows r hr).len; have := hw.hs.len; omega
theorem nums_ok {w : Wd} (hw : WOk w) {p : Nat × Mv} (h : p ∈ nums 0 w.rows) : p.1 < w.rows.length ∧ p.2.1 ∈ w.hs ∧ p.2.2.1 ∈ w.cs ∧ p.2.2.2 < w.rows.length := by
  obtain ⟨_, r, h1, h2⟩ := nums_mem h
  rw [Nat.sub_zero] at h1
  have := (hw.rows r (List.mem_of_getElem? h1)).mem _ h2
  exact ⟨lt_of h1, this⟩
theorem sum_le {l : List (List Nat)} (h : ∀ u ∈ l, u.length ≤ 20) : ((l.map tx).map (·.length)).sum ≤ 20 * l.length := by
  induction l with
  | nil => simp
  | cons u l ih =>
    have h1 := h u (by simp)
    have h2 := ih fun x hx => h x (List.mem_cons_of_mem _ hx)
    have h3 : (tx u).length = u.length := rfl
    simp only [List.map_cons, List.sum_cons, List.length_cons, h3]
    omega
theorem page_fits {w : Wd} (hw : WOk w) : (((headL w :: bodyL w.rows).map tx).map (·.length)).sum + ((headL w :: bodyL w.rows).map tx).length * 1 ≤ 16777216 := by
  have h1 : ∀ u ∈ headL w :: bodyL w.rows, u.length ≤ 20 := by
    intro u hu
    rcases List.mem_cons.mp hu with rfl | hu
    · exact head_len hw
    · obtain ⟨p, hp, rfl⟩ := List.mem_map.mp hu
      obtain ⟨a, _, _, b⟩ := nums_ok hw hp
      have := hw.l5
      exact line_len (by omega) (by omega)
  have h2 := sum_le h1
  have h3 := nums_len (rs := w.rows) (fun r hr => row9 hw hr) 0
  have h4 := hw.l5
  have h5 : (bodyL w.rows).length ≤ 9 * 999 := by unfold bodyL; rw [List.length_map]; omega
  simp only [List.length_map, List.length_cons] at h2 ⊢
  omega
def strsD (l : List (List Nat)) : List D := l.map fun u => .str (tx u)
theorem strsD_eq (l : List (List Nat)) : strsD l = (l.map tx).map .str := by unfold strsD; rw [List.map_map]; rfl
theorem fzL_strsD (l : List (List Nat)) : D.fzL (strsD l) = strsD l := by rw [strsD_eq, fzL_strs]
theorem join_strsD {l : List (List Nat)} {a : List Nat} {m : Bool} {Q : D → List D → Prop} (h : ((l.map tx).map (·.length)).sum + (l.map tx).length * a.length ≤ 16777216) : wF fJoin [.str (tx a), .nd m .lst (strsD l)] Q ↔ Q (.str (tx (TL.joinL a l))) [.str (tx a), .nd m .lst (strsD l)] := by
  rw [strsD_eq, join_strs (a := tx a) h, join_tx]
theorem log_small {n : Nat} (h : n < 1000) : (n : Int).natAbs.log2 < 1920 := by
  rw [Int.natAbs_natCast]
  by_cases z : n = 0
  · subst z; decide
  · have := (Nat.log2_lt z).mpr (show n < 2 ^ 1920 by
      have : (1000 : Nat) ≤ 2 ^ 1920 := by decide +kernel
      omega)
    exact this
theorem str_num {n : Nat} {Q : D → List D → Prop} (h : n < 1000) : wF fStrP [.int n] Q ↔ Q (.str (tx (nl n))) [.int n] := by
  rw [wF_strI, ← numS_tx]
  exact ⟨fun z => z.2, fun z => ⟨log_small h, z⟩⟩
theorem fmt_num {n : Nat} {Q : D → Prop} (h : n < 1000) : fmtP (.int n) Q ↔ Q (.str (tx (nl n))) := by
  rw [fmt_int, ← numS_tx]
  exact ⟨fun z => z.2, fun z => ⟨log_small h, z⟩⟩
theorem tx_fit {l : List Nat} (h : l.length ≤ 1000) : (tx l).length ≤ sizeLine := by show l.length ≤ 16777216; omega
theorem head_eq (w : Wd) : rulesL ++ ([32] ++ (w.hs ++ ([32] ++ (w.cs ++ ([32] ++ nl w.rows.length))))) = headL w := rfl
theorem line_eq (s : Nat) (m : Mv) : moveL ++ ([32] ++ (nl s ++ ([32] ++ ([m.1] ++ ([32] ++ ([m.2.1] ++ ([32] ++ nl m.2.2))))))) = lineL s m := rfl
theorem text_of {C : Cs} {w : Wd} (hw : WOk w) : Ans (fm_text_of C) [.str (tx w.hs), .str (tx w.cs), linesD w.rows] (.str (tx (pageL w))) := by
  have l5 := hw.l5
  have a1 := hw.hs.len
  have a2 := hw.cs.len
  have n3 := nl_len (n := w.rows.length) (by omega)
  refine ans_of (wF_fn rfl ?_)
  unfold m_text_of linesD
  ac_nf
  refine fmt_str.mpr ⟨by decide, ?_⟩
  ac_nf
  refine ⟨by decide, ?_⟩
  ac_nf
  refine ⟨by decide, ?_⟩
  ac_nf
  refine fmt_str.mpr ⟨tx_fit (by omega), ?_⟩
  ac_nf
  rw [show (Str.empty ++ "rules" ++ " " : Str) = tx (rulesL ++ [32]) from rfl, tx_app]
  refine ⟨tx_fit (by simp; omega), ?_⟩
  ac_nf
  rw [show (" " : Str) = tx [32] from rfl, tx_app]
  refine ⟨tx_fit (by simp; omega), ?_⟩
  ac_nf
  refine fmt_str.mpr ⟨tx_fit (by omega), ?_⟩
  ac_nf
  rw [tx_app]
  refine ⟨tx_fit (by simp; omega), ?_⟩
  ac_nf
  rw [tx_app]
  refine ⟨tx_fit (by simp; omega), ?_⟩
  ac_nf
  simp only [fzL_rows, List.length_map]
  refine (fmt_num (by omega)).mpr ?_
  ac_nf
  rw [tx_app]
  refine ⟨tx_fit (by simp; omega), ?_⟩
  ac_nf
  simp only [fzL_rows]
  refine enum_if.mpr ?_
  have eh : 114 :: 117 :: 108 :: 101 :: 115 :: 32 :: (w.hs ++ [32] ++ w.cs ++ [32] ++ nl w.rows.length) = headL w := by
    rw [← head_eq]; simp
  rw [eh]
  refine wL (fun i e => ∃ x4 x5 x6 x7 x8, e = [some (.str (tx w.hs)), some (.str (tx w.cs)), some (.nd false .tup (w.rows.map rowD)), some (.nd true .lst (strsD (headL w :: bodyL (w.rows.take i)))), x4, x5, x6, x7, x8]) ⟨none, none, none, none, none, rfl⟩ ?_ ?_
  · rintro i d e hd ⟨x4, x5, x6, x7, x8, rfl⟩
    rw [enumD_at] at hd
    cases q : (w.rows.map rowD)[i]? with
    | none => rw [q] at hd; cases hd
    | some z =>
      rw [q] at hd
      cases hd
      obtain ⟨r, hr, rfl⟩ := mem_rows q
      have hil := lt_of hr
      have ok := hw.rows r (List.mem_of_getElem? hr)
      have r9 := row9 hw (List.mem_of_getElem? hr)
      have ni := nl_len (n := i) (by omega)
      rw [show (0 : Int) + ((0 + i : Nat) : Int) = (i : Int) by omega]
      ac_nf
      rw [fz_row]
      refine it_row.mpr ?_
      refine wC (fun j ys e => ys = strsD ((r.take j).map (lineL i)) ∧ e = [some (.str (tx w.hs)), some (.str (tx w.cs)), some (.nd false .tup (w.rows.map rowD)), none, some (.int i), some (rowD r), none, none, none]) ⟨rfl, rfl⟩ ?_ ?_
      · rintro j y ys e hy ⟨rfl, rfl⟩
        obtain ⟨mv, hmv, rfl⟩ := mem_mvs hy
        have tk : r.take (j + 1) = r.take j ++ [mv] := by rw [List.take_succ, hmv]; rfl
        obtain ⟨_, _, m3⟩ := ok.mem mv (List.mem_of_getElem? hmv)
        have nm := nl_len (n := mv.2.2) (by omega)
        unfold mvD
        ac_nf
        refine fmt_str.mpr ⟨by decide, ?_⟩
        ac_nf
        refine ⟨by decide, ?_⟩
        ac_nf
        rw [show (Str.empty ++ "move" ++ tx [32] : Str) = tx (moveL ++ [32]) from rfl]
        refine ⟨by decide, ?_⟩
        ac_nf
        refine (fmt_num (by omega)).mpr ?_
        ac_nf
        rw [tx_app]
        refine ⟨tx_fit (by simp; omega), ?_⟩
        ac_nf
        rw [tx_app]
        refine ⟨tx_fit (by simp; omega), ?_⟩
        ac_nf
        refine fmt_str.mpr ⟨by show 1 ≤ 16777216; omega, ?_⟩
        ac_nf
        rw [show one mv.1 = tx [mv.1] from rfl, tx_app]
        refine ⟨tx_fit (by simp; omega), ?_⟩
        ac_nf
        rw [tx_app]
        refine ⟨tx_fit (by simp; omega), ?_⟩
        ac_nf
        refine fmt_str.mpr ⟨by show 1 ≤ 16777216; omega, ?_⟩
        ac_nf
        rw [show one mv.2.1 = tx [mv.2.1] from rfl, tx_app]
        refine ⟨tx_fit (by simp; omega), ?_⟩
        ac_nf
        rw [tx_app]
        refine ⟨tx_fit (by simp; omega), ?_⟩
        ac_nf
        refine (fmt_num (by omega)).mpr ?_
        ac_nf
        rw [tx_app]
        refine ⟨tx_fit (by simp; omega), ?_⟩
        ac_nf
        have el : 109 :: 111 :: 118 :: 101 :: 32 :: (nl i ++ [32] ++ [mv.1] ++ [32] ++ [mv.2.1] ++ [32] ++ nl mv.2.2) = lineL i mv := by
          rw [← line_eq]; simp
        rw [el]
        exact ⟨by rw [tk, List.map_append]; simp [strsD], by trivial⟩
      · rintro ys e ⟨rfl, rfl⟩
        have hb := nums_len (rs := w.rows.take i) (fun x hx => row9 hw (List.mem_of_mem_take hx)) 0
        have hb2 : (bodyL (w.rows.take i)).length ≤ 9 * 999 := by
          unfold bodyL; rw [List.length_map]; simp at hb; omega
        refine ⟨by simp [strsD, sizeLine]; omega, ?_⟩
        ac_nf
        refine wF_extend.mpr ⟨by simp only [strsD, List.length_map, List.length_cons, List.length_take, sizeLine]; omega, ?_⟩
        rw [fzL_strsD]
        ac_nf
        refine ⟨some (.int i), some (rowD r), none, none, none, ?_⟩
        rw [body_take hr, List.length_map, List.take_length]
        simp only [strsD, List.map_cons, List.map_append, List.cons_append]
  · rintro e ⟨x4, x5, x6, x7, x8, rfl⟩
    simp only [enumD_len, List.length_map, List.take_length]
    ac_nf
    rw [fzL_strsD]
    rw [show ("\n" : Str) = tx [10] from rfl]
    refine (join_strsD (page_fits hw)).mpr ?_
    ac_nf
    rfl
end K02

namespace K02
open PySem L2 VH
theorem get_heard {C : Cs} {m : Bool} {w : Wd} {Q : D → List D → Prop} : wF (fFld C.Rules "heard") [instD C m w] Q ↔ Q (.str (tx w.hs)) [instD C m w] := by
  unfold instD
  rw [wF_fld]
  have h : kix nsR "heard" = some 0 := by decide +kernel
  rw [h]
  simp only [wO_some]
  show wO (some (D.str (tx w.hs))) _ ↔ _
  rw [wO_some]
  rfl
theorem get_written {C : Cs} {m : Bool} {w : Wd} {Q : D → List D → Prop} : wF (fFld C.Rules "written") [instD C m w] Q ↔ Q (.str (tx w.cs)) [instD C m w] := by
  unfold instD
  rw [wF_fld]
  have h : kix nsR "written" = some 1 := by decide +kernel
  rw [h]
  simp only [wO_some]
  show wO (some (D.str (tx w.cs))) _ ↔ _
  rw [wO_some]
  rfl
theorem get_rows {C : Cs} {m : Bool} {w : Wd} {Q : D → List D → Prop} : wF (fFld C.Rules "rows") [instD C m w] Q ↔ Q (linesD w.rows) [instD C m w] := by
  unfold instD
  rw [wF_fld]
  have h : kix nsR "rows" = some 2 := by decide +kernel
  rw [h]
  simp only [wO_some]
  show wO (some (linesD w.rows)) _ ↔ _
  rw [wO_some, fz_lines]
  rfl
theorem get_steps {C : Cs} {m : Bool} {w : Wd} {Q : D → List D → Prop} : wF (fFld C.Rules "steps") [instD C m w] Q ↔ Q (stsD false w) [instD C m w] := by
  unfold instD
  rw [wF_fld]
  have h : kix nsR "steps" = some 3 := by decide +kernel
  rw [h]
  simp only [wO_some]
  show wO (some (stsD false w)) _ ↔ _
  rw [wO_some, fz_sts]
  rfl
theorem str_rules {C : Cs} {w : Wd} {m : Bool} (hw : WOk w) : Ans (fm_Rules___str__ C) [instD C m w] (.str (tx (pageL w))) := by
  refine ans_of (wF_fn rfl ?_)
  unfold m_Rules___str__
  ac_nf
  rw [fz_inst]
  refine get_heard.mpr ?_
  ac_nf
  rw [fz_inst]
  refine get_written.mpr ?_
  ac_nf
  rw [fz_inst]
  refine get_rows.mpr ?_
  ac_nf
  refine (text_of hw).wF fun os hos => ?_
  match os, hos with
  | [o1, o2, o3], _ =>
  ac_nf
theorem len_lines {rows : List (List Mv)} {Q : D → List D → Prop} : wF fLen [linesD rows] Q ↔ Q (.int rows.length) [linesD rows] := by
  unfold linesD
  rw [wF_lenT, List.length_map]
theorem len_rules {C : Cs} {w : Wd} {m : Bool} : Ans (fm_Rules___len__ C) [instD C m w] (.int w.rows.length) := by
  refine ans_of (wF_fn rfl ?_)
  unfold m_Rules___len__
  ac_nf
  rw [fz_inst]
  refine get_rows.mpr ?_
  ac_nf
  refine len_lines.mpr ?_
  ac_nf
/-- str of an instance, its length -/
theorem strR {C : Cs} {w : Wd} {m : Bool} {Q : D → List D → Prop} (hw : WOk w) (q : ∀ os, os.length = 1 → Q (.str (tx (pageL w))) os) : wF (fStrO C.Rules (fm_Rules___str__ C)) [instD C m w] Q := by
  refine wF_strO.mpr ?_
  refine (str_rules hw).wF fun os hos => ⟨_, rfl, q os hos⟩
theorem lenR {C : Cs} {w : Wd} {m : Bool} {Q : D → List D → Prop} (hw : WOk w) (q : ∀ os, os.length = 1 → Q (.int w.rows.length) os) : wF (fLenO C.Rules (fm_Rules___len__ C)) [instD C m w] Q := by
  have := hw.l5
  refine wF_lenO.mpr ?_
  refine len_rules.wF fun os hos => ⟨_, rfl, by omega, q os hos⟩
theorem addS {a b : List Nat} {Q : D → List D → Prop} (h : a.length + b.length ≤ 16777216) : wF fAdd [.str (tx a), .str (tx b)] Q ↔ Q (.str (tx (a ++ b))) [.any, .any] := by
  rw [wF_addS, tx_app]
  exact ⟨fun z => z.2, fun z => ⟨h, z⟩⟩
/-- the law's own text -/
theorem written {C : Cs} {w : Wd} {m : Bool} (hw : WOk w) : Ans (fm__law_written C) [wD m w] (.str (tx (pageL w))) := by
  have l5 := hw.l5
  have a1 := hw.hs.len
  have a2 := hw.cs.len
  have n3 := nl_len (n := w.rows.length) (by omega)
  refine ans_of (wF_fn rfl ?_)
  unfold m__law_written
  ac_nf
  rw [fz_w]
  refine get_hs.mpr ?_
  ac_nf
  rw [show ("rules " : Str) = tx (rulesL ++ [32]) from rfl]
  refine (addS (by simp; omega)).mpr ?_
  ac_nf
  rw [show (" " : Str) = tx [32] from rfl]
  refine (addS (by simp; omega)).mpr ?_
  ac_nf
  rw [fz_w]
  refine get_cs.mpr ?_
  ac_nf
  refine (addS (by simp; omega)).mpr ?_
  ac_nf
  refine (addS (by simp; omega)).mpr ?_
  ac_nf
  rw [fz_w]
  refine get_lines.mpr ?_
  ac_nf
  refine len_lines.mpr ?_
  ac_nf
  refine (str_num (by omega)).mpr ?_
  ac_nf
  refine (addS (by simp; omega)).mpr ?_
  ac_nf
  rw [fz_w]
  refine get_lines.mpr ?_
  ac_nf
  unfold linesD
  refine enum_if.mpr ?_
  have eh : 114 :: 117 :: 108 :: 101 :: 115 :: 32 :: (w.hs ++ [32] ++ w.cs ++ [32] ++ nl w.rows.length) = headL w := by
    rw [← head_eq]; simp
  rw [eh]
  refine wL (fun i e => ∃ x2 x3 x4 x5 x6, e = [some (wD false w), some (.nd true .lst (strsD (headL w :: bodyL (w.rows.take i)))), x2, x3, x4, x5, x6]) ⟨none, none, none, none, none, rfl⟩ ?_ ?_
  · rintro i d e hd ⟨x2, x3, x4, x5, x6, rfl⟩
    rw [enumD_at] at hd
    cases q : (w.rows.map rowD)[i]? with
    | none => rw [q] at hd; cases hd
    | some z =>
      rw [q] at hd
      cases hd
      obtain ⟨r, hr, rfl⟩ := mem_rows q
      have hil := lt_of hr
      have ok := hw.rows r (List.mem_of_getElem? hr)
      have r9 := row9 hw (List.mem_of_getElem? hr)
      have ni := nl_len (n := i) (by omega)
      rw [show (0 : Int) + ((0 + i : Nat) : Int) = (i : Int) by omega]
      ac_nf
      rw [fz_row]
      refine it_row.mpr ?_
      refine wC (fun j ys e => ys = strsD ((r.take j).map (lineL i)) ∧ e = [some (wD false w), none, some (.int i), some (rowD r), none, none, none]) ⟨rfl, rfl⟩ ?_ ?_
      · rintro j y ys e hy ⟨rfl, rfl⟩
        obtain ⟨mv, hmv, rfl⟩ := mem_mvs hy
        have tk : r.take (j + 1) = r.take j ++ [mv] := by rw [List.take_succ, hmv]; rfl
        obtain ⟨_, _, m3⟩ := ok.mem mv (List.mem_of_getElem? hmv)
        have nm := nl_len (n := mv.2.2) (by omega)
        unfold mvD
        ac_nf
        refine (str_num (by omega)).mpr ?_
        ac_nf
        refine (str_num (by omega)).mpr ?_
        ac_nf
        have el : D.nd true .lst [.str "move", .str (tx (nl i)), .str (one mv.1), .str (one mv.2.1), .str (tx (nl mv.2.2))] = D.nd true .lst (strsD [moveL, nl i, [mv.1], [mv.2.1], nl mv.2.2]) := rfl
        rw [el]
        refine (join_strsD ?_).mpr ?_
        · have h3 : ∀ u, (tx u).length = u.length := fun u => rfl
          simp only [List.map_cons, List.map_nil, h3, List.sum_cons, List.sum_nil, List.length_cons, List.length_nil]
          omega
        ac_nf
        exact ⟨by rw [tk, List.map_append]; simp [strsD, lineL], by trivial⟩
      · rintro ys e ⟨rfl, rfl⟩
        have hb := nums_len (rs := w.rows.take i) (fun x hx => row9 hw (List.mem_of_mem_take hx)) 0
        have hb2 : (bodyL (w.rows.take i)).length ≤ 9 * 999 := by
          unfold bodyL; rw [List.length_map]; simp at hb; omega
        refine ⟨by simp [strsD, sizeLine]; omega, ?_⟩
        ac_nf
        refine wF_extend.mpr ⟨by simp only [strsD, List.length_map, List.length_cons, List.length_take, sizeLine]; omega, ?_⟩
        rw [fzL_strsD]
        ac_nf
        refine ⟨some (.int i), some (rowD r), none, none, none, ?_⟩
        rw [body_take hr, List.length_map, List.take_length]
        simp only [strsD, List.map_cons, List.map_append, List.cons_append]
  · rintro e ⟨x4, x5, x6, x7, x8, rfl⟩
    simp only [enumD_len, List.length_map, List.take_length]
    ac_nf
    rw [fzL_strsD]
    rw [show ("\n" : Str) = tx [10] from rfl]
    refine (join_strsD (page_fits hw)).mpr ?_
    ac_nf
    rfl
end K02

namespace K02
open PySem L2 VH
/-! reading, line by line -/
theorem split_tx {c : Nat} {l : List (List Nat)} (hc : c < 256) (hne : l ≠ []) (h : ∀ u ∈ l, c ∉ u) : Txt.split (tx (TL.joinL [c] l)) (tx [c]) = l.map tx := by
  rw [← join_tx]
  refine TL.split_join (s := c) (S := []) rfl ?_ (by simpa using hne) ?_
  · show (#[c] : Array Nat).all _ = true
    simp [hc]
  · intro p hp
    obtain ⟨u, hu, rfl⟩ := List.mem_map.mp hp
    exact h u hu
theorem nl_no {n c : Nat} (h : n < 1000) (hc : c < 48) : c ∉ nl n := fun z => by
  have := (num_ok h).dig c z; omega
theorem al_no {l : List Nat} {c : Nat} (h : Alpha l) (hc : c < 97) : c ∉ l := fun z => by
  have := h.abc c z; omega
theorem split_head {w : Wd} (hw : WOk w) : Txt.split (tx (headL w)) (tx [32]) = [rulesL, w.hs, w.cs, nl w.rows.length].map tx := by
  have := hw.l5
  refine split_tx (by decide) (by simp) ?_
  intro u hu
  simp only [List.mem_cons, List.not_mem_nil, or_false] at hu
  rcases hu with rfl | rfl | rfl | rfl
  · decide
  · exact al_no hw.hs (by decide)
  · exact al_no hw.cs (by decide)
  · exact nl_no (by omega) (by decide)
theorem split_line {s : Nat} {m : Mv} (h1 : s < 1000) (h2 : 97 ≤ m.1) (h3 : 97 ≤ m.2.1) (h4 : m.2.2 < 1000) : Txt.split (tx (lineL s m)) (tx [32]) = [moveL, nl s, [m.1], [m.2.1], nl m.2.2].map tx := by
  refine split_tx (by decide) (by simp) ?_
  intro u hu
  simp only [List.mem_cons, List.not_mem_nil, or_false] at hu
  rcases hu with rfl | rfl | rfl | rfl | rfl
  · decide
  · exact nl_no h1 (by decide)
  · simp; omega
  · simp; omega
  · exact nl_no h4 (by decide)
theorem no_nl_head {w : Wd} (hw : WOk w) : 10 ∉ headL w := by
  have := hw.l5
  have h1 := al_no hw.hs (c := 10) (by decide)
  have h2 := al_no hw.cs (c := 10) (by decide)
  have h3 := nl_no (n := w.rows.length) (c := 10) (by omega) (by decide)
  rw [← head_eq]
  simp [h1, h2, h3]
theorem no_nl_line {s : Nat} {m : Mv} (h1 : s < 1000) (h2 : 97 ≤ m.1) (h3 : 97 ≤ m.2.1) (h4 : m.2.2 < 1000) : 10 ∉ lineL s m := by
  have a := nl_no (n := s) (c := 10) h1 (by decide)
  have b := nl_no (n := m.2.2) (c := 10) h4 (by decide)
  rw [← line_eq]
  simp [a, b]
  omega
theorem split_page {w : Wd} (hw : WOk w) : Txt.split (tx (pageL w)) (tx [10]) = (headL w :: bodyL w.rows).map tx := by
  refine split_tx (by decide) (by simp) ?_
  intro u hu
  rcases List.mem_cons.mp hu with rfl | hu
  · exact no_nl_head hw
  · obtain ⟨p, hp, rfl⟩ := List.mem_map.mp hu
    obtain ⟨a, b, c, d⟩ := nums_ok hw hp
    have := hw.l5
    exact no_nl_line (by omega) (hw.hs.abc _ b).1 (hw.cs.abc _ c).1 (by omega)
theorem splitL {c : Nat} {l : List Nat} {ls : List (List Nat)} {Q : D → List D → Prop} (h : Txt.split (tx l) (tx [c]) = ls.map tx) (hz : l.length ≤ 1000000) : wF fSplit [.str (tx l), .str (tx [c])] Q ↔ Q (.nd true .lst (strsD ls)) [.str (tx l), .str (tx [c])] := by
  rw [wF_split, h, strsD_eq]
  have : ((tx [c]).length ≠ 0 ∧ (tx l).length + 2 ≤ sizeLine) := ⟨Nat.one_ne_zero, by show l.length + 2 ≤ 16777216; omega⟩
  exact ⟨fun z => z.2, fun z => ⟨this, z⟩⟩
theorem is_tup {m n : Bool} {xs : List D} {Q : D → List D → Prop} : wF (fIs n) [.nd m .tup xs, .non] Q ↔ Q (.bl n) [.nd m .tup xs, .any] := by cases n <;> exact wF_some rfl rfl
theorem is_int {i : Int} {n : Bool} {Q : D → List D → Prop} : wF (fIs n) [.int i, .non] Q ↔ Q (.bl n) [.int i, .any] := by cases n <;> exact wF_some rfl rfl
theorem is_non {n : Bool} {Q : D → List D → Prop} : wF (fIs n) [.non, .non] Q ↔ Q (.bl (!n)) [.non, .any] := by cases n <;> exact wF_some rfl rfl
theorem ix_at {m : Bool} {xs : List D} {k : Nat} {d : D} {Q : D → List D → Prop} (h : xs[k]? = some d) (hf : d.fz = d) : wF fIx [.nd m .lst xs, .int k] Q ↔ Q d [.nd m .lst xs, .int k] := by
  have hlt := lt_of h
  rw [wF_ix (.inl rfl), ixN_ok (by omega) (by omega)]
  simp only [wO_some, Int.toNat_natCast, h, hf]
  have e : xs.set k d = xs := by
    refine List.ext_getElem? fun j => ?_
    rw [List.getElem?_set]
    split
    · rename_i hk; subst hk
      rw [List.getElem?_eq_getElem hlt] at h ⊢
      simpa [hlt] using h.symm
    · rfl
  rw [e]
theorem first_line {C : Cs} {w : Wd} (hw : WOk w) : Ans (fm_first_line C) [.str (tx (headL w))] (.nd false .tup [.str (tx w.hs), .str (tx w.cs), .int w.rows.length]) := by
  have l5 := hw.l5
  have l0 := hw.l0
  have hl := head_len hw
  refine ans_of (wF_fn rfl ?_)
  unfold m_first_line
  ac_nf
  rw [show (" " : Str) = tx [32] from rfl]
  refine (splitL (split_head hw) (by omega)).mpr ?_
  unfold strsD
  ac_nf
  refine neI.mpr ?_
  rw [show (!(((4 : Nat) : Int) == 4)) = false from rfl]
  ac_nf
  refine (ix_at (k := 0) rfl rfl).mpr ?_
  ac_nf
  refine (ne_strs (a := tx rulesL) (b := tx rulesL) (strOk_of (by decide)) (strOk_of (by decide))).mpr ?_
  rw [beq_self_eq_true]
  ac_nf
  refine (ix_at (k := 3) rfl rfl).mpr ?_
  ac_nf
  refine (number (num_ok (by omega)) (by omega)).wF fun os hos => ?_
  match os, hos with
  | [o1], _ =>
  ac_nf
  refine (ix_at (k := 1) rfl rfl).mpr ?_
  ac_nf
  refine (letters hw.hs).wF fun os hos => ?_
  match os, hos with
  | [o1], _ =>
  ac_nf
  refine (ix_at (k := 2) rfl rfl).mpr ?_
  ac_nf
  refine (letters hw.cs).wF fun os hos => ?_
  match os, hos with
  | [o1], _ =>
  ac_nf
  refine is_int.mpr ?_
  ac_nf
  refine eqI.mpr ?_
  rw [show (((w.rows.length : Nat) : Int) == 0) = false from beq_eq_false_iff_ne.mpr (by omega)]
  ac_nf
  refine (ix_at (k := 1) rfl rfl).mpr ?_
  ac_nf
  refine (ix_at (k := 2) rfl rfl).mpr ?_
  ac_nf
theorem notin_tx {c : Nat} {l : List Nat} {Q : D → List D → Prop} (h : c ∈ l) : wF (fInS true) [.str (one c), .str (tx l)] Q ↔ Q (.bl false) [.any, .any] := by
  refine wF_some ?_ rfl
  have : decide (c ∈ (tx l).cps.toList) = true := decide_eq_true h
  show some (D.bl (if true = true then !decide (c ∈ (tx l).cps.toList) else _), [D.any, D.any]) = _
  rw [this]; rfl
def movD (p : Nat × Mv) : D := .nd false .tup [.int p.1, .str (one p.2.1), .str (one p.2.2.1), .int p.2.2.2]
theorem move_line {C : Cs} {hs cs : List Nat} {n s : Nat} {m : Mv} (hn : n ≤ 999) (h1 : s < n) (h2 : m.1 ∈ hs) (h3 : m.2.1 ∈ cs) (h4 : m.2.2 < n) (l1 : 97 ≤ m.1 ∧ m.1 ≤ 122) (l2 : 97 ≤ m.2.1 ∧ m.2.1 ≤ 122) : Ans (fm_move_line C) [.str (tx (lineL s m)), .str (tx hs), .str (tx cs), .int n] (movD (s, m)) := by
  have hl := line_len (s := s) (m := m) (by omega) (by omega)
  refine ans_of (wF_fn rfl ?_)
  unfold m_move_line
  ac_nf
  rw [show (" " : Str) = tx [32] from rfl]
  refine (splitL (split_line (by omega) l1.1 l2.1 (by omega)) (by omega)).mpr ?_
  unfold strsD
  ac_nf
  refine neI.mpr ?_
  rw [show (!(((5 : Nat) : Int) == 5)) = false from rfl]
  ac_nf
  refine (ix_at (k := 0) rfl rfl).mpr ?_
  ac_nf
  refine (ne_strs (a := tx moveL) (b := tx moveL) (strOk_of (by decide)) (strOk_of (by decide))).mpr ?_
  rw [beq_self_eq_true]
  ac_nf
  refine (ix_at (k := 1) rfl rfl).mpr ?_
  ac_nf
  refine (number (num_ok (by omega)) (by omega)).wF fun os hos => ?_
  match os, hos with
  | [o1], _ =>
  ac_nf
  refine (ix_at (k := 4) rfl rfl).mpr ?_
  ac_nf
  refine (number (num_ok (by omega)) (by omega)).wF fun os hos => ?_
  match os, hos with
  | [o1], _ =>
  ac_nf
  refine is_int.mpr ?_
  ac_nf
  refine is_int.mpr ?_
  ac_nf
  rw [decide_eq_false (show ¬ ((n : Int) ≤ (s : Int)) by omega)]
  ac_nf
  rw [decide_eq_false (show ¬ ((n : Int) ≤ (m.2.2 : Int)) by omega)]
  ac_nf
  refine (ix_at (k := 2) rfl rfl).mpr ?_
  ac_nf
  refine wF_lenS.mpr ⟨by show 1 ≤ 16777216; omega, ?_⟩
  ac_nf
  refine neI.mpr ?_
  rw [show (!(((tx [m.1]).length : Int) == 1)) = false from rfl]
  ac_nf
  refine (ix_at (k := 3) rfl rfl).mpr ?_
  ac_nf
  refine wF_lenS.mpr ⟨by show 1 ≤ 16777216; omega, ?_⟩
  ac_nf
  refine neI.mpr ?_
  rw [show (!(((tx [m.2.1]).length : Int) == 1)) = false from rfl]
  ac_nf
  refine (ix_at (k := 2) rfl rfl).mpr ?_
  ac_nf
  refine (notin_tx h2).mpr ?_
  ac_nf
  refine (ix_at (k := 3) rfl rfl).mpr ?_
  ac_nf
  refine (notin_tx h3).mpr ?_
  ac_nf
  refine (ix_at (k := 2) rfl rfl).mpr ?_
  ac_nf
  refine (ix_at (k := 3) rfl rfl).mpr ?_
  ac_nf
  rfl
end K02

namespace K02
open PySem L2 VH
/-! rows, filled move by move -/
def at_ (l : List (Nat × Mv)) (s : Nat) : List Mv := (l.filter fun p => decide (p.1 = s)).map (·.2)
theorem at_app (a b : List (Nat × Mv)) (s : Nat) : at_ (a ++ b) s = at_ a s ++ at_ b s := by simp [at_]
theorem at_row (r : List Mv) (k s : Nat) : at_ (r.map fun m => (k, m)) s = if k = s then r else [] := by
  unfold at_
  split
  · rename_i h; subst h
    rw [List.filter_eq_self.mpr (fun x hx => by obtain ⟨m, _, rfl⟩ := List.mem_map.mp hx; simp), List.map_map]
    exact List.map_id r
  · rename_i h
    rw [List.filter_eq_nil_iff.mpr (fun x hx => by obtain ⟨m, _, rfl⟩ := List.mem_map.mp hx; simp [h])]; rfl
theorem at_nums : ∀ (rs : List (List Mv)) (k s : Nat), at_ (nums k rs) s = if k ≤ s then rs.getD (s - k) [] else []
  | [], k, s => by simp [nums, at_]
  | r :: rs, k, s => by
    rw [nums, at_app, at_row, at_nums rs (k + 1) s]
    by_cases h : k = s
    · subst h; rw [if_pos rfl, if_neg (by omega), if_pos (Nat.le_refl _)]; simp
    · rw [if_neg h]
      by_cases h2 : k ≤ s
      · rw [if_pos h2, if_pos (by omega), List.nil_append, show s - k = (s - (k + 1)) + 1 by omega]
        simp
      · rw [if_neg h2, if_neg (by omega)]; rfl
def fillL (l : List (Nat × Mv)) (n : Nat) : List (List Mv) := (List.range n).map (at_ l)
theorem fill_all (rs : List (List Mv)) : fillL (nums 0 rs) rs.length = rs := by
  refine List.ext_getElem (by simp [fillL]) fun i h1 h2 => ?_
  simp only [fillL, List.getElem_map, List.getElem_range, at_nums, Nat.zero_le, if_true, Nat.sub_zero]
  rw [List.getD_eq_getElem?_getD, List.getElem?_eq_getElem h2]; rfl
def rowLD (r : List Mv) : D := .nd true .lst (r.map mvD)
theorem fill_step {l : List (Nat × Mv)} {n : Nat} {p : Nat × Mv} (hp : p.1 < n) : ((fillL l n).map rowLD).set p.1 (rowLD (at_ l p.1 ++ [p.2])) = (fillL (l ++ [p]) n).map rowLD := by
  refine List.ext_getElem (by simp [fillL]) fun i h1 h2 => ?_
  rw [List.getElem_set]
  simp only [fillL, List.getElem_map, List.getElem_range, at_app]
  have e : at_ [p] i = if p.1 = i then [p.2] else [] := by
    unfold at_
    by_cases h : p.1 = i
    · simp [h]
    · simp [h]
  rw [e]
  split
  · rename_i h; subst h; rfl
  · simp
theorem fz_rowL (r : List Mv) : (rowLD r).fz = .nd false .lst (r.map mvD) := by show D.nd false .lst (D.fzL (r.map mvD)) = _; rw [fzL_mvs]
def ltP (a b : Nat × Mv) : Prop := a.1 < b.1 ∨ (a.1 = b.1 ∧ ltM a.2 b.2)
theorem nums_asc : ∀ {rs : List (List Mv)} {k : Nat}, (∀ r ∈ rs, r.Pairwise ltM) → (nums k rs).Pairwise ltP
  | [], _, _ => .nil
  | r :: rs, k, h => by
    refine List.pairwise_append.mpr ⟨?_, nums_asc fun x hx => h x (List.mem_cons_of_mem _ hx), ?_⟩
    · rw [List.pairwise_map]
      exact (h r (by simp)).imp fun z => .inr ⟨rfl, z⟩
    · intro a ha b hb
      obtain ⟨m, _, rfl⟩ := List.mem_map.mp ha
      exact .inl (Nat.lt_of_succ_le (nums_mem hb).1)
theorem lt_trip {a b : Nat × Mv} (h : ltP a b) : PySem.W.dataLt (.tuple [.int a.1, .str (one a.2.1), .str (one a.2.2.1)]) (.tuple [.int b.1, .str (one b.2.1), .str (one b.2.2.1)]) = true := by
  unfold PySem.W.dataLt
  simp only [PySem.W.keyToks, PySem.W.keyToksAll, List.cons_append, List.nil_append, one, tx_list]
  rw [PyProof.Rows.lex_self]
  rcases h with h | ⟨e, h⟩
  · refine PyProof.Rows.lex_true.mpr (.inl ?_)
    exact decide_eq_true (by omega)
  · rw [e]
    rcases h with h | ⟨e2, h⟩
    · rw [PyProof.Rows.lex_self, PyProof.Rows.lex_self]
      refine PyProof.Rows.lex_true.mpr (.inl ?_)
      exact decide_eq_true (List.cons_lt_cons_iff.mpr (.inl h))
    · rw [e2, PyProof.Rows.lex_self, PyProof.Rows.lex_self, PyProof.Rows.lex_self, PyProof.Rows.lex_self]
      refine PyProof.Rows.lex_true.mpr (.inl ?_)
      exact decide_eq_true (List.cons_lt_cons_iff.mpr (.inl h))
theorem leD {p q : PyData} {x y : D} {Q : D → List D → Prop} (hx : x.py = some p) (hy : y.py = some q) (h1 : PySem.W.alike p q = true) (h2 : pyN p = false) (h3 : min p.depth q.depth ≤ 32) : wF fLeD [x, y] Q ↔ Q (.bl (!PySem.W.dataLt q p)) [x, y] := by
  refine wF_some ?_ rfl
  simp only [fLeD, hx, hy, h1, h2, h3, and_self, if_true]
theorem cut4 {a b c d : D} {m : Bool} {Q : D → Prop} : wO (gCut none (some 3) (.nd m .tup [a, b, c, d])) Q ↔ Q (.nd false .tup [a.fz, b.fz, c.fz]) := wO_some
theorem cut41 {a b c d : D} {m : Bool} {Q : D → Prop} : wO (gCut (some 1) none (.nd m .tup [a, b, c, d])) Q ↔ Q (.nd false .tup [b.fz, c.fz, d.fz]) := wO_some
theorem ix40 {a b c d : D} {m : Bool} {Q : D → List D → Prop} : wF fIx [.nd m .tup [a, b, c, d], .int 0] Q ↔ Q a.fz [.nd m .tup [a.fz, b, c, d], .int 0] := wF_some rfl rfl
theorem cut_strs {l : List (List Nat)} {m : Bool} {a : List Nat} {Q : D → Prop} : wO (gCut (some 1) none (.nd m .lst (strsD (a :: l)))) Q ↔ Q (.nd true .lst (strsD l)) := by
  have : gCut (some 1) none (.nd m .lst (strsD (a :: l))) = some (.nd true .lst (strsD l)) := by
    show some (D.nd true .lst (cutL (strsD (a :: l)) (some 1) none)) = _
    rw [cut_first]; rfl
  rw [this]; exact wO_some
theorem sel_row {xs : List D} {s : Nat} {c : D} (h : xs[s]? = some c) : selAt (.int s) (.nd true .lst xs) = some (c, ⟨true, .lst, xs.take s, xs.drop (s + 1)⟩) := by
  have hlt := lt_of h
  have e : posAt true .lst xs (.int s) = some s := by
    show ixN xs.length (s : Int) = some s
    rw [ixN_ok (by omega) (by omega), Int.toNat_natCast]
  simp only [selAt, e, h]
def lastD (l : List (Nat × Mv)) : D := match l.getLast? with
  | none => .non
  | some p => movD p
theorem fz_last (l : List (Nat × Mv)) : (lastD l).fz = lastD l := by
  unfold lastD; split <;> rfl
theorem is_last {l : List (Nat × Mv)} {Q : D → List D → Prop} : wF (fIs true) [lastD l, .non] Q ↔ Q (.bl (!decide (l = []))) [lastD l, .any] := by
  unfold lastD
  cases h : l.getLast? with
  | none => 
    have : l = [] := List.getLast?_eq_none_iff.mp h
    rw [decide_eq_true this]
    exact is_non
  | some p =>
    have : l ≠ [] := by rintro rfl; cases h
    rw [decide_eq_false this]
    exact is_tup
def tripD (p : Nat × Mv) : D := .nd false .tup [.int p.1, .str (one p.2.1), .str (one p.2.2.1)]
theorem cut_lastD {l : List (Nat × Mv)} {p : Nat × Mv} {Q : D → Prop} (h : l.getLast? = some p) : wO (gCut none (some 3) (lastD l)) Q ↔ Q (tripD p) := by
  unfold lastD
  rw [h]
  exact wO_some
def tripP (p : Nat × Mv) : PyData := .tuple [.int p.1, .str (one p.2.1), .str (one p.2.2.1)]
theorem le_trip {a b : Nat × Mv} {Q : D → List D → Prop} (h : ltP a b) : wF fLeD [tripD b, tripD a] Q ↔ Q (.bl false) [tripD b, tripD a] := by
  rw [leD (p := tripP b) (q := tripP a) rfl rfl rfl rfl (by simp only [tripP, PyData.depth, PyData.depthAll]; omega)]
  unfold tripP
  rw [lt_trip h]; rfl
theorem app_row {r : List Mv} {m : Mv} {Q : D → List D → Prop} (h : r.length ≤ 10000) : wF fAppend [rowLD r, .nd false .tup [.str (one m.1), .str (one m.2.1), .int m.2.2]] Q ↔ Q .non [rowLD (r ++ [m]), .any] := by
  unfold rowLD
  rw [wF_append]
  have e : (D.nd true .lst ((r ++ [m]).map mvD)) = D.nd true .lst (r.map mvD ++ [(D.nd false .tup [.str (one m.1), .str (one m.2.1), .int m.2.2]).fz]) := by
    rw [List.map_append]; rfl
  rw [e]
  have : (r.map mvD).length < sizeLine := by simp only [List.length_map, sizeLine]; omega
  exact ⟨fun z => z.2, fun z => ⟨this, z⟩⟩
theorem fill_put {l : List (Nat × Mv)} {n : Nat} {p : Nat × Mv} (hp : p.1 < n) : ((fillL l n).map rowLD).take p.1 ++ rowLD (at_ l p.1 ++ [p.2]) :: ((fillL l n).map rowLD).drop (p.1 + 1) = (fillL (l ++ [p]) n).map rowLD := by
  rw [← fill_step hp, List.set_eq_take_append_cons_drop, if_pos (by simp [fillL]; exact hp)]
theorem last_snoc {l : List (Nat × Mv)} {p : Nat × Mv} : lastD (l ++ [p]) = movD p := by simp [lastD]
theorem page_len {w : Wd} (hw : WOk w) : (pageL w).length ≤ 1000000 := by
  have key : ∀ l : List (List Nat), (TL.joinL [10] l).length ≤ (l.map fun u => u.length + 1).sum := by
    intro l
    induction l with
    | nil => simp [TL.joinL]
    | cons a r ih =>
      cases r with
      | nil => simp [TL.joinL]
      | cons b r =>
        simp only [TL.joinL, List.length_append, List.map_cons, List.sum_cons, List.length_singleton] at ih ⊢
        omega
  have h1 : ∀ u ∈ headL w :: bodyL w.rows, u.length ≤ 20 := by
    intro u hu
    rcases List.mem_cons.mp hu with rfl | hu
    · exact head_len hw
    · obtain ⟨p, hp, rfl⟩ := List.mem_map.mp hu
      obtain ⟨a, _, _, b⟩ := nums_ok hw hp
      have := hw.l5
      exact line_len (by omega) (by omega)
  have h2 : ∀ l : List (List Nat), (∀ u ∈ l, u.length ≤ 20) → (l.map fun u => u.length + 1).sum ≤ 21 * l.length := by
    intro l
    induction l with
    | nil => simp
    | cons a r ih =>
      intro h
      have := h a (by simp)
      have := ih fun x hx => h x (List.mem_cons_of_mem _ hx)
      simp only [List.map_cons, List.sum_cons, List.length_cons]
      omega
  have h3 := nums_len (rs := w.rows) (fun r hr => row9 hw hr) 0
  have h4 := hw.l5
  have h5 : (bodyL w.rows).length ≤ 9 * 999 := by unfold bodyL; rw [List.length_map]; omega
  have h6 := Nat.le_trans (key _) (h2 _ h1)
  simp only [List.length_cons] at h6
  unfold pageL
  omega
theorem parts_in {C : Cs} {w : Wd} (hw : WOk w) : Ans (fm_parts_in C) [.str (tx (pageL w))] (.nd false .tup [.str (tx w.hs), .str (tx w.cs), linesD w.rows]) := by
  have l5 := hw.l5
  refine ans_of (wF_fn rfl ?_)
  unfold m_parts_in
  ac_nf
  refine isi_str.mpr ?_
  ac_nf
  rw [show ("\n" : Str) = tx [10] from rfl]
  have hpl := page_len hw
  refine (splitL (split_page hw) hpl).mpr ?_
  ac_nf
  rw [fzL_strsD]
  refine (ix_at (k := 0) (d := .str (tx (headL w))) rfl rfl).mpr ?_
  ac_nf
  refine (first_line hw).wF fun os hos => ?_
  match os, hos with
  | [o1], _ =>
  ac_nf
  refine is_tup.mpr ?_
  ac_nf
  refine range_if.mpr ⟨by omega, ?_⟩
  have rl : (rangeD 0 ((w.rows.length : Nat) : Int).toNat).length = w.rows.length := by rw [range_len]; omega
  refine wC (fun i ys e => ys = List.replicate i (.nd true .lst []) ∧ e = [some (.str (tx (pageL w))), some (.nd false .lst (strsD (headL w :: bodyL w.rows))), some (.nd false .tup [.str (tx w.hs), .str (tx w.cs), .int w.rows.length]), some (.str (tx w.hs)), some (.str (tx w.cs)), some (.int w.rows.length), none, none, none, none, none, none, none]) ⟨rfl, rfl⟩ ?_ ?_
  · rintro i y ys e hy ⟨rfl, rfl⟩
    ac_nf
    exact ⟨List.replicate_succ'.symm, by trivial⟩
  · rintro ys e ⟨rfl, rfl⟩
    rw [rl]
    refine ⟨by simp [sizeLine]; omega, ?_⟩
    ac_nf
    rw [fzL_strsD]
    refine cut_strs.mpr ?_
    ac_nf
    have hit : D.items (.nd true .lst (strsD (bodyL w.rows))) = some (strsD (bodyL w.rows)) := by
      show some (D.fzL (strsD (bodyL w.rows))) = _
      rw [fzL_strsD]
    refine (wO_enumK hit).mpr ?_
    have hns := nums_len (rs := w.rows) (fun r hr => row9 hw hr) 0
    have asc := nums_asc (rs := w.rows) (k := 0) fun r hr => (hw.rows r hr).asc
    have hf0 : List.replicate w.rows.length (D.nd true .lst []) = (fillL [] w.rows.length).map rowLD := by
      refine List.ext_getElem (by simp [fillL]) fun i h1 h2 => ?_
      simp [fillL, at_, rowLD]
    rw [hf0]
    refine wL (fun i e => ∃ x8 x9 x10, e = [some (.str (tx (pageL w))), some (.nd false .lst (strsD (headL w :: bodyL w.rows))), some (.nd false .tup [.str (tx w.hs), .str (tx w.cs), .int w.rows.length]), some (.str (tx w.hs)), some (.str (tx w.cs)), some (.int w.rows.length), some (.nd true .lst ((fillL ((nums 0 w.rows).take i) w.rows.length).map rowLD)), some (lastD ((nums 0 w.rows).take i)), x8, x9, x10, none, none]) ⟨none, none, none, rfl⟩ ?_ ?_
    · rintro i d e hd ⟨x8, x9, x10, rfl⟩
      rw [enumD_at] at hd
      cases q : (strsD (bodyL w.rows))[i]? with
      | none => rw [q] at hd; cases hd
      | some z =>
        rw [q] at hd
        cases hd
        obtain ⟨p, hp, rfl⟩ : ∃ p, (nums 0 w.rows)[i]? = some p ∧ z = .str (tx (lineL p.1 p.2)) := by
          unfold strsD bodyL at q
          rw [List.getElem?_map, List.getElem?_map] at q
          cases q2 : (nums 0 w.rows)[i]? with
          | none => rw [q2] at q; cases q
          | some p => rw [q2] at q; cases q; exact ⟨p, rfl, rfl⟩
        have hip := lt_of hp
        have tk : (nums 0 w.rows).take (i + 1) = (nums 0 w.rows).take i ++ [p] := by rw [List.take_succ, hp]; rfl
        obtain ⟨a1, a2, a3, a4⟩ := nums_ok hw (List.mem_of_getElem? hp)
        ac_nf
        refine (move_line (C := C) l5 a1 a2 a3 a4 (hw.hs.abc _ a2) (hw.cs.abc _ a3)).wF fun os hos => ?_
        match os, hos with
        | [o1, o2, o3, o4], _ =>
        unfold movD
        ac_nf
        refine is_tup.mpr ?_
        ac_nf
        rw [fz_last]
        refine is_last.mpr ?_
        ac_nf
        have hlen : ((nums 0 w.rows).take i).length = i := by simp; omega
        have hrow : ((fillL ((nums 0 w.rows).take i) w.rows.length).map rowLD)[p.1]? = some (rowLD (at_ ((nums 0 w.rows).take i) p.1)) := by
          rw [List.getElem?_map]
          simp only [fillL, List.getElem?_map, List.getElem?_range a1, Option.map_some]
        have hal : (at_ ((nums 0 w.rows).take i) p.1).length ≤ i := by
          unfold at_
          rw [List.length_map]
          exact Nat.le_trans (List.length_filter_le _ _) (by omega)
        by_cases hl : (nums 0 w.rows).take i = []
        · have hd0 : (!decide ((nums 0 w.rows).take i = [])) = false := by rw [decide_eq_true hl]; rfl
          rw [hd0]
          ac_nf
          refine ix40.mpr ?_
          ac_nf
          refine ⟨_, _, sel_row hrow, ?_⟩
          ac_nf
          refine cut41.mpr ?_
          ac_nf
          refine (app_row (by omega)).mpr ?_
          ac_nf
          refine ⟨some (.int (1 + ((0 + i : Nat) : Int))), some (.str (tx (lineL p.1 p.2))), some (movD p), ?_⟩
          rw [tk, last_snoc, fill_put a1]
          rfl
        · have hd1 : (!decide ((nums 0 w.rows).take i = [])) = true := by rw [decide_eq_false hl]; rfl
          rw [hd1]
          ac_nf
          refine cut4.mpr ?_
          ac_nf
          rw [fz_last]
          have hi0 : 0 < i := by
            rcases Nat.eq_zero_or_pos i with rfl | z
            · exact absurd rfl hl
            · exact z
          have hla : ((nums 0 w.rows).take i).getLast? = some ((nums 0 w.rows)[i - 1]'(by omega)) := by
            rw [List.getLast?_eq_getElem?, hlen, List.getElem?_take_of_lt (by omega), List.getElem?_eq_getElem (by omega)]
          refine (cut_lastD hla).mpr ?_
          have hlt : ltP ((nums 0 w.rows)[i - 1]'(by omega)) p := by
            have e : p = (nums 0 w.rows)[i] := by rw [List.getElem?_eq_getElem hip] at hp; exact (Option.some.inj hp).symm
            rw [e]
            exact List.pairwise_iff_getElem.mp asc _ _ _ _ (by omega)
          ac_nf
          refine (le_trip (a := (nums 0 w.rows)[i - 1]'(by omega)) (b := p) hlt).mpr ?_
          ac_nf
          refine ix40.mpr ?_
          ac_nf
          refine ⟨_, _, sel_row hrow, ?_⟩
          ac_nf
          refine cut41.mpr ?_
          ac_nf
          refine (app_row (by omega)).mpr ?_
          ac_nf
          refine ⟨some (.int (1 + ((0 + i : Nat) : Int))), some (.str (tx (lineL p.1 p.2))), some (movD p), ?_⟩
          rw [tk, last_snoc, fill_put a1]
          rfl
    · rintro e ⟨x8, x9, x10, rfl⟩
      have hle : (enumD 1 0 (strsD (bodyL w.rows))).length = (nums 0 w.rows).length := by
        rw [enumD_len]; simp [strsD, bodyL]
      rw [hle, List.take_length, fill_all]
      ac_nf
      have hfz : D.fzL (w.rows.map rowLD) = w.rows.map fun r => .nd false .lst (r.map mvD) := by
        rw [D.fzL_map, List.map_map]
        exact List.map_congr_left fun r _ => fz_rowL r
      have hfz2 : D.fzL (w.rows.map fun r => D.nd false .lst (r.map mvD)) = w.rows.map fun r => .nd false .lst (r.map mvD) := by
        rw [D.fzL_map, List.map_map]
        refine List.map_congr_left fun r _ => ?_
        show D.nd false .lst (D.fzL (r.map mvD)) = _
        rw [fzL_mvs]
      simp only [hfz, hfz2]
      refine wC (fun i ys e => ys = (w.rows.take i).map rowD ∧ e = [some (.str (tx (pageL w))), some (.nd false .lst (strsD (headL w :: bodyL w.rows))), some (.nd false .tup [.str (tx w.hs), .str (tx w.cs), .int w.rows.length]), some (.str (tx w.hs)), some (.str (tx w.cs)), some (.int w.rows.length), some (.nd false .lst (w.rows.map fun r => .nd false .lst (r.map mvD))), some (lastD (nums 0 w.rows)), x8, x9, x10, none, none]) ⟨rfl, rfl⟩ ?_ ?_
      · rintro i y ys e hy ⟨rfl, rfl⟩
        obtain ⟨r, hr, rfl⟩ : ∃ r, w.rows[i]? = some r ∧ y = .nd false .lst (r.map mvD) := by
          rw [List.getElem?_map] at hy
          cases q : w.rows[i]? with
          | none => rw [q] at hy; cases hy
          | some r => rw [q] at hy; cases hy; exact ⟨r, rfl, rfl⟩
        have tk : w.rows.take (i + 1) = w.rows.take i ++ [r] := by rw [List.take_succ, hr]; rfl
        ac_nf
        simp only [fzL_mvs]
        refine wF_tupleL.mpr ?_
        bv_omega
        simp only [fzL_mvs]
        ac_nf
        exact ⟨by rw [tk, List.map_append]; rfl, by trivial⟩
      · rintro ys e ⟨rfl, rfl⟩
        refine ⟨by simp [sizeLine]; omega, ?_⟩
        ac_nf
        refine wF_tupleL.mpr ?_
        bv_omega
        rw [List.length_map, List.take_length]
        simp only [fzL_rows]
        ac_nf
        simp only [fzL_rows]
        rfl
end K02

namespace K02
open PySem L2 VH
theorem read {C : Cs} {w : Wd} (hw : WOk w) : Ans (fm_Rules_read C) [.ref C.Rules, .str (tx (pageL w))] (instD C true w) := by
  refine ans_of (wF_fn rfl ?_)
  unfold m_Rules_read
  ac_nf
  refine (parts_in hw).wF fun os hos => ?_
  match os, hos with
  | [o1], _ =>
  ac_nf
  refine (wE_makeL rfl).mpr ?_
  ac_nf
  simp only [fz_lines]
  refine makeR hw ?_
  ac_nf
theorem readR {C : Cs} {w : Wd} {Q : D → List D → Prop} (hw : WOk w) (q : ∀ os, os.length = 2 → Q (instD C true w) os) : wF (fCM C.Rules (fm_Rules_read C)) [.ref C.Rules, .str (tx (pageL w))] Q := by
  refine wF_cm.mpr ?_
  exact (read hw).wF q
theorem map_inj {α : Type} {f : α → D} (hf : ∀ a b, f a = f b → a = b) : ∀ {l m : List α}, l.map f = m.map f → l = m
  | [], [], _ => rfl
  | [], _ :: _, h => by cases h
  | _ :: _, [], h => by cases h
  | a :: l, b :: m, h => by
    obtain ⟨h1, h2⟩ := List.cons.inj h
    rw [hf a b h1, map_inj hf h2]
theorem mvD_inj (a b : Mv) (h : mvD a = mvD b) : a = b := by
  obtain ⟨x, y, z⟩ := a
  obtain ⟨x', y', z'⟩ := b
  have h0 := D.nd.inj h
  obtain ⟨h1, h2⟩ := List.cons.inj h0.2.2
  obtain ⟨h2, h3⟩ := List.cons.inj h2
  obtain ⟨h3, _⟩ := List.cons.inj h3
  have e1 : x = x' := one_inj (D.str.inj h1)
  have e2 : y = y' := one_inj (D.str.inj h2)
  have e3 : (z : Int) = z' := D.int.inj h3
  have e3 : z = z' := by omega
  rw [e1, e2, e3]
theorem rowD_inj (a b : List Mv) (h : rowD a = rowD b) : a = b := map_inj mvD_inj (D.nd.inj h).2.2
theorem linesD_inj {a b : List (List Mv)} (h : linesD a = linesD b) : a = b := map_inj rowD_inj (D.nd.inj h).2.2
/-- a text tells its rules -/
theorem page_inj {w v : Wd} (hw : WOk w) (hv : WOk v) (h : pageL w = pageL v) : w = v := by
  obtain ⟨o1, h1, _⟩ := parts_in (C := ⟨0, 0, 0, 0, 0, 0, 0⟩) hw
  obtain ⟨o2, h2, _⟩ := parts_in (C := ⟨0, 0, 0, 0, 0, 0, 0⟩) hv
  rw [h, h2] at h1
  have e := (D.nd.inj (Prod.mk.inj (Option.some.inj h1)).1).2.2
  obtain ⟨e1, e⟩ := List.cons.inj e
  obtain ⟨e2, e⟩ := List.cons.inj e
  obtain ⟨e3, _⟩ := List.cons.inj e
  have a1 : v.hs = w.hs := tx_inj (D.str.inj e1)
  have a2 : v.cs = w.cs := tx_inj (D.str.inj e2)
  have a3 : v.rows = w.rows := linesD_inj e3
  have z : w = ⟨w.hs, w.cs, w.rows⟩ := rfl
  rw [z, ← a1, ← a2, ← a3]
/-! == of rules -/
def mvP (m : Mv) : PyData := .tuple [.str (one m.1), .str (one m.2.1), .int m.2.2]
def rowP (r : List Mv) : PyData := .tuple (r.map mvP)
def linesP (rows : List (List Mv)) : PyData := .tuple (rows.map rowP)
theorem eqv_mv {a b : Mv} (h : PyData.eqv (mvP a) (mvP b) = true) : a = b := by
  simp only [mvP, PyData.eqv, PyData.eqvAll, Bool.and_eq_true, Bool.and_true, beq_iff_eq] at h
  obtain ⟨x, y, z⟩ := a
  obtain ⟨x', y', z'⟩ := b
  have e1 : x = x' := one_inj h.1
  have e2 : y = y' := one_inj h.2.1
  have e3 : z = z' := Int.ofNat.inj h.2.2
  rw [e1, e2, e3]
theorem eqvAll_inj {α : Type} {f : α → PyData} (hf : ∀ a b, PyData.eqv (f a) (f b) = true → a = b) : ∀ {l m : List α}, PyData.eqvAll (l.map f) (m.map f) = true → l = m
  | [], [], _ => rfl
  | [], _ :: _, h => by simp [PyData.eqvAll] at h
  | _ :: _, [], h => by simp [PyData.eqvAll] at h
  | a :: l, b :: m, h => by
    simp only [List.map_cons, PyData.eqvAll, Bool.and_eq_true] at h
    rw [hf a b h.1, eqvAll_inj hf h.2]
theorem eqv_row {a b : List Mv} (h : PyData.eqv (rowP a) (rowP b) = true) : a = b := by
  simp only [rowP, PyData.eqv] at h
  exact eqvAll_inj (fun _ _ => eqv_mv) h
theorem eqv_lines {a b : List (List Mv)} (h : PyData.eqv (linesP a) (linesP b) = true) : a = b := by
  simp only [linesP, PyData.eqv] at h
  exact eqvAll_inj (fun _ _ => eqv_row) h
def ruP (w : Wd) : PyData := .tuple [.str (tx w.hs), .str (tx w.cs), linesP w.rows]
theorem py_mv (m : Mv) : (mvD m).py = some (mvP m) := rfl
theorem py_mvs : ∀ r : List Mv, D.pyL (r.map mvD) = some (r.map mvP)
  | [] => rfl
  | m :: r => by
    show (match (mvD m).py, D.pyL (r.map mvD) with | some p, some ps => some (p :: ps) | _, _ => none) = _
    rw [py_mvs r, py_mv]; rfl
theorem py_row (r : List Mv) : (rowD r).py = some (rowP r) := by
  show (D.pyL (r.map mvD)).map PyData.tuple = _
  rw [py_mvs]; rfl
theorem py_rows : ∀ rs : List (List Mv), D.pyL (rs.map rowD) = some (rs.map rowP)
  | [] => rfl
  | r :: rs => by
    show (match (rowD r).py, D.pyL (rs.map rowD) with | some p, some ps => some (p :: ps) | _, _ => none) = _
    rw [py_rows rs, py_row]; rfl
theorem py_lines (rs : List (List Mv)) : (linesD rs).py = some (linesP rs) := by
  show (D.pyL (rs.map rowD)).map PyData.tuple = _
  rw [py_rows]; rfl
theorem row_lay {hs cs : List Nat} {n : Nat} {r : List Mv} (h1 : ∀ c ∈ hs, c ≤ 122) (h2 : ∀ c ∈ cs, c ≤ 122) (ok : ∀ m ∈ r, m.1 ∈ hs ∧ m.2.1 ∈ cs ∧ m.2.2 < n) : PyData.canLayAll0 (r.map mvP) = true ∧ PyData.depthAll (r.map mvP) ≤ 1 := by
  induction r with
  | nil => exact ⟨rfl, by simp [PyData.depthAll]⟩
  | cons m r ih =>
    obtain ⟨a, b⟩ := ih fun x hx => ok x (List.mem_cons_of_mem _ hx)
    obtain ⟨m1, m2, _⟩ := ok m (by simp)
    have e1 : PyData.strOk (one m.1) = true := strOk_of (l := [m.1]) (by intro c hc; obtain rfl := List.mem_singleton.mp hc; exact h1 _ m1)
    have e2 : PyData.strOk (one m.2.1) = true := strOk_of (l := [m.2.1]) (by intro c hc; obtain rfl := List.mem_singleton.mp hc; exact h2 _ m2)
    refine ⟨?_, ?_⟩
    · simp only [List.map_cons, PyData.canLayAll0, mvP, PyData.canLay0, e1, e2, a, Bool.and_self]
    · simp only [List.map_cons, PyData.depthAll, mvP, PyData.depth]
      omega
theorem lines_lay {w : Wd} (hw : WOk w) : PyData.canLayAll0 (w.rows.map rowP) = true ∧ PyData.depthAll (w.rows.map rowP) ≤ 2 := by
  have key : ∀ rs : List (List Mv), (∀ r ∈ rs, RowOk w.hs w.cs w.rows.length r) → PyData.canLayAll0 (rs.map rowP) = true ∧ PyData.depthAll (rs.map rowP) ≤ 2 := by
    intro rs
    induction rs with
    | nil => intro _; exact ⟨rfl, by simp [PyData.depthAll]⟩
    | cons r rs ih =>
      intro h
      obtain ⟨a, b⟩ := ih fun x hx => h x (List.mem_cons_of_mem _ hx)
      obtain ⟨c, d⟩ := row_lay (fun c hc => (hw.hs.abc c hc).2) (fun c hc => (hw.cs.abc c hc).2) (h r (by simp)).mem
      refine ⟨?_, ?_⟩
      · simp only [List.map_cons, PyData.canLayAll0, rowP, PyData.canLay0, c, a, Bool.and_self]
      · simp only [List.map_cons, PyData.depthAll, rowP, PyData.depth]
        omega
  exact key _ hw.rows
theorem ru_lay {w : Wd} (hw : WOk w) : PyData.canLay0 (ruP w) = true ∧ (ruP w).depth ≤ 4 := by
  obtain ⟨a, b⟩ := lines_lay hw
  have e1 := strOk_of (l := w.hs) fun c hc => (hw.hs.abc c hc).2
  have e2 := strOk_of (l := w.cs) fun c hc => (hw.cs.abc c hc).2
  refine ⟨?_, ?_⟩
  · simp only [ruP, PyData.canLay0, PyData.canLayAll0, e1, e2, linesP, a, Bool.and_self]
  · simp only [ruP, PyData.depth, PyData.depthAll, linesP]
    omega
theorem ru_shaped {w : Wd} (hw : WOk w) : SeqAt.shaped (ruP w) = true := by
  obtain ⟨a, b⟩ := ru_lay hw
  simp only [SeqAt.shaped, a, Bool.true_and]
  exact decide_eq_true (by omega)
theorem ru_eqv {w v : Wd} (hw : WOk w) : PyData.eqv (ruP w) (ruP v) = decide (pageL w = pageL v) ∨ ¬ WOk v := by
  by_cases hv : WOk v
  · refine .inl ?_
    by_cases h : pageL w = pageL v
    · obtain rfl := page_inj hw hv h
      rw [SeqAt.eqv_refl _ (ru_lay hw).1]
      exact (decide_eq_true rfl).symm
    · rw [decide_eq_false h]
      refine Bool.eq_false_iff.mpr fun z => h ?_
      simp only [ruP, PyData.eqv, PyData.eqvAll, Bool.and_eq_true, Bool.and_true, beq_iff_eq] at z
      have a1 := tx_inj z.1
      have a2 := tx_inj z.2.1
      have a3 := eqv_lines z.2.2
      have e : w = ⟨w.hs, w.cs, w.rows⟩ := rfl
      rw [e, a1, a2, a3]
  · exact .inr hv
theorem isi_rules {C : Cs} {m : Bool} {w : Wd} {Q : D → List D → Prop} : wF (fIsiC C.Rules) [instD C m w, .ref C.Rules] Q ↔ Q (.bl true) [instD C m w, .any] := by
  refine wF_some ?_ rfl
  simp only [fIsiC, instD, if_true]
theorem ru_py {w : Wd} : (D.nd false .tup [.str (tx w.hs), .str (tx w.cs), linesD w.rows]).py = some (ruP w) := by
  show (D.pyL [D.str (tx w.hs), D.str (tx w.cs), linesD w.rows]).map PyData.tuple = _
  simp only [D.pyL, D.py, py_lines, Option.map_some]
  rfl
theorem rules_eq {C : Cs} {w v : Wd} {m1 m2 : Bool} (hw : WOk w) (hv : WOk v) : Ans (fm_Rules___eq__ C) [instD C m1 w, instD C m2 v] (.bl (decide (pageL w = pageL v))) := by
  refine ans_of (wF_fn rfl ?_)
  unfold m_Rules___eq__
  ac_nf
  rw [fz_inst]
  refine isi_rules.mpr ?_
  ac_nf
  rw [fz_inst]
  refine get_heard.mpr ?_
  ac_nf
  rw [fz_inst]
  refine get_written.mpr ?_
  ac_nf
  rw [fz_inst]
  refine get_rows.mpr ?_
  ac_nf
  rw [fz_inst]
  refine get_heard.mpr ?_
  ac_nf
  rw [fz_inst]
  refine get_written.mpr ?_
  ac_nf
  rw [fz_inst]
  refine get_rows.mpr ?_
  ac_nf
  simp only [fz_lines]
  refine wF_eqD.mpr ⟨_, _, ru_py, ru_py, by rw [ru_shaped hw, ru_shaped hv]; rfl, ?_⟩
  ac_nf
  rcases ru_eqv (v := v) hw with z | z
  · rw [z]
  · exact absurd hv z
theorem eqR {C : Cs} {w v : Wd} {m1 m2 : Bool} {Q : D → List D → Prop} (hw : WOk w) (hv : WOk v) (q : ∀ os, os.length = 2 → Q (.bl (decide (pageL w = pageL v))) os) : wF (fEqA C.Rules (fm_Rules___eq__ C)) [instD C m1 w, instD C m2 v] Q := by
  obtain ⟨os, a, b⟩ := rules_eq (C := C) (m1 := m1) (m2 := m2) hw hv
  refine ⟨_, os, ?_, b, q os b⟩
  have e : fEq [instD C m1 w, instD C m2 v] = none := rfl
  unfold fEqA
  rw [e]
  unfold instD at a ⊢
  simp only [fOwnEq, and_self, if_true, a]
end K02

namespace K02
open PySem L2 VH
/-! led -/
def optN : Option Nat → D
  | none => .non
  | some n => .int n
theorem fz_optN (o : Option Nat) : (optN o).fz = optN o := by cases o <;> rfl
def k2 (h c : Nat) : List Key := [.inr (one h), .inr (one c)]
def nextP (r : List Mv) (h c : Nat) : Option Nat := (kix (r.map kM) (k2 h c)).bind fun j => r[j]?.map (·.2.2)
theorem k2_iff {m : Mv} {h c : Nat} : kM m = k2 h c ↔ m.1 = h ∧ m.2.1 = c := by
  constructor
  · intro e
    exact kM_inj (b := (h, c, 0)) e
  · rintro ⟨rfl, rfl⟩; rfl
theorem next_cons (m : Mv) (r : List Mv) (h c : Nat) : nextP (m :: r) h c = if m.1 = h ∧ m.2.1 = c then some m.2.2 else nextP r h c := by
  unfold nextP
  rw [List.map_cons, kix]
  by_cases e : kM m = k2 h c
  · rw [if_pos e, if_pos (k2_iff.mp e)]; rfl
  · rw [if_neg e, if_neg fun z => e (k2_iff.mpr z)]
    cases kix (r.map kM) (k2 h c) <;> simp
def hitP (h c : Nat) (m : Mv) : Bool := decide (m.1 = h ∧ m.2.1 = c)
theorem next_filter (h c : Nat) : ∀ r : List Mv, nextP r h c = (r.filter (hitP h c)).head?.map (·.2.2)
  | [] => rfl
  | m :: r => by
    rw [next_cons, List.filter_cons, next_filter h c r]
    by_cases e : m.1 = h ∧ m.2.1 = c
    · rw [if_pos e, if_pos (by simpa [hitP] using e)]; rfl
    · rw [if_neg e, if_neg (by simpa [hitP] using e)]
def runP (rows : List (List Mv)) : Nat → List (Nat × Nat) → Option Nat
  | s, [] => some s
  | s, p :: u => (nextP (rows.getD s []) p.1 p.2).bind fun t => runP rows t u
theorem run_app (rows : List (List Mv)) : ∀ (u v : List (Nat × Nat)) (s : Nat), runP rows s (u ++ v) = (runP rows s u).bind fun t => runP rows t v
  | [], v, s => rfl
  | p :: u, v, s => by
    simp only [List.cons_append, runP]
    cases nextP (rows.getD s []) p.1 p.2 with
    | none => rfl
    | some t => exact run_app rows u v t
theorem get_st {m : Bool} {r : List Mv} {h c : Nat} {Q : D → List D → Prop} (q : ∀ os, os.length = 2 → Q (optN (nextP r h c)) os) : wF fGet1U [stD m r, .nd false .tup [.str (one h), .str (one c)]] Q := by
  have hd : dix (stD m r) (.nd false .tup [.str (one h), .str (one c)]) = some (kix (r.map kM) (k2 h c)) := rfl
  have hl : (r.map fun z : Mv => D.int z.2.2).length = r.length := by simp
  cases hk : kix (r.map kM) (k2 h c) with
  | none =>
    have e1 : nextP r h c = none := by unfold nextP; rw [hk]; rfl
    rw [hk] at hd
    have i1 : fDIn false [.nd false .tup [.str (one h), .str (one c)], stD m r] = some (.bl false, [.nd false .tup [.str (one h), .str (one c)], stD m r]) := by
      unfold stD at hd ⊢
      simp only [fDIn, hd, qok, if_true]
      rfl
    have e2 : fGet1U [stD m r, .nd false .tup [.str (one h), .str (one c)]] = some (.non, [stD m r, .nd false .tup [.str (one h), .str (one c)]]) := by
      have : fGet1 (fDIn false) fDGet [stD m r, .nd false .tup [.str (one h), .str (one c)]] = some (.non, [stD m r, .nd false .tup [.str (one h), .str (one c)]]) := by simp only [fGet1, i1]
      have e3 := orF_l (g := fGet1 (fNIn false) fNGet) this
      unfold fGet1U onDct
      unfold stD at e3 ⊢
      simp only [D.isDct, if_true]
      exact e3
    refine (wF_some e2 rfl).mpr ?_
    have := q [stD m r, .nd false .tup [.str (one h), .str (one c)]] rfl
    rw [e1] at this
    exact this
  | some j =>
    have hj := (kix_lt hk).1
    rw [List.length_map] at hj
    have e1 : nextP r h c = some r[j].2.2 := by
      unfold nextP; rw [hk]
      simp [List.getElem?_eq_getElem hj]
    rw [hk] at hd
    have i1 : fDIn false [.nd false .tup [.str (one h), .str (one c)], stD m r] = some (.bl true, [.nd false .tup [.str (one h), .str (one c)], stD m r]) := by
      unfold stD at hd ⊢
      simp only [fDIn, hd, qok, hl, hj, decide_true, if_true]
      rfl
    have hx : (r.map fun z : Mv => D.int z.2.2)[j]? = some (.int r[j].2.2) := by rw [List.getElem?_map, List.getElem?_eq_getElem hj]; rfl
    obtain ⟨os, i2, hos⟩ : ∃ os, fDGet [stD m r, .nd false .tup [.str (one h), .str (one c)]] = some (.int r[j].2.2, os) ∧ os.length = 2 := by
      refine ⟨[.nd m (.dT (r.map kM)) ((r.map fun z => D.int z.2.2).set j (.int r[j].2.2)), .nd false .tup [.str (one h), .str (one c)]], ?_, rfl⟩
      unfold stD at hd ⊢
      simp only [fDGet, hd, hx]
      rfl
    have e2 : fGet1U [stD m r, .nd false .tup [.str (one h), .str (one c)]] = some (.int r[j].2.2, os) := by
      have : fGet1 (fDIn false) fDGet [stD m r, .nd false .tup [.str (one h), .str (one c)]] = some (.int r[j].2.2, os) := by simp only [fGet1, i1, i2]
      have e3 := orF_l (g := fGet1 (fNIn false) fNGet) this
      unfold fGet1U onDct
      unfold stD at e3 ⊢
      simp only [D.isDct, if_true]
      exact e3
    refine (wF_some e2 hos).mpr ?_
    have := q os hos
    rw [e1] at this
    exact this
theorem next_lt {w : Wd} (hw : WOk w) {s h c t : Nat} (e : nextP (w.rows.getD s []) h c = some t) : t < w.rows.length := by
  rw [next_filter] at e
  cases q : ((w.rows.getD s []).filter (hitP h c)) with
  | nil => rw [q] at e; cases e
  | cons m r =>
    rw [q] at e
    cases e
    have hm : m ∈ w.rows.getD s [] := (List.mem_filter.mp (by rw [q]; simp : m ∈ (w.rows.getD s []).filter (hitP h c))).1
    rw [List.getD_eq_getElem?_getD] at hm
    cases q2 : w.rows[s]? with
    | none => rw [q2] at hm; cases hm
    | some r2 =>
      rw [q2] at hm
      exact ((hw.rows r2 (List.mem_of_getElem? q2)).mem m hm).2.2
theorem run_lt {w : Wd} (hw : WOk w) : ∀ {u : List (Nat × Nat)} {s t : Nat}, s < w.rows.length → runP w.rows s u = some t → t < w.rows.length
  | [], s, t, hs, h => by cases h; exact hs
  | p :: u, s, t, hs, h => by
    simp only [runP] at h
    cases q : nextP (w.rows.getD s []) p.1 p.2 with
    | none => rw [q] at h; cases h
    | some t2 =>
      rw [q] at h
      exact run_lt hw (next_lt hw q) h
theorem is_opt {o : Option Nat} {Q : D → List D → Prop} : wF (fIs false) [optN o, .non] Q ↔ Q (.bl o.isNone) [optN o, .any] := by
  cases o
  · exact wF_some rfl rfl
  · exact wF_some rfl rfl
theorem zip_tx {a b : List Nat} {Q : List D → Prop} : wO (gZip [.str (tx a), .str (tx b)]) Q ↔ Q ((a.zip b).map fun p => .nd false .tup [.str (one p.1), .str (one p.2)]) := by
  have e : ∀ a b : List Nat, zipD ((a.map one).map .str) ((b.map one).map .str) = (a.zip b).map fun p => .nd false .tup [.str (one p.1), .str (one p.2)] := by
    intro a
    induction a with
    | nil => intro b; rfl
    | cons x a ih =>
      intro b
      cases b with
      | nil => rfl
      | cons y b => simp only [List.map_cons, zipD, ih, List.zip_cons_cons]
  rw [wO_zip (items_tx a) (items_tx b), e]
theorem led {C : Cs} {w : Wd} {m : Bool} (hw : WOk w) {a b : List Nat} {s : Nat} (hs : s < w.rows.length) (ha : a.length ≤ 1000) (hab : a.length = b.length) : Ans (fm_Rules_led C) [instD C m w, .int s, .str (tx a), .str (tx b)] (optN (runP w.rows s (a.zip b))) := by
  refine ans_of (wF_fn rfl ?_)
  unfold m_Rules_led
  ac_nf
  refine wF_lenS.mpr ⟨tx_fit ha, ?_⟩
  ac_nf
  refine wF_lenS.mpr ⟨tx_fit (by omega), ?_⟩
  ac_nf
  refine neI.mpr ?_
  have e0 : (!(((tx a).length : Int) == (tx b).length)) = false := by
    have : (tx a).length = (tx b).length := hab
    rw [this]; simp
  rw [e0]
  ac_nf
  refine zip_tx.mpr ?_
  refine wL (fun i e => ∃ (t : Nat) (m : Bool) (x5 : Option D), runP w.rows s ((a.zip b).take i) = some t ∧ t < w.rows.length ∧ e = [some (instD C m w), some (.int s), some (.str (tx a)), some (.str (tx b)), some (.int t), x5]) ⟨s, m, none, rfl, hs, rfl⟩ ?_ ?_
  · rintro i d e hd ⟨t, m, x5, ht, htl, rfl⟩
    rw [List.getElem?_map] at hd
    cases q : (a.zip b)[i]? with
    | none => rw [q] at hd; cases hd
    | some p =>
      rw [q] at hd
      cases hd
      have tk : (a.zip b).take (i + 1) = (a.zip b).take i ++ [p] := by rw [List.take_succ, q]; rfl
      have spl : a.zip b = (a.zip b).take (i + 1) ++ (a.zip b).drop (i + 1) := (List.take_append_drop _ _).symm
      have hg : w.rows.getD t [] = w.rows[t] := by rw [List.getD_eq_getElem?_getD, List.getElem?_eq_getElem htl]; rfl
      have st : runP w.rows s ((a.zip b).take (i + 1)) = nextP w.rows[t] p.1 p.2 := by
        rw [tk, run_app, ht]
        simp only [Option.bind_some, runP, hg]
        cases nextP w.rows[t] p.1 p.2 <;> rfl
      ac_nf
      rw [fz_inst]
      refine get_steps.mpr ?_
      ac_nf
      unfold stsD
      refine (ix_at (k := t) (d := stD false w.rows[t]) (by rw [List.getElem?_map, List.getElem?_eq_getElem htl]; rfl) (fz_st false _)).mpr ?_
      ac_nf
      refine get_st fun os hos => ?_
      match os, hos with
      | [o1, o2], _ =>
      ac_nf
      rw [fz_optN]
      refine is_opt.mpr ?_
      ac_nf
      cases qn : nextP w.rows[t] p.1 p.2 with
      | none =>
        have hfull : runP w.rows s (a.zip b) = none := (congrArg (runP w.rows s) spl).trans (by rw [run_app, st, qn]; rfl)
        simp only [Option.isNone_none, if_true]
        ac_nf
        rw [hfull]; rfl
      | some t2 =>
        simp only [Option.isNone_some, Bool.false_eq_true, if_false]
        ac_nf
        rw [qn] at st
        exact ⟨t2, false, _, st, next_lt hw (by rw [hg]; exact qn), rfl⟩
  · rintro e ⟨t, m, x5, ht, htl, rfl⟩
    ac_nf
    rw [List.length_map, List.take_length] at ht
    rw [ht]; rfl
end K02

namespace K02
open PySem L2 VH
theorem eq_pair {x y h c : Nat} {Q : D → List D → Prop} (ok : x ≤ 122 ∧ y ≤ 122 ∧ h ≤ 122 ∧ c ≤ 122) : wF fEq [.nd false .tup [.str (one x), .str (one y)], .nd false .tup [.str (one h), .str (one c)]] Q ↔ Q (.bl (decide (x = h ∧ y = c))) [.nd false .tup [.str (one x), .str (one y)], .nd false .tup [.str (one h), .str (one c)]] := by
  have so : ∀ z, z ≤ 122 → PyData.strOk (one z) = true := fun z hz => strOk_of (l := [z]) fun c hc => by
    obtain rfl := List.mem_singleton.mp hc; exact hz
  have sh : ∀ a b, a ≤ 122 → b ≤ 122 → SeqAt.shaped (.tuple [.str (one a), .str (one b)]) = true := fun a b ha hb => by
    simp only [SeqAt.shaped, PyData.canLay0, PyData.canLayAll0, so a ha, so b hb, PyData.depth, PyData.depthAll, Bool.and_self, Bool.true_and]
    exact decide_eq_true (by omega)
  refine wF_some ?_ rfl
  show (if (SeqAt.shaped (.tuple [.str (one x), .str (one y)]) && SeqAt.shaped (.tuple [.str (one h), .str (one c)])) = true then _ else _) = _
  rw [sh x y ok.1 ok.2.1, sh h c ok.2.2.1 ok.2.2.2]
  have e : PyData.eqv (.tuple [.str (one x), .str (one y)]) (.tuple [.str (one h), .str (one c)]) = decide (x = h ∧ y = c) := by
    simp only [PyData.eqv, PyData.eqvAll, Bool.and_true]
    have b1 : ∀ a b : Nat, (one a == one b) = decide (a = b) := fun a b => by
      rw [show one a = tx [a] from rfl, show one b = tx [b] from rfl, beq_tx]
      exact decide_eq_decide.mpr ⟨fun z => (List.cons.inj z).1, fun z => by rw [z]⟩
    rw [b1, b1]
    simp
  show some (D.bl (PyData.eqv (.tuple [.str (one x), .str (one y)]) (.tuple [.str (one h), .str (one c)])), _) = _
  rw [e]
theorem eq_nilI {l : List Int} {m : Bool} {Q : D → List D → Prop} (q : ∀ os, os.length = 2 → Q (.bl (decide (l = []))) os) : wF fEq [.nd m .lst (l.map .int), .nd true .lst []] Q := by
  refine wF_eqD.mpr ⟨.list (l.map .int), .list [], ?_, rfl, ?_, ?_⟩
  · show (D.pyL _).map PyData.list = _
    rw [py_ints]; rfl
  · rw [shp_ints]; rfl
  · have e : PyData.eqv (.list (l.map .int)) (.list []) = decide (l = []) := by cases l <;> rfl
    rw [e]
    exact q _ rfl
theorem law_led {C : Cs} {w : Wd} {m : Bool} (hw : WOk w) {a b : List Nat} {s : Nat} (hs : s < w.rows.length) (ha : a.length ≤ 1000) (hab : a.length = b.length) (oa : ∀ c ∈ a, c ≤ 122) (ob : ∀ c ∈ b, c ≤ 122) : Ans (fm__law_led C) [wD m w, .int s, .str (tx a), .str (tx b)] (optN (runP w.rows s (a.zip b))) := by
  refine ans_of (wF_fn rfl ?_)
  unfold m__law_led
  ac_nf
  refine wF_lenS.mpr ⟨tx_fit ha, ?_⟩
  ac_nf
  refine wF_lenS.mpr ⟨tx_fit (by omega), ?_⟩
  ac_nf
  refine neI.mpr ?_
  have e0 : (!(((tx a).length : Int) == (tx b).length)) = false := by
    have : (tx a).length = (tx b).length := hab
    rw [this]; simp
  rw [e0]
  ac_nf
  refine zip_tx.mpr ?_
  refine wL (fun i e => ∃ (t : Nat) (m : Bool) (x4 x5 x6 : Option D), runP w.rows s ((a.zip b).take i) = some t ∧ t < w.rows.length ∧ e = [some (wD m w), some (.int t), some (.str (tx a)), some (.str (tx b)), x4, x5, x6, none, none, none]) ⟨s, m, none, none, none, rfl, hs, rfl⟩ ?_ ?_
  · rintro i d e hd ⟨t, m, x4, x5, x6, ht, htl, rfl⟩
    rw [List.getElem?_map] at hd
    cases q : (a.zip b)[i]? with
    | none => rw [q] at hd; cases hd
    | some p =>
      rw [q] at hd
      cases hd
      have hmem := List.of_mem_zip (List.mem_of_getElem? q)
      have tk : (a.zip b).take (i + 1) = (a.zip b).take i ++ [p] := by rw [List.take_succ, q]; rfl
      have spl : a.zip b = (a.zip b).take (i + 1) ++ (a.zip b).drop (i + 1) := (List.take_append_drop _ _).symm
      have hg : w.rows.getD t [] = w.rows[t] := by rw [List.getD_eq_getElem?_getD, List.getElem?_eq_getElem htl]; rfl
      have st : runP w.rows s ((a.zip b).take (i + 1)) = nextP w.rows[t] p.1 p.2 := by
        rw [tk, run_app, ht]
        simp only [Option.bind_some, runP, hg]
        cases nextP w.rows[t] p.1 p.2 <;> rfl
      have ok := hw.rows _ (List.getElem_mem htl)
      have r9 := row9 hw (List.getElem_mem htl)
      ac_nf
      rw [fz_w]
      refine get_lines.mpr ?_
      ac_nf
      refine (ix_row (by omega) (by rw [Int.toNat_natCast]; exact List.getElem?_eq_getElem htl)).mpr ?_
      ac_nf
      refine it_row.mpr ?_
      refine wC (fun j ys e => ys = ((w.rows[t].take j).filter (hitP p.1 p.2)).map (fun z => D.int z.2.2) ∧ e = [some (wD false w), some (.int t), some (.str (tx a)), some (.str (tx b)), some (.str (one p.1)), some (.str (one p.2)), x6, none, none, none]) ⟨rfl, rfl⟩ ?_ ?_
      · rintro j y ys e hy ⟨rfl, rfl⟩
        obtain ⟨mv, hmv, rfl⟩ := mem_mvs hy
        have tk2 : w.rows[t].take (j + 1) = w.rows[t].take j ++ [mv] := by rw [List.take_succ, hmv]; rfl
        obtain ⟨m1, m2, _⟩ := ok.mem mv (List.mem_of_getElem? hmv)
        unfold mvD
        ac_nf
        refine (eq_pair ⟨(hw.hs.abc _ m1).2, (hw.cs.abc _ m2).2, oa _ hmem.1, ob _ hmem.2⟩).mpr ?_
        ac_nf
        split
        · rename_i hh
          ac_nf
          refine ⟨?_, by trivial⟩
          rw [tk2, List.filter_append, List.map_append]
          have : [mv].filter (hitP p.1 p.2) = [mv] := by
            simp only [List.filter_cons, List.filter_nil]
            rw [if_pos (show hitP p.1 p.2 mv = true from hh)]
          rw [this]; rfl
        · rename_i hh
          ac_nf
          refine ⟨?_, by trivial⟩
          rw [tk2, List.filter_append]
          have : [mv].filter (hitP p.1 p.2) = [] := by
            simp only [List.filter_cons, List.filter_nil]
            rw [if_neg (show ¬ hitP p.1 p.2 mv = true from hh)]
          rw [this, List.append_nil]
      · rintro ys e ⟨rfl, rfl⟩
        have htk : w.rows[t].take (w.rows[t].map mvD).length = w.rows[t] := by rw [List.length_map, List.take_length]
        rw [htk]
        have hfl := List.length_filter_le (hitP p.1 p.2) w.rows[t]
        refine ⟨by simp only [List.length_map, sizeLine]; omega, ?_⟩
        have hmm : ((w.rows[t].filter (hitP p.1 p.2)).map fun z : Mv => D.int z.2.2) = ((w.rows[t].filter (hitP p.1 p.2)).map fun z : Mv => (z.2.2 : Int)).map .int := by rw [List.map_map]; rfl
        rw [hmm]
        ac_nf
        refine eq_nilI fun os hos => ?_
        match os, hos with
        | [o1, o2], _ =>
        ac_nf
        have nf := next_filter p.1 p.2 w.rows[t]
        cases hf : w.rows[t].filter (hitP p.1 p.2) with
        | nil =>
          rw [hf] at nf
          have hfull : runP w.rows s (a.zip b) = none := (congrArg (runP w.rows s) spl).trans (by rw [run_app, st, nf]; rfl)
          simp only [List.map_nil, decide_true, if_true]
          ac_nf
          rw [hfull]; rfl
        | cons m0 r0 =>
          rw [hf] at nf
          have hd0 : decide (((m0 :: r0).map fun z : Mv => (z.2.2 : Int)) = []) = false := decide_eq_false (by simp)
          rw [hd0]
          simp only [Bool.false_eq_true, if_false]
          ac_nf
          refine (ix_at (k := 0) (d := .int m0.2.2) rfl rfl).mpr ?_
          ac_nf
          rw [nf] at st
          exact ⟨m0.2.2, false, _, _, _, st, next_lt hw (by rw [hg]; exact nf), rfl⟩
  · rintro e ⟨t, m, x4, x5, x6, ht, htl, rfl⟩
    ac_nf
    rw [List.length_map, List.take_length] at ht
    rw [ht]; rfl
end K02

namespace K02
open PySem L2 VH
/-! texts -/
theorem sum_lists {m : Bool} {xs : List D} {yss : List (List D)} {Q : D → List D → Prop} (h : listsD xs = some yss) (hz : yss.flatten.length ≤ sizeLine) : wF fSumL [.nd m .lst xs, .nd true .lst []] Q ↔ Q (.nd true .lst yss.flatten) [.any, .any] := by
  refine wF_some ?_ rfl
  simp only [fSumL, h, List.nil_append, hz, if_true]
  cases yss <;> rfl
theorem texts {C : Cs} {s : List Nat} (hs : s.length ≤ 3) (ha : ∀ c ∈ s, c ≤ 122) : wF (fm__law_texts C) [.str (tx s), .int 2] fun r os => ∃ l : List (List Nat), r = .nd false .lst (l.map fun u => D.str (tx u)) ∧ l.length ≤ 200 ∧ ∀ u ∈ l, u.length ≤ 2 ∧ ∀ c ∈ u, c ∈ s := by
  refine wF_fn rfl ?_
  unfold m__law_texts
  ac_nf
  refine range_if.mpr ⟨by omega, ?_⟩
  have rl : (rangeD 0 (2 : Int).toNat).length = 2 := range_len _ _
  refine wL (fun i e => ∃ (l g : List (List Nat)) (m m2 : Bool) (x4 x5 x6 : Option D), e = [some (.str (tx s)), some (.int 2), some (.nd m .lst (l.map fun u => D.str (tx u))), some (.nd m2 .lst (g.map fun u => D.str (tx u))), x4, x5, x6] ∧ i ≤ 2 ∧ g.length ≤ 3 ^ i ∧ l.length ≤ 40 * (i + 1) ∧ (∀ u ∈ g, u.length ≤ i ∧ ∀ c ∈ u, c ∈ s) ∧ ∀ u ∈ l, u.length ≤ i ∧ ∀ c ∈ u, c ∈ s) ⟨[[]], [[]], true, true, none, none, none, rfl, by omega, by simp, by simp, by simp, by simp⟩ ?_ ?_
  · rintro i d e hd ⟨l, g, m, m2, x4, x5, x6, rfl, hi, hg, hl, ag, al⟩
    have hlt : i < 2 := by rw [← rl]; exact lt_of hd
    have g27 : g.length ≤ 9 := by
      have : i = 0 ∨ i = 1 := by omega
      rcases this with rfl | rfl <;> simp at hg <;> omega
    have fzg : ∀ g : List (List Nat), D.fzL (g.map fun u => D.str (tx u)) = g.map fun u => D.str (tx u) := fun g => by
      rw [D.fzL_map, List.map_map]; rfl
    ac_nf
    simp only [fzg]
    refine wC (fun k ys e => ys = (g.take k).map (fun u => D.nd true .lst (s.map fun c => D.str (tx (u ++ [c])))) ∧ ∃ x6 : Option D, e = [some (.str (tx s)), some (.int 2), some (.nd m .lst (l.map fun u => D.str (tx u))), some (.nd false .lst (g.map fun u => D.str (tx u))), some d, none, x6]) ⟨rfl, x6, rfl⟩ ?_ ?_
    · rintro k y ys e hy ⟨rfl, x6, rfl⟩
      obtain ⟨u, hu, rfl⟩ : ∃ u, g[k]? = some u ∧ y = .str (tx u) := by
        rw [List.getElem?_map] at hy
        cases q : g[k]? with
        | none => rw [q] at hy; cases hy
        | some u => rw [q] at hy; cases hy; exact ⟨u, rfl, rfl⟩
      have tk : g.take (k + 1) = g.take k ++ [u] := by rw [List.take_succ, hu]; rfl
      have au := ag u (List.mem_of_getElem? hu)
      ac_nf
      try simp only [if_true]
      ac_nf
      refine it_tx.mpr ?_
      refine wC (fun j ys e => ys = (s.take j).map (fun c => D.str (tx (u ++ [c]))) ∧ e = [some (.str (tx s)), some (.int 2), some (.nd m .lst (l.map fun u => D.str (tx u))), some (.nd false .lst (g.map fun u => D.str (tx u))), some d, some (.str (tx u)), none]) ⟨rfl, rfl⟩ ?_ ?_
      · rintro j y ys e hy ⟨rfl, rfl⟩
        obtain ⟨c, hc, rfl⟩ := mem_ones hy
        have tk2 : s.take (j + 1) = s.take j ++ [c] := by rw [List.take_succ, hc]; rfl
        ac_nf
        try simp only [if_true]
        ac_nf
        refine wF_addS.mpr ⟨by show u.length + 1 ≤ 16777216; omega, ?_⟩
        ac_nf
        rw [show tx u ++ one c = tx (u ++ [c]) from tx_app u [c]]
        exact ⟨by rw [tk2]; simp, by trivial⟩
      · rintro ys e ⟨rfl, rfl⟩
        simp only [List.length_map, List.take_length]
        refine ⟨by simp only [List.length_map, sizeLine]; omega, ?_⟩
        bv_omega
        refine ⟨?_, none, by trivial⟩
        rw [tk, List.map_append]
        have : ∀ s : List Nat, D.fzL (s.map fun c => D.str (tx (u ++ [c]))) = s.map fun c => D.str (tx (u ++ [c])) := fun s => by
          rw [D.fzL_map, List.map_map]; rfl
        rfl
    · rintro ys e ⟨rfl, x6, rfl⟩
      simp only [List.length_map, List.take_length]
      refine ⟨by simp only [sizeLine]; omega, ?_⟩
      ac_nf
      have hls : ∀ g : List (List Nat), listsD (g.map fun u => D.nd true .lst (s.map fun c => D.str (tx (u ++ [c])))) = some (g.map fun u => s.map fun c => D.str (tx (u ++ [c]))) := by
        intro g
        induction g with
        | nil => rfl
        | cons u g ih => simp only [List.map_cons, listsD, ih, Option.map_some]
      have hfl : (g.map fun u => s.map fun c => D.str (tx (u ++ [c]))).flatten = (g.flatMap fun u => s.map fun c => u ++ [c]).map fun u => D.str (tx u) := by
        rw [List.map_flatMap]
        simp only [List.map_map, List.flatMap]
        rfl
      have fll : ∀ g : List (List Nat), (g.flatMap fun u => s.map fun c => u ++ [c]).length = g.length * s.length := by
        intro g
        induction g with
        | nil => simp
        | cons u g ih => simp only [List.flatMap_cons, List.length_append, List.length_map, ih, List.length_cons, Nat.add_mul]; omega
      have hz : (g.flatMap fun u => s.map fun c => u ++ [c]).length ≤ 27 := by
        rw [fll]
        exact Nat.le_trans (Nat.mul_le_mul g27 hs) (by decide)
      refine (sum_lists (hls g) (by rw [hfl, List.length_map, sizeLine]; omega)).mpr ?_
      rw [hfl]
      ac_nf
      simp only [fzg]
      refine wF_addL.mpr ⟨by simp only [List.length_map, sizeLine]; omega, ?_⟩
      ac_nf
      refine ⟨l ++ g.flatMap (fun u => s.map fun c => u ++ [c]), g.flatMap fun u => s.map fun c => u ++ [c], true, false, some d, none, x6, by simp, by omega, ?_, ?_, ?_, ?_⟩
      · rw [fll, Nat.pow_succ]
        exact Nat.mul_le_mul hg hs
      · rw [List.length_append]; omega
      · intro v hv
        obtain ⟨u, hu, hv⟩ := List.mem_flatMap.mp hv
        obtain ⟨c, hc, rfl⟩ := List.mem_map.mp hv
        have := ag u hu
        refine ⟨by simp; omega, fun b hb => ?_⟩
        rcases List.mem_append.mp hb with z | z
        · exact this.2 b z
        · obtain rfl := List.mem_singleton.mp z
          exact hc
      · intro v hv
        rcases List.mem_append.mp hv with hv | hv
        · have := al v hv
          exact ⟨by omega, this.2⟩
        · obtain ⟨u, hu, hv⟩ := List.mem_flatMap.mp hv
          obtain ⟨c, hc, rfl⟩ := List.mem_map.mp hv
          have := ag u hu
          refine ⟨by simp; omega, fun b hb => ?_⟩
          rcases List.mem_append.mp hb with z | z
          · exact this.2 b z
          · obtain rfl := List.mem_singleton.mp z
            exact hc
  · rintro e ⟨l, g, m, m2, x4, x5, x6, rfl, hi, hg, hl, ag, al⟩
    rw [rl] at hl al
    ac_nf
    refine ⟨l, ?_, by omega, al⟩
    rw [D.fzL_map, List.map_map]; rfl
end K02

namespace K02
open PySem L2 VH
theorem wF.monoL {fm : List D → Option (D × List D)} {ds : List D} {Q Q' : D → List D → Prop} (h : wF fm ds Q) (k : ∀ a e, e.length = ds.length → Q a e → Q' a e) : wF fm ds Q' := let ⟨a, e, h1, h2, h3⟩ := h; ⟨a, e, h1, h2, k a e h2 h3⟩
/-! signs of a page -/
theorem nl_le {n c : Nat} (h : n < 1000) (hc : c ∈ nl n) : c ≤ 122 := by have := (num_ok h).dig c hc; omega
theorem line_le {s : Nat} {m : Mv} (h1 : s < 1000) (h2 : m.1 ≤ 122) (h3 : m.2.1 ≤ 122) (h4 : m.2.2 < 1000) : ∀ c ∈ lineL s m, c ≤ 122 := by
  intro c hc
  rw [← line_eq] at hc
  simp only [List.mem_append, List.mem_cons, List.not_mem_nil, or_false] at hc
  rcases hc with (rfl | rfl | rfl | rfl) | rfl | hc | rfl | rfl | rfl | rfl | rfl | hc
  all_goals first | omega | exact nl_le h1 hc | exact nl_le h4 hc
theorem head_le {w : Wd} (hw : WOk w) : ∀ c ∈ headL w, c ≤ 122 := by
  intro c hc
  have := hw.l5
  rw [← head_eq] at hc
  simp only [List.mem_append, List.mem_cons, List.not_mem_nil, or_false] at hc
  rcases hc with (rfl | rfl | rfl | rfl | rfl) | rfl | hc | rfl | hc | rfl | hc
  all_goals first | omega | exact (hw.hs.abc c hc).2 | exact (hw.cs.abc c hc).2 | exact nl_le (by omega) hc
theorem mem_join {a : List Nat} : ∀ {l : List (List Nat)} {c : Nat}, c ∈ TL.joinL a l → c ∈ a ∨ ∃ u ∈ l, c ∈ u
  | [], c, h => by cases h
  | [u], c, h => .inr ⟨u, by simp, h⟩
  | u :: v :: l, c, h => by
    simp only [TL.joinL, List.mem_append] at h
    rcases h with h | h | h
    · exact .inr ⟨u, by simp, h⟩
    · exact .inl h
    · rcases mem_join h with z | ⟨x, hx, z⟩
      · exact .inl z
      · exact .inr ⟨x, List.mem_cons_of_mem _ hx, z⟩
theorem page_le {w : Wd} (hw : WOk w) : ∀ c ∈ pageL w, c ≤ 122 := by
  intro c hc
  rcases mem_join hc with z | ⟨u, hu, z⟩
  · have := List.mem_singleton.mp z; omega
  · rcases List.mem_cons.mp hu with rfl | hu
    · exact head_le hw c z
    · obtain ⟨p, hp, rfl⟩ := List.mem_map.mp hu
      obtain ⟨a1, a2, a3, a4⟩ := nums_ok hw hp
      have := hw.l5
      exact line_le (by omega) (hw.hs.abc _ a2).2 (hw.cs.abc _ a3).2 (by omega) c z
theorem page_ok {w : Wd} (hw : WOk w) : PyData.strOk (tx (pageL w)) = true := strOk_of (page_le hw)
theorem ne_two {z : Str} {m n : Bool} {Q : D → List D → Prop} (h : PyData.strOk z = true) (q : ∀ os, os.length = 2 → Q (.bl false) os) : wF fNe [.nd m .lst [.str z, .str z], .nd n .lst [.str z, .str z]] Q := by
  have sh : SeqAt.shaped (.list [.str z, .str z]) = true := by
    simp only [SeqAt.shaped, PyData.canLay0, PyData.canLayAll0, h, PyData.depth, PyData.depthAll, Bool.and_self, Bool.true_and]
    exact decide_eq_true (by omega)
  have e : fNe [.nd m .lst [.str z, .str z], .nd n .lst [.str z, .str z]] = some (.bl false, [.nd m .lst [.str z, .str z], .nd n .lst [.str z, .str z]]) := by
    show (if (SeqAt.shaped (.list [.str z, .str z]) && SeqAt.shaped (.list [.str z, .str z])) = true then _ else _) = _
    rw [sh]
    have e2 : PyData.eqv (.list [.str z, .str z]) (.list [.str z, .str z]) = true := by simp [PyData.eqv, PyData.eqvAll]
    show some (D.bl (!PyData.eqv (.list [.str z, .str z]) (.list [.str z, .str z])), _) = _
    rw [e2]; rfl
  exact (wF_some e rfl).mpr (q _ rfl)
/-! what repr tells of rules -/
theorem sh_num {n : Nat} (h : n < 1000) : Sh 3 0 (.int n) := by
  have hs : (PyData.int (n : Int)).shown = numS n := by rw [PyData.shown]; rfl
  refine ⟨?_, ?_, ?_, by simp [PyData.depth]⟩
  · rw [hs]
    intro c hc
    have : c ∈ nl n := by simpa [nl] using hc
    have := (num_ok h).dig c this
    omega
  · rw [hs]
    have := nl_len h
    have e : (numS n).length = (nl n).length := by simp [nl, Str.length]
    omega
  · simpa [PyData.showable] using log_small h
theorem plain_tx {l : List Nat} (h : ∀ c ∈ l, 97 ≤ c ∧ c ≤ 122) : PlainS (tx l) := fun c hc => .inr (by have := h c hc; omega)
theorem sh_mv {m : Mv} (h1 : 97 ≤ m.1 ∧ m.1 ≤ 122) (h2 : 97 ≤ m.2.1 ∧ m.2.1 ≤ 122) (h3 : m.2.2 < 1000) : Sh 21 1 (mvP m) := by
  refine (sh_tuple (n := 4) (d := 0) ?_).le (by simp) (by omega)
  intro x hx
  simp only [List.mem_cons, List.not_mem_nil, or_false] at hx
  rcases hx with rfl | rfl | rfl
  · exact sh_str (plain_tx (l := [m.1]) fun c hc => by obtain rfl := List.mem_singleton.mp hc; exact h1)
  · exact sh_str (plain_tx (l := [m.2.1]) fun c hc => by obtain rfl := List.mem_singleton.mp hc; exact h2)
  · exact (sh_num h3).le (by omega) (by omega)
theorem sh_row {w : Wd} (hw : WOk w) {r : List Mv} (hr : r ∈ w.rows) : Sh 210 2 (rowP r) := by
  have r9 := row9 hw hr
  have l5 := hw.l5
  refine (sh_tuple (n := 21) (d := 1) ?_).le (by rw [List.length_map]; omega) (by omega)
  intro x hx
  obtain ⟨m, hm, rfl⟩ := List.mem_map.mp hx
  obtain ⟨a1, a2, a3⟩ := (hw.rows r hr).mem m hm
  exact sh_mv (hw.hs.abc _ a1) (hw.cs.abc _ a2) (by omega)
theorem sh_lines {w : Wd} (hw : WOk w) : Sh 300000 3 (linesP w.rows) := by
  have l5 := hw.l5
  refine (sh_tuple (n := 210) (d := 2) ?_).le (by rw [List.length_map]; omega) (by omega)
  intro x hx
  obtain ⟨r, hr, rfl⟩ := List.mem_map.mp hx
  exact sh_row hw hr
theorem sh_ru {w : Wd} (hw : WOk w) : Sh 1000000 4 (.list [.str (tx w.hs), .str (tx w.cs), linesP w.rows]) := by
  have a1 := hw.hs.len
  have a2 := hw.cs.len
  refine (sh_list (n := 300000) (d := 3) ?_).le (by simp) (by omega)
  intro x hx
  simp only [List.mem_cons, List.not_mem_nil, or_false] at hx
  rcases hx with rfl | rfl | rfl
  · exact (sh_str (plain_tx hw.hs.abc)).le (by show 2 * w.hs.length + 2 ≤ _; omega) (by omega)
  · exact (sh_str (plain_tx hw.cs.abc)).le (by show 2 * w.cs.length + 2 ≤ _; omega) (by omega)
  · exact sh_lines hw
theorem repr_ru {w : Wd} (hw : WOk w) {m : Bool} {Q : D → List D → Prop} : wF fRepr [.nd m .lst [.str (tx w.hs), .str (tx w.cs), linesD w.rows]] Q ↔ Q (.str (PyData.list [.str (tx w.hs), .str (tx w.cs), linesP w.rows]).shown) [.nd m .lst [.str (tx w.hs), .str (tx w.cs), linesD w.rows]] := by
  have hp : (D.nd m .lst [.str (tx w.hs), .str (tx w.cs), linesD w.rows]).py = some (.list [.str (tx w.hs), .str (tx w.cs), linesP w.rows]) := by
    show (D.pyL [.str (tx w.hs), .str (tx w.cs), linesD w.rows]).map PyData.list = _
    simp only [D.pyL, D.py, py_lines, Option.map_some]
  exact repr_list hp (sh_ru hw) (by omega) (by omega)
theorem ne_opt {o : Option Nat} {Q : D → List D → Prop} (q : ∀ os, os.length = 2 → Q (.bl false) os) : wF fNe [optN o, optN o] Q := by
  cases o with
  | none => exact (wF_some (fm := fNe) (ds := [.non, .non]) (d := .bl false) (os := [.non, .non]) rfl rfl).mpr (q _ rfl)
  | some n =>
    refine neI.mpr ?_
    rw [beq_self_eq_true]
    exact q _ rfl
theorem mem_txs {l : List (List Nat)} {i : Nat} {d : D} (h : (l.map fun u => D.str (tx u))[i]? = some d) : ∃ c, l[i]? = some c ∧ d = .str (tx c) := by
  rw [List.getElem?_map] at h
  cases q : l[i]? with
  | none => rw [q] at h; cases h
  | some c => rw [q] at h; cases h; exact ⟨c, rfl, rfl⟩
theorem fzL_txs (l : List (List Nat)) : D.fzL (l.map fun u => D.str (tx u)) = l.map fun u => D.str (tx u) := by rw [D.fzL_map, List.map_map]; rfl
theorem len_tx {l : List Nat} {Q : D → List D → Prop} (h : l.length ≤ 1000) : wF fLen [.str (tx l)] Q ↔ Q (.int l.length) [.str (tx l)] := by
  rw [wF_lenS]
  have : (tx l).length ≤ sizeLine := by show l.length ≤ 16777216; omega
  exact ⟨fun h => h.2, fun h => ⟨this, h⟩⟩
theorem cut_txt {l : List Nat} {Q : D → Prop} (h : l.length ≤ 1000) : wO (gCut none (some 2) (.str (tx l))) Q ↔ Q (.str (tx (l.take 2))) := by
  have c1 : gCut none (some 2) (.str (tx l)) = some (.str (tx (l.take 2))) := by
    show (if (tx l).length ≤ sizeLine then some (D.str (cutS (tx l) none (some 2))) else none) = _
    rw [if_pos (tx_fit h), cutS_tx]
    have : cutL l none (some 2) = l.take 2 := by
      simp only [cutL, HT.sIx]
      rw [if_neg (by omega), List.drop_zero]
      by_cases z : 2 ≤ l.length
      · congr 1
        show min 2 l.length - 0 = 2
        omega
      · rw [List.take_of_length_le (by show l.length ≤ min 2 l.length - 0; omega), List.take_of_length_le (by omega)]
    rw [this]
  rw [c1]; exact wO_some
theorem right {C : Cs} {w : Wd} (hw : WOk w) (m : Bool) : Ans (fm__law_right C) [wD m w, .int 2] (.bl true) := by
  have l5 := hw.l5
  have a1 := hw.hs.len
  have a2 := hw.cs.len
  have ok := page_ok hw
  refine ans_of (wF_fn rfl ?_)
  unfold m__law_right
  ac_nf
  rw [fz_w]
  refine (code hw).wF fun os hos => ?_
  match os, hos with
  | [o1], _ =>
  ac_nf
  rw [fz_w]
  refine (written hw).wF fun os hos => ?_
  match os, hos with
  | [o1], _ =>
  ac_nf
  rw [fz_inst]
  refine strR hw fun os hos => ?_
  match os, hos with
  | [o1], _ =>
  ac_nf
  rw [fz_inst]
  refine strR hw fun os hos => ?_
  match os, hos with
  | [o1], _ =>
  ac_nf
  refine ne_two ok fun os hos => ?_
  match os, hos with
  | [o1, o2], _ =>
  ac_nf
  refine (read hw).wF fun os hos => ?_
  match os, hos with
  | [o1, o2], _ =>
  ac_nf
  refine (read hw).wF fun os hos => ?_
  match os, hos with
  | [o1, o2], _ =>
  ac_nf
  simp only [fz_inst]
  refine wL (fun i e => ∃ (x4 : Option D), e = [some (wD false w), some (.int 2), some (instD C false w), some (.str (tx (pageL w))), x4, none, none]) ⟨none, rfl⟩ ?_ ?_
  · rintro i d e hd ⟨x4, rfl⟩
    obtain rfl : d = instD C false w := by
      match i, hd with
      | 0, hd => exact (Option.some.inj hd).symm
      | 1, hd => exact (Option.some.inj hd).symm
      | k + 2, hd => simp at hd
    ac_nf
    rw [fz_inst]
    refine isi_rules.mpr ?_
    ac_nf
    rw [fz_inst]
    refine eqR hw hw fun os hos => ?_
    match os, hos with
    | [o1, o2], _ =>
    rw [decide_eq_true (rfl : pageL w = pageL w)]
    ac_nf
    rw [fz_inst]
    refine strR hw fun os hos => ?_
    match os, hos with
    | [o1], _ =>
    ac_nf
    refine (ne_strs ok ok).mpr ?_
    rw [beq_self_eq_true]
    ac_nf
    rw [fz_inst]
    refine lenR hw fun os hos => ?_
    match os, hos with
    | [o1], _ =>
    ac_nf
    rw [fz_w]
    refine get_lines.mpr ?_
    ac_nf
    refine len_lines.mpr ?_
    ac_nf
    refine neI.mpr ?_
    rw [beq_self_eq_true]
    ac_nf
    rw [fz_inst]
    refine get_heard.mpr ?_
    ac_nf
    rw [fz_inst]
    refine get_written.mpr ?_
    ac_nf
    rw [fz_inst]
    refine get_rows.mpr ?_
    ac_nf
    refine (repr_ru hw).mpr ?_
    ac_nf
    rw [fz_w]
    refine get_hs.mpr ?_
    ac_nf
    rw [fz_w]
    refine get_cs.mpr ?_
    ac_nf
    rw [fz_w]
    refine get_lines.mpr ?_
    ac_nf
    refine (repr_ru hw).mpr ?_
    ac_nf
    refine (ne_same (sh_ru hw).asc).mpr ?_
    ac_nf
    exact ⟨_, rfl⟩
  · rintro e ⟨x4, rfl⟩
    ac_nf
    refine (read hw).wF fun os hos => ?_
    match os, hos with
    | [o1, o2], _ =>
    ac_nf
    rw [fz_w]
    refine get_hs.mpr ?_
    ac_nf
    refine (cut_txt (by omega)).mpr ?_
    ac_nf
    have th : (w.hs.take 2).length ≤ 3 := by simp; omega
    have tc : (w.cs.take 2).length ≤ 3 := by simp; omega
    refine wF.monoL (texts th fun c hc => (hw.hs.abc c (List.mem_of_mem_take hc)).2) ?_
    rintro _ os hos ⟨l, rfl, hl, al⟩
    match os, hos with
    | [o1, o2], _ =>
    ac_nf
    rw [fzL_txs]
    refine wL (fun i e => ∃ (mm : Bool) (x5 x6 : Option D), e = [some (wD false w), some (.int 2), some (instD C false w), some (.str (tx (pageL w))), some (instD C mm w), x5, x6]) ⟨true, none, none, rfl⟩ ?_ ?_
    · rintro i d e hd ⟨mm, x5, x6, rfl⟩
      obtain ⟨u, hu, rfl⟩ := mem_txs hd
      obtain ⟨u2, uc⟩ := al u (List.mem_of_getElem? hu)
      ac_nf
      rw [fz_w]
      refine get_cs.mpr ?_
      ac_nf
      refine (cut_txt (by omega)).mpr ?_
      ac_nf
      refine wF.monoL (texts tc fun c hc => (hw.cs.abc c (List.mem_of_mem_take hc)).2) ?_
      rintro _ os hos ⟨l2, rfl, hl2, al2⟩
      match os, hos with
      | [o1, o2], _ =>
      ac_nf
      rw [fzL_txs]
      refine wL (fun i e => ∃ (mm : Bool) (x6 : Option D), e = [some (wD false w), some (.int 2), some (instD C false w), some (.str (tx (pageL w))), some (instD C mm w), some (.str (tx u)), x6]) ⟨mm, x6, rfl⟩ ?_ ?_
      · rintro i d e hd ⟨mm, x6, rfl⟩
        obtain ⟨v, hv, rfl⟩ := mem_txs hd
        obtain ⟨v2, vc⟩ := al2 v (List.mem_of_getElem? hv)
        ac_nf
        refine (len_tx (by omega)).mpr ?_
        ac_nf
        refine (len_tx (by omega)).mpr ?_
        ac_nf
        refine eqI.mpr ?_
        by_cases huv : u.length = v.length
        · rw [show (((u.length : Nat) : Int) == v.length) = true by rw [huv]; exact beq_self_eq_true _]
          ac_nf
          rw [fz_inst]
          unfold instD
          refine (wF_meth (by decide +kernel)).mpr ?_
          refine (led (m := false) hw (a := u) (b := v) (s := 0) (by have := hw.l0; omega) (by omega) huv).wF fun os hos => ?_
          match os, hos with
          | [o1, o2, o3, o4], _ =>
          ac_nf
          rw [fz_w]
          refine (law_led hw (a := u) (b := v) (s := 0) (by have := hw.l0; omega) (by omega) huv (fun c hc => (hw.hs.abc c (List.mem_of_mem_take (uc c hc))).2) (fun c hc => (hw.cs.abc c (List.mem_of_mem_take (vc c hc))).2)).wF fun os hos => ?_
          match os, hos with
          | [o1, o2, o3, o4], _ =>
          ac_nf
          refine ne_opt fun os hos => ?_
          match os, hos with
          | [o1, o2], _ =>
          ac_nf
          exact ⟨false, _, rfl⟩
        · rw [show (((u.length : Nat) : Int) == v.length) = false from beq_eq_false_iff_ne.mpr (by omega)]
          ac_nf
          exact ⟨mm, _, rfl⟩
      · rintro e ⟨mm, x6, rfl⟩
        ac_nf
        exact ⟨mm, _, _, rfl⟩
    · rintro e ⟨mm, x5, x6, rfl⟩
      ac_nf
end K02

namespace K02
open PySem L2 VH
theorem worldR {C : Cs} {d : D} {b : Nat} {tot : Bool} {Q : D → List D → Prop} (hd : DeckOk (b + 1000) d) (k : ∀ w d', WOk w → DeckOk b d' → Q (wD false w) [d', .any, .any]) : wF (fm__law_world C) [d, .int 5, .bl tot] Q :=
  (world hd).mono fun _ _ ⟨w, d', e1, a, t, e2, hd'⟩ => by subst e1; subst e2; exact k w d' a hd'
theorem cut_from {α : Type} {l : List α} {i : Int} (h : 0 ≤ i) : cutL l (some i) none = l.drop i.toNat := by
  simp only [cutL, HT.sIx]
  rw [if_neg (by omega)]
  by_cases z : i.toNat ≤ l.length
  · have : min i.toNat l.length = i.toNat := by omega
    rw [this, List.take_of_length_le (by simp)]
  · rw [List.drop_of_length_le (by omega), List.drop_of_length_le (by omega)]
    simp
theorem cut_lines_from {r : List (List Mv)} {i : Int} (h : 0 ≤ i) {Q : D → Prop} : wO (gCut (some i) none (linesD r)) Q ↔ Q (linesD (r.drop i.toNat)) := by
  have : gCut (some i) none (linesD r) = some (linesD (r.drop i.toNat)) := by
    show some (D.tup (cutL (D.fzL (r.map rowD)) (some i) none)) = _
    rw [fzL_rows, cut_from h, ← List.map_drop]; rfl
  rw [this]; exact wO_some
theorem add_lines {a b : List (List Mv)} {Q : D → List D → Prop} (h : a.length + b.length ≤ 1000) : wF fAdd [linesD a, linesD b] Q ↔ Q (linesD (a ++ b)) [.any, .any] := by
  unfold linesD
  rw [wF_addT, fzL_rows, fzL_rows, ← List.map_append]
  have : (a.map rowD).length + (b.map rowD).length ≤ sizeLine := by simp only [List.length_map, sizeLine]; omega
  exact ⟨fun h => h.2, fun h => ⟨this, h⟩⟩
theorem isFz_lines (rows : List (List Mv)) : D.isFz (linesD rows) = true := by
  have := D.isFz_fz (linesD rows)
  rwa [fz_lines] at this
theorem mul_nil {k : Int} {Q : D → List D → Prop} (h1 : 2 ≤ k) (h2 : k ≤ 1000) : wF fMulU [linesD [[]], .int k] Q ↔ Q (linesD (List.replicate k.toNat [])) [.any, .any] := by
  refine wF_some ?_ rfl
  have hz := isFz_lines [[]]
  have e1 : fMulA [linesD [[]], .int k] = none := rfl
  refine (orF_r e1).trans ?_
  unfold linesD at hz ⊢
  have hc : D.isFz (.nd false .tup (List.map rowD [[]])) = true ∧ -(2 ^ 63) ≤ k ∧ k < 2 ^ 63 := ⟨hz, by omega, by omega⟩
  show (if D.isFz (.nd false .tup (List.map rowD [[]])) = true ∧ -(2 ^ 63) ≤ k ∧ k < 2 ^ 63 then _ else _) = _
  rw [if_pos hc, if_neg (by rintro (z | z); cases z; omega), if_neg (by omega), if_pos ⟨h2, by simp⟩]
  simp
theorem neB {a b : Bool} {Q : D → List D → Prop} : wF fNe [.bl a, .bl b] Q ↔ Q (.bl (!(a == b))) [.bl a, .bl b] := wF_some rfl rfl
theorem neNil {m n : Bool} {Q : D → List D → Prop} : wF fNe [.nd m .lst [], .nd n .lst []] Q ↔ Q (.bl false) [.nd m .lst [], .nd n .lst []] := wF_some rfl rfl
def w1 : Wd := ⟨[113], [120, 122], [[]]⟩
def w2 : Wd := ⟨[97], [98], List.replicate 998 [] ++ [[(97, 98, 998)]]⟩
def w3 : Wd := ⟨[97, 98], [120, 121], [[(97, 120, 9)]] ++ (List.replicate 9 [] ++ [[(97, 120, 10), (97, 121, 9), (98, 120, 2)], [(97, 120, 11)], [(98, 121, 0)]]).drop 1⟩
def w4 : Wd := ⟨[97], [120, 121], [[(97, 120, 1)], [(97, 121, 0)]]⟩
theorem w1_ok : WOk w1 := by
  refine ⟨⟨by decide, by decide, by decide, by decide⟩, ⟨by decide, by decide, by decide, by decide⟩, by decide, by decide, ?_⟩
  intro r hr
  simp only [w1, List.mem_cons, List.not_mem_nil, or_false] at hr
  subst hr; exact ⟨by simp [ltM], by decide, by decide⟩
theorem w2_len : w2.rows.length = 999 := by simp [w2]
theorem w2_ok : WOk w2 := by
  refine ⟨⟨by decide, by decide, by decide, by decide⟩, ⟨by decide, by decide, by decide, by decide⟩, by rw [w2_len]; omega, by rw [w2_len]; omega, ?_⟩
  intro r hr
  rw [w2_len]
  rcases List.mem_append.mp (show r ∈ List.replicate 998 [] ++ [[(97, 98, 998)]] from hr) with h | h
  · obtain rfl := (List.mem_replicate.mp h).2
    exact ⟨by simp [ltM], by simp, by simp⟩
  · obtain rfl := List.mem_singleton.mp h
    exact ⟨by simp [ltM], by decide, by decide⟩
theorem w3_ok : WOk w3 := by
  refine ⟨⟨by decide, by decide, by decide, by decide⟩, ⟨by decide, by decide, by decide, by decide⟩, by decide, by decide, ?_⟩
  have key : ∀ r ∈ w3.rows, r = [(97, 120, 9)] ∨ r = [] ∨ r = [(97, 120, 10), (97, 121, 9), (98, 120, 2)] ∨ r = [(97, 120, 11)] ∨ r = [(98, 121, 0)] := by decide
  intro r hr
  rcases key r hr with rfl | rfl | rfl | rfl | rfl <;> exact ⟨by simp [ltM], by decide, by decide⟩
theorem w4_ok : WOk w4 := by
  refine ⟨⟨by decide, by decide, by decide, by decide⟩, ⟨by decide, by decide, by decide, by decide⟩, by decide, by decide, ?_⟩
  intro r hr
  simp only [w4, List.mem_cons, List.not_mem_nil, or_false] at hr
  rcases hr with rfl | rfl <;> exact ⟨by simp [ltM], by decide, by decide⟩
theorem page4 : tx (pageL w4) = "rules a xy 2\nmove 0 a x 1\nmove 1 a y 0" := by decide +kernel
end K02

namespace K02
open PySem L2 VH
theorem law_ok {C : Cs} {ns : List Int} (hn : ns.length ≤ 63) : wF (fm_law C) [.nd false .sl (ns.map .int)] fun r os => r = .bl true := by
  refine wF_fn rfl ?_
  unfold m_law
  ac_nf
  refine wF.monoL (deck (b := 9000) hn (by decide)) ?_
  intro r os hos hd
  match os, hos with
  | [o1], _ =>
  ac_nf
  refine range_if.mpr ⟨by omega, ?_⟩
  have rl : (rangeD 0 (7 : Int).toNat).length = 7 := range_len _ _
  ac_nf
  refine wL (fun i e => ∃ (d : D) (past : List Wd) (x0 x3 x4 x5 : Option D), e = [x0, some d, some (.nd true .lst (past.map (instD C false))), x3, x4, x5, none, none, none] ∧ i ≤ 7 ∧ past.length ≤ i ∧ (∀ v ∈ past, WOk v) ∧ DeckOk (1100 * (7 - i)) d) ⟨r, [], _, none, none, none, rfl, by omega, by simp, by simp, hd.le (by omega)⟩ ?_ ?_
  · rintro i g e hg ⟨d, past, x0, x3, x4, x5, rfl, hi, hp, hpa, hd⟩
    have hlt : i < 7 := by rw [← rl]; exact lt_of hg
    ac_nf
    refine worldR (b := 1100 * (7 - (i + 1)) + 100) (hd.le (by omega)) fun w d1 hw hd1 => ?_
    ac_nf
    rw [fz_w]
    refine (right hw false).wF fun os hos => ?_
    match os, hos with
    | [o1, o2], _ =>
    ac_nf
    rw [fz_w]
    refine (code (C := C) (m := false) hw).wF fun os hos => ?_
    match os, hos with
    | [o1], _ =>
    ac_nf
    have hfz : D.isFzL (past.map (instD C false)) = true := by
      have e : D.fzL (past.map (instD C false)) = past.map (instD C false) := by
        rw [D.fzL_map, List.map_map]
        exact List.map_congr_left fun v _ => fz_inst
      rw [← e]
      exact D.isFzL_fzL _
    refine (wE_compP rfl hfz).mpr ?_
    bv_omega
    refine wC (fun j ys e => ys = [] ∧ ∃ m5 : Bool, e = [x0, some d1, none, some g, some (wD false w), some (instD C m5 w), none, none, none]) ⟨rfl, true, rfl⟩ ?_ ?_
    · rintro j y ys e hy ⟨rfl, m5, rfl⟩
      obtain ⟨v, hv, rfl⟩ : ∃ v, past[j]? = some v ∧ y = instD C false v := by
        rw [List.getElem?_map] at hy
        cases q : past[j]? with
        | none => rw [q] at hy; cases hy
        | some v => rw [q] at hy; cases hy; exact ⟨v, rfl, rfl⟩
      have hvo := hpa v (List.mem_of_getElem? hv)
      ac_nf
      simp only [fz_inst]
      refine eqR hvo hw fun os hos => ?_
      match os, hos with
      | [o1, o2], _ =>
      ac_nf
      simp only [fz_inst]
      refine strR hvo fun os hos => ?_
      match os, hos with
      | [o1], _ =>
      ac_nf
      simp only [fz_inst]
      refine strR hw fun os hos => ?_
      match os, hos with
      | [o1], _ =>
      ac_nf
      refine (eq_strs (page_ok hvo) (page_ok hw)).mpr ?_
      rw [beq_tx]
      ac_nf
      refine neB.mpr ?_
      rw [beq_self_eq_true]
      ac_nf
      exact ⟨by trivial, false, rfl⟩
    · rintro ys e ⟨rfl, m5, rfl⟩
      refine ⟨by simp, ?_⟩
      ac_nf
      refine neNil.mpr ?_
      ac_nf
      simp only [fz_inst]
      refine wF_append.mpr ⟨by simp only [List.length_map, sizeLine]; omega, ?_⟩
      ac_nf
      refine ⟨d1, past ++ [w], x0, some g, some (wD false w), some (instD C false w), ?_, by omega, by simp; omega, ?_, hd1.le (by omega)⟩
      · simp only [fz_inst, List.map_append, List.map_cons, List.map_nil]
      · intro v hv
        rcases List.mem_append.mp hv with z | z
        · exact hpa v z
        · obtain rfl := List.mem_singleton.mp z
          exact hw
  · rintro e ⟨d, past, x0, x3, x4, x5, rfl, hi, hp, hpa, hd⟩
    ac_nf
    refine wO_some.mpr ⟨⟨by decide +kernel, by decide⟩, ?_⟩
    ac_nf
    refine (mul_nil (k := 998) (by decide) (by decide)).mpr ?_
    ac_nf
    refine (add_lines (a := List.replicate (998 : Int).toNat []) (b := [[(97, 98, 998)]]) (by simp)).mpr ?_
    ac_nf
    refine wO_some.mpr ⟨⟨by decide +kernel, by decide⟩, ?_⟩
    ac_nf
    refine wF_append.mpr ⟨by simp [sizeLine], ?_⟩
    ac_nf
    refine (mul_nil (k := 9) (by decide) (by decide)).mpr ?_
    ac_nf
    refine (add_lines (a := List.replicate (9 : Int).toNat []) (b := [[(97, 120, 10), (97, 121, 9), (98, 120, 2)], [(97, 120, 11)], [(98, 121, 0)]]) (by simp)).mpr ?_
    ac_nf
    simp only [fz_lines]
    refine (cut_lines_from (by decide)).mpr ?_
    ac_nf
    refine (add_lines (a := [[(97, 120, 9)]]) (by simp)).mpr ?_
    ac_nf
    refine wO_some.mpr ⟨⟨by decide +kernel, by decide⟩, ?_⟩
    ac_nf
    refine wF_append.mpr ⟨by simp [sizeLine], ?_⟩
    ac_nf
    simp only [fz_lines]
    refine wC (all := [wD false w1, wD false w2, wD false w3]) (fun i ys e => ys = [] ∧ ∃ (x4 x6 x7 : Option D), e = [x0, some d, some (.nd true .lst (past.map (instD C false))), x3, x4, x5, x6, x7, none]) ⟨rfl, _, _, _, rfl⟩ ?_ ?_
    · rintro i y ys e hy ⟨rfl, x4, x6, x7, rfl⟩
      obtain ⟨w, hw, rfl⟩ : ∃ w, WOk w ∧ y = wD false w := by
        match i, hy with
        | 0, hy => exact ⟨w1, w1_ok, (Option.some.inj hy).symm⟩
        | 1, hy => exact ⟨w2, w2_ok, (Option.some.inj hy).symm⟩
        | 2, hy => exact ⟨w3, w3_ok, (Option.some.inj hy).symm⟩
        | k + 3, hy => simp at hy
      ac_nf
      rw [fz_w]
      refine (right hw false).wF fun os hos => ?_
      match os, hos with
      | [o1, o2], _ =>
      ac_nf
      exact ⟨by trivial, _, _, _, rfl⟩
    · rintro ys e ⟨rfl, x4, x6, x7, rfl⟩
      refine ⟨by simp, ?_⟩
      ac_nf
      refine neNil.mpr ?_
      ac_nf
      show wF (fMake C.Rules (fm_Rules___init__ C)) [.str (tx w4.hs), .str (tx w4.cs), linesD w4.rows] _
      refine makeR w4_ok ?_
      ac_nf
      rw [fz_inst]
      refine strR w4_ok fun os hos => ?_
      match os, hos with
      | [o1], _ =>
      ac_nf
      rw [← page4]
      refine (eq_strs (page_ok w4_ok) (page_ok w4_ok)).mpr ?_
      rw [beq_self_eq_true]
      ac_nf
      rw [fz_inst]
      refine strR w4_ok fun os hos => ?_
      match os, hos with
      | [o1], _ =>
      ac_nf
      refine (read w4_ok).wF fun os hos => ?_
      match os, hos with
      | [o1, o2], _ =>
      ac_nf
      rw [fz_inst]
      refine eqR w4_ok w4_ok fun os hos => ?_
      match os, hos with
      | [o1, o2], _ =>
      rw [decide_eq_true (rfl : pageL w4 = pageL w4)]
      ac_nf
theorem law_true (C : Cs) (ns : List Int) (hn : ns.length ≤ 63) : ∃ o, fm_law C [.nd false .sl (ns.map .int)] = some (.bl true, o) := by
  obtain ⟨d, os, h, _, rfl⟩ := law_ok (C := C) hn
  exact ⟨os, h⟩
end K02

theorem PySem.Challenge.cw_veilhouse_k02_texts_of_rules_holds : PySem.Challenge.rw_veilhouse_k02_texts_of_rules.Holds := by
  exact K02.of_law K02.law_true
