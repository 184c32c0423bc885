import PyProof.Rows.All
import HandS.ForMost
import HandS.ForExc
import HandS.Wide
import HandS.WideBits
import HandS.Conv
import HandS.SortInts
import HandS.RevRange
import HandS.IsInst
import HandS.Deep
import HandS.Style
import HandS.TupAny
import HandS.TupLe
import HandS.More
import HandS.Zip
import KE.BitLaws
import PySem.Challenge.RW_optionwood_k12_broken_and_kept_for_sure
set_option Elab.async false
set_option linter.all false
set_option maxRecDepth 100000
/-! Om1: plain data D, data with addresses AV, the ownership relation Wd, steps. -/
namespace Om
open PySem PySem.Spec PyProof.Rows L2

/-- plain data -/
inductive D where
  | non
  | bl (b : Bool)
  | int (i : Int)
  | str (s : Str)
  | scr (ns : List Int)
  | cell (n : Nat)
  | tup (ds : List D)
  | lst (ds : List D)
  deriving Inhabited

/-- data with the addresses at which it lies -/
inductive AV where
  | non
  | bl (b : Bool)
  | int (i : Int)
  | str (s : Str)
  | scr (a : Addr) (ns : List Int)
  | cell (a : Addr) (n : Nat)
  | tup (a : Addr) (xs : List AV)
  | lst (a : Addr) (xs : List AV)

def AV.v : AV → V
  | .non => .non
  | .bl b => .bl b
  | .int i => .int i
  | .str s => .str s
  | .scr a _ => .ref a
  | .cell a _ => .ref a
  | .tup a _ => .ref a
  | .lst a _ => .ref a

mutual
def AV.d : AV → D
  | .non => .non
  | .bl b => .bl b
  | .int i => .int i
  | .str s => .str s
  | .scr _ ns => .scr ns
  | .cell _ n => .cell n
  | .tup _ xs => .tup (AV.dL xs)
  | .lst _ xs => .lst (AV.dL xs)
def AV.dL : List AV → List D
  | [] => []
  | x :: xs => AV.d x :: AV.dL xs
end
mutual
/-- the lists' addresses -/
def AV.as : AV → List Addr
  | .tup _ xs => AV.asL xs
  | .lst a xs => a :: AV.asL xs
  | _ => []
def AV.asL : List AV → List Addr
  | [] => []
  | x :: xs => AV.as x ++ AV.asL xs
end
abbrev Ce := List (Addr × List AV)
/-- a list of the module's own -/
def SqK (K : PySem.W.Frag) (a : Addr) (xs : List V) : Prop :=
  ∃ (o : Obj) (its : Array Value) (n : Nat), K.lookup a = some o ∧ o.cls = .type "list" ∧ o.dict = none ∧ o.data = .seq its n ∧ its.size ≤ sizeLine ∧ Vals xs its.toList
mutual
def AV.ok (K : PySem.W.Frag) (H : Hp) (C : Ce) : AV → Prop
  | .scr a ns => (∃ o, H a = some (.frz o (.lst (ns.map V.int)))) ∨ SqK K a (ns.map V.int)
  | .cell a n => (C.map (·.1))[n]? = some a
  | .tup a xs => SqT K H a (xs.map AV.v) ∧ AV.okL K H C xs
  | .lst a xs => H a = some (.lst (xs.map AV.v)) ∧ AV.okL K H C xs
  | _ => True
def AV.okL (K : PySem.W.Frag) (H : Hp) (C : Ce) : List AV → Prop
  | [] => True
  | x :: xs => AV.ok K H C x ∧ AV.okL K H C xs
end
mutual
/-- no list within -/
def D.noL : D → Bool
  | .tup ds => D.noLL ds
  | .lst _ => false
  | _ => true
def D.noLL : List D → Bool
  | [] => true
  | d :: ds => D.noL d && D.noLL ds
end
mutual
/-- no cell within -/
def D.noC : D → Bool
  | .tup ds => D.noCL ds
  | .lst ds => D.noCL ds
  | .cell _ => false
  | _ => true
def D.noCL : List D → Bool
  | [] => true
  | d :: ds => D.noC d && D.noCL ds
end

section
variable {K : PySem.W.Frag} {H H' : Hp} {C C' : Ce}
theorem AV.dL_eq : ∀ xs : List AV, AV.dL xs = xs.map AV.d
  | [] => rfl
  | x :: xs => by rw [AV.dL, AV.dL_eq xs]; rfl
theorem AV.asL_eq : ∀ xs : List AV, AV.asL xs = xs.flatMap AV.as
  | [] => rfl
  | x :: xs => by rw [AV.asL, AV.asL_eq xs]; rfl
theorem AV.okL_iff : ∀ {xs : List AV}, AV.okL K H C xs ↔ ∀ x ∈ xs, AV.ok K H C x
  | [] => ⟨fun _ _ h => (nomatch h), fun _ => trivial⟩
  | x :: xs => by
    rw [AV.okL, AV.okL_iff (xs := xs)]
    constructor
    · rintro ⟨h1, h2⟩ y hy
      rcases List.mem_cons.mp hy with rfl | hy
      · exact h1
      · exact h2 y hy
    · intro h
      exact ⟨h x List.mem_cons_self, fun y hy => h y (List.mem_cons_of_mem _ hy)⟩
theorem D.noLL_iff : ∀ {ds : List D}, D.noLL ds = true ↔ ∀ d ∈ ds, D.noL d = true
  | [] => ⟨fun _ _ h => (nomatch h), fun _ => rfl⟩
  | x :: xs => by
    rw [D.noLL, Bool.and_eq_true, D.noLL_iff (ds := xs)]
    constructor
    · rintro ⟨h1, h2⟩ y hy
      rcases List.mem_cons.mp hy with rfl | hy
      · exact h1
      · exact h2 y hy
    · intro h
      exact ⟨h x List.mem_cons_self, fun y hy => h y (List.mem_cons_of_mem _ hy)⟩
theorem D.noCL_iff : ∀ {ds : List D}, D.noCL ds = true ↔ ∀ d ∈ ds, D.noC d = true
  | [] => ⟨fun _ _ h => (nomatch h), fun _ => rfl⟩
  | x :: xs => by
    rw [D.noCL, Bool.and_eq_true, D.noCL_iff (ds := xs)]
    constructor
    · rintro ⟨h1, h2⟩ y hy
      rcases List.mem_cons.mp hy with rfl | hy
      · exact h1
      · exact h2 y hy
    · intro h
      exact ⟨h x List.mem_cons_self, fun y hy => h y (List.mem_cons_of_mem _ hy)⟩
mutual
theorem AV.as_noL : ∀ x : AV, x.d.noL = true → x.as = []
  | .non, _ | .bl _, _ | .int _, _ | .str _, _ | .scr _ _, _ | .cell _ _, _ => rfl
  | .tup _ xs, h => by rw [AV.as]; exact AV.asL_noL xs (by rw [AV.d, D.noL] at h; exact h)
  | .lst _ xs, h => by rw [AV.d, D.noL] at h; exact absurd h (by decide)
theorem AV.asL_noL : ∀ xs : List AV, D.noLL (AV.dL xs) = true → AV.asL xs = []
  | [], _ => rfl
  | x :: xs, h => by
    rw [AV.dL, D.noLL, Bool.and_eq_true] at h
    rw [AV.asL, AV.as_noL x h.1, AV.asL_noL xs h.2]; rfl
end
mutual
/-- the lists lie there -/
theorem AV.ok_as : ∀ x : AV, x.ok K H C → ∀ a ∈ x.as, ∃ vs, H a = some (.lst vs)
  | .non, _, _, h | .bl _, _, _, h | .int _, _, _, h | .str _, _, _, h | .scr _ _, _, _, h | .cell _ _, _, _, h => by simp [AV.as] at h
  | .tup _ xs, hx, a, h => by rw [AV.as] at h; rw [AV.ok] at hx; exact AV.okL_as xs hx.2 a h
  | .lst b xs, hx, a, h => by
    rw [AV.as] at h; rw [AV.ok] at hx
    rcases List.mem_cons.mp h with rfl | h
    · exact ⟨_, hx.1⟩
    · exact AV.okL_as xs hx.2 a h
theorem AV.okL_as : ∀ xs : List AV, AV.okL K H C xs → ∀ a ∈ AV.asL xs, ∃ vs, H a = some (.lst vs)
  | [], _, _, h => by simp [AV.asL] at h
  | x :: xs, hx, a, h => by
    rw [AV.asL] at h; rw [AV.okL] at hx
    rcases List.mem_append.mp h with h | h
    · exact AV.ok_as x hx.1 a h
    · exact AV.okL_as xs hx.2 a h
end
/-- cells keep their addresses -/
def CeExt (C C' : Ce) : Prop := ∀ (n : Nat) (a : Addr), (C.map (·.1))[n]? = some a → (C'.map (·.1))[n]? = some a
theorem CeExt.refl : CeExt C C := fun _ _ h => h
theorem CeExt.trans {C1 : Ce} (h : CeExt C C1) (h' : CeExt C1 C') : CeExt C C' := fun n a q => h' n a (h n a q)
/-- all but the lists at O is kept -/
def Keep (O : List Addr) (H H' : Hp) : Prop := ∀ a o, H a = some o → a ∉ O → H' a = some o
theorem sqT_keep {O : List Addr} (k : Keep O H H') (ho : ∀ a ∈ O, ∃ vs, H a = some (.lst vs)) {a : Addr} {vs : List V} (h : SqT K H a vs) : SqT K H' a vs := by
  rcases h with (h | ⟨o, h⟩) | h
  · exact .inl (.inl (k _ _ h fun hm => by obtain ⟨ws, e⟩ := ho _ hm; rw [h] at e; cases e))
  · exact .inl (.inr ⟨o, k _ _ h fun hm => by obtain ⟨ws, e⟩ := ho _ hm; rw [h] at e; cases e⟩)
  · exact .inr h
mutual
theorem AV.ok_keep {O : List Addr} (k : Keep O H H') (ho : ∀ a ∈ O, ∃ vs, H a = some (.lst vs)) (hc : CeExt C C') : ∀ x : AV, x.ok K H C → (∀ a ∈ x.as, a ∉ O) → x.ok K H' C'
  | .non, _, _ | .bl _, _, _ | .int _, _, _ | .str _, _, _ => trivial
  | .scr a ns, h, _ => by
    rw [AV.ok] at h ⊢
    rcases h with ⟨o, h⟩ | h
    · exact .inl ⟨o, k _ _ h fun hm => by obtain ⟨ws, e⟩ := ho _ hm; rw [h] at e; cases e⟩
    · exact .inr h
  | .cell a n, h, _ => by rw [AV.ok] at h ⊢; exact hc _ _ h
  | .tup a xs, h, q => by
    rw [AV.ok] at h ⊢; rw [AV.as] at q
    exact ⟨sqT_keep k ho h.1, AV.okL_keep k ho hc xs h.2 q⟩
  | .lst a xs, h, q => by
    rw [AV.ok] at h ⊢; rw [AV.as] at q
    exact ⟨k _ _ h.1 (q a List.mem_cons_self), AV.okL_keep k ho hc xs h.2 fun b hb => q b (List.mem_cons_of_mem _ hb)⟩
theorem AV.okL_keep {O : List Addr} (k : Keep O H H') (ho : ∀ a ∈ O, ∃ vs, H a = some (.lst vs)) (hc : CeExt C C') : ∀ xs : List AV, AV.okL K H C xs → (∀ a ∈ AV.asL xs, a ∉ O) → AV.okL K H' C' xs
  | [], _, _ => trivial
  | x :: xs, h, q => by
    rw [AV.okL] at h ⊢; rw [AV.asL] at q
    exact ⟨AV.ok_keep k ho hc x h.1 fun a ha => q a (List.mem_append_left _ ha), AV.okL_keep k ho hc xs h.2 fun a ha => q a (List.mem_append_right _ ha)⟩
end
end

/-! ### entries: an owned or a shared thing -/
abbrev En := Bool × AV
def own1 (e : En) : List Addr := if e.1 then e.2.as else []
def shr1 (e : En) : List Addr := if e.1 then [] else e.2.as
def own (L : List En) : List Addr := L.flatMap own1
def shr (L : List En) : List Addr := L.flatMap shr1
def ceA (C : Ce) : List Addr := C.map (·.1)
theorem own_app (L R : List En) : own (L ++ R) = own L ++ own R := by simp [own, List.flatMap_append]
theorem shr_app (L R : List En) : shr (L ++ R) = shr L ++ shr R := by simp [shr, List.flatMap_append]
theorem own_nil : own [] = [] := rfl
theorem shr_nil : shr [] = [] := rfl
theorem mem_own {L : List En} {a : Addr} : a ∈ own L ↔ ∃ e ∈ L, e.1 = true ∧ a ∈ e.2.as := by
  unfold own own1
  rw [List.mem_flatMap]
  constructor
  · rintro ⟨e, he, h⟩
    split at h
    · rename_i h1; exact ⟨e, he, h1, h⟩
    · cases h
  · rintro ⟨e, he, h1, h⟩
    exact ⟨e, he, by rw [if_pos h1]; exact h⟩
theorem mem_shr {L : List En} {a : Addr} : a ∈ shr L ↔ ∃ e ∈ L, e.1 = false ∧ a ∈ e.2.as := by
  unfold shr shr1
  rw [List.mem_flatMap]
  constructor
  · rintro ⟨e, he, h⟩
    split at h
    · cases h
    · rename_i h1; exact ⟨e, he, by simpa using h1, h⟩
  · rintro ⟨e, he, h1, h⟩
    exact ⟨e, he, by rw [if_neg (by rw [h1]; decide)]; exact h⟩

/-- the state's world: every thing lies as told; owned lists lie apart; shared ones are not owned; cells hold things without lists -/
structure Wd (K : PySem.W.Frag) (H : Hp) (L : List En) (C : Ce) : Prop where
  ok : ∀ e ∈ L, e.2.ok K H C
  nd : (own L ++ ceA C).Nodup
  sh : ∀ a ∈ shr L, a ∉ own L ++ ceA C
  ce : ∀ p ∈ C, H p.1 = some (.lst (p.2.map AV.v)) ∧ ∀ x ∈ p.2, x.ok K H C ∧ x.as = []

section
variable {K : PySem.W.Frag} {H H' H1 H2 : Hp} {L R : List En} {C C' C1 C2 : Ce}
theorem Wd.ownL (w : Wd K H L C) : ∀ a ∈ own L ++ ceA C, ∃ vs, H a = some (.lst vs) := fun a ha => by
  rcases List.mem_append.mp ha with h | h
  · obtain ⟨e, he, _, h⟩ := mem_own.mp h
    exact AV.ok_as _ (w.ok e he) a h
  · obtain ⟨p, hp, rfl⟩ := List.mem_map.mp h
    exact ⟨_, (w.ce p hp).1⟩
theorem Wd.shrL (w : Wd K H L C) : ∀ a ∈ shr L, ∃ vs, H a = some (.lst vs) := fun a ha => by
  obtain ⟨e, he, _, h⟩ := mem_shr.mp ha
  exact AV.ok_as _ (w.ok e he) a h
/-- the same things in another order, or fewer of them -/
theorem Wd.sub (w : Wd K H L C) (h : ∃ X, (L.Perm (R ++ X))) : Wd K H R C := by
  obtain ⟨X, p⟩ := h
  have po : (own L).Perm (own R ++ own X) := by rw [← own_app]; exact List.Perm.flatMap_right _ p
  have ps : (shr L).Perm (shr R ++ shr X) := by rw [← shr_app]; exact List.Perm.flatMap_right _ p
  refine ⟨fun e he => w.ok e (p.mem_iff.mpr (List.mem_append_left _ he)), ?_, fun a ha hm => ?_, w.ce⟩
  · have q : (own L ++ ceA C).Perm ((own R ++ own X) ++ ceA C) := po.append_right _
    have nd := q.nodup_iff.mp w.nd
    exact nd.sublist ((List.sublist_append_left _ _).append (List.Sublist.refl _))
  · refine w.sh a (ps.mem_iff.mpr (List.mem_append_left _ ha)) ?_
    rcases List.mem_append.mp hm with hm | hm
    · exact List.mem_append_left _ (po.mem_iff.mpr (List.mem_append_left _ hm))
    · exact List.mem_append_right _ hm
theorem Wd.perm (w : Wd K H L C) (h : L.Perm R) : Wd K H R C := w.sub ⟨[], by rw [List.append_nil]; exact h⟩
theorem Wd.left (w : Wd K H (L ++ R) C) : Wd K H L C := w.sub ⟨R, .refl _⟩
theorem Wd.right (w : Wd K H (L ++ R) C) : Wd K H R C := w.sub ⟨L, List.perm_append_comm⟩

/-- a step of the code: from (H, L, C) to (H', L', C') -/
structure Stp (K : PySem.W.Frag) (H : Hp) (L : List En) (C : Ce) (H' : Hp) (L' : List En) (C' : Ce) : Prop where
  wd : Wd K H' L' C'
  keep : Keep (own L ++ ceA C) H H'
  dom : ∀ a, H' a = none → H a = none
  all : ∀ a ∈ own L' ++ (shr L' ++ ceA C'), a ∈ own L ++ (shr L ++ ceA C) ∨ H a = none
  own : ∀ a ∈ own L' ++ ceA C', a ∈ own L ++ ceA C ∨ H a = none
  ext : CeExt C C'
theorem Stp.refl (w : Wd K H L C) : Stp K H L C H L C := ⟨w, fun _ _ h _ => h, fun _ h => h, fun _ h => .inl h, fun _ h => .inl h, .refl⟩
/-- what lies behind, lies apart from what lies ahead -/
theorem Wd.apart (w : Wd K H (L ++ R) C) : ∀ e ∈ R, ∀ a ∈ e.2.as, a ∉ Om.own L ++ ceA C := fun e he a ha hm => by
  cases q : e.1 with
  | true =>
    have h1 : a ∈ Om.own R := mem_own.mpr ⟨e, he, q, ha⟩
    have nd := w.nd
    rw [own_app, List.append_assoc] at nd
    obtain ⟨_, n2, n3⟩ := List.nodup_append.mp nd
    rcases List.mem_append.mp hm with hm | hm
    · exact n3 a hm a (List.mem_append_left _ h1) rfl
    · exact (List.nodup_append.mp n2).2.2 a h1 a hm rfl
  | false =>
    have h1 : a ∈ Om.shr (L ++ R) := mem_shr.mpr ⟨e, List.mem_append_right _ he, q, ha⟩
    refine w.sh a h1 ?_
    rw [own_app]
    rcases List.mem_append.mp hm with hm | hm
    · exact List.mem_append_left _ (List.mem_append_left _ hm)
    · exact List.mem_append_right _ hm
theorem Wd.lies (w : Wd K H L C) {e : En} (he : e ∈ L) {a : Addr} (ha : a ∈ e.2.as) : H a ≠ none := fun h => by
  obtain ⟨vs, q⟩ := AV.ok_as _ (w.ok e he) a ha
  rw [h] at q; cases q
/-- a second step, behind which the first one's results still lie -/
theorem Stp.app {L1 L2 rs rs' : List En} (s1 : Stp K H L C H1 (L1 ++ rs) C1) (s2 : Stp K H1 L1 C1 H2 (L2 ++ rs') C2) : Stp K H L C H2 (L2 ++ (rs ++ rs')) C2 := by
  have ap := s1.wd.apart
  have hl := s1.wd.left.ownL
  have rsok : ∀ e ∈ rs, e.2.ok K H2 C2 := fun e he => AV.ok_keep s2.keep hl s2.ext e.2 (s1.wd.ok e (List.mem_append_right _ he)) (ap e he)
  have rsno : ∀ e ∈ rs, ∀ a ∈ e.2.as, a ∉ Om.own (L2 ++ rs') ++ ceA C2 := fun e he a ha hm => by
    rcases s2.own a hm with h | h
    · exact ap e he a ha h
    · exact s1.wd.lies (List.mem_append_right _ he) ha h
  have pO : (Om.own (L2 ++ (rs ++ rs')) ++ ceA C2).Perm (Om.own rs ++ (Om.own (L2 ++ rs') ++ ceA C2)) := by
    simp only [own_app, ← List.append_assoc]
    exact (List.perm_append_comm.append_right _).append_right _
  have ndrs : (Om.own rs).Nodup := by
    have nd := s1.wd.nd
    rw [own_app, List.append_assoc] at nd
    exact (List.nodup_append.mp (List.nodup_append.mp nd).2.1).1
  refine ⟨⟨fun e he => ?_, ?_, fun a ha => ?_, s2.wd.ce⟩, fun a o ha no => ?_, fun a h => s1.dom a (s2.dom a h), fun a ha => ?_, fun a ha => ?_, s1.ext.trans s2.ext⟩
  · rcases List.mem_append.mp he with h | h
    · exact s2.wd.ok e (List.mem_append_left _ h)
    · rcases List.mem_append.mp h with h | h
      · exact rsok e h
      · exact s2.wd.ok e (List.mem_append_right _ h)
  · rw [pO.nodup_iff, List.nodup_append]
    refine ⟨ndrs, s2.wd.nd, fun a ha b hb e => ?_⟩
    subst e
    obtain ⟨e, he, _, h⟩ := mem_own.mp ha
    exact rsno e he a h hb
  · intro hm
    have hm := pO.mem_iff.mp hm
    rw [shr_app, shr_app] at ha
    have old : a ∈ Om.shr (L2 ++ rs') → False := fun h => by
      rcases List.mem_append.mp hm with hm | hm
      · obtain ⟨e, he, _, hb⟩ := mem_own.mp hm
        rcases s2.all a (List.mem_append_right _ (List.mem_append_left _ h)) with z | z
        · rcases List.mem_append.mp z with z | z
          · exact ap e he a hb (List.mem_append_left _ z)
          · rcases List.mem_append.mp z with z | z
            · refine s1.wd.sh a (by rw [shr_app]; exact List.mem_append_left _ z) ?_
              rw [own_app]; exact List.mem_append_left _ (List.mem_append_right _ hm)
            · exact ap e he a hb (List.mem_append_right _ z)
        · exact s1.wd.lies (List.mem_append_right _ he) hb z
      · exact s2.wd.sh a h hm
    rcases List.mem_append.mp ha with h | h
    · exact old (by rw [shr_app]; exact List.mem_append_left _ h)
    · rcases List.mem_append.mp h with h | h
      · rcases List.mem_append.mp hm with hm | hm
        · refine s1.wd.sh a (by rw [shr_app]; exact List.mem_append_right _ h) ?_
          rw [own_app]; exact List.mem_append_left _ (List.mem_append_right _ hm)
        · obtain ⟨e, he, _, hb⟩ := mem_shr.mp h
          exact rsno e he a hb hm
      · exact old (by rw [shr_app]; exact List.mem_append_right _ h)
  · refine s2.keep a o (s1.keep a o ha no) fun hm => ?_
    rcases s1.own a (by
      rw [own_app]
      rcases List.mem_append.mp hm with hm | hm
      · exact List.mem_append_left _ (List.mem_append_left _ hm)
      · exact List.mem_append_right _ hm) with z | z
    · exact no z
    · rw [ha] at z; cases z
  · have first : a ∈ Om.own L1 ++ (Om.shr L1 ++ ceA C1) ∨ a ∈ Om.own rs ∨ a ∈ Om.shr rs → a ∈ Om.own L ++ (Om.shr L ++ ceA C) ∨ H a = none := fun h => by
      refine s1.all a ?_
      rw [own_app, shr_app]
      simp only [List.mem_append] at h ⊢
      rcases h with (h | h | h) | h | h
      · exact .inl (.inl h)
      · exact .inr (.inl (.inl h))
      · exact .inr (.inr h)
      · exact .inl (.inr h)
      · exact .inr (.inl (.inr h))
    have two : a ∈ Om.own (L2 ++ rs') ++ (Om.shr (L2 ++ rs') ++ ceA C2) ∨ a ∈ Om.own rs ∨ a ∈ Om.shr rs := by
      simp only [own_app, shr_app, List.mem_append] at ha ⊢
      rcases ha with (h | h | h) | (h | h | h) | h
      · exact .inl (.inl (.inl h))
      · exact .inr (.inl h)
      · exact .inl (.inl (.inr h))
      · exact .inl (.inr (.inl (.inl h)))
      · exact .inr (.inr h)
      · exact .inl (.inr (.inl (.inr h)))
      · exact .inl (.inr (.inr h))
    rcases two with h | h
    · rcases s2.all a h with z | z
      · exact first (.inl z)
      · exact .inr (s1.dom a z)
    · exact first (.inr h)
  · have ha := pO.mem_iff.mp ha
    have up : a ∈ Om.own (L1 ++ rs) ++ ceA C1 → a ∈ Om.own L ++ ceA C ∨ H a = none := s1.own a
    rcases List.mem_append.mp ha with h | h
    · exact up (by rw [own_app]; exact List.mem_append_left _ (List.mem_append_right _ h))
    · rcases s2.own a h with z | z
      · refine up ?_
        rw [own_app]
        rcases List.mem_append.mp z with z | z
        · exact List.mem_append_left _ (List.mem_append_left _ z)
        · exact List.mem_append_right _ z
      · exact .inr (s1.dom a z)
/-- fewer things, or in another order -/
theorem Stp.sub {L' : List En} (s : Stp K H L C H' L' C') (h : ∃ X, (L'.Perm (R ++ X))) : Stp K H L C H' R C' := by
  obtain ⟨X, p⟩ := h
  have po : (Om.own L').Perm (Om.own R ++ Om.own X) := by rw [← own_app]; exact List.Perm.flatMap_right _ p
  have ps : (Om.shr L').Perm (Om.shr R ++ Om.shr X) := by rw [← shr_app]; exact List.Perm.flatMap_right _ p
  refine ⟨s.wd.sub ⟨X, p⟩, s.keep, s.dom, fun a ha => s.all a ?_, fun a ha => s.own a ?_, s.ext⟩
  · simp only [List.mem_append] at ha ⊢
    rcases ha with h | h | h
    · exact .inl (po.mem_iff.mpr (List.mem_append_left _ h))
    · exact .inr (.inl (ps.mem_iff.mpr (List.mem_append_left _ h)))
    · exact .inr (.inr h)
  · rcases List.mem_append.mp ha with h | h
    · exact List.mem_append_left _ (po.mem_iff.mpr (List.mem_append_left _ h))
    · exact List.mem_append_right _ h
theorem Stp.perm {L' : List En} (s : Stp K H L C H' L' C') (h : L'.Perm R) : Stp K H L C H' R C' := s.sub ⟨[], by rw [List.append_nil]; exact h⟩
theorem Stp.left {L' : List En} (s : Stp K H L C H' (L' ++ R) C') : Stp K H L C H' L' C' := s.sub ⟨R, .refl _⟩
theorem Stp.trans {L1 L2 : List En} (s1 : Stp K H L C H1 L1 C1) (s2 : Stp K H1 L1 C1 H2 L2 C2) : Stp K H L C H2 L2 C2 := by
  have := Stp.app (L1 := L1) (rs := []) (L2 := L2) (rs' := []) (by simpa using s1) (by simpa using s2)
  simpa using this
/-- a change of the end's entries that owns nothing new -/
theorem Stp.chg {L' : List En} (s : Stp K H L C H' L' C') (w : Wd K H' R C') (ha : ∀ a, a ∈ Om.own R ∨ a ∈ Om.shr R → a ∈ Om.own L' ∨ a ∈ Om.shr L') (ho : ∀ a ∈ Om.own R, a ∈ Om.own L') : Stp K H L C H' R C' := by
  refine ⟨w, s.keep, s.dom, fun a h => s.all a ?_, fun a h => s.own a ?_, s.ext⟩
  · simp only [List.mem_append] at h ⊢
    rcases h with h | h | h
    · rcases ha a (.inl h) with z | z
      · exact .inl z
      · exact .inr (.inl z)
    · rcases ha a (.inr h) with z | z
      · exact .inl z
      · exact .inr (.inl z)
    · exact .inr (.inr h)
  · rcases List.mem_append.mp h with h | h
    · exact List.mem_append_left _ (ho a h)
    · exact List.mem_append_right _ h
/-! ### flat things come and go -/
theorem own1_flat {e : En} (h : e.2.as = []) : own1 e = [] := by unfold own1; split <;> simp [h]
theorem shr1_flat {e : En} (h : e.2.as = []) : shr1 e = [] := by unfold shr1; split <;> simp [h]
theorem own_flat {e : En} (h : e.2.as = []) : Om.own (e :: L) = Om.own L := by show own1 e ++ Om.own L = _; rw [own1_flat h]; rfl
theorem shr_flat {e : En} (h : e.2.as = []) : Om.shr (e :: L) = Om.shr L := by show shr1 e ++ Om.shr L = _; rw [shr1_flat h]; rfl
theorem Wd.flat (w : Wd K H L C) {e : En} (h : e.2.as = []) (ok : e.2.ok K H C) : Wd K H (e :: L) C :=
  ⟨fun x hx => (List.mem_cons.mp hx).elim (fun z => z ▸ ok) (w.ok x), by rw [own_flat h]; exact w.nd, by rw [own_flat h, shr_flat h]; exact w.sh, w.ce⟩
theorem Stp.flat {L' : List En} (s : Stp K H L C H' L' C') {e : En} (h : e.2.as = []) (ok : e.2.ok K H' C') : Stp K H L C H' (e :: L') C' :=
  s.chg (s.wd.flat h ok) (fun a q => by rw [own_flat h, shr_flat h] at q; exact q) (fun a q => by rw [own_flat h] at q; exact q)
/-- an owned thing is shared from now on -/
theorem Wd.share {x : AV} (w : Wd K H ((true, x) :: L) C) : Wd K H ((false, x) :: L) C := by
  have e1 : Om.own ((true, x) :: L) = x.as ++ Om.own L := rfl
  have e2 : Om.own ((false, x) :: L) = Om.own L := rfl
  have e3 : Om.shr ((false, x) :: L) = x.as ++ Om.shr L := rfl
  have e4 : Om.shr ((true, x) :: L) = Om.shr L := rfl
  have nd := w.nd
  rw [e1, List.append_assoc] at nd
  obtain ⟨_, n2, n3⟩ := List.nodup_append.mp nd
  refine ⟨fun e he => ?_, by rw [e2]; exact n2, fun a ha hm => ?_, w.ce⟩
  · rcases List.mem_cons.mp he with rfl | he
    · exact w.ok (true, x) List.mem_cons_self
    · exact w.ok _ (List.mem_cons_of_mem _ he)
  · rw [e3] at ha; rw [e2] at hm
    rcases List.mem_append.mp ha with h | h
    · exact n3 a h a hm rfl
    · refine w.sh a (by rw [e4]; exact h) ?_
      rw [e1, List.append_assoc]; exact List.mem_append_right _ hm
theorem Wd.share' {x : AV} {b : Bool} (w : Wd K H ((b, x) :: L) C) : Wd K H ((false, x) :: L) C := by
  cases b with
  | true => exact w.share
  | false => exact w
theorem Stp.share {L' : List En} {x : AV} {b : Bool} (s : Stp K H L C H' ((b, x) :: L') C') : Stp K H L C H' ((false, x) :: L') C' := by
  cases b with
  | false => exact s
  | true =>
    refine s.chg s.wd.share (fun a q => ?_) fun a q => ?_
    · have e1 : Om.own ((true, x) :: L') = x.as ++ Om.own L' := rfl
      have e2 : Om.own ((false, x) :: L') = Om.own L' := rfl
      have e3 : Om.shr ((false, x) :: L') = x.as ++ Om.shr L' := rfl
      have e4 : Om.shr ((true, x) :: L') = Om.shr L' := rfl
      rw [e2, e3] at q; rw [e1, e4]
      simp only [List.mem_append] at q ⊢
      rcases q with q | q | q
      · exact .inl (.inr q)
      · exact .inl (.inl q)
      · exact .inr q
    · have e1 : Om.own ((true, x) :: L') = x.as ++ Om.own L' := rfl
      rw [e1]; exact List.mem_append_right _ q
/-- a shared thing, told twice -/
theorem Wd.twice {x : AV} (w : Wd K H ((false, x) :: L) C) : Wd K H ((false, x) :: (false, x) :: L) C := by
  refine ⟨fun e he => w.ok e (by simp only [List.mem_cons] at he ⊢; rcases he with h | h | h <;> simp [h]), w.nd, fun a ha hm => ?_, w.ce⟩
  have e : Om.shr ((false, x) :: (false, x) :: L) = x.as ++ (x.as ++ Om.shr L) := rfl
  have e' : Om.shr ((false, x) :: L) = x.as ++ Om.shr L := rfl
  rw [e] at ha
  refine w.sh a ?_ hm
  rw [e']
  simp only [List.mem_append] at ha ⊢
  rcases ha with h | h | h <;> simp [h]
theorem Stp.twice {L' : List En} {x : AV} (s : Stp K H L C H' ((false, x) :: L') C') : Stp K H L C H' ((false, x) :: (false, x) :: L') C' :=
  s.chg s.wd.twice (fun a q => by
    have e : Om.shr ((false, x) :: (false, x) :: L') = x.as ++ (x.as ++ Om.shr L') := rfl
    have e' : Om.shr ((false, x) :: L') = x.as ++ Om.shr L' := rfl
    have o : Om.own ((false, x) :: (false, x) :: L') = Om.own L' := rfl
    have o' : Om.own ((false, x) :: L') = Om.own L' := rfl
    rw [e, o] at q; rw [e', o']
    simp only [List.mem_append] at q ⊢
    rcases q with h | h | h | h <;> simp [h]) fun a q => q
/-! ### a new object -/
theorem keep_upd {p : Addr} {o : HO} (h : H p = none) (O : List Addr) : Keep O H (upd H p o) := fun a u e _ => by rw [upd_ne (ne_of_none e h)]; exact e
theorem Wd.laid (w : Wd K H L C) {p : Addr} {o : HO} (h : H p = none) : Wd K (upd H p o) L C := by
  have k : ∀ x : AV, x.ok K H C → x.ok K (upd H p o) C := fun x hx => AV.ok_keep (O := []) (keep_upd h []) (fun _ z => nomatch z) .refl x hx fun _ _ z => nomatch z
  exact ⟨fun e he => k _ (w.ok e he), w.nd, w.sh, fun q hq => ⟨keep_upd h [] _ _ (w.ce q hq).1 (fun z => nomatch z), fun x hx => ⟨k x ((w.ce q hq).2 x hx).1, ((w.ce q hq).2 x hx).2⟩⟩⟩
theorem Stp.laid {L' : List En} (s : Stp K H L C H' L' C') {p : Addr} {o : HO} (h : H' p = none) : Stp K H L C (upd H' p o) L' C' :=
  ⟨s.wd.laid h, fun a u e no => keep_upd h [] a u (s.keep a u e no) (fun z => nomatch z), fun a e => s.dom a (by
    by_cases z : a = p
    · subst z; rw [upd_same] at e; cases e
    · rw [upd_ne z] at e; exact e), s.all, s.own, s.ext⟩
/-- whether a thing can be part of an owned one -/
def fresh1 (e : En) : Bool := e.1 || e.2.d.noL
theorem fresh_own : ∀ {rs : List En}, (∀ e ∈ rs, fresh1 e = true) → AV.asL (rs.map (·.2)) = Om.own rs ∧ Om.shr rs = []
  | [], _ => ⟨rfl, rfl⟩
  | (b, x) :: rs, h => by
    obtain ⟨h1, h2⟩ := fresh_own (rs := rs) fun e he => h e (List.mem_cons_of_mem _ he)
    have h0 : (b || x.d.noL) = true := h _ List.mem_cons_self
    show x.as ++ AV.asL (rs.map (·.2)) = own1 (b, x) ++ Om.own rs ∧ shr1 (b, x) ++ Om.shr rs = []
    rw [h1, h2]
    cases b with
    | true => exact ⟨rfl, rfl⟩
    | false =>
      have z : x.as = [] := AV.as_noL x (by simpa using h0)
      exact ⟨by show x.as ++ _ = [] ++ _; rw [z], by show x.as ++ [] = []; rw [z]; rfl⟩
theorem mem_asL {xs : List AV} {a : Addr} : a ∈ AV.asL xs ↔ ∃ x ∈ xs, a ∈ x.as := by rw [AV.asL_eq, List.mem_flatMap]
theorem own_or_shr {rs : List En} {a : Addr} (h : a ∈ AV.asL (rs.map (·.2))) : a ∈ Om.own rs ∨ a ∈ Om.shr rs := by
  obtain ⟨x, hx, ha⟩ := mem_asL.mp h
  obtain ⟨e, he, rfl⟩ := List.mem_map.mp hx
  cases q : e.1 with
  | true => exact .inl (mem_own.mpr ⟨e, he, q, ha⟩)
  | false => exact .inr (mem_shr.mpr ⟨e, he, q, ha⟩)
theorem asL_of_own {rs : List En} {a : Addr} (h : a ∈ Om.own rs ∨ a ∈ Om.shr rs) : a ∈ AV.asL (rs.map (·.2)) := by
  rcases h with h | h
  · obtain ⟨e, he, _, ha⟩ := mem_own.mp h; exact mem_asL.mpr ⟨e.2, List.mem_map.mpr ⟨e, he, rfl⟩, ha⟩
  · obtain ⟨e, he, _, ha⟩ := mem_shr.mp h; exact mem_asL.mpr ⟨e.2, List.mem_map.mpr ⟨e, he, rfl⟩, ha⟩
/-- things gathered into a thing x that holds them: a tuple, a list at a new place; P is the new list's place, if any -/
theorem Wd.gather {rs : List En} {x : AV} (w : Wd K H (L ++ rs) C) (ok : x.ok K H C) (P : List Addr) (has : x.as = P ++ AV.asL (rs.map (·.2))) (hP : P = [] ∨ ∃ p, P = [p] ∧ (∀ a ∈ Om.own (L ++ rs) ++ (Om.shr (L ++ rs) ++ ceA C), a ≠ p)) (fr : Bool)
    (hfr : fr = true → ∀ e ∈ rs, fresh1 e = true) : Wd K H (L ++ [(fr, x)]) C := by
  have okE : ∀ e ∈ L ++ [(fr, x)], e.2.ok K H C := fun e he => by
    rcases List.mem_append.mp he with h | h
    · exact w.ok e (List.mem_append_left _ h)
    · cases List.mem_singleton.mp h; exact ok
  have hPn : ∀ a ∈ P, a ∉ Om.own (L ++ rs) ++ (Om.shr (L ++ rs) ++ ceA C) := fun a ha hm => by
    rcases hP with rfl | ⟨p, rfl, hp⟩
    · cases ha
    · cases List.mem_singleton.mp ha; exact hp _ hm rfl
  have hPd : P.Nodup := by rcases hP with rfl | ⟨p, rfl, _⟩ <;> simp
  cases fr with
  | true =>
    obtain ⟨f1, f2⟩ := fresh_own (hfr rfl)
    have eo : Om.own (L ++ [(true, x)]) = Om.own L ++ (P ++ Om.own rs) := by
      rw [own_app]; show _ ++ (x.as ++ []) = _; rw [List.append_nil, has, f1]
    have es : Om.shr (L ++ [(true, x)]) = Om.shr L := by rw [shr_app]; show _ ++ ([] ++ []) = _; simp
    have pp : (Om.own (L ++ [(true, x)]) ++ ceA C).Perm (P ++ (Om.own (L ++ rs) ++ ceA C)) := by
      rw [eo, own_app]
      simp only [List.append_assoc]
      exact (List.perm_append_comm_assoc _ _ _)
    refine ⟨okE, ?_, fun a ha hm => ?_, w.ce⟩
    · rw [pp.nodup_iff, List.nodup_append]
      refine ⟨hPd, w.nd, fun a ha b hb e => ?_⟩
      subst e
      refine hPn a ha ?_
      rcases List.mem_append.mp hb with h | h
      · exact List.mem_append_left _ h
      · exact List.mem_append_right _ (List.mem_append_right _ h)
    · rw [es] at ha
      have ha' : a ∈ Om.shr (L ++ rs) := by rw [shr_app]; exact List.mem_append_left _ ha
      rcases List.mem_append.mp (pp.mem_iff.mp hm) with h | h
      · exact hPn a h (List.mem_append_right _ (List.mem_append_left _ ha'))
      · exact w.sh a ha' h
  | false =>
    have eo : Om.own (L ++ [(false, x)]) = Om.own L := by rw [own_app]; show _ ++ ([] ++ []) = _; simp
    have es : Om.shr (L ++ [(false, x)]) = Om.shr L ++ (P ++ AV.asL (rs.map (·.2))) := by rw [shr_app]; show _ ++ (x.as ++ []) = _; rw [List.append_nil, has]
    refine ⟨okE, ?_, fun a ha hm => ?_, w.ce⟩
    · rw [eo]; exact w.left.nd
    · rw [eo] at hm; rw [es] at ha
      rcases List.mem_append.mp ha with h | h
      · exact w.left.sh a h hm
      · rcases List.mem_append.mp h with h | h
        · refine hPn a h ?_
          rw [own_app]
          rcases List.mem_append.mp hm with hm | hm
          · exact List.mem_append_left _ (List.mem_append_left _ hm)
          · exact List.mem_append_right _ (List.mem_append_right _ hm)
        · obtain ⟨y, hy, hya⟩ := mem_asL.mp h
          obtain ⟨e, he, rfl⟩ := List.mem_map.mp hy
          exact w.apart e he a hya hm
/-- a tuple of things -/
theorem Stp.tup {L' rs : List En} (s : Stp K H L C H' (L' ++ rs) C') {p : Addr} (hp : H' p = none) :
    Stp K H L C (upd H' p (.tup (rs.map fun e => e.2.v))) (L' ++ [(rs.all fresh1, .tup p (rs.map (·.2)))]) C' := by
  have s1 := s.laid (o := .tup (rs.map fun e => e.2.v)) hp
  have ok : (AV.tup p (rs.map (·.2))).ok K (upd H' p (.tup (rs.map fun e => e.2.v))) C' := by
    rw [AV.ok, List.map_map]
    refine ⟨SqT.of upd_same, AV.okL_iff.mpr fun x hx => ?_⟩
    obtain ⟨e, he, rfl⟩ := List.mem_map.mp hx
    exact s1.wd.ok e (List.mem_append_right _ he)
  have has : (AV.tup p (rs.map (·.2))).as = [] ++ AV.asL (rs.map (·.2)) := by rw [AV.as]; rfl
  have w := s1.wd.gather ok [] has (.inl rfl) (rs.all fresh1) fun h e he => (List.all_eq_true.mp h) e he
  refine s1.chg w (fun a q => ?_) fun a q => ?_
  · rw [own_app, shr_app] at q ⊢
    simp only [List.mem_append] at q ⊢
    have one : a ∈ Om.own [((rs.all fresh1 : Bool), AV.tup p (rs.map (·.2)))] ∨ a ∈ Om.shr [((rs.all fresh1 : Bool), AV.tup p (rs.map (·.2)))] → a ∈ Om.own rs ∨ a ∈ Om.shr rs := fun z => by
      have z' := asL_of_own z
      have e : AV.asL ([((rs.all fresh1 : Bool), AV.tup p (rs.map (·.2)))].map (·.2)) = AV.asL (rs.map (·.2)) := by show AV.as _ ++ [] = _; rw [List.append_nil, AV.as]
      rw [e] at z'
      exact own_or_shr z'
    rcases q with (q | q) | q | q
    · exact .inl (.inl q)
    · rcases one (.inl q) with z | z
      · exact .inl (.inr z)
      · exact .inr (.inr z)
    · exact .inr (.inl q)
    · rcases one (.inr q) with z | z
      · exact .inl (.inr z)
      · exact .inr (.inr z)
  · rw [own_app] at q ⊢
    rcases List.mem_append.mp q with q | q
    · exact List.mem_append_left _ q
    · cases hf : rs.all fresh1 with
      | false => rw [hf] at q; exact absurd q (by simp [Om.own, own1])
      | true =>
        rw [hf] at q
        have e : Om.own [((true : Bool), AV.tup p (rs.map (·.2)))] = AV.asL (rs.map (·.2)) := by show AV.as _ ++ [] = _; rw [List.append_nil, AV.as]
        rw [e, (fresh_own fun e he => (List.all_eq_true.mp hf) e he).1] at q
        exact List.mem_append_right _ q
theorem Stp.old_none {L' : List En} (s : Stp K H L C H' L' C') {p : Addr} (hp : H' p = none) : H p = none := s.dom p hp
theorem Wd.ne_new (w : Wd K H L C) {p : Addr} (hp : H p = none) : ∀ a ∈ Om.own L ++ (Om.shr L ++ ceA C), a ≠ p := fun a ha e => by
  subst e
  have : ∃ vs, H a = some (.lst vs) := by
    rcases List.mem_append.mp ha with h | h
    · exact w.ownL a (List.mem_append_left _ h)
    · rcases List.mem_append.mp h with h | h
      · exact w.shrL a h
      · exact w.ownL a (List.mem_append_right _ h)
  obtain ⟨vs, q⟩ := this
  rw [hp] at q; cases q
/-- a new list of things -/
theorem Stp.lst {L' rs : List En} (s : Stp K H L C H' (L' ++ rs) C') {p : Addr} (hp : H' p = none) :
    Stp K H L C (upd H' p (.lst (rs.map fun e => e.2.v))) (L' ++ [(rs.all fresh1, .lst p (rs.map (·.2)))]) C' := by
  have s1 := s.laid (o := .lst (rs.map fun e => e.2.v)) hp
  have hn := s.wd.ne_new hp
  have ok : (AV.lst p (rs.map (·.2))).ok K (upd H' p (.lst (rs.map fun e => e.2.v))) C' := by
    rw [AV.ok, List.map_map]
    refine ⟨upd_same, AV.okL_iff.mpr fun x hx => ?_⟩
    obtain ⟨e, he, rfl⟩ := List.mem_map.mp hx
    exact s1.wd.ok e (List.mem_append_right _ he)
  have has : (AV.lst p (rs.map (·.2))).as = [p] ++ AV.asL (rs.map (·.2)) := by rw [AV.as]; rfl
  have w := s1.wd.gather ok [p] has (.inr ⟨p, rfl, hn⟩) (rs.all fresh1) fun h e he => (List.all_eq_true.mp h) e he
  have hp0 : H p = none := s.dom p hp
  have one : ∀ a, a ∈ Om.own [((rs.all fresh1 : Bool), AV.lst p (rs.map (·.2)))] ∨ a ∈ Om.shr [((rs.all fresh1 : Bool), AV.lst p (rs.map (·.2)))] → a = p ∨ a ∈ Om.own rs ∨ a ∈ Om.shr rs := fun a z => by
    have z' := asL_of_own z
    have e : AV.asL ([((rs.all fresh1 : Bool), AV.lst p (rs.map (·.2)))].map (·.2)) = p :: AV.asL (rs.map (·.2)) := by show AV.as _ ++ [] = _; rw [List.append_nil, AV.as]
    rw [e] at z'
    rcases List.mem_cons.mp z' with z | z
    · exact .inl z
    · exact .inr (own_or_shr z)
  refine ⟨w, s1.keep, s1.dom, fun a q => ?_, fun a q => ?_, s1.ext⟩
  · rw [own_app, shr_app] at q
    have al := s.all a
    rw [own_app, shr_app] at al
    simp only [List.mem_append] at q al
    rcases q with (q | q) | (q | q) | q
    · simpa using al (.inl (.inl q))
    · rcases one a (.inl q) with rfl | z | z
      · exact .inr hp0
      · simpa using al (.inl (.inr z))
      · simpa using al (.inr (.inl (.inr z)))
    · simpa using al (.inr (.inl (.inl q)))
    · rcases one a (.inr q) with rfl | z | z
      · exact .inr hp0
      · simpa using al (.inl (.inr z))
      · simpa using al (.inr (.inl (.inr z)))
    · simpa using al (.inr (.inr q))
  · rw [own_app] at q
    have al := s.own a
    rw [own_app] at al
    simp only [List.mem_append] at q al
    rcases q with (q | q) | q
    · simpa using al (.inl (.inl q))
    · cases hf : rs.all fresh1 with
      | false => rw [hf] at q; exact absurd q (by simp [Om.own, own1])
      | true =>
        rw [hf] at q
        have e : Om.own [((true : Bool), AV.lst p (rs.map (·.2)))] = p :: AV.asL (rs.map (·.2)) := by show AV.as _ ++ [] = _; rw [List.append_nil, AV.as]
        rw [e, (fresh_own fun e he => (List.all_eq_true.mp hf) e he).1] at q
        rcases List.mem_cons.mp q with rfl | q
        · exact .inr hp0
        · simpa using al (.inl (.inr q))
    · simpa using al (.inr q)
end

end Om

/-! Om2: the small language and its interpreter. -/
namespace Om
noncomputable section
open PySem PySem.Spec PyProof.Rows L2

/-- a truth that the kernel does not look into -/
def veil (b : Bool) : Bool := @decide (b = true) (Classical.propDecidable _)
theorem veil_eq (b : Bool) : veil b = b := by
  unfold veil
  cases b
  · exact @decide_eq_false _ (Classical.propDecidable _) (by decide)
  · exact @decide_eq_true _ (Classical.propDecidable _) rfl

inductive Bop | add | sub | mul | fdiv | mod | pow | shl | shr | band | bor
  deriving DecidableEq, Repr
inductive Cop | eq | ne | lt | le | gt | ge | inn | nin
  deriving DecidableEq, Repr
/-- built-in functions of values -/
inductive Bi | len | sum | min | max | all | any | sorted | list | tuple | int | str | abs
  deriving DecidableEq, Repr
/-- classes asked of by isinstance -/
inductive Ty | int | bool | str | tuple | list
  deriving DecidableEq, Repr
/-- methods that change nothing -/
inductive Me | index | count | bits | join | split
  deriving DecidableEq, Repr
/-- methods that change a list -/
inductive Mu | append | extend | insert | pop | popAt | reverse | clear
  deriving DecidableEq, Repr

mutual
inductive E where
  | var (k : Nat)
  | non | bl (b : Bool) | int (i : Int) | str (s : Str)
  | glob (x : Str)
  | bop (op : Bop) (a b : E)
  | neg (a : E)
  | not (a : E)
  | and (a b : E) | or (a b : E)
  | cmp (op : Cop) (a b : E)
  | chain (o1 o2 : Cop) (a b c : E)
  | isN (pos : Bool) (a : E)
  | isB (pos : Bool) (b : Bool) (a : E)
  | tup (as : A) | lst (as : A) | newc (as : A)
  | ix (a i : E)
  | sl (a : E) (lo hi : O)
  | call (f : Str) (as : A)
  | bcall (b : Bi) (as : A)
  | lrng1 (a : E) | lrng2 (a b : E)
  | isi (a : E) (t : Ty)
  | meth (m : Me) (o : E) (as : A)
  | mut (m : Mu) (k : Nat) (path : A) (as : A)
  | comp (i : I) (g : G) (c : C) (e : E) (own : List Nat)
inductive A where
  | nil | cons (e : E) (as : A)
inductive O where
  | none | some (e : E)
/-- the test of a comprehension -/
inductive C where
  | yes | test (e : E)
/-- what is walked -/
inductive I where
  | seq (e : E) | seqSl (a : E) (lo hi : O) | rng1 (a : E) | rng2 (a b : E) | rng3 (a b c : E) | enum (e : E) | zip (a b : E)
/-- targets -/
inductive G where
  | name (k : Nat) | tup (gs : Gs)
inductive Gs where
  | nil | cons (g : G) (gs : Gs)
end
mutual
inductive S where
  | asg (g : G) (e : E)
  | setix (k : Nat) (i e : E)
  | expr (e : E)
  | ret (e : E) | retN
  | retT (as : A)
  | cond (c : E) (b1 b2 : B)
  | for (g : G) (i : I) (b : B)
  | while (c : E) (b : B)
  | raise (c : Str)
  | pass
  | tryx (b : B) (c : Str) (h : B)
  | shr (k : Nat)
  | par (i j : Nat) (as : A)
inductive B where
  | nil | cons (s : S) (b : B)
end

/-! ### the state -/
/-- how a slot holds its thing: shared; owned; locked (it is walked: looked at alone, till the walk is over) -/
inductive Mo | sh | ow | lk
  deriving DecidableEq, Repr
def moB : Bool → Mo
  | true => .ow
  | false => .sh
abbrev Slot := Option (Mo × D)
structure Sg where
  sl : List Slot
  ce : List (List D)
inductive Res (α : Type) where
  | ok (a : α) (g : Sg)
  | exc (c : Str) (g : Sg)
abbrev M (α : Type) := Sg → Option (Res α)
def M.pure {α : Type} (a : α) : M α := fun g => some (.ok a g)
def M.bind {α β : Type} (m : M α) (k : α → M β) : M β := fun g => match m g with
  | none => none
  | some (.ok a g') => k a g'
  | some (.exc c g') => some (.exc c g')
instance : Monad M where
  pure := M.pure
  bind := M.bind
def M.fail {α : Type} : M α := fun _ => none
def M.of {α : Type} (o : Option α) : M α := fun g => match o with
  | none => none
  | some a => some (.ok a g)
/-- a slot that is read (its thing stays where it is), or a thing of its own -/
inductive Ref where
  | slot (k : Nat)
  | path (k : Nat) (is : List Int)
  | tmp (fl : Bool) (d : D)
def D.isN (pos : Bool) : D → Bool
  | .non => pos
  | _ => !pos
def D.isLst : D → Bool
  | .lst _ => true
  | _ => false
/-- the items of a list or tuple -/
def D.items : D → Option (List D)
  | .tup ds => some ds
  | .lst ds => some ds
  | .scr ns => some (ns.map D.int)
  | _ => none
/-- a thing within a thing, by places -/
def atPath : D → List Int → Option D
  | d, [] => some d
  | d, i :: is => (d.items.bind fun ds => atI ds i).bind fun x => atPath x is
/-- the thing that a reference stands for, now -/
def Ref.get (r : Ref) (g : Sg) : Option D := match r with
  | .slot k => match g.sl[k]? with
    | some (some (_, d)) => some d
    | _ => none
  | .path k is => match g.sl[k]? with
    | some (some (_, d)) => atPath d is
    | _ => none
  | .tmp _ d => some d
def look (r : Ref) : M D := fun g => match r.get g with
  | none => none
  | some d => some (.ok d g)
/-- the thing handed on: what is read off a slot is shared from now on -/
def force (r : Ref) : M (Bool × D) := fun g => match r with
  | .tmp fl d => some (.ok (fl, d) g)
  | .path _ _ => none
  | .slot k => match g.sl[k]? with
    | some (some (m, d)) => if d.noL then some (.ok (false, d) g) else if m = .lk then none else some (.ok (false, d) { g with sl := g.sl.set k (some (.sh, d)) })
    | _ => none
def forceL : List Ref → M (List (Bool × D))
  | [] => pure []
  | r :: rs => do
    let e ← force r
    let es ← forceL rs
    pure (e :: es)

/-! ### what a function gives -/
inductive FR where
  | ret (fl : Bool) (d : D) (fin : List D)
  | exc (c : Str) (fin : List D)
/-- the functions: what they give; which parameters they change -/
structure Tab where
  run : Str → List D → Option FR
  mask : Str → List Bool
  glob : Str → Option D

/-! ### operations upon data -/
def D.flatItems (d : D) : Bool := match d.items with
  | some ds => D.noLL ds
  | none => false
mutual
/-- as the semantics' data (== of data) -/
def D.p : D → PyData
  | .non => .none
  | .bl b => .bool b
  | .int i => .int i
  | .str s => .str s
  | .scr ns => .list (ns.map PyData.int)
  | .cell _ => .none
  | .tup ds => .tuple (D.pL ds)
  | .lst ds => .list (D.pL ds)
def D.pL : List D → List PyData
  | [] => []
  | d :: ds => D.p d :: D.pL ds
end
def D.flat : D → Bool
  | .non | .bl _ | .int _ | .str _ => true
  | _ => false
def mulOk (i j : Int) : Bool := veil <| decide (-(2 ^ 64) < i ∧ i < 2 ^ 64) || decide (-(2 ^ 64) < j ∧ j < 2 ^ 64) || decide (i.natAbs.log2 + j.natAbs.log2 < 1000000)
def powOk (i j : Int) : Bool := veil <| decide (0 ≤ j ∧ j ≤ 1000000 ∧ i.natAbs < 2 ^ 64)
def fits (n : Nat) : Bool := veil <| decide (n ≤ 16777216)
def bopD : Bop → D → D → Option (D)
  | .add, .int i, .int j => some (.int (i + j))
  | .add, .str s, .str t => if fits (s.length + t.length) then some (.str (s ++ t)) else none
  | .add, .lst xs, .lst ys => if fits (xs.length + ys.length) && D.noLL xs && D.noLL ys then some (.lst (xs ++ ys)) else none
  | .add, .tup xs, .tup ys => if fits (xs.length + ys.length) && D.noLL xs && D.noLL ys then some (.tup (xs ++ ys)) else none
  | .sub, .int i, .int j => some (.int (i - j))
  | .mul, .int i, .int j => if mulOk i j then some (.int (i * j)) else none
  | .mul, .lst xs, .int j => if decide (-(2 ^ 63) ≤ j ∧ j < 2 ^ 63) && fits (xs.length * j.toNat) && D.noLL xs then some (.lst (List.replicate j.toNat xs).flatten) else none
  | .fdiv, .int i, .int j => if decide (0 < j) && (decide (j < 1073741824) || decide (j.natAbs.log2 < 9000)) then some (.int (i / j)) else none
  | .mod, .int i, .int j => if 0 < j then some (.int (i % j)) else none
  | .pow, .int i, .int j => if powOk i j then some (.int (i ^ j.toNat)) else none
  | .shl, .int i, .int j => if powOk i j then some (.int (i * 2 ^ j.toNat)) else none
  | .shr, .int i, .int j => if 0 ≤ j then some (.int (i / 2 ^ j.toNat)) else none
  | .band, .int i, .int j => some (.int (Builtin.bitAnd i j))
  | .bor, .int i, .int j => some (.int (Builtin.bitOr i j))
  | _, _, _ => none
def eqvD (x y : D) : Option Bool :=
  if x.noC && y.noC && SeqAt.shaped x.p && SeqAt.shaped y.p then some (PyData.eqv x.p y.p) else none
def inD (x y : D) : Option Bool := match x, y with
  | .str s, .str t => some (!(Builtin.Str.occurrences t s 0 t.length 1).isEmpty)
  | x, .lst ys => if x.noC && D.noCL ys && SeqAt.shaped x.p && SeqAt.shaped (D.lst ys).p then some (ys.any fun y => PyData.eqv y.p x.p) else none
  | x, .tup ys => if x.flat && ys.all D.flat then some (ys.any fun y => PyData.eqv y.p x.p) else none
  | _, _ => none
def cmpD : Cop → D → D → Option Bool
  | .eq, x, y => eqvD x y
  | .ne, x, y => (eqvD x y).map (! ·)
  | .lt, .int i, .int j => some (decide (i < j))
  | .le, .int i, .int j => some (decide (i ≤ j))
  | .gt, .int i, .int j => some (decide (j < i))
  | .ge, .int i, .int j => some (decide (j ≤ i))
  | .inn, x, y => inD x y
  | .nin, x, y => (inD x y).map (! ·)
  | _, _, _ => none
def intsD : List D → Option (List Int)
  | [] => some []
  | .int i :: ds => (intsD ds).map (i :: ·)
  | _ => none
def blsD : List D → Option (List Bool)
  | [] => some []
  | .bl i :: ds => (blsD ds).map (i :: ·)
  | _ => none
def strsD : List D → Option (List Str)
  | [] => some []
  | .str i :: ds => (strsD ds).map (i :: ·)
  | _ => none
def minI : List Int → Option Int
  | [] => none
  | i :: is => some (is.foldl (fun a b => if b < a then b else a) i)
def maxI : List Int → Option Int
  | [] => none
  | i :: is => some (is.foldl (fun a b => if b > a then b else a) i)
def insI (n : Int) : List Int → List Int
  | [] => [n]
  | m :: ms => if n ≤ m then n :: m :: ms else m :: insI n ms
def sortI : List Int → List Int
  | [] => []
  | n :: ns => insI n (sortI ns)
def bcallD : Bi → List D → Option D
  | .len, [.str s] => if fits s.length then some (.int s.length) else none
  | .len, [d] => d.items.map fun ds => .int ds.length
  | .sum, [.lst ds] => (intsD ds).map fun ns => .int ns.sum
  | .min, [.lst ds] => ((intsD ds).bind minI).map D.int
  | .max, [.lst ds] => ((intsD ds).bind maxI).map D.int
  | .min, [.int i, .int j] => some (.int (if j < i then j else i))
  | .max, [.int i, .int j] => some (.int (if j > i then j else i))
  | .all, [.lst ds] => (blsD ds).map fun bs => .bl (bs.all id)
  | .any, [.lst ds] => (blsD ds).map fun bs => .bl (bs.any id)
  | .sorted, [.lst ds] => (intsD ds).map fun ns => .lst ((sortI ns).map D.int)
  | .list, [.lst ds] => if D.noLL ds then some (.lst ds) else none
  | .list, [.tup ds] => if D.noLL ds then some (.lst ds) else none
  | .tuple, [.lst ds] => if D.noLL ds then some (.tup ds) else none
  | .tuple, [.tup ds] => if D.noLL ds then some (.tup ds) else none
  | .int, [.int i] => some (.int i)
  | .int, [.bl b] => some (.int (if b then 1 else 0))
  | .str, [.int i] => if i.natAbs.log2 < 1920 then some (.str (toString i)) else none
  | .abs, [.int i] => some (.int (if i < 0 then -i else i))
  | _, _ => none
def isiD : Ty → D → Option Bool
  | _, .cell _ => none
  | .int, .int _ => some true | .int, .bl _ => some true | .int, _ => some false
  | .bool, .bl _ => some true | .bool, _ => some false
  | .str, .str _ => some true | .str, _ => some false
  | .tuple, .tup _ => some true | .tuple, _ => some false
  | .list, .lst _ => some true | .list, .scr _ => some true | .list, _ => some false
/-- the item at a place, from either end -/
def atD (ds : List D) (i : Int) : Option D := atI ds i
def cutD (ds : List D) (lo hi : Option Int) : List D := (ds.drop (HT.sIx ds.length 0 lo)).take (HT.sIx ds.length ds.length hi - HT.sIx ds.length 0 lo)
def slD (d : D) (lo hi : Option Int) : Option D := match d with
  | .lst ds => some (.lst (cutD ds lo hi))
  | .tup ds => if D.noLL ds then some (.tup (cutD ds lo hi)) else none
  | _ => none
def idxI (ds : List D) (x : D) : Option Nat := ds.findIdx? fun y => PyData.eqv y.p x.p
def methD : Me → D → List D → Option D
  | .index, .lst ds, [x] => if x.flat && ds.all D.flat then (idxI ds x).map fun n => .int (n : Nat) else none
  | .bits, .int i, [] => some (.int (Builtin.Int.intBits i : Nat))
  | _, _, _ => none
/-- things that have the method -/
def Me.fit : Me → D → Bool
  | .index, .lst _ => true
  | .index, .scr _ => true
  | .index, .cell _ => true
  | .bits, .int _ => true
  | _, _ => false
/-- what a method makes of a list's items, and what it hands back -/
def mutD : Mu → List D → List D → Option (List D × D)
  | .append, ds, [x] => if decide (ds.length < 16777216) then some (ds ++ [x], .non) else none
  | .insert, ds, [.int i, x] => if decide (ds.length < 16777216) && decide (0 ≤ i ∧ i < 2 ^ 63) then some (ds.take i.toNat ++ x :: ds.drop i.toNat, .non) else none
  | .extend, ds, [.lst xs] => if fits (ds.length + xs.length) && D.noLL xs then some (ds ++ xs, .non) else none
  | .extend, ds, [.tup xs] => if fits (ds.length + xs.length) && D.noLL xs then some (ds ++ xs, .non) else none
  | .pop, ds, [] => match ds[ds.length - 1]? with
    | some x => if x.noL then some (ds.dropLast, x) else none
    | none => none
  | .reverse, ds, [] => some (ds.reverse, .non)
  | .clear, _, [] => some ([], .non)
  | _, _, _ => none

/-! ### the interpreter -/
/-- the thing read for an operation: a cell is read as the list that it holds -/
def decell (d : D) : M D := fun g => match d with
  | .cell n => match g.ce[n]? with
    | some ds => some (.ok (.lst ds) g)
    | none => none
  | d => some (.ok d g)
def peek (r : Ref) : M D := do decell (← look r)
mutual
/-- all cells within read as the lists that they hold -/
def D.dc (ce : List (List D)) : D → D
  | .cell n => match ce[n]? with
    | some ds => .lst ds
    | none => .cell n
  | .tup ds => .tup (D.dcL ce ds)
  | .lst ds => .lst (D.dcL ce ds)
  | d => d
def D.dcL (ce : List (List D)) : List D → List D
  | [] => []
  | d :: ds => D.dc ce d :: D.dcL ce ds
end
def deep (d : D) : M D := fun g => some (.ok (d.dc g.ce) g)
def peekD (r : Ref) : M D := do deep (← look r)
def peekL : List Ref → M (List D)
  | [] => pure []
  | r :: rs => do
    let d ← peek r
    let ds ← peekL rs
    pure (d :: ds)
def asB (r : Ref) : M Bool := do
  match ← look r with
  | .bl b => pure b
  | _ => M.fail
def asI (r : Ref) : M Int := do
  match ← look r with
  | .int b => pure b
  | _ => M.fail
def asIL : List Ref → M (List Int)
  | [] => pure []
  | r :: rs => do
    let d ← asI r
    let ds ← asIL rs
    pure (d :: ds)
def setSlot (k : Nat) (e : Slot) : M Unit := fun g => if k < g.sl.length then some (.ok () { g with sl := g.sl.set k e }) else none
/-- a slot's thing is shared from now on -/
def freeze (k : Nat) : M Unit := fun g => match g.sl[k]? with
  | some (some (m, d)) => if m = .lk then none else some (.ok () { g with sl := g.sl.set k (some (.sh, d)) })
  | _ => none
def freezeL : List Ref → M Unit
  | [] => pure ()
  | .slot k :: rs => do freeze k; freezeL rs
  | .tmp _ _ :: rs => freezeL rs
  | .path _ _ :: _ => M.fail
def fresh (e : Bool × D) : Bool := e.1 || e.2.noL
def readVar (k : Nat) : M Ref := fun g => match g.sl[k]? with
  | some (some (m, d)) => some (.ok (if d.noL || decide (m = .sh) then .tmp false d else .slot k) g)
  | _ => none
/-- an item of a thing that is read -/
def itemOf (r : Ref) (i : Int) (v : D) : M Ref :=
  if v.noL then pure (.tmp true v) else match r with
    | .tmp fl _ => pure (.tmp fl v)
    | .slot k => pure (.path k [i])
    | .path k is => pure (.path k (is ++ [i]))
/-- a thing within a slot's: shared from now on -/
def stab (r : Ref) : M Ref := match r with
  | .path k is => do
    let d ← look r
    freeze k
    pure (.tmp false d)
  | r => pure r
/-! calls: a parameter that is changed is lent: a slot of the caller's, owned -/
def lentOf : List Ref → List Bool → Option (List Nat)
  | .slot k :: rs, true :: ms => (lentOf rs ms).map (k :: ·)
  | _ :: _, true :: _ => none
  | _ :: rs, _ :: ms => lentOf rs ms
  | [], [] => some []
  | _, _ => none
def keptOf : List Ref → List Bool → List Ref
  | r :: rs, false :: ms => r :: keptOf rs ms
  | _ :: rs, true :: ms => keptOf rs ms
  | _, _ => []
def Ref.isSlot (k : Nat) : Ref → Bool
  | .slot j => decide (j = k)
  | _ => false
def putBack : List Nat → List D → M Unit
  | [], [] => pure ()
  | k :: ks, d :: ds => do setSlot k (some (.ow, d)); putBack ks ds
  | _, _ => M.fail
def lookL : List Ref → M (List D)
  | [] => pure []
  | r :: rs => do
    let d ← look r
    let ds ← lookL rs
    pure (d :: ds)
/-- the slots at ks are owned -/
def ownedL : List Nat → M Unit
  | [] => pure ()
  | k :: ks => fun g => match g.sl[k]? with
    | some (some (.ow, _)) => ownedL ks g
    | _ => none
def excM {α : Type} (c : Str) : M α := fun g => some (.exc c g)
def callF (T : Tab) (f : Str) (rs : List Ref) : M Ref := do
  let ks ← M.of (lentOf rs (T.mask f))
  let kept := keptOf rs (T.mask f)
  if decide (ks.length ≤ 1) && kept.all (fun r => ks.all fun k => !r.isSlot k) then
    ownedL ks
    let ds ← lookL rs
    if D.noCL ds then
      match T.run f ds with
      | none => M.fail
      | some (.ret fl d fin) =>
        if d.noC && D.noCL fin then do
          putBack ks fin
          if fl || d.noL then pure (.tmp fl d) else do
            freezeL kept
            pure (.tmp false d)
        else M.fail
      | some (.exc c fin) =>
        if D.noCL fin then do
          putBack ks fin
          excM c
        else M.fail
    else M.fail
  else M.fail
/-! a list within a slot's thing, by places -/
/-- the thing with another list at a place -/
def putPath : D → List Int → List D → Option D
  | .lst _, [], ys => some (.lst ys)
  | .lst ds, i :: is, ys => (ixN ds.length i).bind fun j => (ds[j]?).bind fun x => (putPath x is ys).map fun x' => .lst (ds.set j x')
  | .tup ds, i :: is, ys => (ixN ds.length i).bind fun j => (ds[j]?).bind fun x => (putPath x is ys).map fun x' => .tup (ds.set j x')
  | _, _, _ => none
def mutSlot (m : Mu) (k : Nat) (is : List Int) (es : List (Bool × D)) : M Ref := fun g => match g.sl[k]? with
  | some (some (m', d)) => match atPath d is with
    | some (.lst ds) => if decide (m' = .ow) && es.all fresh then match mutD m ds (es.map (·.2)) with
        | some (ys, r) => match putPath d is ys with
          | some d' => some (.ok (.tmp true r) { g with sl := g.sl.set k (some (.ow, d')) })
          | none => none
        | none => none
      else none
    | some (.cell n) => match g.ce[n]? with
      | some ds => if es.all (fun e => e.2.noL && e.2.noC) then match mutD m ds (es.map (·.2)) with
          | some (ys, r) => some (.ok (.tmp true r) { g with ce := g.ce.set n ys })
          | none => none
        else none
      | none => none
    | _ => none
  | _ => none
def hasK (k : Nat) : M Unit := fun g => match g.sl[k]? with
  | some (some _) => some (.ok () g)
  | _ => none
/-- at the place there stands a list, or a cell -/
def chkP (k : Nat) (is : List Int) : M Unit := fun g => match g.sl[k]? with
  | some (some (_, d)) => match atPath d is with
    | some (.lst _) => some (.ok () g)
    | some (.cell _) => some (.ok () g)
    | _ => none
  | _ => none
def unl {α : Type} (k : Nat) (f : Sg → Res α) (g : Sg) : Option (Res α) := match g.sl[k]? with
  | some (some (.lk, d)) => some (f { g with sl := g.sl.set k (some (.ow, d)) })
  | _ => none
/-- an owned slot is locked meanwhile -/
def lockIn {α : Type} (k : Nat) (m : M α) : M α := fun g => match g.sl[k]? with
  | some (some (.ow, d)) => match m { g with sl := g.sl.set k (some (.lk, d)) } with
    | none => none
    | some (.ok a g2) => unl k (.ok a) g2
    | some (.exc c g2) => unl k (.exc c) g2
  | _ => none
def lockO {α : Type} : Option Nat → M α → M α
  | none, m => m
  | some k, m => lockIn k m
def wipeL {α : Type} (s : List (Option α)) : List Nat → List (Option α)
  | [] => s
  | k :: ks => (wipeL s ks).set k none
def wipeS (ks : List Nat) (g : Sg) : Sg := { g with sl := wipeL g.sl ks }
/-- the old things in some slots -/
def mergeL {α : Type} (old s : List (Option α)) : List Nat → List (Option α)
  | [] => s
  | k :: ks => (mergeL old s ks).set k ((old[k]?).getD none)
/-- slots that are emptied behind -/
def wiping {α : Type} (b : Bool) (ks : List Nat) (m : M α) : M α := if b then fun g => match m g with
    | none => none
    | some (.ok a g2) => some (.ok a (wipeS ks g2))
    | some (.exc c g2) => some (.exc c (wipeS ks g2))
  else m
/-- expressions that change no slot and no list -/
def E.simple : E → Bool
  | .var _ | .int _ | .str _ | .bl _ | .non => true
  | _ => false
/-- a simple expression's thing -/
def simD (e : E) (g : Sg) : Option D := match e with
  | .var k => match g.sl[k]? with
    | some (some (_, d)) => some d
    | _ => none
  | .int i => some (.int i)
  | .str s => some (.str s)
  | .bl b => some (.bl b)
  | .non => some .non
  | _ => none
def simM (e : E) : M D := fun g => match simD e g with
  | some d => some (.ok d g)
  | none => none
/-- a second place behind a first -/
def D.asPlace (i : Int) : D → M (List Int)
  | .int j => pure [i, j]
  | _ => M.fail
def A.place2 (i : Int) : A → M (List Int)
  | .nil => pure [i]
  | .cons e2 .nil => if e2.simple then M.bind (simM e2) (D.asPlace i) else M.fail
  | _ => M.fail
def A.simple : A → Bool
  | .nil => true
  | .cons e as => e.simple && as.simple
def A.tailSimple : A → Bool
  | .nil => true
  | .cons _ as => as.simple
def A.isNil : A → Bool
  | .nil => true
  | _ => false
def range62 (i : Int) : Bool := veil <| decide (-(2 ^ 62) ≤ i ∧ i < 2 ^ 62)
def rngD (lo hi : Int) : List D := (List.range (hi - lo).toNat).map fun i => D.int (lo + (i : Nat))
mutual
def asgG : G → Mo × D → M Unit
  | .name k, e => setSlot k (some e)
  | .tup gs, (fl, d) => match d with
    | .tup ds => asgGs gs fl ds
    | .lst ds => if D.noLL ds then asgGs gs .sh ds else M.fail
    | _ => M.fail
def asgGs : Gs → Mo → List D → M Unit
  | .nil, _, [] => pure ()
  | .cons g gs, fl, d :: ds => do asgG g (fl, d); asgGs gs fl ds
  | _, _, _ => M.fail
end
inductive Ctl where
  | nx | rt (fl : Bool) (d : D)
/-- within a comprehension nothing is raised -/
def noX {α : Type} (m : M α) : M α := fun g => match m g with
  | some (.exc _ _) => none
  | r => r
/-- a comprehension's turns -/
def compL (own : List Nat) (g : G) (mo : Mo) (c : M Bool) (e : M Ref) : List D → M (List (Bool × D))
  | [] => pure []
  | d :: ds => fun s => (do
    asgG g (mo, d)
    let b ← noX c
    if b then
      let x ← noX (do force (← stab (← e)))
      let xs ← compL own g mo c e ds
      pure (x :: xs)
    else compL own g mo c e ds : M (List (Bool × D))) (wipeS own s)
def compM (own : List Nat) (g : G) (mo : Mo) (c : M Bool) (e : M Ref) (ds : List D) : M (List (Bool × D)) := fun s => match compL own g mo c e ds s with
  | some (.ok es s2) => some (.ok es { s2 with sl := mergeL s.sl s2.sl own })
  | _ => none
/-- what is walked: the things, how they are held meanwhile, the slot that is locked -/
abbrev Wk := List D × Mo × Option Nat
/-- a slot's thing is walked: a slot that has it is locked meanwhile -/
def walkK (k : Nat) (is : List Int) : M Wk := fun g => match g.sl[k]? with
  | some (some (m, d)) => match (atPath d is).bind D.items with
    | some ds => some (.ok (if d.noL || decide (m = .sh) then (ds, .sh, none) else (ds, if D.noLL ds then .sh else .lk, if m = .ow then some k else none)) g)
    | none => none
  | _ => none
def takeOut (r : Ref) : M Wk := match r with
  | .slot k => walkK k []
  | .path k is => walkK k is
  | .tmp _ d => do
    let ds ← M.of d.items
    pure (ds, .sh, none)
mutual
def G.slots : G → List Nat
  | .name k => [k]
  | .tup gs => Gs.slots gs
def Gs.slots : Gs → List Nat
  | .nil => []
  | .cons g gs => G.slots g ++ Gs.slots gs
end
def rng3Ok (i j k : Int) : Bool := veil <| decide (k ≠ 0 ∧ k.natAbs < 1073741824 ∧ 0 ≤ Builtin.Range.rangeSize i j k) && Builtin.Range.small i j k
def rng3D (i j k : Int) : List D := (List.range (Builtin.Range.rangeSize i j k).toNat).map fun n => D.int (i + (n : Nat) * k)
def enumD : Nat → List D → List D
  | _, [] => []
  | n, d :: ds => .tup [.int (n : Nat), d] :: enumD (n + 1) ds
def zipD : List D → List D → List D
  | x :: xs, y :: ys => .tup [x, y] :: zipD xs ys
  | _, _ => []
mutual
def evR (T : Tab) : E → M Ref
  | .var k => readVar k
  | .non => pure (.tmp true .non)
  | .bl b => pure (.tmp true (.bl b))
  | .int i => pure (.tmp true (.int i))
  | .str s => pure (.tmp true (.str s))
  | .glob x => do
    let d ← M.of (T.glob x)
    if d.noL && d.noC then pure (.tmp true d) else M.fail
  | .bop op a b => do
    let r1 ← stab (← evR T a)
    let r2 ← evR T b
    let x ← peek r1
    let y ← peek r2
    let d ← M.of (bopD op x y)
    pure (.tmp true d)
  | .neg a => do
    let i ← asI (← evR T a)
    pure (.tmp true (.int (-i)))
  | .not a => do
    let b ← asB (← evR T a)
    pure (.tmp true (.bl (!b)))
  | .and a b => do
    let c ← asB (← evR T a)
    if c then evR T b else pure (.tmp true (.bl false))
  | .or a b => do
    let c ← asB (← evR T a)
    if c then pure (.tmp true (.bl true)) else evR T b
  | .cmp op a b => if b.simple then do
      let x ← peekD (← evR T a)
      let y ← deep (← simM b)
      let d ← M.of (cmpD op x y)
      pure (.tmp true (.bl d))
    else do
      let r1 ← stab (← evR T a)
      let r2 ← evR T b
      let x ← peekD r1
      let y ← peekD r2
      let d ← M.of (cmpD op x y)
      pure (.tmp true (.bl d))
  | .chain o1 o2 a b c => do
    let i ← asI (← evR T a)
    let j ← asI (← evR T b)
    let d ← M.of (cmpD o1 (.int i) (.int j))
    if d then do
      let k ← asI (← evR T c)
      let d2 ← M.of (cmpD o2 (.int j) (.int k))
      pure (.tmp true (.bl d2))
    else pure (.tmp true (.bl false))
  | .isN pos a => do
    let d ← look (← evR T a)
    pure (.tmp true (.bl (d.isN pos)))
  | .isB pos b a => do
    let c ← asB (← evR T a)
    pure (.tmp true (.bl (if pos then decide (c = b) else !decide (c = b))))
  | .tup as => do
    let es ← forceL (← evA T as)
    if fits es.length then pure (.tmp (es.all fresh) (.tup (es.map (·.2)))) else M.fail
  | .lst as => do
    let es ← forceL (← evA T as)
    if fits es.length then pure (.tmp (es.all fresh) (.lst (es.map (·.2)))) else M.fail
  | .newc as => do
    let es ← forceL (← evA T as)
    if fits es.length && es.all (fun e => e.2.noL && e.2.noC) then fun g => some (.ok (.tmp true (.cell g.ce.length)) { g with ce := g.ce ++ [es.map (·.2)] }) else M.fail
  | .ix a i => if i.simple then do
      let r ← evR T a
      let d ← peek r
      match ← simM i with
      | .int k => do
        let ds ← M.of d.items
        let v ← M.of (atI ds k)
        itemOf r k v
      | _ => M.fail
    else do
      let r ← stab (← evR T a)
      let k ← asI (← evR T i)
      let d ← peek r
      let ds ← M.of d.items
      let v ← M.of (atI ds k)
      itemOf r k v
  | .sl a lo hi => do
    let r ← stab (← evR T a)
    let l ← evO T lo
    let h ← evO T hi
    let d ← peek r
    let x ← M.of (slD d l h)
    if x.flatItems then pure (.tmp true x) else do
      let y ← force r
      pure (.tmp false x)
  | .call f as => do
    let rs ← evA T as
    callF T f rs
  | .bcall b as => do
    let rs ← evA T as
    let ds ← peekL rs
    let d ← M.of (bcallD b ds)
    pure (.tmp true d)
  | .lrng1 a => do
    let n ← asI (← evR T a)
    if range62 n && decide (n.toNat ≤ 2 ^ 24) then pure (.tmp true (.lst (rngD 0 n))) else M.fail
  | .lrng2 a b => do
    let l ← asI (← evR T a)
    let h ← asI (← evR T b)
    if range62 l && range62 h && decide ((h - l).toNat ≤ 2 ^ 24) then pure (.tmp true (.lst (rngD l h))) else M.fail
  | .isi a t => do
    let d ← look (← evR T a)
    let b ← M.of (isiD t d)
    pure (.tmp true (.bl b))
  | .meth m o as => do
    let r ← stab (← evR T o)
    let d0 ← look r
    if m.fit d0 then do
      let rs ← evA T as
      let d ← peek r
      let ds ← peekL rs
      let x ← M.of (methD m d ds)
      pure (.tmp true x)
    else M.fail
  | .mut m k path as => do
    hasK k
    let is ← evP T path
    chkP k is
    let es ← lockIn k (do forceL (← evA T as))
    mutSlot m k is es
  | .comp i g c e own => do
    let w ← evI T i
    if fits w.1.length then do
      let es ← lockO w.2.2 (compM own g w.2.1 (evC T c) (evR T e) w.1)
      pure (.tmp (es.all fresh) (.lst (es.map (·.2))))
    else M.fail
def evA (T : Tab) : A → M (List Ref)
  | .nil => pure []
  | .cons e as => do
    let r ← stab (← evR T e)
    let rs ← evA T as
    pure (r :: rs)
/-- places: the first one any, the second one simple -/
def evP (T : Tab) : A → M (List Int)
  | .nil => pure []
  | .cons e as => do
    let i ← asI (← evR T e)
    as.place2 i
def evO (T : Tab) : O → M (Option Int)
  | .none => pure none
  | .some e => do
    let i ← asI (← evR T e)
    pure (some i)
def evC (T : Tab) : C → M Bool
  | .yes => pure true
  | .test e => do asB (← evR T e)
/-- the things that are walked; a slot that is walked is out of its place meanwhile -/
def evI (T : Tab) : I → M Wk
  | .seq e => do takeOut (← evR T e)
  | .seqSl a lo hi => do
    let r ← stab (← evR T a)
    let l ← evO T lo
    let h ← evO T hi
    let d ← look r
    if d.isLst then do
      let w ← takeOut r
      pure (cutD w.1 l h, w.2.1, w.2.2)
    else do
      let x ← M.of (slD d l h)
      let ds ← M.of x.items
      pure (ds, .sh, none)
  | .rng1 a => do
    let i ← asI (← evR T a)
    if range62 i then pure (rngD 0 i, .sh, none) else M.fail
  | .rng2 a b => do
    let i ← asI (← evR T a)
    let j ← asI (← evR T b)
    if range62 i && range62 j then pure (rngD i j, .sh, none) else M.fail
  | .rng3 a b c => do
    let i ← asI (← evR T a)
    let j ← asI (← evR T b)
    let k ← asI (← evR T c)
    if rng3Ok i j k then pure (rng3D i j k, .sh, none) else M.fail
  | .enum e => do
    let x ← force (← stab (← evR T e))
    match x.2 with
    | .lst ds => if D.noLL ds then pure (enumD 0 ds, .sh, none) else M.fail
    | _ => M.fail
  | .zip a b => do
    let x ← force (← stab (← evR T a))
    let y ← force (← stab (← evR T b))
    match x.2, y.2 with
    | .lst xs, .lst ys => if D.noLL xs && D.noLL ys then pure (zipD xs ys, .sh, none) else M.fail
    | .tup xs, .tup ys => if D.noLL xs && D.noLL ys then pure (zipD xs ys, .sh, none) else M.fail
    | _, _ => M.fail
end
/-- a for's turns -/
def forL (f : D → M Ctl) : List D → M Ctl
  | [] => pure .nx
  | d :: ds => do
    match ← f d with
    | .nx => forL f ds
    | .rt fl x => pure (.rt fl x)
def whileL (c : M Bool) (b : M Ctl) : Nat → M Ctl
  | 0 => M.fail
  | n + 1 => do
    if ← c then
      match ← b with
      | .nx => whileL c b n
      | .rt fl x => pure (.rt fl x)
    else pure .nx
/-- what a return hands over: an owned slot's thing goes with it -/
def moveR (r : Ref) : M (Bool × D) := fun g => match r with
  | .path _ _ => none
  | .tmp fl d => some (.ok (fl, d) g)
  | .slot k => match g.sl[k]? with
    | some (some (.ow, d)) => some (.ok (true, d) { g with sl := g.sl.set k none })
    | _ => none
def moveL : List Ref → M (List (Bool × D))
  | [] => pure []
  | r :: rs => do
    let e ← moveR r
    let es ← moveL rs
    pure (e :: es)
/-- at most so many turns of a while -/
def turns : Nat := 1000000
def caught (c' c : Str) : Bool := decide (c' = c) || decide (c = "WoodError") || decide (c = "ValueError")
/-- what is assigned: things that are unpacked and hold no lists are read where they are -/
def unpk (g : G) (r : Ref) : M (Bool × D) := match g with
  | .tup _ => do
    let d ← look r
    if d.flatItems then pure (false, d) else do force (← stab r)
  | .name _ => do force (← stab r)
/-- two things without lists, stored into two names -/
def par2 (i j : Nat) : List (Bool × D) → M Ctl
  | [x, y] => if x.2.noL && y.2.noL && !decide (i = j) then (asgGs (.cons (.name i) (.cons (.name j) .nil)) .sh [x.2, y.2] >>= fun _ => pure .nx) else M.fail
  | _ => M.fail
mutual
def evS (T : Tab) : S → M Ctl
  | .asg g e => do
    let r ← evR T e
    let x ← unpk g r
    asgG g (moB x.1, x.2)
    pure .nx
  | .setix k i e => do
    let x ← force (← stab (← evR T e))
    hasK k
    let n ← asI (← evR T i)
    fun s => match s.sl[k]? with
    | some (some (.ow, .lst ds)) => if fresh x then match ixN ds.length n with
        | some j => some (.ok .nx { s with sl := s.sl.set k (some (.ow, .lst (ds.set j x.2))) })
        | none => none
      else none
    | _ => none
  | .expr e => do
    let _ ← evR T e
    pure .nx
  | .ret e => do
    let x ← moveR (← stab (← evR T e))
    pure (.rt x.1 x.2)
  | .retN => pure (.rt true .non)
  | .retT as => do
    let es ← moveL (← evA T as)
    if fits es.length then pure (.rt (es.all fresh) (.tup (es.map (·.2)))) else M.fail
  | .cond c b1 b2 => do
    let b ← asB (← evR T c)
    if b then evB T b1 else evB T b2
  | .for g i b => do
    let w ← evI T i
    lockO w.2.2 (wiping (decide (w.2.1 = .lk)) g.slots (forL (fun d => do asgG g (w.2.1, d); evB T b) w.1))
  | .while c b => whileL (do asB (← evR T c)) (evB T b) turns
  | .raise c => excM c
  | .pass => pure .nx
  | .tryx b c h => fun g => match evB T b g with
    | some (.exc c' g') => if c' = c then evB T h g' else none
    | r => r
  | .shr k => do
    freeze k
    pure .nx
  | .par i j as => do
    let es ← forceL (← evA T as)
    par2 i j es
def evB (T : Tab) : B → M Ctl
  | .nil => pure .nx
  | .cons s b => do
    match ← evS T s with
    | .nx => evB T b
    | x => pure x
end

/-! ### functions -/
structure Df where
  np : Nat
  ns : Nat
  mask : List Bool
  body : B
/-- a call's first state -/
def start0 (f : Df) (ds : List D) : Sg := ⟨(f.mask.zip ds).map (fun p => some (moB p.1, p.2)) ++ List.replicate (f.ns - f.np) none, []⟩
def finOf (sl : List Slot) : List Bool → Nat → Option (List D)
  | [], _ => some []
  | true :: ms, k => match sl[k]? with
    | some (some (.ow, d)) => (finOf sl ms (k + 1)).map (d :: ·)
    | _ => none
  | false :: ms, k => finOf sl ms (k + 1)
/-- what is given back: things without cells -/
def finC (sl : List Slot) (mask : List Bool) : Option (List D) := match finOf sl mask 0 with
  | some fin => if D.noCL fin then some fin else none
  | none => none
def runF (T : Tab) (f : Df) (ds : List D) : Option FR :=
  if decide (ds.length = f.np) && decide (f.mask.length = f.np) && decide (f.np ≤ f.ns) && D.noCL ds then
    match evB T f.body (start0 f ds) with
    | none => none
    | some (.ok (.rt fl d) g) => if d.noC then (finC g.sl f.mask).map fun fin => .ret fl d fin else none
    | some (.ok .nx g) => (finC g.sl f.mask).map fun fin => .ret true .non fin
    | some (.exc c g) => (finC g.sl f.mask).map fun fin => .exc c fin
  else none
/-- a program: its defs, its constants -/
structure Pg where
  defs : List (Str × Df)
  glob : List (Str × D)
def Pg.tab (P : Pg) : Nat → Tab
  | 0 => ⟨fun _ _ => none, fun f => match P.defs.lookup f with
    | some d => d.mask
    | none => [], fun x => P.glob.lookup x⟩
  | n + 1 => ⟨fun f ds => match P.defs.lookup f with
    | some d => runF (P.tab n) d ds
    | none => none, fun f => match P.defs.lookup f with
    | some d => d.mask
    | none => [], fun x => P.glob.lookup x⟩
end
end Om

/-! Om3: what the interpreter says, holds: outcomes, and how they are joined. -/
namespace Om
open PySem PySem.Spec PyProof.Rows L2
abbrev St := L2.St

theorem PE.weak {X : Cx} {e : Expr} {t t' : TE} (h : PE X e t) (w : ∀ σ H Q, t' σ H Q → t σ H Q) : PE X e t' := ⟨fun pins s σ H Q I q => h.run pins s σ H Q I (w σ H Q q)⟩
theorem PT.weak {X : Cx} {e : Expr} {t t' : TT} (h : PT X e t) (w : ∀ σ H Q, t' σ H Q → t σ H Q) : PT X e t' := ⟨fun pins s σ H Q I q => h.run pins s σ H Q I (w σ H Q q)⟩
theorem PA.weak {X : Cx} {e : List Expr} {t t' : TA} (h : PA X e t) (w : ∀ σ H Q, t' σ H Q → t σ H Q) : PA X e t' := ⟨fun pos pins s σ H Q I q => h.run pos pins s σ H Q I (w σ H Q q)⟩
theorem PS.weak {X : Cx} {e : Stmt} {t t' : TS} (h : PS X e t) (w : ∀ D σ H, t' D σ H → t D σ H) : PS X e t' := ⟨fun pins s σ H D I q => h.run pins s σ H D I (w D σ H q)⟩
theorem PSs.weak {X : Cx} {e : List Stmt} {t t' : TS} (h : PSs X e t) (w : ∀ D σ H, t' D σ H → t D σ H) : PSs X e t' := ⟨fun pins s σ H D I q => h.run pins s σ H D I (w D σ H q)⟩

/-! ### states with addresses -/
abbrev SlA := List (Option (Mo × AV))
/-- what a slot counts for: locked things do not count (they are told elsewhere) -/
def entO : Option (Mo × AV) → Option En
  | some (.ow, x) => some (true, x)
  | some (.sh, x) => some (false, x)
  | _ => none
def ents (sl : SlA) : List En := sl.filterMap entO
def entL (o : Option (Mo × AV)) : List En := (entO o).toList
theorem ents_cons (o : Option (Mo × AV)) (sl : SlA) : ents (o :: sl) = entL o ++ ents sl := by
  unfold ents entL
  rw [List.filterMap_cons]
  cases entO o <;> rfl
theorem ents_set : ∀ {sl : SlA} {k : Nat} (o : Option (Mo × AV)), k < sl.length → (ents (sl.set k o)).Perm (entL o ++ ents (sl.set k none))
  | [], k, o, h => by simp at h
  | x :: sl, 0, o, h => by rw [List.set_cons_zero, List.set_cons_zero, ents_cons, ents_cons]; exact .refl _
  | x :: sl, k + 1, o, h => by
    have ih := ents_set (sl := sl) (k := k) o (by simpa using h)
    rw [List.set_cons_succ, List.set_cons_succ, ents_cons, ents_cons]
    refine (ih.append_left _).trans ?_
    exact List.perm_append_comm_assoc _ _ _
theorem set_same {α : Type} {sl : List α} {k : Nat} {o : α} (h : sl[k]? = some o) : sl.set k o = sl := by
  apply List.ext_getElem?
  intro i
  by_cases hi : k = i
  · subst hi
    rw [List.getElem?_set_self (List.getElem?_eq_some_iff.mp h).1, h]
  · rw [List.getElem?_set_ne hi]
theorem ents_get {sl : SlA} {k : Nat} {o : Option (Mo × AV)} (h : sl[k]? = some o) : (ents sl).Perm (entL o ++ ents (sl.set k none)) := by
  have hk := (List.getElem?_eq_some_iff.mp h).1
  have := ents_set (sl := sl) (k := k) o hk
  rw [set_same h] at this
  exact this
theorem mem_ents {sl : SlA} {k : Nat} {m : Mo} {x : AV} {e : En} (h : sl[k]? = some (some (m, x))) (he : entO (some (m, x)) = some e) : e ∈ ents sl := by
  unfold ents
  rw [List.mem_filterMap]
  exact ⟨_, List.mem_of_getElem? h, he⟩

structure GA where
  sl : SlA
  ce : Ce
def enD (e : Mo × AV) : Mo × D := (e.1, e.2.d)
def GA.d (g : GA) : Sg := ⟨g.sl.map (Option.map enD), g.ce.map fun p => p.2.map AV.d⟩
def GA.vs (g : GA) : St := g.sl.map (Option.map fun e => e.2.v)
/-- the state's world; what is locked lies as told, and apart from what is owned -/
structure GW (K : PySem.W.Frag) (H : Hp) (g : GA) : Prop where
  wd : Wd K H (ents g.sl) g.ce
  gh : ∀ (k : Nat) (x : AV), g.sl[k]? = some (some (.lk, x)) → x.ok K H g.ce ∧ ∀ a ∈ x.as, a ∉ own (ents g.sl) ++ ceA g.ce
/-- a step from g to g', with new things rs -/
structure GSt (K : PySem.W.Frag) (H : Hp) (g : GA) (H' : Hp) (g' : GA) (rs : List En) : Prop where
  st : Stp K H (ents g.sl) g.ce H' (ents g'.sl ++ rs) g'.ce
  vs : g'.vs = g.vs
  gk : ∀ (k : Nat) (x : AV), g'.sl[k]? = some (some (.lk, x)) → g.sl[k]? = some (some (.lk, x))
section
variable {K : PySem.W.Frag} {H H' H1 H2 : Hp} {g g' g1 g2 : GA} {rs rs' : List En}
theorem GSt.wd (s : GSt K H g H' g' rs) : Wd K H' (ents g'.sl ++ rs) g'.ce := s.st.wd
theorem GSt.gw (s : GSt K H g H' g' rs) (w : GW K H g) : GW K H' g' := by
  refine ⟨s.st.left.wd, fun k x h => ?_⟩
  obtain ⟨h1, h2⟩ := w.gh k x (s.gk k x h)
  refine ⟨AV.ok_keep s.st.keep w.wd.ownL s.st.ext x h1 h2, fun a ha hm => ?_⟩
  rcases s.st.left.own a hm with z | z
  · exact h2 a ha z
  · obtain ⟨vs, q⟩ := AV.ok_as x h1 a ha
    rw [z] at q; cases q
theorem GSt.refl (w : GW K H g) : GSt K H g H g [] := ⟨by rw [List.append_nil]; exact .refl w.wd, rfl, fun _ _ h => h⟩
theorem GSt.app (s1 : GSt K H g H1 g1 rs) (s2 : GSt K H1 g1 H2 g2 rs') : GSt K H g H2 g2 (rs ++ rs') := ⟨s1.st.app s2.st, s2.vs.trans s1.vs, fun k x h => s1.gk k x (s2.gk k x h)⟩
theorem GSt.sub {R : List En} (s : GSt K H g H' g' rs) (h : ∃ X, rs.Perm (R ++ X)) : GSt K H g H' g' R := by
  obtain ⟨X, p⟩ := h
  exact ⟨s.st.sub ⟨X, by rw [List.append_assoc]; exact p.append_left _⟩, s.vs, s.gk⟩
theorem GSt.drop (s : GSt K H g H' g' rs) : GSt K H g H' g' [] := s.sub ⟨rs, .refl _⟩
theorem GSt.trans (s1 : GSt K H g H1 g1 rs) (s2 : GSt K H1 g1 H2 g2 rs') : GSt K H g H2 g2 rs' := (s1.app s2).sub ⟨rs, List.perm_append_comm⟩
end

/-! ### slots, with and without addresses -/
section
variable {K : PySem.W.Frag} {H H' H1 H2 : Hp} {g g' g1 g2 : GA} {rs rs' : List En}
theorem GA.slD (g : GA) (k : Nat) : g.d.sl[k]? = (g.sl[k]?).map (Option.map enD) := by simp [GA.d]
theorem GA.slV (g : GA) (k : Nat) : g.vs[k]? = (g.sl[k]?).map (Option.map fun e => e.2.v) := by simp [GA.vs]
theorem GA.lenD (g : GA) : g.d.sl.length = g.sl.length := by simp [GA.d]
theorem GA.slot_of {k : Nat} {m : Mo} {d : D} (h : g.d.sl[k]? = some (some (m, d))) : ∃ av : AV, g.sl[k]? = some (some (m, av)) ∧ av.d = d := by
  rw [GA.slD] at h
  cases e : g.sl[k]? with
  | none => rw [e] at h; cases h
  | some o =>
    rw [e] at h
    cases o with
    | none => cases h
    | some en =>
      obtain ⟨b, av⟩ := en
      simp only [Option.map_some, enD, Option.some.injEq, Prod.mk.injEq] at h
      exact ⟨av, by rw [h.1], h.2⟩
theorem GA.slot_v {k : Nat} {e : Mo × AV} (h : g.sl[k]? = some (some e)) : g.vs[k]? = some (some e.2.v) := by rw [GA.slV, h]; rfl
theorem GA.slot_d {k : Nat} {e : Mo × AV} (h : g.sl[k]? = some (some e)) : g.d.sl[k]? = some (some (e.1, e.2.d)) := by rw [GA.slD, h]; rfl
theorem GA.v_slot {k : Nat} {v : V} (h : g.vs[k]? = some (some v)) : ∃ e, g.sl[k]? = some (some e) ∧ e.2.v = v := by
  rw [GA.slV] at h
  cases e : g.sl[k]? with
  | none => rw [e] at h; cases h
  | some o =>
    rw [e] at h
    cases o with
    | none => cases h
    | some en =>
      simp only [Option.map_some, Option.some.injEq] at h
      exact ⟨en, rfl, h⟩
theorem GA.ceD (g : GA) (n : Nat) : g.d.ce[n]? = (g.ce[n]?).map fun p => p.2.map AV.d := by simp [GA.d]
/-- a slot's thing lies as told -/
theorem GW.slot (w : GW K H g) {k : Nat} {e : Mo × AV} (h : g.sl[k]? = some (some e)) : e.2.ok K H g.ce := by
  obtain ⟨m, x⟩ := e
  cases m with
  | sh => exact w.wd.ok (false, x) (mem_ents h rfl)
  | ow => exact w.wd.ok (true, x) (mem_ents h rfl)
  | lk => exact (w.gh k x h).1
end

/-! ### things within things -/
def AV.items : AV → Option (List AV)
  | .tup _ xs => some xs
  | .lst _ xs => some xs
  | .scr _ ns => some (ns.map AV.int)
  | _ => none
def AV.at : AV → List Int → Option AV
  | x, [] => some x
  | x, i :: is => (x.items.bind fun xs => atI xs i).bind fun y => AV.at y is
theorem atI_map {α β : Type} (f : α → β) (xs : List α) (i : Int) : atI (xs.map f) i = (atI xs i).map f := by
  unfold atI
  rw [List.length_map]
  cases ixN xs.length i with
  | none => rfl
  | some j => simp
theorem atI_mem {α : Type} {xs : List α} {i : Int} {x : α} (h : atI xs i = some x) : x ∈ xs := by
  unfold atI at h
  cases e : ixN xs.length i with
  | none => rw [e] at h; cases h
  | some j => rw [e] at h; exact List.mem_of_getElem? h
theorem AV.items_d (x : AV) : x.d.items = x.items.map (fun xs => xs.map AV.d) := by
  cases x <;> first | rfl | (simp [AV.d, D.items, AV.items, AV.dL_eq])
theorem AV.at_d : ∀ (is : List Int) (x : AV), atPath x.d is = (x.at is).map AV.d
  | [], x => by cases x <;> rfl
  | i :: is, x => by
    rw [AV.at]
    have e : atPath x.d (i :: is) = (x.d.items.bind fun ds => atI ds i).bind fun y => atPath y is := by cases x <;> rfl
    rw [e, AV.items_d]
    cases h : x.items with
    | none => rfl
    | some xs =>
      simp only [Option.map_some, Option.bind_some]
      rw [atI_map]
      cases h2 : atI xs i with
      | none => rfl
      | some y => simp only [Option.map_some, Option.bind_some]; exact AV.at_d is y
section
variable {K : PySem.W.Frag} {H : Hp} {C : Ce}
theorem AV.items_ok {x : AV} {xs : List AV} (h : x.items = some xs) (ok : x.ok K H C) : ∀ y ∈ xs, y.ok K H C ∧ ∀ a ∈ y.as, a ∈ x.as := by
  cases x with
  | tup a ys =>
    cases h
    rw [AV.ok] at ok
    exact fun y hy => ⟨AV.okL_iff.mp ok.2 y hy, fun b hb => by rw [AV.as]; exact mem_asL.mpr ⟨y, hy, hb⟩⟩
  | lst a ys =>
    cases h
    rw [AV.ok] at ok
    exact fun y hy => ⟨AV.okL_iff.mp ok.2 y hy, fun b hb => by rw [AV.as]; exact List.mem_cons_of_mem _ (mem_asL.mpr ⟨y, hy, hb⟩)⟩
  | scr a ns =>
    cases h
    intro y hy
    obtain ⟨n, _, rfl⟩ := List.mem_map.mp hy
    exact ⟨trivial, fun b hb => by simp [AV.as] at hb⟩
  | _ => cases h
theorem AV.at_ok : ∀ (is : List Int) {x y : AV}, x.at is = some y → x.ok K H C → y.ok K H C ∧ ∀ a ∈ y.as, a ∈ x.as
  | [], x, y, h, ok => by cases h; exact ⟨ok, fun _ h => h⟩
  | i :: is, x, y, h, ok => by
    rw [AV.at] at h
    cases e : x.items with
    | none => rw [e] at h; cases h
    | some xs =>
      rw [e] at h
      simp only [Option.bind_some] at h
      cases e2 : atI xs i with
      | none => rw [e2] at h; cases h
      | some z =>
        rw [e2] at h
        simp only [Option.bind_some] at h
        obtain ⟨o1, a1⟩ := AV.items_ok e ok z (atI_mem e2)
        obtain ⟨o2, a2⟩ := AV.at_ok is h o1
        exact ⟨o2, fun a ha => a1 a (a2 a ha)⟩
end

/-! ### kinds of answers -/
/-- an answer of the interpreter (α), with addresses (β), and what the machine has for it (γ) -/
structure Kd (α γ : Type) where
  β : Type
  er : β → α
  ens : β → List En
  val : PySem.W.Frag → GA → Hp → β → γ → Prop
/-- a reference that may point into a slot's thing -/
inductive RefA where
  | slot (k : Nat)
  | path (k : Nat) (is : List Int)
  | tmp (e : En)
def RefA.r : RefA → Ref
  | .slot k => .slot k
  | .path k is => .path k is
  | .tmp e => .tmp e.1 e.2.d
def RefA.ens : RefA → List En
  | .tmp e => [e]
  | _ => []
def RefA.is (g : GA) : RefA → V → Prop
  | .slot k, v => g.vs[k]? = some (some v)
  | .path k is, v => ∃ e x, g.sl[k]? = some (some e) ∧ e.2.at is = some x ∧ x.v = v
  | .tmp e, v => v = e.2.v
/-- a reference to a slot's thing or to a thing of its own -/
inductive RefB where
  | slot (k : Nat)
  | tmp (e : En)
def RefB.r : RefB → Ref
  | .slot k => .slot k
  | .tmp e => .tmp e.1 e.2.d
def RefB.a : RefB → RefA
  | .slot k => .slot k
  | .tmp e => .tmp e
def RefB.ens : RefB → List En
  | .tmp e => [e]
  | _ => []
def RefB.is (g : GA) : RefB → V → Prop
  | .slot k, v => g.vs[k]? = some (some v)
  | .tmp e, v => v = e.2.v
theorem RefB.is_vs {g g' : GA} {r : RefB} {v : V} (h : r.is g v) (e : g'.vs = g.vs) : r.is g' v := by
  cases r with
  | slot k => show g'.vs[k]? = _; rw [e]; exact h
  | tmp _ => exact h
theorem RefB.ar (r : RefB) : r.a.r = r.r := by cases r <;> rfl
theorem RefB.aens (r : RefB) : r.a.ens = r.ens := by cases r <;> rfl
theorem RefB.ais {g : GA} {v : V} {r : RefB} (h : r.is g v) : r.a.is g v := by cases r <;> exact h
def kRef : Kd Ref V := ⟨RefA, RefA.r, RefA.ens, fun _ g _ => RefA.is g⟩
def kS : Kd Ref V := ⟨RefB, RefB.r, RefB.ens, fun _ g _ => RefB.is g⟩
def kB : Kd Bool Bool := ⟨Bool, id, fun _ => [], fun _ _ _ b c => c = b⟩
def kI : Kd Int V := ⟨Int, id, fun _ => [], fun _ _ _ b c => c = .int b⟩
def kO : Kd (Option Int) (Option Int) := ⟨Option Int, id, fun _ => [], fun _ _ _ b c => c = b⟩
def ensL (rs : List RefB) : List En := rs.flatMap RefB.ens
def isL (g : GA) : List RefB → List V → Prop
  | [], vs => vs = []
  | r :: rs, vs => ∃ v vs', vs = v :: vs' ∧ r.is g v ∧ isL g rs vs'
theorem isL_vs {g g' : GA} : ∀ {rs : List RefB} {vs : List V}, isL g rs vs → g'.vs = g.vs → isL g' rs vs
  | [], _, h, _ => h
  | _ :: _, _, ⟨v, vs', e, h1, h2⟩, q => ⟨v, vs', e, RefB.is_vs h1 q, isL_vs h2 q⟩
def kL : Kd (List Ref) (List V) := ⟨List RefB, fun rs => rs.map RefB.r, ensL, fun _ g _ => isL g⟩

/-- what must hold, from (H, g) on, so that the answer o of the interpreter is good for Q; W: what is wanted where something is raised -/
def Out {α γ : Type} (k : Kd α γ) (K : PySem.W.Frag) (W : Str → St → Hp → Prop) (H : Hp) (g : GA) (o : Option (Res α)) (Q : γ → Hp → Prop) : Prop := match o with
  | none => False
  | some (.ok a gd) => ∀ (g' : GA) (b : k.β) (H' : Hp) (v : γ), GSt K H g H' g' (k.ens b) → g'.d = gd → k.er b = a → k.val K g' H' b v → Q v H'
  | some (.exc c gd) => ∀ (g' : GA) (H' : Hp), GSt K H g H' g' [] → g'.d = gd → W c g'.vs H'
/-- the interpreter's answer as a reading -/
def SM {α γ : Type} (k : Kd α γ) (K : PySem.W.Frag) (W : Str → St → Hp → Prop) (m : M α) : St → Hp → (γ → Hp → Prop) → Prop := fun σ H Q =>
  ∃ g : GA, g.vs = σ ∧ GW K H g ∧ Out k K W H g (m g.d) Q
section
variable {K : PySem.W.Frag} {W : Str → St → Hp → Prop} {H H' H1 H2 : Hp} {g g' g1 g2 : GA} {rs rs' : List En} {α β γ δ : Type} {k : Kd α γ} {k1 : Kd β δ}
/-- from a later state -/
theorem Out.later {o : Option (Res α)} {Q : γ → Hp → Prop} (h : Out k K W H g o Q) (s : GSt K H g H1 g1 rs) : Out k K W H1 g1 o Q := by
  cases o with
  | none => exact h
  | some r =>
    cases r with
    | ok a gd => exact fun g' b H' v s' e1 e2 e3 => h g' b H' v (s.trans s') e1 e2 e3
    | exc c gd => exact fun g' H' s' e => h g' H' (s.trans s') e
/-- the first of two -/
theorem Out.bind (k1 : Kd β δ) {m : M β} {f : β → M α} {gd : Sg} {Q : γ → Hp → Prop} {P : δ → Hp → Prop} (h : Out k K W H g ((m >>= f) gd) Q)
    (q : ∀ (g1 : GA) (b : k1.β) (H1 : Hp) (v : δ), GSt K H g H1 g1 (k1.ens b) → k1.val K g1 H1 b v → Out k K W H g (f (k1.er b) g1.d) Q → P v H1) : Out k1 K W H g (m gd) P := by
  have h' : Out k K W H g (M.bind m f gd) Q := h
  unfold M.bind at h'
  cases e : m gd with
  | none => rw [e] at h'; exact h'
  | some r =>
    cases r with
    | ok a g0 =>
      rw [e] at h'
      intro g' b H' v s e1 e2 e3
      refine q g' b H' v s e3 ?_
      rw [e1, e2]; exact h'
    | exc c g0 => rw [e] at h'; exact h'
/-- a part that needs no state -/
theorem Out.of {o : Option β} {f : β → M α} {gd : Sg} {Q : γ → Hp → Prop} (h : Out k K W H g ((M.of o >>= f) gd) Q) : ∃ b, o = some b ∧ Out k K W H g (f b gd) Q := by
  have h' : Out k K W H g (M.bind (M.of o) f gd) Q := h
  unfold M.bind M.of at h'
  cases o with
  | none => exact h'.elim
  | some b => exact ⟨b, rfl, h'⟩
/-- a part that answers from the state alone and leaves it as it is -/
theorem Out.reads {m : M β} {f : β → M α} {gd : Sg} {Q : γ → Hp → Prop} (h : Out k K W H g ((m >>= f) gd) Q) (hm : ∀ r, m gd = some r → ∃ b, r = .ok b gd) : ∃ b, m gd = some (.ok b gd) ∧ Out k K W H g (f b gd) Q := by
  have h' : Out k K W H g (M.bind m f gd) Q := h
  unfold M.bind at h'
  cases e : m gd with
  | none => rw [e] at h'; exact h'.elim
  | some r =>
    obtain ⟨b, rfl⟩ := hm r e
    rw [e] at h'
    exact ⟨b, rfl, h'⟩
theorem M.assoc {m : M α} {f : α → M β} {h : β → M γ} : ((m >>= f) >>= h) = (m >>= fun x => (f x >>= h)) := by
  funext gd
  show M.bind (M.bind m f) h gd = M.bind m (fun x => M.bind (f x) h) gd
  unfold M.bind
  cases m gd with
  | none => rfl
  | some x => cases x <;> rfl
theorem M.pure_bind {a : α} {f : α → M β} : ((pure a : M α) >>= f) = f a := rfl

/-- a thing of data d at the value v -/
def Has (K : PySem.W.Frag) (H : Hp) (C : Ce) (v : V) (d : D) : Prop := ∃ av : AV, av.v = v ∧ av.d = d ∧ av.ok K H C
theorem RefA.has {r : RefA} {v : V} {d : D} (w : Wd K H (ents g.sl ++ rs) g.ce) (gw : GW K H g) (hr : ∀ e ∈ r.ens, e ∈ rs) (h : r.is g v) (e : r.r.get g.d = some d) : ∃ av : AV, av.v = v ∧ av.d = d ∧ av.ok K H g.ce := by
  cases r with
  | tmp en =>
    have e' : some en.2.d = some d := e
    exact ⟨en.2, h.symm, Option.some.inj e', w.ok en (List.mem_append_right _ (hr en (List.mem_singleton.mpr rfl)))⟩
  | slot k =>
    have e' : (match g.d.sl[k]? with
      | some (some (_, d)) => some d
      | _ => none) = some d := e
    have hv : g.vs[k]? = some (some v) := h
    obtain ⟨en, q1, q2⟩ := GA.v_slot hv
    rw [GA.slot_d q1] at e'
    exact ⟨en.2, q2, Option.some.inj e', gw.slot q1⟩
  | path k is =>
    have e' : (match g.d.sl[k]? with
      | some (some (_, d)) => atPath d is
      | _ => none) = some d := e
    obtain ⟨en, x, q1, q2, q3⟩ := h
    rw [GA.slot_d q1] at e'
    have e'' : atPath en.2.d is = some d := e'
    rw [AV.at_d, q2] at e''
    exact ⟨x, q3, Option.some.inj e'', (AV.at_ok is q2 (gw.slot q1)).1⟩
/-- looked at -/
theorem Out.look {r : RefA} {v : V} {f : D → M α} {Q : γ → Hp → Prop} (h : Out k K W H g ((look r.r >>= f) g2.d) Q) (w : Wd K H2 (ents g2.sl ++ rs) g2.ce) (gw : GW K H2 g2) (hr : ∀ e ∈ r.ens, e ∈ rs) (hv : r.is g2 v) :
    ∃ d, Has K H2 g2.ce v d ∧ Out k K W H g (f d g2.d) Q := by
  obtain ⟨d, e, o⟩ := h.reads (fun x hx => by
    unfold Om.look at hx
    split at hx
    · cases hx
    · cases hx; exact ⟨_, rfl⟩)
  refine ⟨d, RefA.has w gw hr hv ?_, o⟩
  unfold Om.look at e
  split at e
  · cases e
  · rename_i d' q
    cases e; exact q
theorem decell_ok {d : D} {gd : Sg} : ∀ r, decell d gd = some r → ∃ b, r = .ok b gd := fun x hx => by
  unfold decell at hx
  split at hx
  · split at hx
    · cases hx; exact ⟨_, rfl⟩
    · cases hx
  · cases hx; exact ⟨_, rfl⟩
theorem Has.decell {v : V} {d d' : D} {gd : Sg} (h : Has K H g.ce v d) (w : Wd K H (ents g.sl ++ rs) g.ce) (e : decell d g.d = some (.ok d' gd)) : Has K H g.ce v d' ∧ gd = g.d := by
  obtain ⟨av, hv, hd, ok⟩ := h
  cases d with
  | cell n =>
    have e' : (match g.d.ce[n]? with
      | some ds => some (Res.ok (D.lst ds) g.d)
      | none => none) = some (.ok d' gd) := e
    rw [GA.ceD] at e'
    cases q : g.ce[n]? with
    | none => rw [q] at e'; cases e'
    | some p =>
      rw [q] at e'
      cases e'
      refine ⟨?_, rfl⟩
      cases av with
      | cell a m =>
        rw [AV.d] at hd
        cases hd
        rw [AV.ok, List.getElem?_map, q] at ok
        obtain rfl : p.1 = a := Option.some.inj ok
        have c := w.ce p (List.mem_of_getElem? q)
        refine ⟨.lst p.1 p.2, hv, by rw [AV.d, AV.dL_eq], ?_⟩
        rw [AV.ok]
        exact ⟨c.1, AV.okL_iff.mpr fun x hx => (c.2 x hx).1⟩
      | _ => simp [AV.d] at hd
  | _ => cases e; exact ⟨⟨av, hv, hd, ok⟩, rfl⟩
theorem Out.peek {r : RefA} {v : V} {f : D → M α} {Q : γ → Hp → Prop} (h : Out k K W H g ((peek r.r >>= f) g2.d) Q) (w : Wd K H2 (ents g2.sl ++ rs) g2.ce) (gw : GW K H2 g2) (hr : ∀ e ∈ r.ens, e ∈ rs) (hv : r.is g2 v) :
    ∃ d, Has K H2 g2.ce v d ∧ Out k K W H g (f d g2.d) Q := by
  have h' : Out k K W H g (((Om.look r.r) >>= fun d => (decell d >>= f)) g2.d) Q := by
    have e : (Om.peek r.r >>= f) = ((Om.look r.r) >>= fun d => (decell d >>= f)) := by unfold Om.peek; rw [M.assoc]
    rw [e] at h; exact h
  obtain ⟨d, hd, o⟩ := h'.look w gw hr hv
  obtain ⟨d', e, o'⟩ := o.reads decell_ok
  exact ⟨d', (hd.decell w e).1, o'⟩
/-! all cells within -/
theorem Has.dc (w : Wd K H (ents g.sl ++ rs) g.ce) : ∀ (av : AV), av.ok K H g.ce → ∃ bv : AV, bv.v = av.v ∧ bv.d = av.d.dc g.d.ce ∧ bv.ok K H g.ce := by
  intro av
  exact AV.rec (motive_1 := fun av => av.ok K H g.ce → ∃ bv : AV, bv.v = av.v ∧ bv.d = av.d.dc g.d.ce ∧ bv.ok K H g.ce)
    (motive_2 := fun avs => AV.okL K H g.ce avs → ∃ bvs : List AV, bvs.map AV.v = avs.map AV.v ∧ AV.dL bvs = D.dcL g.d.ce (AV.dL avs) ∧ AV.okL K H g.ce bvs)
    (fun h => ⟨.non, rfl, rfl, h⟩) (fun b h => ⟨.bl b, rfl, rfl, h⟩) (fun i h => ⟨.int i, rfl, rfl, h⟩) (fun s h => ⟨.str s, rfl, rfl, h⟩) (fun a ns h => ⟨.scr a ns, rfl, rfl, h⟩)
    (fun a n h => by
      rw [AV.ok, List.getElem?_map] at h
      cases q : g.ce[n]? with
      | none => rw [q] at h; cases h
      | some p =>
        rw [q] at h
        obtain rfl : p.1 = a := Option.some.inj h
        have c := w.ce p (List.mem_of_getElem? q)
        refine ⟨.lst p.1 p.2, rfl, ?_, ?_⟩
        · rw [AV.d, AV.d, AV.dL_eq]
          show _ = (match g.d.ce[n]? with
            | some ds => D.lst ds
            | none => .cell n)
          rw [GA.ceD, q]; rfl
        · rw [AV.ok]
          exact ⟨c.1, AV.okL_iff.mpr fun x hx => (c.2 x hx).1⟩)
    (fun a xs ih h => by
      rw [AV.ok] at h
      obtain ⟨ys, e1, e2, e3⟩ := ih h.2
      exact ⟨.tup a ys, rfl, by rw [AV.d, AV.d, D.dc, e2], by rw [AV.ok, e1]; exact ⟨h.1, e3⟩⟩)
    (fun a xs ih h => by
      rw [AV.ok] at h
      obtain ⟨ys, e1, e2, e3⟩ := ih h.2
      exact ⟨.lst a ys, rfl, by rw [AV.d, AV.d, D.dc, e2], by rw [AV.ok, e1]; exact ⟨h.1, e3⟩⟩)
    (fun _ => ⟨[], rfl, rfl, trivial⟩)
    (fun x xs ih1 ih2 h => by
      rw [AV.okL] at h
      obtain ⟨y, a1, a2, a3⟩ := ih1 h.1
      obtain ⟨ys, b1, b2, b3⟩ := ih2 h.2
      exact ⟨y :: ys, by rw [List.map_cons, List.map_cons, a1, b1], by rw [AV.dL, AV.dL, D.dcL, a2, b2], by rw [AV.okL]; exact ⟨a3, b3⟩⟩) av
theorem Out.peekD {r : RefA} {v : V} {f : D → M α} {Q : γ → Hp → Prop} (h : Out k K W H g ((peekD r.r >>= f) g2.d) Q) (w : Wd K H2 (ents g2.sl ++ rs) g2.ce) (gw : GW K H2 g2) (hr : ∀ e ∈ r.ens, e ∈ rs) (hv : r.is g2 v) :
    ∃ d, Has K H2 g2.ce v d ∧ Out k K W H g (f d g2.d) Q := by
  have h' : Out k K W H g (((Om.look r.r) >>= fun d => (deep d >>= f)) g2.d) Q := by
    have e : (Om.peekD r.r >>= f) = ((Om.look r.r) >>= fun d => (deep d >>= f)) := by unfold Om.peekD; rw [M.assoc]
    rw [e] at h; exact h
  obtain ⟨d, ⟨av, hv', hd, ok⟩, o⟩ := h'.look w gw hr hv
  obtain ⟨bv, e1, e2, e3⟩ := Has.dc (g := g2) w av ok
  exact ⟨_, ⟨bv, e1.trans hv', by rw [e2, hd], e3⟩, o⟩

/-! ### answers of their own: a flat one, a new list, a new tuple -/
def D.fv : D → V
  | .non => .non
  | .bl b => .bl b
  | .int i => .int i
  | .str s => .str s
  | _ => .non
def D.fa : D → AV
  | .non => .non
  | .bl b => .bl b
  | .int i => .int i
  | .str s => .str s
  | _ => .non
theorem D.fa_spec {d : D} (hd : d.flat = true) : d.fa.d = d ∧ d.fa.as = [] ∧ d.fa.v = d.fv ∧ ∀ H C, d.fa.ok K H C := by
  cases d <;> first | exact ⟨rfl, rfl, rfl, fun _ _ => trivial⟩ | cases hd
theorem Out.tmp {e : En} {fl : Bool} {d : D} {Q : VK} (h : Out kRef K W H g (some (.ok (.tmp fl d) g2.d)) Q) (s : GSt K H g H2 g2 [e]) (h1 : e.1 = fl) (h2 : e.2.d = d) : Q e.2.v H2 :=
  h g2 (.tmp e) H2 e.2.v s rfl (by show Ref.tmp e.1 e.2.d = _; rw [h1, h2]) rfl
theorem GSt.flat (s : GSt K H g H2 g2 rs) {e : En} (h : e.2.as = []) (ok : e.2.ok K H2 g2.ce) : GSt K H g H2 g2 (rs ++ [e]) := by
  refine ⟨?_, s.vs, s.gk⟩
  have z := s.st.flat (e := e) h ok
  refine z.perm ?_
  rw [← List.append_assoc]
  exact (List.perm_append_singleton _ _).symm
theorem Out.flat {fl : Bool} {d : D} {Q : VK} (h : Out kRef K W H g (some (.ok (.tmp fl d) g2.d)) Q) (s : GSt K H g H2 g2 rs) (hd : d.flat = true) : Q d.fv H2 := by
  obtain ⟨e1, e2, e3, e4⟩ := D.fa_spec (K := K) hd
  rw [← e3]
  exact h.tmp (e := (fl, d.fa)) (s.drop.flat (e := (fl, d.fa)) e2 (e4 _ _)) rfl e1
/-- a new list, a new tuple of things that hold no lists -/
theorem GSt.addL {xs : List AV} (s : GSt K H g H2 g2 rs) (h : ∀ x ∈ xs, x.ok K H2 g2.ce ∧ x.d.noL = true) : GSt K H g H2 g2 (xs.map fun x => (true, x)) := by
  refine ⟨?_, s.vs, s.gk⟩
  have z := s.drop.st
  rw [List.append_nil] at z
  have go : ∀ ys : List AV, (∀ x ∈ ys, x.ok K H2 g2.ce ∧ x.d.noL = true) → Stp K H (ents g.sl) g.ce H2 ((ys.map fun x => ((true, x) : En)) ++ ents g2.sl) g2.ce := by
    intro ys
    induction ys with
    | nil => intro _; exact z
    | cons y ys ih =>
      intro hy
      exact (ih fun x hx => hy x (List.mem_cons_of_mem _ hx)).flat (e := (true, y)) (AV.as_noL y (hy y List.mem_cons_self).2) (hy y List.mem_cons_self).1
  exact (go xs h).perm List.perm_append_comm
theorem GSt.lst (s : GSt K H g H2 g2 rs) {p : Addr} (hp : H2 p = none) : GSt K H g (upd H2 p (.lst (rs.map fun e => e.2.v))) g2 [(rs.all fresh1, .lst p (rs.map (·.2)))] := ⟨s.st.lst hp, s.vs, s.gk⟩
theorem GSt.tup (s : GSt K H g H2 g2 rs) {p : Addr} (hp : H2 p = none) : GSt K H g (upd H2 p (.tup (rs.map fun e => e.2.v))) g2 [(rs.all fresh1, .tup p (rs.map (·.2)))] := ⟨s.st.tup hp, s.vs, s.gk⟩
theorem all_own (xs : List AV) : (xs.map fun x => ((true, x) : En)).all fresh1 = true := by
  rw [List.all_eq_true]
  intro e he
  obtain ⟨x, _, rfl⟩ := List.mem_map.mp he
  rfl
theorem Out.newL {ds : List D} {xs : List AV} {Q : VK} (h : Out kRef K W H g (some (.ok (.tmp true (.lst ds)) g2.d)) Q) (s : GSt K H g H2 g2 rs) (hx : ∀ x ∈ xs, x.ok K H2 g2.ce) (e : xs.map AV.d = ds) (hn : D.noLL ds = true) :
    ∀ p, H2 p = none → Q (.ref p) (upd H2 p (.lst (xs.map AV.v))) := by
  intro p hp
  have s1 := s.addL (xs := xs) fun x hx' => ⟨hx x hx', D.noLL_iff.mp hn _ (by rw [← e]; exact List.mem_map.mpr ⟨x, hx', rfl⟩)⟩
  have s2 := s1.lst hp
  rw [all_own, List.map_map, List.map_map] at s2
  have e1 : (xs.map ((fun e : En => e.2.v) ∘ fun x => ((true, x) : En))) = xs.map AV.v := rfl
  have e2 : (xs.map ((fun e : En => e.2) ∘ fun x => ((true, x) : En))) = xs := by simp [Function.comp_def]
  rw [e1, e2] at s2
  exact h.tmp s2 rfl (by rw [AV.d, AV.dL_eq, e])
theorem Out.newT {ds : List D} {xs : List AV} {Q : VK} (h : Out kRef K W H g (some (.ok (.tmp true (.tup ds)) g2.d)) Q) (s : GSt K H g H2 g2 rs) (hx : ∀ x ∈ xs, x.ok K H2 g2.ce) (e : xs.map AV.d = ds) (hn : D.noLL ds = true) :
    ∀ p, H2 p = none → Q (.ref p) (upd H2 p (.tup (xs.map AV.v))) := by
  intro p hp
  have s1 := s.addL (xs := xs) fun x hx' => ⟨hx x hx', D.noLL_iff.mp hn _ (by rw [← e]; exact List.mem_map.mpr ⟨x, hx', rfl⟩)⟩
  have s2 := s1.tup hp
  rw [all_own, List.map_map, List.map_map] at s2
  have e1 : (xs.map ((fun e : En => e.2.v) ∘ fun x => ((true, x) : En))) = xs.map AV.v := rfl
  have e2 : (xs.map ((fun e : En => e.2) ∘ fun x => ((true, x) : En))) = xs := by simp [Function.comp_def]
  rw [e1, e2] at s2
  exact h.tmp s2 rfl (by rw [AV.d, AV.dL_eq, e])
end
end Om

/-! Om4: slots changed: sharing, reading, forcing. -/
namespace Om
open PySem PySem.Spec PyProof.Rows L2

def GA.put (g : GA) (k : Nat) (o : Option (Mo × AV)) : GA := ⟨g.sl.set k o, g.ce⟩
theorem map_set' {α β : Type} (f : α → β) (l : List α) (k : Nat) (a : α) : (l.set k a).map f = (l.map f).set k (f a) := by rw [List.map_set]
theorem GA.put_d (g : GA) (k : Nat) (o : Option (Mo × AV)) : (g.put k o).d = { g.d with sl := g.d.sl.set k (o.map enD) } := by
  simp [GA.put, GA.d, List.map_set]
theorem GA.put_vs (g : GA) (k : Nat) (o : Option (Mo × AV)) : (g.put k o).vs = g.vs.set k (o.map fun e => e.2.v) := by
  simp [GA.put, GA.vs, List.map_set]
theorem GA.put_same_vs {g : GA} {k : Nat} {e e' : Mo × AV} (h : g.sl[k]? = some (some e)) (hv : e'.2.v = e.2.v) : (g.put k (some e')).vs = g.vs := by
  rw [GA.put_vs]
  refine set_same ?_
  rw [GA.slot_v h, ← hv]; rfl
theorem GA.put_ce (g : GA) (k : Nat) (o : Option (Mo × AV)) : (g.put k o).ce = g.ce := rfl
theorem GA.put_get {g : GA} {k j : Nat} {o : Option (Mo × AV)} (hk : k < g.sl.length) : (g.put k o).sl[j]? = if k = j then some o else g.sl[j]? := by
  show (g.sl.set k o)[j]? = _
  rw [List.getElem?_set]
  split
  · rfl
  · rfl
theorem lt_of_some {α : Type} {l : List α} {k : Nat} {a : α} (h : l[k]? = some a) : k < l.length := (List.getElem?_eq_some_iff.mp h).1
section
variable {K : PySem.W.Frag} {H H' H1 H2 : Hp} {L : List En} {C C' : Ce} {g g' g1 g2 : GA} {rs rs' : List En}
/-- a thing within a shared one, told besides -/
theorem Wd.part {x y : AV} (w : Wd K H ((false, x) :: L) C) (ok : y.ok K H C) (sub : ∀ a ∈ y.as, a ∈ x.as) : Wd K H ((false, y) :: (false, x) :: L) C := by
  have e : shr ((false, y) :: (false, x) :: L) = y.as ++ shr ((false, x) :: L) := rfl
  refine ⟨fun e he => ?_, w.nd, fun a ha hm => ?_, w.ce⟩
  · rcases List.mem_cons.mp he with rfl | he
    · exact ok
    · exact w.ok e he
  · rw [e] at ha
    refine w.sh a ?_ hm
    rcases List.mem_append.mp ha with h | h
    · show a ∈ x.as ++ shr L
      exact List.mem_append_left _ (sub a h)
    · exact h
theorem Stp.part {L' : List En} {x y : AV} (s : Stp K H L C H' ((false, x) :: L') C') (ok : y.ok K H' C') (sub : ∀ a ∈ y.as, a ∈ x.as) : Stp K H L C H' ((false, y) :: (false, x) :: L') C' := by
  refine s.chg (s.wd.part ok sub) (fun a q => ?_) fun a q => q
  have e : shr ((false, y) :: (false, x) :: L') = y.as ++ shr ((false, x) :: L') := rfl
  rcases q with q | q
  · exact .inl q
  · rw [e] at q
    rcases List.mem_append.mp q with q | q
    · exact .inr (show a ∈ x.as ++ shr L' from List.mem_append_left _ (sub a q))
    · exact .inr q
/-- the entries of a state in which slot k holds o -/
theorem perm_get {k : Nat} {o : Option (Mo × AV)} (h : g.sl[k]? = some o) : (ents g.sl ++ rs).Perm (entL o ++ (ents (g.sl.set k none) ++ rs)) := by
  rw [← List.append_assoc]; exact (ents_get h).append_right _
theorem perm_put {k : Nat} (o : Option (Mo × AV)) (h : k < g.sl.length) : (ents (g.put k o).sl ++ rs).Perm (entL o ++ (ents (g.sl.set k none) ++ rs)) := by
  rw [← List.append_assoc]; exact (ents_set o h).append_right _
/-- a slot's thing is shared from now on -/
theorem GSt.share {k : Nat} {m : Mo} {x : AV} (s : GSt K H g H1 g1 rs) (h : g1.sl[k]? = some (some (m, x))) (hm : m ≠ .lk) : GSt K H g H1 (g1.put k (some (.sh, x))) rs := by
  have hk := lt_of_some h
  refine ⟨?_, (GA.put_same_vs (e := (m, x)) (e' := (.sh, x)) h rfl).trans s.vs, fun j y hj => ?_⟩
  · obtain ⟨b, hb⟩ : ∃ b : Bool, entL (some (m, x)) = [(b, x)] := by cases m <;> first | exact ⟨_, rfl⟩ | exact absurd rfl hm
    have p := perm_get (rs := rs) h
    rw [hb] at p
    exact ((s.st.perm p).share).perm (perm_put (rs := rs) (some (.sh, x)) hk).symm
  · rw [GA.put_get hk] at hj
    split at hj
    · cases hj
    · exact s.gk j y hj
/-- a thing within a shared slot's, besides -/
theorem GSt.part {k : Nat} {x y : AV} (s : GSt K H g H1 g1 rs) (h : g1.sl[k]? = some (some (.sh, x))) (ok : y.ok K H1 g1.ce) (sub : ∀ a ∈ y.as, a ∈ x.as) : GSt K H g H1 g1 (rs ++ [(false, y)]) := by
  refine ⟨?_, s.vs, s.gk⟩
  have p := perm_get (rs := rs) h
  have q := (s.st.perm p).part (y := y) ok sub
  refine q.perm ?_
  have p' := (p.symm.cons ((false, y) : En))
  refine p'.trans ?_
  rw [← List.append_assoc]
  exact (List.perm_append_singleton _ _).symm
end

section
variable {K : PySem.W.Frag} {W : Str → St → Hp → Prop} {H H' H1 H2 : Hp} {g g' g1 g2 : GA} {rs rs' : List En} {α β γ δ : Type} {k : Kd α γ}
/-- a thing at a path is shared from now on -/
theorem Out.stab {b : RefA} {v : V} {Q : VK} {H1 : Hp} (o : Out kS K W H g (Om.stab b.r g1.d) Q) (w : GW K H g) (s : GSt K H g H1 g1 b.ens) (hv : b.is g1 v) : Q v H1 := by
  cases b with
  | slot k => exact o g1 (.slot k) H1 v s rfl rfl hv
  | tmp e => exact o g1 (.tmp e) H1 v s rfl rfl hv
  | path k is =>
    have o1 : Out kS K W H g ((Om.look (RefA.path k is).r >>= fun d => (freeze k >>= fun _ => (pure (.tmp false d) : M Ref))) g1.d) Q := o
    obtain ⟨e, x, q1, q2, q3⟩ := hv
    obtain ⟨m, av⟩ := e
    obtain ⟨d, hd, o2⟩ := o1.reads (fun r hr => by
      unfold Om.look at hr
      split at hr
      · cases hr
      · cases hr; exact ⟨_, rfl⟩)
    have ed : x.d = d := by
      unfold Om.look at hd
      have z : (RefA.path k is).r.get g1.d = some x.d := by
        show (match g1.d.sl[k]? with
          | some (some (_, d)) => atPath d is
          | _ => none) = _
        rw [GA.slot_d q1]
        show atPath av.d is = _
        rw [AV.at_d, q2]; rfl
      rw [z] at hd
      cases hd; rfl
    subst ed
    have o3 : Out kS K W H g (M.bind (freeze k) (fun _ => (pure (.tmp false x.d) : M Ref)) g1.d) Q := o2
    unfold M.bind freeze at o3
    rw [GA.slot_d q1] at o3
    by_cases hm : m = .lk
    · simp only [hm, if_true] at o3; exact o3.elim
    · simp only [hm, if_false] at o3
      have s1 := s.share q1 hm
      have gw := s1.gw w
      have q1' : (g1.put k (some (.sh, av))).sl[k]? = some (some (.sh, av)) := by rw [GA.put_get (lt_of_some q1), if_pos rfl]
      have ok0 : av.ok K H1 (g1.put k (some (.sh, av))).ce := gw.slot q1'
      obtain ⟨ok, sub⟩ := AV.at_ok is q2 ok0
      have s2 := s1.part q1' ok sub
      refine o3 (g1.put k (some (.sh, av))) (.tmp (false, x)) H1 v ?_ ?_ rfl q3.symm
      · exact s2
      · rw [GA.put_d]; rfl
theorem se_stab {X : Cx} {x : Expr} {m : M Ref} (h : PE X x (SM kRef X.K W m)) : PE X x (SM kS X.K W (m >>= stab)) :=
  PE.weak h fun σ H Q ⟨g, e, w, o⟩ => ⟨g, e, w, o.bind kRef fun g1 b H1 v s hv o1 => o1.stab w s hv⟩
/-- a thing handed on -/
theorem Out.force {b : RefB} {v : V} {f : Bool × D → M α} {Q : γ → Hp → Prop} (o : Out k K W H g ((Om.force b.r >>= f) g1.d) Q) (w : GW K H g) (s : GSt K H g H1 g1 rs) (hs : ∃ X, rs.Perm (b.ens ++ X)) (hv : b.is g1 v) :
    ∃ (g2 : GA) (e : En) (X : List En), GSt K H g H1 g2 ([e] ++ X) ∧ rs.Perm (b.ens ++ X) ∧ e.2.v = v ∧ g2.vs = g1.vs ∧ Out k K W H g (f (e.1, e.2.d) g2.d) Q := by
  have o1 : Out k K W H g (M.bind (Om.force b.r) f g1.d) Q := o
  obtain ⟨X, p⟩ := hs
  cases b with
  | tmp e =>
    refine ⟨g1, e, X, s.sub ⟨[], by rw [List.append_nil]; exact p⟩, p, hv.symm, rfl, ?_⟩
    unfold M.bind Om.force at o1
    exact o1
  | slot j =>
    obtain ⟨⟨m, av⟩, q1, q2⟩ := GA.v_slot (show g1.vs[j]? = some (some v) from hv)
    unfold M.bind Om.force at o1
    have hr : (RefB.slot j).r = Ref.slot j := rfl
    simp only [hr] at o1
    rw [GA.slot_d q1] at o1
    have p' : rs.Perm X := p
    by_cases hn : av.d.noL = true
    · simp only [hn, if_true] at o1
      have ok := (s.gw w).slot q1
      refine ⟨g1, (false, av), X, ?_, p, q2, rfl, o1⟩
      exact (s.flat (e := (false, av)) (AV.as_noL av hn) ok).sub ⟨[], by
        rw [List.append_nil]
        exact (List.perm_append_singleton _ _).trans (p'.cons _)⟩
    · simp only [hn] at o1
      by_cases hm : m = .lk
      · simp only [hm] at o1; exact (o1 : False).elim
      · simp only [hm] at o1
        have s1 := s.share q1 hm
        have q1' : (g1.put j (some (.sh, av))).sl[j]? = some (some (.sh, av)) := by rw [GA.put_get (lt_of_some q1), if_pos rfl]
        have ok : av.ok K H1 (g1.put j (some (.sh, av))).ce := (s1.gw w).slot q1'
        have s2 := s1.part q1' ok fun _ h => h
        refine ⟨g1.put j (some (.sh, av)), (false, av), X, ?_, p, q2, GA.put_same_vs (e := (m, av)) (e' := (.sh, av)) q1 rfl, ?_⟩
        · exact s2.sub ⟨[], by
            rw [List.append_nil]
            exact (List.perm_append_singleton _ _).trans (p'.cons _)⟩
        · rw [GA.put_d]; exact o1
end
end Om

/-! Om5: operations upon values, by their data. -/
namespace Om
open PySem PySem.Spec PyProof.Rows L2

section
variable {K : PySem.W.Frag} {H H' H1 H2 : Hp} {C : Ce} {v : V}
theorem Has.non (h : Has K H C v .non) : v = .non := by
  obtain ⟨av, rfl, hd, _⟩ := h
  cases av <;> first | rfl | simp [AV.d] at hd
theorem Has.bl {b : Bool} (h : Has K H C v (.bl b)) : v = .bl b := by
  obtain ⟨av, rfl, hd, _⟩ := h
  cases av with
  | bl c => rw [AV.d] at hd; cases hd; rfl
  | _ => simp [AV.d] at hd
theorem Has.int {i : Int} (h : Has K H C v (.int i)) : v = .int i := by
  obtain ⟨av, rfl, hd, _⟩ := h
  cases av with
  | int c => rw [AV.d] at hd; cases hd; rfl
  | _ => simp [AV.d] at hd
theorem Has.str {s : Str} (h : Has K H C v (.str s)) : v = .str s := by
  obtain ⟨av, rfl, hd, _⟩ := h
  cases av with
  | str c => rw [AV.d] at hd; cases hd; rfl
  | _ => simp [AV.d] at hd
theorem Has.lst {ds : List D} (h : Has K H C v (.lst ds)) : ∃ (a : Addr) (xs : List AV), v = .ref a ∧ H a = some (.lst (xs.map AV.v)) ∧ xs.map AV.d = ds ∧ ∀ x ∈ xs, x.ok K H C := by
  obtain ⟨av, rfl, hd, ok⟩ := h
  cases av with
  | lst a xs =>
    rw [AV.d, AV.dL_eq] at hd; cases hd
    rw [AV.ok] at ok
    exact ⟨a, xs, rfl, ok.1, rfl, AV.okL_iff.mp ok.2⟩
  | _ => simp [AV.d] at hd
theorem Has.tup {ds : List D} (h : Has K H C v (.tup ds)) : ∃ (a : Addr) (xs : List AV), v = .ref a ∧ SqT K H a (xs.map AV.v) ∧ xs.map AV.d = ds ∧ ∀ x ∈ xs, x.ok K H C := by
  obtain ⟨av, rfl, hd, ok⟩ := h
  cases av with
  | tup a xs =>
    rw [AV.d, AV.dL_eq] at hd; cases hd
    rw [AV.ok] at ok
    exact ⟨a, xs, rfl, ok.1, rfl, AV.okL_iff.mp ok.2⟩
  | _ => simp [AV.d] at hd
theorem sqK_l {a : Addr} {xs : List V} (h : SqK K a xs) : SqL K H a xs := .inr h
theorem Has.scr {ns : List Int} (h : Has K H C v (.scr ns)) : ∃ a, v = .ref a ∧ SqL K H a (ns.map V.int) := by
  obtain ⟨av, rfl, hd, ok⟩ := h
  cases av with
  | scr a ms =>
    rw [AV.d] at hd; cases hd
    rw [AV.ok] at ok
    refine ⟨a, rfl, ?_⟩
    rcases ok with ⟨o, ok⟩ | ok
    · exact .inl (.inr ⟨o, ok⟩)
    · exact .inr ok
  | _ => simp [AV.d] at hd
/-- a list or tuple, and its items -/
theorem Has.items {d : D} {ds : List D} (h : Has K H C v d) (e : d.items = some ds) : ∃ (a : Addr) (xs : List AV), v = .ref a ∧ (SqL K H a (xs.map AV.v) ∨ SqT K H a (xs.map AV.v)) ∧ xs.map AV.d = ds ∧ ∀ x ∈ xs, x.ok K H C := by
  cases d with
  | tup es => cases e; obtain ⟨a, xs, h1, h2, h3, h4⟩ := h.tup; exact ⟨a, xs, h1, .inr h2, h3, h4⟩
  | lst es => cases e; obtain ⟨a, xs, h1, h2, h3, h4⟩ := h.lst; exact ⟨a, xs, h1, .inl (SqL.of h2), h3, h4⟩
  | scr ns =>
    cases e
    obtain ⟨a, h1, h2⟩ := h.scr
    refine ⟨a, ns.map AV.int, h1, .inl ?_, ?_, fun x hx => ?_⟩
    · rw [List.map_map]; exact h2
    · rw [List.map_map]; rfl
    · obtain ⟨n, _, rfl⟩ := List.mem_map.mp hx; trivial
  | _ => cases e
theorem AV.has {x : AV} (ok : x.ok K H C) : Has K H C x.v x.d := ⟨x, rfl, rfl, ok⟩
theorem ints_av : ∀ {xs : List AV} {ns : List Int}, intsD (xs.map AV.d) = some ns → xs.map AV.v = ns.map V.int
  | [], ns, h => by cases h; rfl
  | x :: xs, ns, h => by
    cases x with
    | int i =>
      have h' : (intsD (xs.map AV.d)).map (i :: ·) = some ns := h
      cases e : intsD (xs.map AV.d) with
      | none => rw [e] at h'; cases h'
      | some ms =>
        rw [e] at h'; cases h'
        rw [List.map_cons, List.map_cons, ints_av e]; rfl
    | _ => simp [AV.d, intsD] at h
theorem bls_av : ∀ {xs : List AV} {ns : List Bool}, blsD (xs.map AV.d) = some ns → xs.map AV.v = ns.map V.bl
  | [], ns, h => by cases h; rfl
  | x :: xs, ns, h => by
    cases x with
    | bl i =>
      have h' : (blsD (xs.map AV.d)).map (i :: ·) = some ns := h
      cases e : blsD (xs.map AV.d) with
      | none => rw [e] at h'; cases h'
      | some ms =>
        rw [e] at h'; cases h'
        rw [List.map_cons, List.map_cons, bls_av e]; rfl
    | _ => simp [AV.d, blsD] at h

/-- what is wanted of an answer of data d -/
structure NewR (K : PySem.W.Frag) (H : Hp) (C : Ce) (d : D) (Q : VK) : Prop where
  flat : d.flat = true → Q d.fv H
  lst : ∀ (xs : List AV), d = .lst (xs.map AV.d) → D.noLL (xs.map AV.d) = true → (∀ x ∈ xs, x.ok K H C) → ∀ p, H p = none → Q (.ref p) (upd H p (.lst (xs.map AV.v)))
  tup : ∀ (xs : List AV), d = .tup (xs.map AV.d) → D.noLL (xs.map AV.d) = true → (∀ x ∈ xs, x.ok K H C) → ∀ p, H p = none → Q (.ref p) (upd H p (.tup (xs.map AV.v)))
  same : ∀ v, Has K H C v d → d.noL = true → Q v H
end
section
variable {K : PySem.W.Frag} {W : Str → St → Hp → Prop} {H H1 H2 : Hp} {g g1 g2 : GA} {rs : List En}
theorem Out.newR {d : D} {Q : VK} (h : Out kRef K W H g (some (.ok (.tmp true d) g2.d)) Q) (s : GSt K H g H2 g2 rs) : NewR K H2 g2.ce d Q := by
  refine ⟨fun f => h.flat s f, fun xs e n ok => ?_, fun xs e n ok => ?_, fun v ⟨av, e1, e2, ok⟩ n => ?_⟩
  · subst e; exact h.newL s ok rfl n
  · subst e; exact h.newT s ok rfl n
  · rw [← e1]
    exact h.tmp (e := (true, av)) (s.drop.flat (e := (true, av)) (AV.as_noL av (by rw [e2]; exact n)) ok) rfl e2
end

section
variable {X : Cx}
/-! ### operators -/
def opM : Bop → Operator
  | .add => .Add | .sub => .Sub | .mul => .Mult | .fdiv => .FloorDiv | .mod => .Mod | .pow => .Pow | .shl => .LShift | .shr => .RShift | .band => .BitAnd | .bor => .BitOr
def rBop (K : PySem.W.Frag) (op : Bop) : R2 := fun x y H Q => ∃ C d1 d2 d, Has K H C x d1 ∧ Has K H C y d2 ∧ bopD op d1 d2 = some d ∧ NewR K H C d Q
theorem fits_le {n : Nat} (h : fits n = true) : n ≤ sizeLine := by rw [sizeLine_eq]; unfold fits at h; rw [veil_eq] at h; exact of_decide_eq_true h
theorem powOk_c {i j : Int} (h : powOk i j = true) : CPow i j := by
  unfold powOk at h
  rw [veil_eq] at h
  have z : 0 ≤ j ∧ j ≤ 1000000 ∧ i.natAbs < 2 ^ 64 := of_decide_eq_true h
  exact z
theorem noLL_app {xs ys : List D} (h1 : D.noLL xs = true) (h2 : D.noLL ys = true) : D.noLL (xs ++ ys) = true := D.noLL_iff.mpr fun d hd => (List.mem_append.mp hd).elim (D.noLL_iff.mp h1 d) (D.noLL_iff.mp h2 d)
theorem int_bop {op : Operator} {r : R2} {x y : V} {v u : Value} {i j z : Int} {H : Hp} {C : Ce} {Q : VK} {pins : List (Addr × Obj)} {s : Shared} {σ : L2.St} (ho : OpR X (binaryOp op) r) (I : Inv X pins σ H s) (rx : RelV x v) (ry : RelV y u)
    (hx : Has X.K H C x (.int i)) (hy : Has X.K H C y (.int j)) (hr : Q (.int z) H → r (.int i) (.int j) H Q) (n : NewR X.K H C (.int z) Q) : wpAny (model X.prog X.w) X.A (binaryOp op v u) (EP X pins σ Q) X.xe s := by
  rw [hx.int] at rx; rw [hy.int] at ry
  exact ho pins s σ H _ _ v u Q I rx ry (hr (n.flat rfl))
theorem op_bop (op : Bop) : OpR X (binaryOp (opM op)) (rBop X.K op) := by
  intro pins s σ H x y v u Q I rx ry h
  obtain ⟨C, d1, d2, d, hx, hy, e, n⟩ := h
  unfold bopD at e
  split at e
  · cases e; exact int_bop op_add I rx ry hx hy (fun q => ⟨_, _, rfl, rfl, q⟩) n
  · split at e
    · rename_i hf
      cases e
      rw [hx.str] at rx; rw [hy.str] at ry
      exact op_add_str pins s σ H _ _ v u Q I rx ry ⟨_, _, rfl, rfl, fits_le hf, n.flat rfl⟩
    · cases e
  · split at e
    · rename_i hf
      simp only [Bool.and_eq_true] at hf
      obtain ⟨⟨hf, n1⟩, n2⟩ := hf
      cases e
      obtain ⟨a, xs, rfl, h1, rfl, o1⟩ := hx.lst
      obtain ⟨b, ys, rfl, h2, rfl, o2⟩ := hy.lst
      refine op_cat pins s σ H _ _ v u Q I rx ry ⟨_, _, _, _, rfl, rfl, h1, h2, by simpa using fits_le hf, fun p hp => ?_⟩
      have := n.lst (xs ++ ys) (by rw [List.map_append]) (by rw [List.map_append]; exact noLL_app n1 n2) (fun x hx => (List.mem_append.mp hx).elim (o1 x) (o2 x)) p hp
      rw [List.map_append] at this
      exact this
    · cases e
  · split at e
    · rename_i hf
      simp only [Bool.and_eq_true] at hf
      obtain ⟨⟨hf, n1⟩, n2⟩ := hf
      cases e
      obtain ⟨a, xs, rfl, h1, rfl, o1⟩ := hx.tup
      obtain ⟨b, ys, rfl, h2, rfl, o2⟩ := hy.tup
      refine op_catA pins s σ H _ _ v u Q I rx ry ⟨_, _, _, _, rfl, rfl, h1, h2, by simpa using fits_le hf, fun z => ?_, fun _ z => ?_, fun _ _ p hp => ?_⟩
      · have z' : xs = [] := by simpa using z
        subst z'
        refine n.same (.ref b) ?_ ?_
        · show Has X.K H C (.ref b) (D.tup ([] ++ ys.map AV.d)); rw [List.nil_append]; exact hy
        · show D.noL (D.tup ([] ++ ys.map AV.d)) = true; rw [List.nil_append, D.noL]; exact n2
      · have z' : ys = [] := by simpa using z
        subst z'
        refine n.same (.ref a) ?_ ?_
        · show Has X.K H C (.ref a) (D.tup (xs.map AV.d ++ [])); rw [List.append_nil]; exact hx
        · show D.noL (D.tup (xs.map AV.d ++ [])) = true; rw [List.append_nil, D.noL]; exact n1
      · have := n.tup (xs ++ ys) (by rw [List.map_append]) (by rw [List.map_append]; exact noLL_app n1 n2) (fun x hx => (List.mem_append.mp hx).elim (o1 x) (o2 x)) p hp
        rw [List.map_append] at this
        exact this
    · cases e
  · cases e; exact int_bop op_sub I rx ry hx hy (fun q => ⟨_, _, rfl, rfl, q⟩) n
  · split at e
    · rename_i hm
      cases e
      unfold mulOk at hm
      rw [veil_eq] at hm
      simp only [Bool.or_eq_true, decide_eq_true_eq] at hm
      rcases hm with (hm | hm) | hm
      · exact int_bop op_mul I rx ry hx hy (fun q => ⟨_, _, rfl, rfl, .inl hm, q⟩) n
      · exact int_bop op_mul I rx ry hx hy (fun q => ⟨_, _, rfl, rfl, .inr hm, q⟩) n
      · exact int_bop op_mulW I rx ry hx hy (fun q => ⟨_, _, rfl, rfl, hm, q⟩) n
    · cases e
  · split at e
    · rename_i hf
      simp only [Bool.and_eq_true, decide_eq_true_eq] at hf
      obtain ⟨⟨hj, hf⟩, n1⟩ := hf
      cases e
      obtain ⟨a, xs, rfl, h1, rfl, o1⟩ := hx.lst
      rw [hy.int] at ry
      rename_i ji
      refine op_rep pins s σ H _ _ v u Q I rx ry ⟨_, _, _, rfl, rfl, h1, hj.1, hj.2, by simpa using fits_le hf, fun p hp => ?_⟩
      have eq1 : ∀ (f : AV → D), ((List.replicate ji.toNat xs).flatten).map f = (List.replicate ji.toNat (xs.map f)).flatten := fun f => by
        rw [List.map_flatten, List.map_replicate]
      have eq2 : ((List.replicate ji.toNat xs).flatten).map AV.v = (List.replicate ji.toNat (xs.map AV.v)).flatten := by
        rw [List.map_flatten, List.map_replicate]
      have mem : ∀ x ∈ (List.replicate ji.toNat xs).flatten, x ∈ xs := fun x hx => by
        obtain ⟨l, hl, hx⟩ := List.mem_flatten.mp hx
        rw [(List.mem_replicate.mp hl).2] at hx; exact hx
      have := n.lst ((List.replicate ji.toNat xs).flatten) (by rw [eq1]) (D.noLL_iff.mpr fun d hd => by
        obtain ⟨x, hx, rfl⟩ := List.mem_map.mp hd
        exact D.noLL_iff.mp n1 _ (List.mem_map.mpr ⟨x, mem x hx, rfl⟩)) (fun x hx => o1 x (mem x hx)) p hp
      rw [eq2] at this
      exact this
    · cases e
  · split at e
    · rename_i hm
      simp only [Bool.and_eq_true, Bool.or_eq_true, decide_eq_true_eq] at hm
      cases e
      rcases hm with ⟨h0, hm | hm⟩
      · exact int_bop op_fdiv I rx ry hx hy (fun q => ⟨_, _, rfl, rfl, ⟨h0, hm⟩, q⟩) n
      · exact int_bop op_fdivW I rx ry hx hy (fun q => ⟨_, _, rfl, rfl, ⟨h0, hm⟩, q⟩) n
    · cases e
  · split at e
    · rename_i hm
      cases e
      exact int_bop op_mod I rx ry hx hy (fun q => ⟨_, _, rfl, rfl, hm, q⟩) n
    · cases e
  · split at e
    · rename_i hm
      cases e
      have hm' := powOk_c hm
      exact int_bop op_pow I rx ry hx hy (fun q => ⟨_, _, rfl, rfl, hm', q⟩) n
    · cases e
  · split at e
    · rename_i hm
      cases e
      have hm' := powOk_c hm
      exact int_bop op_shl I rx ry hx hy (fun q => ⟨_, _, rfl, rfl, hm', q⟩) n
    · cases e
  · split at e
    · rename_i hm
      cases e
      exact int_bop op_shr I rx ry hx hy (fun q => ⟨_, _, rfl, rfl, hm, q⟩) n
    · cases e
  · cases e; exact int_bop op_and I rx ry hx hy (fun q => ⟨_, _, rfl, rfl, q⟩) n
  · cases e; exact int_bop op_or I rx ry hx hy (fun q => ⟨_, _, rfl, rfl, q⟩) n
  · cases e

/-! ### comparisons -/
def copM : Cop → CmpOp
  | .eq => .Eq | .ne => .NotEq | .lt => .Lt | .le => .LtE | .gt => .Gt | .ge => .GtE | .inn => .In | .nin => .NotIn
def rCop (K : PySem.W.Frag) (op : Cop) : R2 := fun x y H Q => ∃ C d1 d2 b, Has K H C x d1 ∧ Has K H C y d2 ∧ cmpD op d1 d2 = some b ∧ Q (.bl b) H
mutual
theorem dp_of {K : PySem.W.Frag} {H : Hp} {C : Ce} : ∀ (av : AV), av.ok K H C → av.d.noC = true → Dp K H av.v av.d.p
  | .non, _, _ => .non
  | .bl b, _, _ => .bl b
  | .int i, _, _ => .int i
  | .str s, _, _ => .str s
  | .scr a ns, ok, _ => by
    obtain ⟨a', e, h⟩ := Has.scr (K := K) (H := H) (C := C) (v := .ref a) (ns := ns) ⟨.scr a ns, rfl, rfl, ok⟩
    cases e
    show Dp K H (.ref a) (PyData.list (ns.map PyData.int))
    exact .lst h (dp_ints ns)
  | .cell _ _, _, h => by rw [AV.d, D.noC] at h; exact absurd h (by decide)
  | .tup a xs, ok, h => by
    rw [AV.ok] at ok
    rw [AV.d, D.noC] at h
    show Dp K H (.ref a) (AV.tup a xs).d.p
    rw [AV.d, D.p]
    exact .tup ok.1 (dpL_of xs ok.2 h)
  | .lst a xs, ok, h => by
    rw [AV.ok] at ok
    rw [AV.d, D.noC] at h
    show Dp K H (.ref a) (AV.lst a xs).d.p
    rw [AV.d, D.p]
    exact .lst (SqL.of ok.1) (dpL_of xs ok.2 h)
theorem dpL_of {K : PySem.W.Frag} {H : Hp} {C : Ce} : ∀ (xs : List AV), AV.okL K H C xs → D.noCL (AV.dL xs) = true → DpAll K H (xs.map AV.v) (D.pL (AV.dL xs))
  | [], _, _ => .nil
  | x :: xs, ok, h => by
    rw [AV.okL] at ok
    rw [AV.dL, D.noCL, Bool.and_eq_true] at h
    rw [AV.dL, D.pL, List.map_cons]
    exact .cons (dp_of x ok.1 h.1) (dpL_of xs ok.2 h.2)
theorem dp_ints {K : PySem.W.Frag} {H : Hp} : ∀ (ns : List Int), DpAll K H (ns.map V.int) (ns.map PyData.int)
  | [] => .nil
  | n :: ns => .cons (.int n) (dp_ints ns)
end
theorem Has.dp {K : PySem.W.Frag} {H : Hp} {C : Ce} {v : V} {d : D} (h : Has K H C v d) (n : d.noC = true) : Dp K H v d.p := by
  obtain ⟨av, rfl, rfl, ok⟩ := h
  exact dp_of av ok n
theorem pL_map : ∀ ds : List D, D.pL ds = ds.map D.p
  | [] => rfl
  | d :: ds => by rw [D.pL, pL_map ds]; rfl
theorem eqvD_some {x y : D} {b : Bool} (h : eqvD x y = some b) : x.noC = true ∧ y.noC = true ∧ SeqAt.shaped x.p = true ∧ SeqAt.shaped y.p = true ∧ PyData.eqv x.p y.p = b := by
  unfold eqvD at h
  split at h
  · rename_i c
    simp only [Bool.and_eq_true] at c
    exact ⟨c.1.1.1, c.1.1.2, c.1.2, c.2, Option.some.inj h⟩
  · cases h
theorem flat_v {K : PySem.W.Frag} {H : Hp} {C : Ce} {v : V} {d : D} (h : Has K H C v d) (f : d.flat = true) : v = d.fv ∧ flatV v = true := by
  cases d with
  | non => have e := h.non; subst e; exact ⟨rfl, rfl⟩
  | bl b => have e := h.bl; subst e; exact ⟨rfl, rfl⟩
  | int b => have e := h.int; subst e; exact ⟨rfl, rfl⟩
  | str b => have e := h.str; subst e; exact ⟨rfl, rfl⟩
  | _ => cases f
theorem eqv_flat {x y : D} (fx : x.flat = true) (fy : y.flat = true) : PyData.eqv x.p y.p = eqV x.fv y.fv := by
  cases x <;> cases y <;> first | exact absurd fx Bool.false_ne_true | exact absurd fy Bool.false_ne_true | skip
  all_goals (simp only [D.p, D.fv, eqV, PyData.eqv])
theorem inD_l (x : D) (ys : List D) : inD x (.lst ys) = if x.noC && D.noCL ys && SeqAt.shaped x.p && SeqAt.shaped (D.lst ys).p then some (ys.any fun y => PyData.eqv y.p x.p) else none := by cases x <;> rfl
theorem inD_t (x : D) (ys : List D) : inD x (.tup ys) = if x.flat && ys.all D.flat then some (ys.any fun y => PyData.eqv y.p x.p) else none := by cases x <;> rfl
theorem op_cop (op : Cop) (hu : X.A.units + 65 < cLine) : OpR X (compareOp (copM op)) (rCop X.K op) := by
  intro pins s σ H x y v u Q I rx ry h
  obtain ⟨C, d1, d2, b, hx, hy, e, q⟩ := h
  have hu64 : X.A.units + 64 < cLine := Nat.lt_of_succ_lt hu
  have hii : ∀ {i j : Int} {p : Bool} {o : CmpOp} {r : R2}, OpR X (compareOp o) r → d1 = .int i → d2 = .int j → b = p → (Q (.bl p) H → r (.int i) (.int j) H Q) → wpAny (model X.prog X.w) X.A (compareOp o v u) (EP X pins σ Q) X.xe s := by
    intro i j p o r ho e1 e2 e3 hr
    subst e1; subst e2; subst e3
    rw [hx.int] at rx; rw [hy.int] at ry
    exact ho pins s σ H _ _ v u Q I rx ry (hr q)
  have hin : ∀ {b : Bool}, inD d1 d2 = some b → (∀ Q' : VK, Q' (.bl b) H → wpAny (model X.prog X.w) X.A (compareOp .In v u) (EP X pins σ Q') X.xe s) ∧ (∀ Q' : VK, Q' (.bl (!b)) H → wpAny (model X.prog X.w) X.A (compareOp .NotIn v u) (EP X pins σ Q') X.xe s) := by
    intro b e
    cases d2 with
    | str t =>
      cases d1 with
      | str s0 =>
        cases e
        rw [hx.str] at rx; rw [hy.str] at ry
        exact ⟨fun Q' q => op_in_str pins s σ H _ _ v u Q' I rx ry ⟨_, _, rfl, rfl, q⟩, fun Q' q => op_notin_str pins s σ H _ _ v u Q' I rx ry ⟨_, _, rfl, rfl, q⟩⟩
      | _ => cases e
    | lst ys =>
      rw [inD_l] at e
      split at e
      · rename_i c
        simp only [Bool.and_eq_true] at c
        cases e
        have hdx := hx.dp c.1.1.1
        have hdy : Dp X.K H y (PyData.list (D.pL ys)) := by
          have := hy.dp (d := D.lst ys) (by rw [D.noC]; exact c.1.1.2)
          rw [D.p] at this; exact this
        have sy : SeqAt.shaped (PyData.list (D.pL ys)) = true := by have := c.2; rw [D.p] at this; exact this
        have ea : (D.pL ys).any (fun z => PyData.eqv z d1.p) = ys.any fun z => PyData.eqv z.p d1.p := by rw [pL_map, List.any_map]; rfl
        exact ⟨fun Q' q => op_inD hu pins s σ H _ _ v u Q' I rx ry ⟨_, _, hdx, hdy, c.1.2, sy, by rw [ea]; exact q⟩, fun Q' q => op_notInD hu pins s σ H _ _ v u Q' I rx ry ⟨_, _, hdx, hdy, c.1.2, sy, by rw [ea]; exact q⟩⟩
      · cases e
    | tup ys =>
      rw [inD_t] at e
      split at e
      · rename_i c
        simp only [Bool.and_eq_true, List.all_eq_true] at c
        cases e
        obtain ⟨a, zs, rfl, h1, rfl, o1⟩ := hy.tup
        obtain ⟨ev, fv⟩ := flat_v hx c.1
        have fl : ∀ z ∈ zs, z.v = z.d.fv ∧ flatV z.v = true ∧ z.d.flat = true := fun z hz =>
          have f := c.2 _ (List.mem_map.mpr ⟨z, hz, rfl⟩)
          ⟨(flat_v (AV.has (o1 z hz)) f).1, (flat_v (AV.has (o1 z hz)) f).2, f⟩
        have all : (zs.map AV.v).all flatV = true := by
          rw [List.all_eq_true]
          intro w hw
          obtain ⟨z, hz, rfl⟩ := List.mem_map.mp hw
          exact (fl z hz).2.1
        have ea : inV x (zs.map AV.v) = (zs.map AV.d).any fun y => PyData.eqv y.p d1.p := by
          have go : ∀ ws : List AV, (∀ z ∈ ws, z.v = z.d.fv ∧ flatV z.v = true ∧ z.d.flat = true) → inV x (ws.map AV.v) = (ws.map AV.d).any fun y => PyData.eqv y.p d1.p := by
            intro ws
            induction ws with
            | nil => intro _; rfl
            | cons z ws ih =>
              intro h
              obtain ⟨h1, _, h3⟩ := h z List.mem_cons_self
              have r := ih fun z hz => h z (List.mem_cons_of_mem _ hz)
              show (eqV z.v x || inV x (ws.map AV.v)) = (PyData.eqv z.d.p d1.p || (ws.map AV.d).any fun y => PyData.eqv y.p d1.p)
              rw [r, eqv_flat h3 c.1, ← h1, ← ev]
          exact go zs fl
        exact ⟨fun Q' q => op_in_seq pins s σ H _ _ v u Q' I rx ry ⟨_, _, rfl, .inr h1, fv, all, by
          show Q' (.bl (inV x (zs.map AV.v))) H
          rw [ea]; exact q⟩, fun Q' q => op_notIn_seq pins s σ H _ _ v u Q' I rx ry ⟨_, _, rfl, .inr h1, fv, all, by
          show Q' (.bl (!inV x (zs.map AV.v))) H
          rw [ea]; exact q⟩⟩
      · cases e
    | _ => cases d1 <;> cases e
  cases op with
  | eq =>
    obtain ⟨n1, n2, s1, s2, ee⟩ := eqvD_some e
    exact op_eqD hu64 pins s σ H x y v u Q I rx ry ⟨_, _, hx.dp n1, hy.dp n2, s1, s2, by rw [ee]; exact q⟩
  | ne =>
    have e' : (eqvD d1 d2).map (! ·) = some b := e
    cases z : eqvD d1 d2 with
    | none => rw [z] at e'; cases e'
    | some c =>
      rw [z] at e'
      obtain rfl : (!c) = b := Option.some.inj e'
      obtain ⟨n1, n2, s1, s2, ee⟩ := eqvD_some z
      exact op_neD hu64 pins s σ H x y v u Q I rx ry ⟨_, _, hx.dp n1, hy.dp n2, s1, s2, by rw [ee]; exact q⟩
  | inn => exact (hin e).1 Q q
  | nin =>
    have e' : (inD d1 d2).map (! ·) = some b := e
    cases z : inD d1 d2 with
    | none => rw [z] at e'; cases e'
    | some c =>
      rw [z] at e'
      obtain rfl : (!c) = b := Option.some.inj e'
      exact (hin z).2 Q q
  | lt =>
    unfold cmpD at e
    split at e <;> first | cases e | skip
    all_goals first | exact hii op_lt rfl rfl rfl fun q => ⟨_, _, rfl, rfl, q⟩ | contradiction
  | le =>
    unfold cmpD at e
    split at e <;> first | cases e | skip
    all_goals first | exact hii op_le rfl rfl rfl fun q => ⟨_, _, rfl, rfl, q⟩ | contradiction
  | gt =>
    unfold cmpD at e
    split at e <;> first | cases e | skip
    all_goals first | exact hii op_gt rfl rfl rfl fun q => ⟨_, _, rfl, rfl, q⟩ | contradiction
  | ge =>
    unfold cmpD at e
    split at e <;> first | cases e | skip
    all_goals first | exact hii op_ge rfl rfl rfl fun q => ⟨_, _, rfl, rfl, q⟩ | contradiction
end
end Om

/-! Om6: built-in functions, isinstance, places and slices, by their data. -/
namespace Om
open PySem PySem.Spec PyProof.Rows L2

/-! ### sorted, least, greatest -/
theorem insI_perm (n : Int) : ∀ l : List Int, (insI n l).Perm (n :: l)
  | [] => .refl _
  | m :: ms => by
    unfold insI
    split
    · exact .refl _
    · exact ((insI_perm n ms).cons m).trans (List.Perm.swap _ _ _)
theorem sortI_perm : ∀ l : List Int, (sortI l).Perm l
  | [] => .refl _
  | n :: ns => by unfold sortI; exact (insI_perm n _).trans ((sortI_perm ns).cons n)
theorem insI_sorted (n : Int) : ∀ l : List Int, l.Pairwise (· ≤ ·) → (insI n l).Pairwise (· ≤ ·)
  | [], _ => by unfold insI; simp
  | m :: ms, h => by
    unfold insI
    rw [List.pairwise_cons] at h
    split
    · rename_i c
      rw [List.pairwise_cons, List.pairwise_cons]
      exact ⟨fun a ha => (List.mem_cons.mp ha).elim (fun e => e ▸ c) fun ha => Int.le_trans c (h.1 a ha), h⟩
    · rename_i c
      rw [List.pairwise_cons]
      refine ⟨fun a ha => ?_, insI_sorted n ms h.2⟩
      rcases List.mem_cons.mp ((insI_perm n ms).mem_iff.mp ha) with rfl | ha
      · omega
      · exact h.1 a ha
theorem sortI_sorted : ∀ l : List Int, (sortI l).Pairwise (· ≤ ·)
  | [] => .nil
  | n :: ns => by unfold sortI; exact insI_sorted n _ (sortI_sorted ns)
theorem sorted_unique : ∀ {l l' : List Int}, l.Perm l' → l.Pairwise (· ≤ ·) → l'.Pairwise (· ≤ ·) → l = l' := fun {l l'} p h h' =>
  p.eq_of_pairwise (le := (· ≤ ·)) (fun a b _ _ h1 h2 => Int.le_antisymm h1 h2) h h'
theorem fold_max : ∀ (l : List Int) (i : Int), (l.foldl (fun a b => if b > a then b else a) i = i ∨ l.foldl (fun a b => if b > a then b else a) i ∈ l) ∧ i ≤ l.foldl (fun a b => if b > a then b else a) i ∧ ∀ y ∈ l, y ≤ l.foldl (fun a b => if b > a then b else a) i
  | [], i => ⟨.inl rfl, Int.le_refl _, fun _ h => nomatch h⟩
  | x :: l, i => by
    rw [List.foldl_cons]
    obtain ⟨h1, h2, h3⟩ := fold_max l (if x > i then x else i)
    refine ⟨?_, ?_, fun y hy => ?_⟩
    · rcases h1 with h1 | h1
      · split at h1
        · rename_i c; rw [if_pos c]; exact .inr (by rw [h1]; exact List.mem_cons_self)
        · rename_i c; rw [if_neg c]; exact .inl h1
      · exact .inr (List.mem_cons_of_mem _ h1)
    · refine Int.le_trans ?_ h2
      split <;> omega
    · rcases List.mem_cons.mp hy with rfl | hy
      · refine Int.le_trans ?_ h2
        split <;> omega
      · exact h3 y hy
theorem fold_min : ∀ (l : List Int) (i : Int), (l.foldl (fun a b => if b < a then b else a) i = i ∨ l.foldl (fun a b => if b < a then b else a) i ∈ l) ∧ l.foldl (fun a b => if b < a then b else a) i ≤ i ∧ ∀ y ∈ l, l.foldl (fun a b => if b < a then b else a) i ≤ y
  | [], i => ⟨.inl rfl, Int.le_refl _, fun _ h => nomatch h⟩
  | x :: l, i => by
    rw [List.foldl_cons]
    obtain ⟨h1, h2, h3⟩ := fold_min l (if x < i then x else i)
    refine ⟨?_, ?_, fun y hy => ?_⟩
    · rcases h1 with h1 | h1
      · split at h1
        · rename_i c; rw [if_pos c]; exact .inr (by rw [h1]; exact List.mem_cons_self)
        · rename_i c; rw [if_neg c]; exact .inl h1
      · exact .inr (List.mem_cons_of_mem _ h1)
    · refine Int.le_trans h2 ?_
      split <;> omega
    · rcases List.mem_cons.mp hy with rfl | hy
      · refine Int.le_trans h2 ?_
        split <;> omega
      · exact h3 y hy
theorem maxI_spec {l : List Int} {m : Int} (h : maxI l = some m) : 0 < l.length ∧ ∀ m', m' ∈ l → (∀ y, y ∈ l → y ≤ m') → m' = m := by
  cases l with
  | nil => cases h
  | cons i l =>
    cases h
    obtain ⟨h1, h2, h3⟩ := fold_max l i
    refine ⟨Nat.succ_pos _, fun m' hm hb => Int.le_antisymm ?_ ?_⟩
    · rcases List.mem_cons.mp hm with rfl | hm
      · exact h2
      · exact h3 m' hm
    · rcases h1 with h1 | h1
      · rw [h1]; exact hb i List.mem_cons_self
      · exact hb _ (List.mem_cons_of_mem _ h1)
theorem minI_spec {l : List Int} {m : Int} (h : minI l = some m) : 0 < l.length ∧ ∀ m', m' ∈ l → (∀ y, y ∈ l → m' ≤ y) → m' = m := by
  cases l with
  | nil => cases h
  | cons i l =>
    cases h
    obtain ⟨h1, h2, h3⟩ := fold_min l i
    refine ⟨Nat.succ_pos _, fun m' hm hb => Int.le_antisymm ?_ ?_⟩
    · rcases h1 with h1 | h1
      · rw [h1]; exact hb i List.mem_cons_self
      · exact hb _ (List.mem_cons_of_mem _ h1)
    · rcases List.mem_cons.mp hm with rfl | hm
      · exact h2
      · exact h3 m' hm

/-! ### built-in functions -/
/-- values and their data -/
def HasL (K : PySem.W.Frag) (H : Hp) (C : Ce) : List V → List D → Prop
  | [], ds => ds = []
  | v :: vs, ds => ∃ d ds', ds = d :: ds' ∧ Has K H C v d ∧ HasL K H C vs ds'
section
variable {K : PySem.W.Frag} {H : Hp} {C : Ce}
theorem HasL.one {vs : List V} {d : D} (h : HasL K H C vs [d]) : ∃ v, vs = [v] ∧ Has K H C v d := by
  cases vs with
  | nil => cases h
  | cons v vs =>
    obtain ⟨d', ds', e, h1, h2⟩ := h
    cases e
    cases vs with
    | nil => exact ⟨v, rfl, h1⟩
    | cons w ws => obtain ⟨_, _, e, _⟩ := h2; cases e
theorem HasL.two {vs : List V} {d e : D} (h : HasL K H C vs [d, e]) : ∃ v w, vs = [v, w] ∧ Has K H C v d ∧ Has K H C w e := by
  cases vs with
  | nil => cases h
  | cons v vs =>
    obtain ⟨d', ds', z, h1, h2⟩ := h
    cases z
    obtain ⟨w, rfl, h3⟩ := HasL.one h2
    exact ⟨v, w, rfl, h1, h3⟩
end
def biV : Bi → Value
  | .len => .builtin "len" | .sum => .builtin "sum" | .min => .builtin "min" | .max => .builtin "max" | .all => .builtin "all" | .any => .builtin "any"
  | .sorted => .builtin "sorted" | .list => .type "list" | .tuple => .type "tuple" | .int => .type "int" | .str => .type "str" | .abs => .builtin "abs"
def rBi (K : PySem.W.Frag) (b : Bi) : List V → Hp → VK → Prop := fun vs H Q => ∃ C ds d, HasL K H C vs ds ∧ bcallD b ds = some d ∧ NewR K H C d Q
section
variable {X : Cx}
theorem cb_len : CallR X (.builtin "len") (rBi X.K .len) := by
  intro pins s σ H vs us Q I r h
  obtain ⟨C, ds, d, hl, e, n⟩ := h
  unfold bcallD at e
  split at e <;> first | contradiction | skip
  · split at e
    · rename_i hf
      cases e
      obtain ⟨v, rfl, hv⟩ := hl.one
      rw [hv.str] at r
      exact call_len_str pins s σ H _ us Q I r ⟨_, rfl, fits_le hf, n.flat rfl⟩
    · cases e
  · rename_i d' _ _
    obtain ⟨v, rfl, hv⟩ := hl.one
    cases ei : d'.items with
    | none => rw [ei] at e; cases e
    | some xs =>
      rw [ei] at e
      cases e
      obtain ⟨a, ys, rfl, hs, rfl, _⟩ := hv.items ei
      refine call_len_seq pins s σ H _ us Q I r ⟨a, _, rfl, hs, ?_⟩
      have z : Q (.int ((ys.map AV.d).length : Nat)) H := n.flat rfl
      rw [List.length_map] at z ⊢
      exact z
  all_goals cases e
theorem cb_sum (hc : X.calm = true) : CallR X (.builtin "sum") (rBi X.K .sum) := by
  intro pins s σ H vs us Q I r h
  obtain ⟨C, ds, d, hl, e, n⟩ := h
  unfold bcallD at e
  split at e <;> first | contradiction | skip
  · rename_i xs _
    obtain ⟨v, rfl, hv⟩ := hl.one
    obtain ⟨a, ys, rfl, h1, rfl, _⟩ := hv.lst
    cases ei : intsD (ys.map AV.d) with
    | none => rw [ei] at e; cases e
    | some ns =>
      rw [ei] at e
      cases e
      exact cr_sum hc pins s σ H _ us Q I r ⟨a, ns, rfl, SqL.of (by rw [← ints_av ei]; exact h1), n.flat rfl⟩
  all_goals cases e
theorem cb_max (hc : X.calm = true) : CallR X (.builtin "max") (rBi X.K .max) := by
  intro pins s σ H vs us Q I r h
  obtain ⟨C, ds, d, hl, e, n⟩ := h
  unfold bcallD at e
  split at e <;> first | contradiction | skip
  · obtain ⟨v, rfl, hv⟩ := hl.one
    obtain ⟨a, ys, rfl, h1, rfl, _⟩ := hv.lst
    cases ei : intsD (ys.map AV.d) with
    | none => rw [ei] at e; cases e
    | some ns =>
      rw [ei] at e
      cases em : maxI ns with
      | none => simp [em] at e
      | some m =>
        simp only [Option.bind_some, em, Option.map_some, Option.some.injEq] at e
        subst e
        obtain ⟨h0, hu⟩ := maxI_spec em
        refine cr_max hc pins s σ H _ us Q I r ⟨a, ns, rfl, SqL.of (by rw [← ints_av ei]; exact h1), h0, fun m' hm hb => ?_⟩
        rw [hu m' hm hb]; exact n.flat rfl
  · cases e
    obtain ⟨v, w, rfl, hv, hw⟩ := hl.two
    rw [hv.int, hw.int] at r
    exact call_max2 hc pins s σ H _ us Q I r ⟨_, _, rfl, n.flat rfl⟩
  all_goals cases e
theorem cb_min (hc : X.calm = true) : CallR X (.builtin "min") (rBi X.K .min) := by
  intro pins s σ H vs us Q I r h
  obtain ⟨C, ds, d, hl, e, n⟩ := h
  unfold bcallD at e
  split at e <;> first | contradiction | skip
  · obtain ⟨v, rfl, hv⟩ := hl.one
    obtain ⟨a, ys, rfl, h1, rfl, _⟩ := hv.lst
    cases ei : intsD (ys.map AV.d) with
    | none => rw [ei] at e; cases e
    | some ns =>
      rw [ei] at e
      cases em : minI ns with
      | none => simp [em] at e
      | some m =>
        simp only [Option.bind_some, em, Option.map_some, Option.some.injEq] at e
        subst e
        obtain ⟨h0, hu⟩ := minI_spec em
        refine cr_min hc pins s σ H _ us Q I r ⟨a, ns, rfl, SqL.of (by rw [← ints_av ei]; exact h1), h0, fun m' hm hb => ?_⟩
        rw [hu m' hm hb]; exact n.flat rfl
  · cases e
    obtain ⟨v, w, rfl, hv, hw⟩ := hl.two
    rw [hv.int, hw.int] at r
    exact call_min2 hc pins s σ H _ us Q I r ⟨_, _, rfl, n.flat rfl⟩
  all_goals cases e
theorem cb_all (hc : X.calm = true) : CallR X (.builtin "all") (rBi X.K .all) := by
  intro pins s σ H vs us Q I r h
  obtain ⟨C, ds, d, hl, e, n⟩ := h
  unfold bcallD at e
  split at e <;> first | contradiction | skip
  · obtain ⟨v, rfl, hv⟩ := hl.one
    obtain ⟨a, ys, rfl, h1, rfl, _⟩ := hv.lst
    cases ei : blsD (ys.map AV.d) with
    | none => rw [ei] at e; cases e
    | some ns =>
      rw [ei] at e
      cases e
      exact cr_all hc pins s σ H _ us Q I r ⟨a, ns, rfl, SqL.of (by rw [← bls_av ei]; exact h1), n.flat rfl⟩
  all_goals cases e
theorem cb_any (hc : X.calm = true) : CallR X (.builtin "any") (rBi X.K .any) := by
  intro pins s σ H vs us Q I r h
  obtain ⟨C, ds, d, hl, e, n⟩ := h
  unfold bcallD at e
  split at e <;> first | contradiction | skip
  · obtain ⟨v, rfl, hv⟩ := hl.one
    obtain ⟨a, ys, rfl, h1, rfl, _⟩ := hv.lst
    cases ei : blsD (ys.map AV.d) with
    | none => rw [ei] at e; cases e
    | some ns =>
      rw [ei] at e
      cases e
      exact cr_any hc pins s σ H _ us Q I r ⟨a, ns, rfl, SqL.of (by rw [← bls_av ei]; exact h1), n.flat rfl⟩
  all_goals cases e
theorem noLL_ints (ns : List Int) : D.noLL (ns.map D.int) = true := D.noLL_iff.mpr fun d hd => by
  obtain ⟨n, _, rfl⟩ := List.mem_map.mp hd; rfl
theorem int_avs (ns : List Int) : (ns.map AV.int).map AV.d = ns.map D.int ∧ (ns.map AV.int).map AV.v = ns.map V.int := by
  rw [List.map_map, List.map_map]; exact ⟨rfl, rfl⟩
theorem int_oks {K : PySem.W.Frag} {H : Hp} {C : Ce} (ns : List Int) : ∀ x ∈ ns.map AV.int, x.ok K H C := fun x hx => by
  obtain ⟨n, _, rfl⟩ := List.mem_map.mp hx; trivial
theorem NewR.ints {K : PySem.W.Frag} {H : Hp} {C : Ce} {ns : List Int} {Q : VK} (n : NewR K H C (.lst (ns.map D.int)) Q) : ∀ p, H p = none → Q (.ref p) (upd H p (.lst (ns.map V.int))) := fun p hp => by
  have := n.lst (ns.map AV.int) (by rw [(int_avs ns).1]) (by rw [(int_avs ns).1]; exact noLL_ints ns) (int_oks ns) p hp
  rw [(int_avs ns).2] at this
  exact this
theorem cb_sorted : CallR X (.builtin "sorted") (rBi X.K .sorted) := by
  intro pins s σ H vs us Q I r h
  obtain ⟨C, ds, d, hl, e, n⟩ := h
  unfold bcallD at e
  split at e <;> first | contradiction | skip
  · obtain ⟨v, rfl, hv⟩ := hl.one
    obtain ⟨a, ys, rfl, h1, rfl, _⟩ := hv.lst
    cases ei : intsD (ys.map AV.d) with
    | none => rw [ei] at e; cases e
    | some ns =>
      rw [ei] at e
      cases e
      refine cr_sortedI pins s σ H _ us Q I r ⟨a, ns, rfl, SqL.of (by rw [← ints_av ei]; exact h1), fun ns' p hp hs hn => ?_⟩
      have e : ns' = sortI ns := sorted_unique (hp.trans (sortI_perm ns).symm) hs (sortI_sorted ns)
      rw [e]
      exact n.ints p hn
  all_goals cases e
theorem cb_list : CallR X (.type "list") (rBi X.K .list) := by
  intro pins s σ H vs us Q I r h
  obtain ⟨C, ds, d, hl, e, n⟩ := h
  unfold bcallD at e
  split at e <;> first | contradiction | skip
  · split at e
    · rename_i c
      cases e
      obtain ⟨v, rfl, hv⟩ := hl.one
      obtain ⟨a, ys, rfl, h1, rfl, o⟩ := hv.lst
      exact call_list_of pins s σ H _ us Q I r ⟨a, _, rfl, .inl (SqL.of h1), n.lst ys rfl c o⟩
    · cases e
  · split at e
    · rename_i c
      cases e
      obtain ⟨v, rfl, hv⟩ := hl.one
      obtain ⟨a, ys, rfl, h1, rfl, o⟩ := hv.tup
      exact call_list_of pins s σ H _ us Q I r ⟨a, _, rfl, .inr h1, n.lst ys rfl c o⟩
    · cases e
  all_goals cases e
theorem cb_tuple : CallR X (.type "tuple") (rBi X.K .tuple) := by
  intro pins s σ H vs us Q I r h
  obtain ⟨C, ds, d, hl, e, n⟩ := h
  unfold bcallD at e
  split at e <;> first | contradiction | skip
  · split at e
    · rename_i c
      cases e
      obtain ⟨v, rfl, hv⟩ := hl.one
      obtain ⟨a, ys, rfl, h1, rfl, o⟩ := hv.lst
      exact call_tuple_of pins s σ H _ us Q I r ⟨a, _, rfl, .inl ⟨SqL.of h1, n.tup ys rfl c o⟩⟩
    · cases e
  · split at e
    · rename_i c
      cases e
      obtain ⟨v, rfl, hv⟩ := hl.one
      obtain ⟨a, ys, rfl, h1, rfl, o⟩ := hv.tup
      exact call_tuple_of pins s σ H _ us Q I r ⟨a, _, rfl, .inr ⟨h1, n.same _ hv (by rw [D.noL]; exact c)⟩⟩
    · cases e
  all_goals cases e
theorem cb_int : CallR X (.type "int") (rBi X.K .int) := by
  intro pins s σ H vs us Q I r h
  obtain ⟨C, ds, d, hl, e, n⟩ := h
  unfold bcallD at e
  split at e <;> first | contradiction | skip
  · cases e
    obtain ⟨v, rfl, hv⟩ := hl.one
    rw [hv.int] at r
    exact call_int1 pins s σ H _ us Q I r (.inl ⟨_, rfl, n.flat rfl⟩)
  · cases e
    obtain ⟨v, rfl, hv⟩ := hl.one
    rw [hv.bl] at r
    exact call_int1 pins s σ H _ us Q I r (.inr ⟨_, rfl, n.flat rfl⟩)
  all_goals cases e
theorem cb_str : CallR X (.type "str") (rBi X.K .str) := by
  intro pins s σ H vs us Q I r h
  obtain ⟨C, ds, d, hl, e, n⟩ := h
  unfold bcallD at e
  split at e <;> first | contradiction | skip
  · split at e
    · rename_i c
      cases e
      obtain ⟨v, rfl, hv⟩ := hl.one
      rw [hv.int] at r
      exact call_str_int pins s σ H _ us Q I r ⟨_, rfl, c, n.flat rfl⟩
    · cases e
  all_goals cases e
theorem cb_abs : CallR X (.builtin "abs") (rBi X.K .abs) := by
  intro pins s σ H vs us Q I r h
  obtain ⟨C, ds, d, hl, e, n⟩ := h
  unfold bcallD at e
  split at e <;> first | contradiction | skip
  · cases e
    obtain ⟨v, rfl, hv⟩ := hl.one
    rw [hv.int] at r
    exact call_abs pins s σ H _ us Q I r ⟨_, rfl, n.flat rfl⟩
  all_goals cases e

/-! ### isinstance -/
def tyS : Ty → String
  | .int => "int" | .bool => "bool" | .str => "str" | .tuple => "tuple" | .list => "list"
def rIsiD (K : PySem.W.Frag) (t : Ty) : List V → Hp → VK → Prop := fun vs H Q => ∃ C v d b, vs = [v, .ty (tyS t)] ∧ Has K H C v d ∧ isiD t d = some b ∧ Q (.bl b) H
theorem cb_isi (t : Ty) : CallR X (.builtin "isinstance") (rIsiD X.K t) := by
  intro pins s σ H vs us Q I r h
  obtain ⟨C, v, d, b, rfl, hv, e, q⟩ := h
  have go : ∀ T : String, TyX X.K H v (.type T) → kitB T (tyS t) = some b → wpAny (model X.prog X.w) X.A (call (.builtin "isinstance") us) (EP X pins σ Q) X.xe s := fun T ht hk =>
    call_isi pins s σ H _ us Q I r ⟨v, .ty (tyS t), .type T, .type (tyS t), b, rfl, .ty _, ht, kit_ty hk, q⟩
  cases d with
  | non =>
    have hv := hv.non; subst hv
    refine go "NoneType" (.base .non) ?_
    cases t <;> (cases e; decide +kernel)
  | bl x =>
    have hv := hv.bl; subst hv
    refine go "bool" (.base (.bl x)) ?_
    cases t <;> (cases e; decide +kernel)
  | int x =>
    have hv := hv.int; subst hv
    refine go "int" (.base (.int x)) ?_
    cases t <;> (cases e; decide +kernel)
  | str x =>
    have hv := hv.str; subst hv
    refine go "str" (.base (.str x)) ?_
    cases t <;> (cases e; decide +kernel)
  | scr ns =>
    obtain ⟨av, rfl, hd, ok⟩ := hv
    cases av with
    | scr a ms =>
      rw [AV.ok] at ok
      have z : kitB "list" (tyS t) = some b := by cases t <;> (cases e; decide +kernel)
      rcases ok with ⟨o, ok⟩ | ⟨o, its, n, h1, h2, _⟩
      · exact go "list" (.base (.frz ok)) z
      · exact go "list" (.kList h1 h2) z
    | _ => simp [AV.d] at hd
  | cell n => cases t <;> cases e
  | tup ds =>
    obtain ⟨a, xs, rfl, h1, _, _⟩ := hv.tup
    have z : kitB "tuple" (tyS t) = some b := by cases t <;> (cases e; decide +kernel)
    rcases h1 with (h1 | ⟨o, h1⟩) | ⟨o, its, n, h1, h2, _⟩
    · exact go "tuple" (.base (.tup h1)) z
    · exact go "tuple" (.fTuple h1) z
    · exact go "tuple" (.kTuple h1 h2) z
  | lst ds =>
    obtain ⟨a, xs, rfl, h1, _, _⟩ := hv.lst
    have z : kitB "list" (tyS t) = some b := by cases t <;> (cases e; decide +kernel)
    exact go "list" (.base (.lst h1)) z

theorem cb_any' (b : Bi) (hc : X.calm = true) : CallR X (biV b) (rBi X.K b) := by
  cases b with
  | len => exact cb_len
  | sum => exact cb_sum hc
  | min => exact cb_min hc
  | max => exact cb_max hc
  | all => exact cb_all hc
  | any => exact cb_any hc
  | sorted => exact cb_sorted
  | list => exact cb_list
  | tuple => exact cb_tuple
  | int => exact cb_int
  | str => exact cb_str
  | abs => exact cb_abs
/-! ### places and slices -/
/-- a place in a list or tuple of these things -/
theorem ix_av : IxR X (fun x y H Q => ∃ (av : AV) (C : Ce) (xs : List AV) (k : Int) (w : AV), x = av.v ∧ av.ok X.K H C ∧ av.items = some xs ∧ y = .int k ∧ atI xs k = some w ∧ Q w.v H) := by
  intro value slice pins s σ H x y v u Q I rx ry h
  obtain ⟨av, C, xs, k, w, rfl, ok, e, rfl, ea, q⟩ := h
  have ev : atI (xs.map AV.v) k = some w.v := by rw [atI_map, ea]; rfl
  cases av with
  | tup a ys =>
    cases e
    rw [AV.ok] at ok
    exact ix_tup value slice pins s σ H _ _ v u Q I rx ry ⟨a, _, k, _, rfl, rfl, ok.1, ev, q⟩
  | lst a ys =>
    cases e
    rw [AV.ok] at ok
    exact ix_list value slice pins s σ H _ _ v u Q I rx ry ⟨a, _, k, _, rfl, rfl, SqL.of ok.1, ev, q⟩
  | scr a ns =>
    obtain ⟨a', e', hs⟩ := Has.scr (K := X.K) (H := H) (C := C) (v := .ref a) (ns := ns) ⟨.scr a ns, rfl, rfl, ok⟩
    cases e'
    cases e
    refine ix_list value slice pins s σ H _ _ v u Q I rx ry ⟨a, ns.map V.int, k, _, rfl, rfl, hs, ?_, q⟩
    rw [(int_avs ns).2] at ev; exact ev
  | _ => cases e
end
end Om

/-! Om7: what a function promises; a call, from the caller's side. -/
namespace Om
open PySem PySem.Spec PyProof.Rows L2

section
variable {K : PySem.W.Frag} {H H' : Hp} {C : Ce}
theorem AV.ok_ext {C' : Ce} (hc : CeExt C C') {x : AV} (h : x.ok K H C) : x.ok K H C' := AV.ok_keep (O := []) (fun _ _ e _ => e) (fun _ z => nomatch z) hc x h fun _ _ z => nomatch z
theorem CeExt.nil : CeExt [] C := fun n a h => by simp at h
mutual
theorem AV.ok_noC : ∀ {x : AV}, x.ok K H C → x.d.noC = true → x.ok K H []
  | .non, _, _ | .bl _, _, _ | .int _, _, _ | .str _, _, _ => trivial
  | .scr a ns, h, _ => by rw [AV.ok] at h ⊢; exact h
  | .cell _ _, _, h => by rw [AV.d, D.noC] at h; exact absurd h (by decide)
  | .tup a xs, h, n => by rw [AV.ok] at h ⊢; rw [AV.d, D.noC] at n; exact ⟨h.1, AV.okL_noC h.2 n⟩
  | .lst a xs, h, n => by rw [AV.ok] at h ⊢; rw [AV.d, D.noC] at n; exact ⟨h.1, AV.okL_noC h.2 n⟩
theorem AV.okL_noC : ∀ {xs : List AV}, AV.okL K H C xs → D.noCL (AV.dL xs) = true → AV.okL K H [] xs
  | [], _, _ => trivial
  | x :: xs, h, n => by
    rw [AV.okL] at h ⊢
    rw [AV.dL, D.noCL, Bool.and_eq_true] at n
    exact ⟨AV.ok_noC h.1 n.1, AV.okL_noC h.2 n.2⟩
end

/-- the parameters that are changed -/
def lentA : List Bool → List AV → List AV
  | true :: ms, x :: xs => x :: lentA ms xs
  | false :: ms, _ :: xs => lentA ms xs
  | _, _ => []
abbrev tr (x : AV) : En := (true, x)
/-- what a function promises: sem says what it gives -/
def spT (K : PySem.W.Frag) (CA : Str → Addr) (sem : List D → Option FR) (mask : List Bool) : Sp := fun vs H Q E =>
  ∃ as : List AV, vs = as.map AV.v ∧ as.length = mask.length ∧ Wd K H (mask.zip as) [] ∧ match sem (as.map AV.d) with
    | none => False
    | some (.ret fl d fin) => ∀ (r : AV) (fs : List AV) (H' : Hp), Stp K H (mask.zip as) [] H' ((fl, r) :: fs.map tr) [] → r.d = d → fs.map AV.d = fin → fs.map AV.v = (lentA mask as).map AV.v → Q r.v H'
    | some (.exc c fin) => ∀ (fs : List AV) (H' : Hp), Stp K H (mask.zip as) [] H' (fs.map tr) [] → fs.map AV.d = fin → fs.map AV.v = (lentA mask as).map AV.v → E (.ref (CA c)) none H'

/-- behind a call: Ls, what is lent (owned); kept: the other arguments; F, what is given back; r, the answer -/
theorem call_back {Ls Rest A F : List En} {C : Ce} {rs : List En} (w : Wd K H (Ls ++ Rest) C) (hA : own A = own Ls)
    (s : Stp K H A [] H' (rs ++ F) []) (hF : shr F = []) (pr : shr rs = []) : Stp K H (Ls ++ Rest) C H' (F ++ (Rest ++ rs)) C := by
  have e0 : ceA ([] : Ce) = [] := rfl
  have sO : ∀ a ∈ own (rs ++ F), a ∈ own Ls ∨ H a = none := fun a ha => by
    have := s.own a (by rw [e0, List.append_nil]; exact ha)
    rw [e0, List.append_nil, hA] at this; exact this
  have nd := w.nd
  rw [own_app, List.append_assoc] at nd
  obtain ⟨nd1, nd2, nd3⟩ := List.nodup_append.mp nd
  have k : Keep (own Ls) H H' := fun a o ha hn => s.keep a o ha (by rw [e0, List.append_nil, hA]; exact hn)
  have hl : ∀ a ∈ own Ls, ∃ vs, H a = some (.lst vs) := fun a ha => w.ownL a (List.mem_append_left _ (by rw [own_app]; exact List.mem_append_left _ ha))
  have rL : ∀ a, a ∈ own Rest ∨ a ∈ shr Rest ∨ a ∈ ceA C → ∃ vs, H a = some (.lst vs) := fun a ha => by
    rcases ha with h | h | h
    · exact w.ownL a (List.mem_append_left _ (by rw [own_app]; exact List.mem_append_right _ h))
    · exact w.shrL a (by rw [shr_app]; exact List.mem_append_right _ h)
    · exact w.ownL a (List.mem_append_right _ h)
  have disR : ∀ a, a ∈ own Rest ∨ a ∈ shr Rest ∨ a ∈ ceA C → a ∉ own Ls := fun a ha hm => by
    rcases ha with h | h | h
    · exact nd3 a hm a (List.mem_append_left _ h) rfl
    · exact w.sh a (by rw [shr_app]; exact List.mem_append_right _ h) (List.mem_append_left _ (by rw [own_app]; exact List.mem_append_left _ hm))
    · exact nd3 a hm a (List.mem_append_right _ h) rfl
  have restok : ∀ e ∈ Rest, e.2.ok K H' C := fun e he => AV.ok_keep k hl .refl e.2 (w.ok e (List.mem_append_right _ he)) fun a ha => by
    cases q : e.1 with
    | true => exact disR a (.inl (mem_own.mpr ⟨e, he, q, ha⟩))
    | false => exact disR a (.inr (.inl (mem_shr.mpr ⟨e, he, q, ha⟩)))
  have pO : (own (F ++ (Rest ++ rs)) ++ ceA C).Perm (own (rs ++ F) ++ (own Rest ++ ceA C)) := by
    simp only [own_app, List.append_assoc]
    exact (List.Perm.append_left _ (List.perm_append_comm_assoc _ _ _)).trans (List.perm_append_comm_assoc _ _ _)
  have notR : ∀ a ∈ own (rs ++ F), a ∉ own Rest ++ ceA C := fun a ha hm => by
    have hm' : a ∈ own Rest ∨ a ∈ shr Rest ∨ a ∈ ceA C := (List.mem_append.mp hm).elim .inl fun z => .inr (.inr z)
    rcases sO a ha with z | z
    · exact disR a hm' z
    · obtain ⟨vs, q⟩ := rL a hm'
      rw [z] at q; cases q
  refine ⟨⟨fun e he => ?_, ?_, fun a ha hm => ?_, fun p hp => ?_⟩, fun a o ha hn => k a o ha fun z => hn (List.mem_append_left _ (by rw [own_app]; exact List.mem_append_left _ z)), s.dom, fun a ha => ?_, fun a ha => ?_, .refl⟩
  · rcases List.mem_append.mp he with h | h
    · exact AV.ok_ext .nil (s.wd.ok e (List.mem_append_right _ h))
    · rcases List.mem_append.mp h with h | h
      · exact restok e h
      · exact AV.ok_ext .nil (s.wd.ok e (List.mem_append_left _ h))
  · rw [pO.nodup_iff, List.nodup_append]
    have n1 := s.wd.nd
    rw [e0, List.append_nil] at n1
    exact ⟨n1, nd2, fun a ha b hb e => by subst e; exact notR a ha hb⟩
  · have hm := pO.mem_iff.mp hm
    rw [shr_app, shr_app, hF, List.nil_append] at ha
    rcases List.mem_append.mp ha with h | h
    · rcases List.mem_append.mp hm with z | z
      · rcases sO a z with y | y
        · exact disR a (.inr (.inl h)) y
        · obtain ⟨vs, q⟩ := rL a (.inr (.inl h))
          rw [y] at q; cases q
      · refine w.sh a (by rw [shr_app]; exact List.mem_append_right _ h) ?_
        rw [own_app]
        rcases List.mem_append.mp z with z | z
        · exact List.mem_append_left _ (List.mem_append_right _ z)
        · exact List.mem_append_right _ z
    · rw [pr] at h; cases h
  · have c := w.ce p hp
    refine ⟨k _ _ c.1 (disR p.1 (.inr (.inr (List.mem_map.mpr ⟨p, hp, rfl⟩)))), fun x hx => ⟨AV.ok_keep k hl .refl x (c.2 x hx).1 fun a ha => ?_, (c.2 x hx).2⟩⟩
    rw [(c.2 x hx).2] at ha; cases ha
  · have from_s : a ∈ own (rs ++ F) → a ∈ own (Ls ++ Rest) ++ (shr (Ls ++ Rest) ++ ceA C) ∨ H a = none := fun h => by
      rcases sO a h with z | z
      · exact .inl (List.mem_append_left _ (by rw [own_app]; exact List.mem_append_left _ z))
      · exact .inr z
    simp only [own_app, shr_app, hF, pr, List.mem_append] at ha from_s ⊢
    rcases ha with (h | h | h) | (h | h | h) | h
    · exact from_s (.inr h)
    · exact .inl (.inl (.inr h))
    · exact from_s (.inl h)
    · cases h
    · exact .inl (.inr (.inl (.inr h)))
    · cases h
    · exact .inl (.inr (.inr h))
  · have ha := pO.mem_iff.mp ha
    rcases List.mem_append.mp ha with h | h
    · rcases sO a h with z | z
      · exact .inl (List.mem_append_left _ (by rw [own_app]; exact List.mem_append_left _ z))
      · exact .inr z
    · rcases List.mem_append.mp h with h | h
      · exact .inl (List.mem_append_left _ (by rw [own_app]; exact List.mem_append_right _ h))
      · exact .inl (List.mem_append_right _ h)
/-- a shared thing besides -/
theorem Stp.addShr {L L' : List En} {C C' : Ce} {x : AV} (s : Stp K H L C H' L' C') (ok : x.ok K H' C') (no : ∀ a ∈ x.as, a ∉ Om.own L' ++ ceA C') (al : ∀ a ∈ x.as, a ∈ Om.own L ++ (Om.shr L ++ ceA C) ∨ H a = none) : Stp K H L C H' ((false, x) :: L') C' := by
  have e1 : Om.own ((false, x) :: L') = Om.own L' := rfl
  have e2 : Om.shr ((false, x) :: L') = x.as ++ Om.shr L' := rfl
  refine ⟨⟨fun e he => (List.mem_cons.mp he).elim (fun z => z ▸ ok) (s.wd.ok e), s.wd.nd, fun a ha => ?_, s.wd.ce⟩, s.keep, s.dom, fun a ha => ?_, s.own, s.ext⟩
  · rw [e2] at ha
    rcases List.mem_append.mp ha with h | h
    · exact no a h
    · exact s.wd.sh a h
  · rw [e1, e2] at ha
    simp only [List.mem_append] at ha
    rcases ha with h | (h | h) | h
    · exact s.all a (List.mem_append_left _ h)
    · exact al a h
    · exact s.all a (List.mem_append_right _ (List.mem_append_left _ h))
    · exact s.all a (List.mem_append_right _ (List.mem_append_right _ h))
end

/-! ### arguments -/
theorem M.bind_ok {α β : Type} {m : M α} {f : α → M β} {g g' : Sg} {a : α} (h : m g = some (.ok a g')) : (m >>= f) g = f a g' := by
  show M.bind m f g = _
  unfold M.bind
  rw [h]
/-- the thing that a reference stands for -/
def RefB.node (g : GA) : RefB → AV → Prop
  | .slot k, x => ∃ m, g.sl[k]? = some (some (m, x))
  | .tmp e, x => e.2 = x
def nodes (g : GA) : List RefB → List AV → Prop
  | [], xs => xs = []
  | r :: rs, xs => ∃ x ys, xs = x :: ys ∧ r.node g x ∧ nodes g rs ys
theorem nodes_of {g : GA} : ∀ {rs : List RefB} {vs : List V}, isL g rs vs → ∃ xs, nodes g rs xs ∧ xs.map AV.v = vs
  | [], vs, h => ⟨[], rfl, by rw [show vs = [] from h]; rfl⟩
  | r :: rs, vs, ⟨v, vs', e, h1, h2⟩ => by
    obtain ⟨xs, n, e'⟩ := nodes_of h2
    cases r with
    | slot k =>
      obtain ⟨⟨m, x⟩, q1, q2⟩ := GA.v_slot (show g.vs[k]? = some (some v) from h1)
      exact ⟨x :: xs, ⟨x, xs, rfl, ⟨m, q1⟩, n⟩, by rw [List.map_cons, e', e]; exact congrArg (· :: vs') q2⟩
    | tmp en => exact ⟨en.2 :: xs, ⟨en.2, xs, rfl, rfl, n⟩, by rw [List.map_cons, e', e]; exact congrArg (· :: vs') (show en.2.v = v from Eq.symm h1)⟩
theorem nodes_len {g : GA} : ∀ {rs : List RefB} {xs : List AV}, nodes g rs xs → xs.length = rs.length
  | [], xs, h => by rw [show xs = [] from h]; rfl
  | r :: rs, xs, ⟨x, ys, e, _, h⟩ => by rw [e, List.length_cons, List.length_cons, nodes_len h]
theorem nodes_look {g : GA} : ∀ {rs : List RefB} {xs : List AV}, nodes g rs xs → lookL (rs.map RefB.r) g.d = some (.ok (xs.map AV.d) g.d)
  | [], xs, h => by rw [show xs = [] from h]; rfl
  | r :: rs, xs, ⟨x, ys, e, h1, h⟩ => by
    have ih := nodes_look h
    have e1 : look r.r g.d = some (.ok x.d g.d) := by
      cases r with
      | slot k =>
        obtain ⟨m, q⟩ := h1
        unfold look
        have : (RefB.slot k).r.get g.d = some x.d := by
          show (match g.d.sl[k]? with
            | some (some (_, d)) => some d
            | _ => none) = _
          rw [GA.slot_d q]
        rw [this]
      | tmp en =>
        cases h1
        rfl
    rw [e]
    show ((look r.r) >>= fun d => (lookL (rs.map RefB.r) >>= fun ds => (pure (d :: ds) : M (List D)))) g.d = _
    exact (M.bind_ok e1).trans ((M.bind_ok ih).trans rfl)
end Om

/-! Om8: a call, from the interpreter's word to the promise. -/
namespace Om
open PySem PySem.Spec PyProof.Rows L2

def lentN (g : GA) : List Nat → List AV → Prop
  | [], xs => xs = []
  | k :: ks, xs => ∃ x ys, xs = x :: ys ∧ (∃ m, g.sl[k]? = some (some (m, x))) ∧ lentN g ks ys
theorem lent_spec {g : GA} : ∀ {rs : List RefB} {ms : List Bool} {ks : List Nat} {xs : List AV}, lentOf (rs.map RefB.r) ms = some ks → nodes g rs xs → xs.length = ms.length ∧ lentN g ks (lentA ms xs)
  | [], [], ks, xs, h, n => by
    have n : xs = [] := n
    subst n
    have h : some [] = some ks := h
    cases h
    exact ⟨rfl, rfl⟩
  | [], m :: ms, ks, xs, h, n => by cases m <;> cases h
  | r :: rs, [], ks, xs, h, n => by cases r <;> cases h
  | r :: rs, m :: ms, ks, xs, h, ⟨x, ys, e, h1, n⟩ => by
    subst e
    cases m with
    | true =>
      cases r with
      | tmp en => cases h
      | slot k =>
        have h' : (lentOf (rs.map RefB.r) ms).map (k :: ·) = some ks := h
        cases q : lentOf (rs.map RefB.r) ms with
        | none => rw [q] at h'; cases h'
        | some ks' =>
          rw [q] at h'
          cases h'
          obtain ⟨i1, i2⟩ := lent_spec q n
          exact ⟨by rw [List.length_cons, List.length_cons, i1], x, lentA ms ys, rfl, h1, i2⟩
    | false =>
      have h' : lentOf (rs.map RefB.r) ms = some ks := by cases r <;> exact h
      obtain ⟨i1, i2⟩ := lent_spec h' n
      exact ⟨by rw [List.length_cons, List.length_cons, i1], i2⟩
theorem zip_own : ∀ {ms : List Bool} {xs : List AV}, own (ms.zip xs) = AV.asL (lentA ms xs)
  | [], xs => by cases xs <;> rfl
  | true :: ms, [] => rfl
  | false :: ms, [] => rfl
  | true :: ms, x :: xs => by
    show x.as ++ own (ms.zip xs) = _
    rw [zip_own, lentA, AV.asL]
  | false :: ms, x :: xs => by
    show [] ++ own (ms.zip xs) = _
    rw [zip_own, lentA]; rfl
theorem zip_shr {g : GA} {a : Addr} : ∀ {rs : List RefB} {ms : List Bool} {xs : List AV}, nodes g rs xs → a ∈ shr (ms.zip xs) → ∃ r ∈ rs, ∃ x, r.node g x ∧ a ∈ x.as ∧ r.r ∈ keptOf (rs.map RefB.r) ms
  | [], ms, xs, n, h => by
    have n : xs = [] := n
    subst n
    rw [List.zip_nil_right] at h; cases h
  | r :: rs, [], xs, n, h => by rw [List.zip_nil_left] at h; cases h
  | r :: rs, m :: ms, xs, ⟨x, ys, e, h1, n⟩, h => by
    subst e
    cases m with
    | true =>
      have h' : a ∈ [] ++ shr (ms.zip ys) := h
      obtain ⟨r', hr, x', n', ha, hk⟩ := zip_shr n h'
      exact ⟨r', List.mem_cons_of_mem _ hr, x', n', ha, hk⟩
    | false =>
      have h' : a ∈ x.as ++ shr (ms.zip ys) := h
      rcases List.mem_append.mp h' with h' | h'
      · exact ⟨r, List.mem_cons_self, x, h1, h', List.mem_cons_self⟩
      · obtain ⟨r', hr, x', n', ha, hk⟩ := zip_shr n h'
        exact ⟨r', List.mem_cons_of_mem _ hr, x', n', ha, List.mem_cons_of_mem _ hk⟩
theorem mem_zip_snd : ∀ {ms : List Bool} {xs : List AV} {e : En}, e ∈ ms.zip xs → e.2 ∈ xs := fun h => (List.of_mem_zip h).2
theorem nodes_mem {g : GA} : ∀ {rs : List RefB} {xs : List AV} {x : AV}, nodes g rs xs → x ∈ xs → ∃ r ∈ rs, r.node g x
  | [], xs, x, n, h => by rw [show xs = [] from n] at h; cases h
  | r :: rs, xs, x, ⟨y, ys, e, h1, n⟩, h => by
    subst e
    rcases List.mem_cons.mp h with rfl | h
    · exact ⟨r, List.mem_cons_self, h1⟩
    · obtain ⟨r', hr, n'⟩ := nodes_mem n h
      exact ⟨r', List.mem_cons_of_mem _ hr, n'⟩
theorem mem_ensL {rs : List RefB} {e : En} (h : RefB.tmp e ∈ rs) : e ∈ ensL rs := List.mem_flatMap.mpr ⟨_, h, List.mem_singleton.mpr rfl⟩
theorem ownedL_ok : ∀ {ks : List Nat} {gd : Sg} {x : Res Unit}, ownedL ks gd = some x → x = .ok () gd ∧ ∀ k ∈ ks, ∃ d, gd.sl[k]? = some (some (.ow, d))
  | [], gd, x, h => by cases h; exact ⟨rfl, fun _ h => nomatch h⟩
  | k :: ks, gd, x, h => by
    unfold ownedL at h
    split at h
    · rename_i d q
      obtain ⟨h1, h2⟩ := ownedL_ok h
      exact ⟨h1, fun j hj => (List.mem_cons.mp hj).elim (fun e => e ▸ ⟨d, q⟩) (h2 j)⟩
    · cases h

section
variable {K : PySem.W.Frag} {W : Str → St → Hp → Prop} {H H' H1 H2 : Hp} {g g' g1 g2 : GA} {R : List En} {rs : List RefB} {xs : List AV} {ms : List Bool} {ks : List Nat}
/-- what a reference stands for lies as told -/
theorem node_ok {r : RefB} {x : AV} (gw : GW K H1 g1) (w : Wd K H1 (ents g1.sl ++ ensL rs) g1.ce) (hr : r ∈ rs) (n : r.node g1 x) : x.ok K H1 g1.ce := by
  cases r with
  | slot k => obtain ⟨m, q⟩ := n; exact gw.slot q
  | tmp e => cases n; exact w.ok e (List.mem_append_right _ (mem_ensL hr))
/-- what is kept lies apart from an owned slot's thing -/
theorem node_apart {r : RefB} {x av : AV} {k : Nat} (gw : GW K H1 g1) (w : Wd K H1 (ents g1.sl ++ ensL rs) g1.ce) (hr : r ∈ rs) (n : r.node g1 x) (hk : g1.sl[k]? = some (some (.ow, av))) (hne : r.r.isSlot k = false) :
    ∀ a ∈ x.as, a ∉ av.as := fun a ha hm => by
  have p := ents_get hk
  have own_av : a ∈ own (ents g1.sl) := mem_own.mpr ⟨(true, av), mem_ents hk rfl, rfl, hm⟩
  cases r with
  | tmp e =>
    cases n
    exact w.apart e (mem_ensL hr) a ha (List.mem_append_left _ own_av)
  | slot j =>
    obtain ⟨m, q⟩ := n
    have hjk : j ≠ k := by
      intro e; subst e
      have : (decide (j = j)) = false := hne
      simp at this
    cases m with
    | sh => exact gw.wd.sh a (mem_shr.mpr ⟨(false, x), mem_ents q rfl, rfl, ha⟩) (List.mem_append_left _ own_av)
    | lk => exact (gw.gh j x q).2 a ha (List.mem_append_left _ own_av)
    | ow =>
      have nd := gw.wd.nd
      have nd1 : (own (ents g1.sl)).Nodup := (List.nodup_append.mp nd).1
      have po : (own (ents g1.sl)).Perm (av.as ++ own (ents (g1.sl.set k none))) := by
        have := List.Perm.flatMap_right own1 p
        simpa [own, entL, entO, own1] using this
      have nd2 := po.nodup_iff.mp nd1
      refine (List.nodup_append.mp nd2).2.2 a hm a ?_ rfl
      refine mem_own.mpr ⟨(true, x), mem_ents (k := j) (m := .ow) ?_ rfl, rfl, ha⟩
      rw [List.getElem?_set_ne (Ne.symm hjk)]; exact q
/-- the callee's first world -/
theorem call_wd (gw : GW K H1 g1) (w : Wd K H1 (ents g1.sl ++ ensL rs) g1.ce) (n : nodes g1 rs xs) (hl : lentOf (rs.map RefB.r) ms = some ks) (h1 : ks.length ≤ 1) (hk : ∀ r ∈ keptOf (rs.map RefB.r) ms, ∀ k ∈ ks, r.isSlot k = false)
    (ho : ∀ k ∈ ks, ∃ d, g1.d.sl[k]? = some (some (.ow, d))) (hn : D.noCL (xs.map AV.d) = true) : Wd K H1 (ms.zip xs) [] := by
  obtain ⟨hlen, hN⟩ := lent_spec hl n
  have ok : ∀ e ∈ ms.zip xs, e.2.ok K H1 [] := fun e he => by
    have hx := mem_zip_snd he
    obtain ⟨r, hr, n'⟩ := nodes_mem n hx
    exact AV.ok_noC (node_ok gw w hr n') (D.noCL_iff.mp hn _ (List.mem_map.mpr ⟨_, hx, rfl⟩))
  cases ks with
  | nil =>
    have e : lentA ms xs = [] := hN
    refine ⟨ok, by rw [zip_own, e]; exact .nil, fun a ha hm => ?_, fun p hp => nomatch hp⟩
    rw [zip_own, e] at hm; cases hm
  | cons k ks =>
    obtain rfl : ks = [] := by cases ks with
      | nil => rfl
      | cons j js => simp at h1
    obtain ⟨av, ys, e, ⟨m, q⟩, hN'⟩ := hN
    obtain rfl : ys = [] := hN'
    obtain ⟨d, hd⟩ := ho k List.mem_cons_self
    obtain rfl : m = .ow := by rw [GA.slot_d q] at hd; cases hd; rfl
    have eo : own (ms.zip xs) = av.as := by rw [zip_own, e, AV.asL, AV.asL, List.append_nil]
    refine ⟨ok, ?_, fun a ha hm => ?_, fun p hp => nomatch hp⟩
    · rw [eo]
      show (av.as ++ []).Nodup
      rw [List.append_nil]
      have nd1 : (own (ents g1.sl)).Nodup := (List.nodup_append.mp gw.wd.nd).1
      have po : (own (ents g1.sl)).Perm (av.as ++ own (ents (g1.sl.set k none))) := by
        have := List.Perm.flatMap_right own1 (ents_get q)
        simpa [own, entL, entO, own1] using this
      exact (List.nodup_append.mp (po.nodup_iff.mp nd1)).1
    · rw [eo] at hm
      have hm : a ∈ av.as := by
        rcases List.mem_append.mp hm with z | z
        · exact z
        · cases z
      obtain ⟨r, hr, x, n', hax, hkp⟩ := zip_shr n ha
      exact node_apart gw w hr n' q (hk _ hkp k List.mem_cons_self) a hax hm
theorem shr_tr : ∀ fs : List AV, shr (fs.map tr) = []
  | [] => rfl
  | f :: fs => by show [] ++ shr (fs.map tr) = []; rw [shr_tr fs]; rfl
theorem own_zip_one {av : AV} (e : lentA ms xs = [av]) : own (ms.zip xs) = own [((true, av) : En)] := by
  rw [zip_own, e, AV.asL, AV.asL]; rfl
/-- the caller's state behind the call -/
theorem call_state {rs' : List En} {fs : List AV} (gw : GW K H1 g1) (n : nodes g1 rs xs) (hl : lentOf (rs.map RefB.r) ms = some ks) (h1 : ks.length ≤ 1) (ho : ∀ k ∈ ks, ∃ d, g1.d.sl[k]? = some (some (.ow, d)))
    (s : Stp K H1 (ms.zip xs) [] H' (rs' ++ fs.map tr) []) (hr : shr rs' = []) (hv : fs.map AV.v = (lentA ms xs).map AV.v) :
    ∃ g3 : GA, putBack ks (fs.map AV.d) g1.d = some (.ok () g3.d) ∧ GSt K H1 g1 H' g3 rs' ∧ g3.ce = g1.ce ∧ (∀ j, j ∉ ks → g3.sl[j]? = g1.sl[j]?) ∧ (∀ a ∈ own (ms.zip xs), a ∈ own (ents g1.sl)) ∧
      ∀ a ∈ own (ents g3.sl), a ∈ own (fs.map tr) ∨ (a ∈ own (ents g1.sl) ∧ a ∉ own (ms.zip xs)) := by
  obtain ⟨hlen, hN⟩ := lent_spec hl n
  cases ks with
  | nil =>
    have e : lentA ms xs = [] := hN
    rw [e] at hv
    obtain rfl : fs = [] := by simpa using hv
    have eo : own (ms.zip xs) = own ([] : List En) := by rw [zip_own, e]; rfl
    have no : ∀ a, a ∉ own (ms.zip xs) := fun a ha => by rw [eo] at ha; exact absurd ha List.not_mem_nil
    have b := call_back (Ls := []) (Rest := ents g1.sl) gw.wd eo s (shr_tr []) hr
    exact ⟨g1, rfl, ⟨by simpa using b, rfl, fun _ _ h => h⟩, rfl, fun _ _ => rfl, fun a ha => absurd ha (no a), fun a ha => .inr ⟨ha, no a⟩⟩
  | cons k ks =>
    obtain rfl : ks = [] := by cases ks with
      | nil => rfl
      | cons j js => simp at h1
    obtain ⟨av, ys, e, ⟨m, q⟩, hN'⟩ := hN
    obtain rfl : ys = [] := hN'
    obtain ⟨d, hd⟩ := ho k List.mem_cons_self
    obtain rfl : m = .ow := by rw [GA.slot_d q] at hd; cases hd; rfl
    rw [e] at hv
    obtain ⟨y, rfl⟩ : ∃ y, fs = [y] := by
      cases fs with
      | nil => cases hv
      | cons y ys => cases ys with
        | nil => exact ⟨y, rfl⟩
        | cons z zs => simp at hv
    have hvy : y.v = av.v := by simpa using hv
    have hk := lt_of_some q
    have p := ents_get q
    have pe : entL (some (Mo.ow, av)) = [((true, av) : En)] := rfl
    rw [pe] at p
    have w' : Wd K H1 ([((true, av) : En)] ++ ents (g1.sl.set k none)) g1.ce := gw.wd.perm p
    have b := call_back (Ls := [((true, av) : En)]) (Rest := ents (g1.sl.set k none)) w' (own_zip_one e) s (shr_tr [y]) hr
    refine ⟨g1.put k (some (.ow, y)), ?_, ⟨?_, GA.put_same_vs (e := (.ow, av)) (e' := (.ow, y)) q hvy, fun j z hj => ?_⟩, rfl, fun j hj => ?_, fun a ha => ?_, fun a ha => ?_⟩
    · rw [GA.put_d]
      show ((setSlot k (some (.ow, y.d))) >>= fun _ => putBack [] []) g1.d = _
      have e1 : setSlot k (some (.ow, y.d)) g1.d = some (.ok () { g1.d with sl := g1.d.sl.set k (some (.ow, y.d)) }) := by
        unfold setSlot
        rw [if_pos (by rw [GA.lenD]; exact hk)]
      exact (M.bind_ok e1).trans rfl
    · refine ⟨b.wd.perm ?_, ?_, b.dom, ?_, ?_, b.ext⟩
      · exact (perm_put (rs := rs') (some (.ow, y)) hk).symm
      · have po : (own (ents g1.sl)).Perm (own ([((true, av) : En)] ++ ents (g1.sl.set k none))) := List.Perm.flatMap_right own1 p
        intro a o ha hn
        refine b.keep a o ha fun z => hn ?_
        rcases List.mem_append.mp z with z | z
        · exact List.mem_append_left _ (po.mem_iff.mpr z)
        · exact List.mem_append_right _ z
      · have po : (own (ents g1.sl)).Perm (own ([((true, av) : En)] ++ ents (g1.sl.set k none))) := List.Perm.flatMap_right own1 p
        have ps : (shr (ents g1.sl)).Perm (shr ([((true, av) : En)] ++ ents (g1.sl.set k none))) := List.Perm.flatMap_right shr1 p
        have p2 := perm_put (g := g1) (rs := rs') (some (.ow, y)) hk
        have po2 : (own (ents (g1.put k (some (.ow, y))).sl ++ rs')).Perm _ := List.Perm.flatMap_right own1 p2
        have ps2 : (shr (ents (g1.put k (some (.ow, y))).sl ++ rs')).Perm _ := List.Perm.flatMap_right shr1 p2
        intro a ha
        have := b.all a (by
          simp only [List.mem_append] at ha ⊢
          rcases ha with h | h | h
          · exact .inl (po2.mem_iff.mp h)
          · exact .inr (.inl (ps2.mem_iff.mp h))
          · exact .inr (.inr h))
        simp only [List.mem_append] at this ⊢
        rcases this with (h | h | h) | h
        · exact .inl (.inl (po.mem_iff.mpr h))
        · exact .inl (.inr (.inl (ps.mem_iff.mpr h)))
        · exact .inl (.inr (.inr h))
        · exact .inr h
      · have po : (own (ents g1.sl)).Perm (own ([((true, av) : En)] ++ ents (g1.sl.set k none))) := List.Perm.flatMap_right own1 p
        have p2 := perm_put (g := g1) (rs := rs') (some (.ow, y)) hk
        have po2 : (own (ents (g1.put k (some (.ow, y))).sl ++ rs')).Perm _ := List.Perm.flatMap_right own1 p2
        intro a ha
        have := b.own a (by
          rcases List.mem_append.mp ha with h | h
          · exact List.mem_append_left _ (po2.mem_iff.mp h)
          · exact List.mem_append_right _ h)
        rcases this with h | h
        · rcases List.mem_append.mp h with h | h
          · exact .inl (List.mem_append_left _ (po.mem_iff.mpr h))
          · exact .inl (List.mem_append_right _ h)
        · exact .inr h
    · rw [GA.put_get hk] at hj
      split at hj
      · cases hj
      · exact hj
    · rw [GA.put_get hk, if_neg (fun z => hj (by rw [z]; exact List.mem_cons_self))]
    · have po : (own (ents g1.sl)).Perm (own ([((true, av) : En)] ++ ents (g1.sl.set k none))) := List.Perm.flatMap_right own1 p
      rw [own_zip_one e] at ha
      exact po.mem_iff.mpr (by rw [own_app]; exact List.mem_append_left _ ha)
    · have po : (own (ents g1.sl)).Perm (own ([((true, av) : En)] ++ ents (g1.sl.set k none))) := List.Perm.flatMap_right own1 p
      have p2 := (ents_set (sl := g1.sl) (k := k) (some (Mo.ow, y)) hk)
      have po2 : (own (ents (g1.put k (some (.ow, y))).sl)).Perm (own ([y].map tr ++ ents (g1.sl.set k none))) := List.Perm.flatMap_right own1 p2
      have z := po2.mem_iff.mp ha
      rw [own_app] at z
      rcases List.mem_append.mp z with z | z
      · exact .inl z
      · refine .inr ⟨po.mem_iff.mpr (by rw [own_app]; exact List.mem_append_right _ z), fun q => ?_⟩
        rw [own_zip_one e] at q
        have nd := w'.nd
        rw [own_app, List.append_assoc] at nd
        exact (List.nodup_append.mp nd).2.2 a q a (List.mem_append_left _ z) rfl
/-- the slots of these references are shared from now on -/
theorem freezeL_ok : ∀ {rs : List Ref} {x : Res Unit} {g1 : GA}, freezeL rs g1.d = some x → GSt K H g H1 g1 R → ∃ g2 : GA, x = .ok () g2.d ∧ GSt K H g H1 g2 R ∧ g2.ce = g1.ce ∧
    (∀ a, a ∈ own (ents g2.sl) → a ∈ own (ents g1.sl)) ∧ (∀ j e, g1.sl[j]? = some (some e) → ∃ m, g2.sl[j]? = some (some (m, e.2)) ∧ (Ref.slot j ∈ rs → m = .sh) ∧ (e.1 = .sh → m = .sh))
  | [], x, g1, h, s => by
    have h : some (Res.ok () g1.d) = some x := h
    cases h
    exact ⟨g1, rfl, s, rfl, fun _ h => h, fun j e h => ⟨e.1, h, fun z => absurd z List.not_mem_nil, fun z => z⟩⟩
  | .tmp fl d :: rs, x, g1, h, s => by
    have h' : freezeL rs g1.d = some x := h
    obtain ⟨g2, e, s2, c, o, f⟩ := freezeL_ok h' s
    exact ⟨g2, e, s2, c, o, fun j e h => by
      obtain ⟨m, q1, q2, q3⟩ := f j e h
      exact ⟨m, q1, fun z => (List.mem_cons.mp z).elim (fun z => nomatch z) q2, q3⟩⟩
  | .path k is :: rs, x, g1, h, s => by
    have h' : (none : Option (Res Unit)) = some x := h
    cases h'
  | .slot k :: rs, x, g1, h, s => by
    have h' : M.bind (freeze k) (fun _ => freezeL rs) g1.d = some x := h
    unfold M.bind freeze at h'
    cases q : g1.sl[k]? with
    | none =>
      have : g1.d.sl[k]? = none := by rw [GA.slD, q]; rfl
      rw [this] at h'; cases h'
    | some o =>
      cases o with
      | none =>
        have : g1.d.sl[k]? = some none := by rw [GA.slD, q]; rfl
        rw [this] at h'; cases h'
      | some e =>
        obtain ⟨m, av⟩ := e
        rw [GA.slot_d q] at h'
        by_cases hm : m = .lk
        · simp only [hm, if_true] at h'; cases h'
        · simp only [hm, if_false] at h'
          have s1 := s.share q hm
          have hd : ({ g1.d with sl := g1.d.sl.set k (some (.sh, av.d)) } : Sg) = (g1.put k (some (.sh, av))).d := by rw [GA.put_d]; rfl
          rw [hd] at h'
          obtain ⟨g2, e, s2, c, o, f⟩ := freezeL_ok h' s1
          have hk := lt_of_some q
          refine ⟨g2, e, s2, c.trans rfl, fun a ha => ?_, fun j e' hj => ?_⟩
          · have z := o a ha
            have p2 := (ents_set (sl := g1.sl) (k := k) (some (Mo.sh, av)) hk)
            have p1 := ents_get q
            have po2 : (own (ents (g1.put k (some (.sh, av))).sl)).Perm _ := List.Perm.flatMap_right own1 p2
            have po1 : (own (ents g1.sl)).Perm _ := List.Perm.flatMap_right own1 p1
            refine po1.mem_iff.mpr ?_
            have z' := po2.mem_iff.mp z
            have e2 : own (entL (some (Mo.sh, av)) ++ ents (g1.sl.set k none)) = own (ents (g1.sl.set k none)) := rfl
            have z'' : a ∈ own (ents (g1.sl.set k none)) := by rw [← e2]; exact z'
            show a ∈ own (entL (some (m, av)) ++ ents (g1.sl.set k none))
            rw [own_app]
            exact List.mem_append_right _ z''
          · by_cases hjk : k = j
            · subst hjk
              rw [q] at hj; cases hj
              obtain ⟨m', q1, q2, q3⟩ := f k (.sh, av) (by rw [GA.put_get hk, if_pos rfl])
              exact ⟨m', q1, fun _ => q3 rfl, fun _ => q3 rfl⟩
            · obtain ⟨m', q1, q2, q3⟩ := f j e' (by rw [GA.put_get hk, if_neg hjk]; exact hj)
              refine ⟨m', q1, fun z => ?_, q3⟩
              rcases List.mem_cons.mp z with z | z
              · cases z; exact absurd rfl hjk
              · exact q2 z

/-- the whole call -/
theorem Out.call {T : Tab} {f : Str} {CA : Str → Addr} {vs : List V} {Q : VK} {E : XK} (o : Out kRef K W H g (callF T f (rs.map RefB.r) g1.d) Q) (w : GW K H g) (s : GSt K H g H1 g1 (ensL rs)) (hv : isL g1 rs vs)
    (hE : ∀ c H', W c g.vs H' → E (.ref (CA c)) none H') : spT K CA (T.run f) (T.mask f) vs H1 Q E := by
  obtain ⟨xs, n, ev⟩ := nodes_of hv
  have gw := s.gw w
  unfold callF at o
  obtain ⟨ks, hl, o⟩ := o.of
  dsimp only at o
  by_cases hc : (decide (ks.length ≤ 1) && (keptOf (rs.map RefB.r) (T.mask f)).all fun r => ks.all fun k => !r.isSlot k) = true
  case neg => rw [if_neg hc] at o; exact o.elim
  rw [if_pos hc] at o
  simp only [Bool.and_eq_true, decide_eq_true_eq, List.all_eq_true] at hc
  obtain ⟨h1, hk⟩ := hc
  have hk : ∀ r ∈ keptOf (rs.map RefB.r) (T.mask f), ∀ k ∈ ks, r.isSlot k = false := fun r hr k hk' => by
    have := hk r hr k hk'
    simpa using this
  obtain ⟨u, eo, o⟩ := o.reads (fun r hr => ⟨(), (ownedL_ok hr).1⟩)
  have ho := (ownedL_ok eo).2
  obtain ⟨ds, ed, o⟩ := o.reads (fun r hr => by rw [nodes_look n] at hr; cases hr; exact ⟨_, rfl⟩)
  rw [nodes_look n] at ed
  cases ed
  by_cases hn : D.noCL (xs.map AV.d) = true
  case neg => rw [if_neg hn] at o; exact o.elim
  rw [if_pos hn] at o
  have hw := call_wd gw s.wd n hl h1 hk ho hn
  refine ⟨xs, ev.symm, (lent_spec hl n).1, hw, ?_⟩
  cases hf : T.run f (xs.map AV.d) with
  | none => rw [hf] at o; exact o.elim
  | some z =>
    rw [hf] at o
    cases z with
    | exc c fin =>
      dsimp only at o ⊢
      intro fs H' s' ef ev'
      by_cases hnc : D.noCL fin = true
      case neg => rw [if_neg hnc] at o; exact o.elim
      rw [if_pos hnc] at o
      subst ef
      obtain ⟨g3, ep, s3, ce3, _⟩ := call_state (rs' := []) gw n hl h1 ho (by simpa using s') rfl ev'
      rw [M.bind_ok ep] at o
      have st := s.trans s3
      have o2 := o g3 H' st rfl
      rw [st.vs] at o2
      exact hE c H' o2
    | ret fl d fin =>
      dsimp only at o ⊢
      intro r fs H' s' er ef ev'
      by_cases hnc : (d.noC && D.noCL fin) = true
      case neg => rw [if_neg hnc] at o; exact o.elim
      rw [if_pos hnc] at o
      subst er; subst ef
      by_cases hfr : fl = true ∨ r.d.noL = true
      · -- a thing of its own
        have hsr : shr [((fl, r) : En)] = [] := by
          show shr1 (fl, r) ++ [] = []
          rw [List.append_nil]
          rcases hfr with e | e
          · subst e; rfl
          · exact shr1_flat (AV.as_noL r e)
        obtain ⟨g3, ep, s3, ce3, _⟩ := call_state (rs' := [(fl, r)]) gw n hl h1 ho s' hsr ev'
        rw [M.bind_ok ep, if_pos (by rw [Bool.or_eq_true]; exact hfr)] at o
        exact Out.tmp (e := (fl, r)) o (s.trans s3) rfl rfl
      · have hfl : fl = false := by
          cases fl with
          | true => exact absurd (.inl rfl) hfr
          | false => rfl
        subst hfl
        have s0 : Stp K H1 ((T.mask f).zip xs) [] H' ([] ++ fs.map tr) [] := s'.sub ⟨[(false, r)], (List.perm_append_singleton _ _).symm⟩
        obtain ⟨g3, ep, s3, ce3, sl3, oA, own3⟩ := call_state (rs' := []) gw n hl h1 ho s0 rfl ev'
        rw [M.bind_ok ep, if_neg (by rw [Bool.or_eq_true]; exact hfr)] at o
        have st := s.trans s3
        cases ef : freezeL (keptOf (rs.map RefB.r) (T.mask f)) g3.d with
        | none =>
          have o2 : Out kRef K W H g (M.bind (freezeL (keptOf (rs.map RefB.r) (T.mask f))) (fun _ => (pure (.tmp false r.d) : M Ref)) g3.d) Q := o
          unfold M.bind at o2
          rw [ef] at o2; exact o2.elim
        | some z =>
          obtain ⟨g4, e4, s4, ce4, ow4, sl4⟩ := freezeL_ok ef st
          subst e4
          rw [M.bind_ok ef] at o
          have okr : r.ok K H' [] := s'.wd.ok (false, r) List.mem_cons_self
          have inr : ∀ a ∈ r.as, a ∈ shr ((false, r) :: fs.map tr) := fun a ha => mem_shr.mpr ⟨(false, r), List.mem_cons_self, rfl, ha⟩
          have al : ∀ a ∈ r.as, (a ∈ own ((T.mask f).zip xs) ∨ a ∈ shr ((T.mask f).zip xs)) ∨ H1 a = none := fun a ha => by
            rcases s'.all a (List.mem_append_right _ (List.mem_append_left _ (inr a ha))) with z | z
            · have z : a ∈ own ((T.mask f).zip xs) ++ (shr ((T.mask f).zip xs) ++ []) := z
              rw [List.append_nil] at z
              exact .inl (List.mem_append.mp z)
            · exact .inr z
          have notF : ∀ a ∈ r.as, a ∉ own (fs.map tr) := fun a ha hm => s'.wd.sh a (inr a ha) (List.mem_append_left _ (by show a ∈ [] ++ own (fs.map tr); exact hm))
          have kept4 : ∀ a, a ∈ shr ((T.mask f).zip xs) → a ∈ shr (ents g4.sl) ∨ ∃ e ∈ ensL rs, a ∈ e.2.as := fun a ha => by
            obtain ⟨r0, hr0, x0, n0, hax, hkp⟩ := zip_shr n ha
            cases r0 with
            | tmp e => cases n0; exact .inr ⟨e, mem_ensL hr0, hax⟩
            | slot j =>
              obtain ⟨m, q⟩ := n0
              have hj : j ∉ ks := fun hjk => by
                have := hk _ hkp j hjk
                have z : decide (j = j) = false := this
                simp at z
              have q3 : g3.sl[j]? = some (some (m, x0)) := by rw [sl3 j hj]; exact q
              obtain ⟨m', q1, q2, _⟩ := sl4 j (m, x0) q3
              obtain rfl := q2 hkp
              exact .inl (mem_shr.mpr ⟨(false, x0), mem_ents q1 rfl, rfl, hax⟩)
          have w4 := s4.st.left.wd
          have ce41 : ceA g4.ce = ceA g1.ce := by rw [ce4, ce3]
          have no4 : ∀ a ∈ r.as, a ∉ own (ents g4.sl) ++ ceA g4.ce := fun a ha hz => by
            have old : a ∈ own (ents g1.sl) ++ ceA g1.ce ∨ a ∈ own (fs.map tr) := by
              rcases List.mem_append.mp hz with z | z
              · rcases own3 a (ow4 a z) with y | y
                · exact .inr y
                · exact .inl (List.mem_append_left _ y.1)
              · exact .inl (List.mem_append_right _ (by rw [← ce41]; exact z))
            rcases old with old | old
            · rcases al a ha with (y | y) | y
              · rcases List.mem_append.mp hz with z | z
                · rcases own3 a (ow4 a z) with q | q
                  · exact notF a ha q
                  · exact q.2 y
                · have nd := gw.wd.nd
                  exact (List.nodup_append.mp nd).2.2 a (oA a y) a (by rw [← ce41]; exact z) rfl
              · rcases kept4 a y with q | ⟨e, he, q⟩
                · exact w4.sh a q hz
                · exact s.wd.apart e he a q old
              · obtain ⟨vs, q⟩ := gw.wd.ownL a old
                rw [y] at q; cases q
            · exact notF a ha old
          have al4 : ∀ a ∈ r.as, a ∈ own (ents g.sl) ++ (shr (ents g.sl) ++ ceA g.ce) ∨ H a = none := fun a ha => by
            rcases al a ha with (y | y) | y
            · exact s.st.all a (List.mem_append_left _ (by rw [own_app]; exact List.mem_append_left _ (oA a y)))
            · rcases kept4 a y with q | ⟨e, he, q⟩
              · have := s4.st.all a (List.mem_append_right _ (List.mem_append_left _ (by rw [shr_app]; exact List.mem_append_left _ q)))
                exact this
              · cases hb : e.1 with
                | true => exact s.st.all a (List.mem_append_left _ (by rw [own_app]; exact List.mem_append_right _ (mem_own.mpr ⟨e, he, hb, q⟩)))
                | false => exact s.st.all a (List.mem_append_right _ (List.mem_append_left _ (by rw [shr_app]; exact List.mem_append_right _ (mem_shr.mpr ⟨e, he, hb, q⟩))))
            · exact .inr (s.st.dom a y)
          have fin := s4.drop.st.addShr (x := r) (AV.ok_ext .nil okr) (by simpa using no4) al4
          refine Out.tmp (e := (false, r)) o ⟨?_, s4.vs, s4.gk⟩ rfl rfl
          refine fin.perm ?_
          rw [List.append_nil]
          exact (List.perm_append_singleton _ _).symm
end
end Om

/-! Om9: expressions: what the interpreter says of one holds of the model's, construct by construct. -/
namespace Om
open PySem PySem.Spec PyProof.Rows L2

structure Snd (X : Cx) (W : Str → St → Hp → Prop) (x : Expr) (m : M Ref) : Prop where
  pe : PE X x (SM kRef X.K W m)
  pt : PT X x (SM kB X.K W (m >>= asB))
  pw : ∀ op vs pos, x = .BoolOp op vs pos → PW X x (SM kB X.K W (m >>= asB))
theorem M.bind_pure {α : Type} {m : M α} : (m >>= (Pure.pure : α → M α)) = m := by
  funext g
  show M.bind m M.pure g = m g
  unfold M.bind
  cases m g with
  | none => rfl
  | some x => cases x <;> rfl
section
variable {K : PySem.W.Frag} {W : Str → St → Hp → Prop} {H H' H1 H2 : Hp} {g g' g1 g2 : GA} {rs rs' : List En} {α β γ δ : Type} {k : Kd α γ}
/-- the next of two, from a later state -/
theorem Out.bindL (k1 : Kd β δ) {m : M β} {f : β → M α} {gd : Sg} {Q : γ → Hp → Prop} {P : δ → Hp → Prop} (h : Out k K W H g ((m >>= f) gd) Q) (s : GSt K H g H1 g1 rs)
    (q : ∀ (g2 : GA) (b : k1.β) (H2 : Hp) (v : δ), GSt K H1 g1 H2 g2 (k1.ens b) → k1.val K g2 H2 b v → Out k K W H g (f (k1.er b) g2.d) Q → P v H2) : Out k1 K W H1 g1 (m gd) P := by
  have h' : Out k K W H g (M.bind m f gd) Q := h
  unfold M.bind at h'
  cases e : m gd with
  | none => rw [e] at h'; exact h'
  | some r =>
    cases r with
    | ok a g0 =>
      rw [e] at h'
      intro g' b H' v s' e1 e2 e3
      refine q g' b H' v s' e3 ?_
      rw [e1, e2]; exact h'
    | exc c g0 => rw [e] at h'; exact Out.later (k := k1) (o := some (.exc c g0)) (Q := P) h' s
theorem Out.mono {o : Option (Res α)} {Q Q' : γ → Hp → Prop} (h : Out k K W H g o Q) (q : ∀ v H', Q v H' → Q' v H') : Out k K W H g o Q' := by
  cases o with
  | none => exact h
  | some r =>
    cases r with
    | ok a gd => exact fun g' b H' v s' e1 e2 e3 => q _ _ (h g' b H' v s' e1 e2 e3)
    | exc c gd => exact h
/-- a truth is asked for -/
theorem Out.asB {r : RefA} {v : V} {f : Bool → M α} {Q : γ → Hp → Prop} (h : Out k K W H g ((asB r.r >>= f) g2.d) Q) (w : Wd K H2 (ents g2.sl ++ rs) g2.ce) (gw : GW K H2 g2) (hr : ∀ e ∈ r.ens, e ∈ rs) (hv : r.is g2 v) :
    ∃ c, v = .bl c ∧ Out k K W H g (f c g2.d) Q := by
  have h' : Out k K W H g (((Om.look r.r) >>= fun d => ((match d with
    | .bl b => (pure b : M Bool)
    | _ => M.fail) >>= f)) g2.d) Q := by
    have e : (Om.asB r.r >>= f) = ((Om.look r.r) >>= fun d => ((match d with
      | .bl b => (pure b : M Bool)
      | _ => M.fail) >>= f)) := by unfold Om.asB; rw [M.assoc]; try rfl
    rw [e] at h; exact h
  obtain ⟨d, hd, o⟩ := h'.look w gw hr hv
  cases d with
  | bl b => exact ⟨b, hd.bl, o⟩
  | _ => exact o.elim
theorem Out.asI {r : RefA} {v : V} {f : Int → M α} {Q : γ → Hp → Prop} (h : Out k K W H g ((asI r.r >>= f) g2.d) Q) (w : Wd K H2 (ents g2.sl ++ rs) g2.ce) (gw : GW K H2 g2) (hr : ∀ e ∈ r.ens, e ∈ rs) (hv : r.is g2 v) :
    ∃ c, v = .int c ∧ Out k K W H g (f c g2.d) Q := by
  have h' : Out k K W H g (((Om.look r.r) >>= fun d => ((match d with
    | .int b => (pure b : M Int)
    | _ => M.fail) >>= f)) g2.d) Q := by
    have e : (Om.asI r.r >>= f) = ((Om.look r.r) >>= fun d => ((match d with
      | .int b => (pure b : M Int)
      | _ => M.fail) >>= f)) := by unfold Om.asI; rw [M.assoc]; try rfl
    rw [e] at h; exact h
  obtain ⟨d, hd, o⟩ := h'.look w gw hr hv
  cases d with
  | int b => exact ⟨b, hd.int, o⟩
  | _ => exact o.elim
end
section
variable {X : Cx} {W : Str → St → Hp → Prop} {x : Expr} {m : M Ref}
/-- from a reading of the model's expression, as a value and as a test -/
theorem Snd.of {t : TE} (pe : PE X x t) (pt : PT X x (tB t)) (nb : ∀ op vs pos, x ≠ .BoolOp op vs pos) (wk : ∀ σ H Q, SM kRef X.K W m σ H Q → t σ H Q) : Snd X W x m where
  pe := PE.weak pe wk
  pt := PT.weak pt fun σ H Q ⟨g, hv, w, o⟩ => wk σ H _ ⟨g, hv, w, o.bind kRef fun g1 b H1 v s e o1 => by
    have o1' : Out kB X.K W H g ((asB (RefA.r b) >>= (Pure.pure : Bool → M Bool)) g1.d) Q := by
      have e := M.bind_pure (m := Om.asB (RefA.r b))
      rw [e]; exact o1
    obtain ⟨c, rfl, o2⟩ := o1'.asB s.wd (s.gw w) (fun e he => he) e
    exact ⟨c, rfl, o2 g1 c H1 c s.drop rfl rfl rfl⟩⟩
  pw := fun op vs pos e => absurd e (nb op vs pos)
theorem Snd.val {t : TE} (pe : PE X x t) (he : ∀ whole, isTrue x X.env whole = (do let v ← whole; standAt x.pos; holding [v] (truthy v))) (nb : ∀ op vs pos, x ≠ .BoolOp op vs pos) (wk : ∀ σ H Q, SM kRef X.K W m σ H Q → t σ H Q) : Snd X W x m :=
  Snd.of pe (pt_val pe he) nb wk

/-! ### constants and names -/
theorem sm_flat {d : D} (hd : d.flat = true) : ∀ σ H Q, SM kRef X.K W (pure (.tmp true d)) σ H Q → tC d.fv σ H Q := fun σ H Q ⟨g, _, w, o⟩ => by
  have o' : Out kRef X.K W H g (some (.ok (.tmp true d) g.d)) Q := o
  exact o'.flat (.refl w) hd
theorem readVar_ok {k : Nat} {σ : St} {H : Hp} {Q : VK} (h : SM kRef X.K W (readVar k) σ H Q) : tVar k σ H Q := by
  obtain ⟨g, rfl, w, o⟩ := h
  unfold readVar at o
  cases q : g.sl[k]? with
  | none =>
    have : g.d.sl[k]? = none := by rw [GA.slD, q]; rfl
    rw [this] at o; exact o.elim
  | some z =>
    cases z with
    | none =>
      have : g.d.sl[k]? = some none := by rw [GA.slD, q]; rfl
      rw [this] at o; exact o.elim
    | some e =>
      obtain ⟨m, av⟩ := e
      rw [GA.slot_d q] at o
      refine ⟨av.v, GA.slot_v q, ?_⟩
      by_cases hc : (av.d.noL || decide (m = .sh)) = true
      · have o' : Out kRef X.K W H g (some (.ok (.tmp false av.d) g.d)) Q := by
          have e : (if (av.d.noL || decide (m = .sh)) = true then Ref.tmp false av.d else .slot k) = .tmp false av.d := if_pos hc
          simp only [e] at o; exact o
        refine Out.tmp (e := (false, av)) o' ?_ rfl rfl
        rw [Bool.or_eq_true, decide_eq_true_eq] at hc
        rcases hc with hc | hc
        · exact (GSt.refl w).flat (e := (false, av)) (AV.as_noL av hc) (w.slot q)
        · subst hc
          exact (GSt.refl w).part q (w.slot q) fun _ h => h
      · have o' : Out kRef X.K W H g (some (.ok (.slot k) g.d)) Q := by
          have e : (if (av.d.noL || decide (m = .sh)) = true then Ref.tmp false av.d else .slot k) = .slot k := if_neg hc
          simp only [e] at o; exact o
        exact o' g (.slot k) H av.v (.refl w) rfl rfl (GA.slot_v q)
end

/-! ### two operands -/
section
variable {X : Cx} {W : Str → St → Hp → Prop} {x a b : Expr} {ma mb : M Ref}
theorem sm_bin {r : R2} {k : Ref → Ref → M Ref} {σ : St} {H : Hp} {Q : VK} (h : SM kRef X.K W (ma >>= fun z => (stab z >>= fun r1 => (mb >>= fun r2 => k r1 r2))) σ H Q)
    (hk : ∀ (g : GA) (H : Hp) (g2 : GA) (H2 : Hp) (r1 : RefB) (r2 : RefA) (v1 v2 : V) (Q : VK), GW X.K H g → GSt X.K H g H2 g2 (r1.ens ++ r2.ens) → r1.is g2 v1 → r2.is g2 v2 → Out kRef X.K W H g (k r1.r r2.r g2.d) Q → r v1 v2 H2 Q) :
    tOp r (SM kS X.K W (ma >>= stab)) (SM kRef X.K W mb) σ H Q := by
  obtain ⟨g, rfl, w, o⟩ := h
  have o' : Out kRef X.K W H g (((ma >>= stab) >>= fun r1 => (mb >>= fun r2 => k r1 r2)) g.d) Q := by rw [M.assoc]; exact o
  refine ⟨g, rfl, w, o'.bind kS fun g1 b1 H1 v1 s1 e1 o1 => ?_⟩
  refine ⟨g1, s1.vs, s1.gw w, o1.bindL kRef s1 fun g2 b2 H2 v2 s2 e2 o2 => ?_⟩
  exact hk g H g2 H2 b1 b2 v1 v2 Q w (s1.app s2) (RefB.is_vs e1 s2.vs) e2 o2
theorem inl_ens {r1 : RefB} {r2 : RefA} : ∀ e ∈ r1.a.ens, e ∈ r1.ens ++ r2.ens := fun e he => List.mem_append_left _ (by rw [← RefB.aens]; exact he)
theorem inr_ens {r1 : RefB} {r2 : RefA} : ∀ e ∈ r2.ens, e ∈ r1.ens ++ r2.ens := fun e he => List.mem_append_right _ he
theorem snd_bop {op : Bop} {pos : Pos} (ha : Snd X W a ma) (hb : Snd X W b mb) : Snd X W (.BinOp a (opM op) b pos) (do
    let r1 ← stab (← ma)
    let r2 ← mb
    let x ← peek r1
    let y ← peek r2
    let d ← M.of (bopD op x y)
    pure (.tmp true d)) := by
  refine Snd.val (pe_op (op_bop op) (se_stab ha.pe) hb.pe) (fun _ => rfl) (fun _ _ _ h => nomatch h) fun σ H Q h => ?_
  refine sm_bin h fun g H g2 H2 r1 r2 v1 v2 Q w s e1 e2 o => ?_
  rw [← RefB.ar] at o
  obtain ⟨d1, h1, o⟩ := Out.peek o s.wd (s.gw w) inl_ens (RefB.ais e1)
  obtain ⟨d2, h2, o⟩ := Out.peek o s.wd (s.gw w) inr_ens e2
  obtain ⟨d, e, o⟩ := o.of
  exact ⟨g2.ce, d1, d2, d, h1, h2, e, Out.newR o s⟩
theorem simM_ok {e : E} {gd : Sg} : ∀ r, simM e gd = some r → ∃ b, r = .ok b gd := fun x hx => by
  unfold simM at hx
  split at hx
  · cases hx; exact ⟨_, rfl⟩
  · cases hx
/-- a simple expression: its reading changes nothing -/
structure Smp (X : Cx) (x : Expr) (e : E) : Prop where
  rd : ∃ t : TE, PE X x t ∧ ∀ (g : GA) (H : Hp) (d : D) (Q : VK), GW X.K H g → simD e g.d = some d → (∀ v, Has X.K H g.ce v d → Q v H) → t g.vs H Q
theorem snd_cmpS {op : Cop} {pos : Pos} {e : E} (hu : X.A.units + 65 < cLine) (ha : Snd X W a ma) (hb : Smp X b e) (hm : behindInMarks (copM op) b = false) : Snd X W (.Compare a [copM op] [b] pos) (do
    let x ← peekD (← ma)
    let y ← deep (← simM e)
    let d ← M.of (cmpD op x y)
    pure (.tmp true (.bl d))) := by
  obtain ⟨t, pb, hb⟩ := hb.rd
  refine Snd.of (pe_cmpR (op_cop op hu) ha.pe pb hm) (pt_cmpR (op_cop op hu) ha.pe pb hm) (fun _ _ _ h => nomatch h) fun σ H Q ⟨g, hv, w, o⟩ => ?_
  subst hv
  refine ⟨g, rfl, w, o.bind kRef fun g1 b1 H1 v1 s1 e1 o1 => ?_⟩
  have gw1 := s1.gw w
  obtain ⟨d1, h1, o1⟩ := Out.peekD o1 s1.wd gw1 (fun e he => he) e1
  obtain ⟨d2, ed, o1⟩ := o1.reads simM_ok
  obtain ⟨d3, ed3, o2⟩ := o1.reads (fun r hr => by cases hr; exact ⟨_, rfl⟩)
  have e3 : d2.dc g1.d.ce = d3 := by cases ed3; rfl
  have es : simD e g1.d = some d2 := by
    unfold simM at ed
    split at ed
    · rename_i d q; cases ed; exact q
    · cases ed
  obtain ⟨c, ec, o3⟩ := o2.of
  rw [← s1.vs]
  refine hb g1 H1 d2 _ gw1 es fun v hv => ?_
  obtain ⟨av, ev, edd, ok⟩ := hv
  obtain ⟨bv, b1', b2', b3'⟩ := Has.dc (g := g1) s1.wd av ok
  refine ⟨g1.ce, d1, d3, c, h1, ⟨bv, b1'.trans ev, by rw [b2', edd, e3], b3'⟩, ec, ?_⟩
  exact Out.flat (d := .bl c) o3 s1 rfl
theorem snd_cmp {op : Cop} {pos : Pos} (hu : X.A.units + 65 < cLine) (ha : Snd X W a ma) (hb : Snd X W b mb) (hm : behindInMarks (copM op) b = false) : Snd X W (.Compare a [copM op] [b] pos) (do
    let r1 ← stab (← ma)
    let r2 ← mb
    let x ← peekD r1
    let y ← peekD r2
    let d ← M.of (cmpD op x y)
    pure (.tmp true (.bl d))) := by
  refine Snd.of (pe_cmpR (op_cop op hu) (se_stab ha.pe) hb.pe hm) (pt_cmpR (op_cop op hu) (se_stab ha.pe) hb.pe hm) (fun _ _ _ h => nomatch h) fun σ H Q h => ?_
  refine sm_bin h fun g H g2 H2 r1 r2 v1 v2 Q w s e1 e2 o => ?_
  rw [← RefB.ar] at o
  obtain ⟨d1, h1, o⟩ := Out.peekD o s.wd (s.gw w) inl_ens (RefB.ais e1)
  obtain ⟨d2, h2, o⟩ := Out.peekD o s.wd (s.gw w) inr_ens e2
  obtain ⟨c, e, o⟩ := o.of
  exact ⟨g2.ce, d1, d2, c, h1, h2, e, Out.flat (d := .bl c) o s rfl⟩
/-! ### one operand -/
theorem snd_neg {pos : Pos} (ha : Snd X W a ma) : Snd X W (.UnaryOp .USub a pos) (do
    let i ← asI (← ma)
    pure (.tmp true (.int (-i)))) := by
  refine Snd.val (pe_un un_neg ha.pe) (fun _ => rfl) (fun _ _ _ h => nomatch h) fun σ H Q ⟨g, hv, w, o⟩ => ?_
  subst hv
  refine ⟨g, rfl, w, o.bind kRef fun g1 b1 H1 v1 s1 e1 o1 => ?_⟩
  obtain ⟨i, rfl, o1⟩ := Out.asI o1 s1.wd (s1.gw w) (fun e he => he) e1
  exact ⟨i, rfl, Out.flat (d := .int (-i)) o1 s1 rfl⟩
theorem snd_not {pos : Pos} (ha : Snd X W a ma) : Snd X W (.UnaryOp .Not a pos) (do
    let b ← asB (← ma)
    pure (.tmp true (.bl (!b)))) where
  pe := PE.weak (pe_not ha.pe) fun σ H Q ⟨g, hv, w, o⟩ => by
    subst hv
    refine ⟨g, rfl, w, o.bind kRef fun g1 b1 H1 v1 s1 e1 o1 => ?_⟩
    obtain ⟨c, rfl, o1⟩ := Out.asB o1 s1.wd (s1.gw w) (fun e he => he) e1
    exact ⟨c, rfl, Out.flat (d := .bl (!c)) o1 s1 rfl⟩
  pt := PT.weak (pt_not ha.pt) fun σ H Q ⟨g, hv, w, o⟩ => by
    subst hv
    have o' : Out kB X.K W H g (((ma >>= asB) >>= fun b => (pure (!b) : M Bool)) g.d) Q := by
      have e : ((do
        let b ← asB (← ma)
        pure (.tmp true (.bl (!b))) : M Ref) >>= asB) = ((ma >>= asB) >>= fun b => (pure (!b) : M Bool)) := by
        rw [M.assoc, M.assoc]
        congr 1
        funext r
        rw [M.assoc]
        rfl
      rw [e] at o; exact o
    refine ⟨g, rfl, w, o'.bind kB fun g1 b1 H1 v1 s1 e1 o1 => ?_⟩
    have e1 : v1 = b1 := e1
    subst e1
    exact o1 g1 (!v1) H1 (!v1) s1 rfl rfl rfl
  pw := fun _ _ _ h => nomatch h
end
end Om

/-! Om10: more expressions. -/
namespace Om
open PySem PySem.Spec PyProof.Rows L2

section
variable {X : Cx} {W : Str → St → Hp → Prop} {x a b c u v : Expr} {ma mb mc : M Ref} {us : List Expr} {pos : Pos}
/-! ### and, or -/
structure Tl (X : Cx) (W : Str → St → Hp → Prop) (op : BoolOp) (rest : List Expr) (pos : Pos) (m : M Ref) : Prop where
  pe : PE X (.BoolOp op rest pos) (SM kRef X.K W m)
  pw : PW X (.BoolOp op rest pos) (SM kB X.K W (m >>= asB))
theorem Tl.and1 (h : Snd X W v mb) : Tl X W .And [v] pos mb := ⟨pe_one h.pe, pw_and1 h.pt⟩
theorem Tl.or1 (h : Snd X W v mb) : Tl X W .Or [v] pos mb := ⟨pe_one h.pe, pw_or1 h.pt⟩
theorem Tl.more {op : BoolOp} {rest : List Expr} (h : Snd X W (.BoolOp op rest pos) mb) : Tl X W op rest pos mb := ⟨h.pe, h.pw _ _ _ rfl⟩
def mAnd (ma mb : M Ref) : M Ref := do
  let c ← asB (← ma)
  if c then mb else pure (.tmp true (.bl false))
def mOr (ma mb : M Ref) : M Ref := do
  let c ← asB (← ma)
  if c then pure (.tmp true (.bl true)) else mb
theorem snd_and (ha : Snd X W u ma) (hb : Tl X W .And (v :: us) pos mb) : Snd X W (.BoolOp .And (u :: v :: us) pos) (mAnd ma mb) := by
  have pw : PW X (.BoolOp .And (u :: v :: us) pos) (SM kB X.K W (mAnd ma mb >>= asB)) := by
    refine ⟨fun wh pins s σ H Q I q => (pw_and ha.pt hb.pw).run wh pins s σ H Q I ?_⟩
    obtain ⟨g, hv, w, o⟩ := q
    subst hv
    have e : (mAnd ma mb >>= asB) = ((ma >>= asB) >>= fun c => ((if c then mb else pure (.tmp true (.bl false))) >>= asB)) := by
      unfold mAnd; rw [M.assoc, M.assoc]; congr 1; funext r; rw [M.assoc]
    rw [e] at o
    refine ⟨g, rfl, w, o.bind kB fun g1 b1 H1 v1 s1 e1 o1 => ?_⟩
    have e1 : v1 = b1 := e1
    subst e1
    cases v1 with
    | true => exact iteT ⟨g1, s1.vs, s1.gw w, Out.later o1 s1⟩
    | false => exact iteF (o1 g1 false H1 false s1 rfl rfl rfl)
  refine ⟨PE.weak (pe_and ha.pe hb.pe) fun σ H Q ⟨g, hv, w, o⟩ => ?_, pw.pt, fun _ _ _ _ => pw⟩
  subst hv
  refine ⟨g, rfl, w, o.bind kRef fun g1 b1 H1 v1 s1 e1 o1 => ?_⟩
  obtain ⟨c, rfl, o1⟩ := Out.asB o1 s1.wd (s1.gw w) (fun e he => he) e1
  refine ⟨c, rfl, ?_⟩
  cases c with
  | true => exact iteT ⟨g1, s1.vs, s1.gw w, Out.later o1 s1⟩
  | false => exact iteF (Out.flat (d := .bl false) o1 s1 rfl)
theorem snd_or (ha : Snd X W u ma) (hb : Tl X W .Or (v :: us) pos mb) : Snd X W (.BoolOp .Or (u :: v :: us) pos) (mOr ma mb) := by
  have pw : PW X (.BoolOp .Or (u :: v :: us) pos) (SM kB X.K W (mOr ma mb >>= asB)) := by
    refine ⟨fun wh pins s σ H Q I q => (pw_or ha.pt hb.pw).run wh pins s σ H Q I ?_⟩
    obtain ⟨g, hv, w, o⟩ := q
    subst hv
    have e : (mOr ma mb >>= asB) = ((ma >>= asB) >>= fun c => ((if c then pure (.tmp true (.bl true)) else mb) >>= asB)) := by
      unfold mOr; rw [M.assoc, M.assoc]; congr 1; funext r; rw [M.assoc]
    rw [e] at o
    refine ⟨g, rfl, w, o.bind kB fun g1 b1 H1 v1 s1 e1 o1 => ?_⟩
    have e1 : v1 = b1 := e1
    subst e1
    cases v1 with
    | false => exact iteF ⟨g1, s1.vs, s1.gw w, Out.later o1 s1⟩
    | true => exact iteT (o1 g1 true H1 true s1 rfl rfl rfl)
  refine ⟨PE.weak (pe_or ha.pe hb.pe) fun σ H Q ⟨g, hv, w, o⟩ => ?_, pw.pt, fun _ _ _ _ => pw⟩
  subst hv
  refine ⟨g, rfl, w, o.bind kRef fun g1 b1 H1 v1 s1 e1 o1 => ?_⟩
  obtain ⟨c, rfl, o1⟩ := Out.asB o1 s1.wd (s1.gw w) (fun e he => he) e1
  refine ⟨c, rfl, ?_⟩
  cases c with
  | false => exact iteF ⟨g1, s1.vs, s1.gw w, Out.later o1 s1⟩
  | true => exact iteT (Out.flat (d := .bl true) o1 s1 rfl)
/-! ### chains, is -/
theorem Has.ofInt {K : PySem.W.Frag} {H : Hp} {C : Ce} (i : Int) : Has K H C (.int i) (.int i) := ⟨.int i, rfl, rfl, trivial⟩
theorem snd_chain {o1 o2 : Cop} (hu : X.A.units + 65 < cLine) (ha : Snd X W a ma) (hb : Snd X W b mb) (hc : Snd X W c mc) (hm : lastMarks [copM o1, copM o2] [b, c] = false) : Snd X W (.Compare a [copM o1, copM o2] [b, c] pos) (do
    let i ← asI (← ma)
    let j ← asI (← mb)
    let d ← M.of (cmpD o1 (.int i) (.int j))
    if d then do
      let k ← asI (← mc)
      let d2 ← M.of (cmpD o2 (.int j) (.int k))
      pure (.tmp true (.bl d2))
    else pure (.tmp true (.bl false))) := by
  refine Snd.of (pe_chain (op_cop o1 hu) (op_cop o2 hu) ha.pe hb.pe hc.pe hm) (pt_chain (op_cop o1 hu) (op_cop o2 hu) ha.pe hb.pe hc.pe hm) (fun _ _ _ h => nomatch h) fun σ H Q ⟨g, hv, w, o⟩ => ?_
  subst hv
  refine ⟨g, rfl, w, o.bind kRef fun g1 b1 H1 v1 s1 e1 q1 => ?_⟩
  obtain ⟨i, rfl, q1⟩ := Out.asI q1 s1.wd (s1.gw w) (fun e he => he) e1
  refine ⟨g1, s1.vs, s1.gw w, q1.bindL kRef s1 fun g2 b2 H2 v2 s2 e2 q2 => ?_⟩
  have s12 := s1.trans s2
  obtain ⟨j, rfl, q2⟩ := Out.asI q2 s12.wd (s12.gw w) (fun e he => he) e2
  obtain ⟨d, ed, q2⟩ := q2.of
  refine ⟨g2.ce, _, _, d, .ofInt i, .ofInt j, ed, d, rfl, ?_⟩
  cases d with
  | false => exact iteF (Out.flat (d := .bl false) q2 s12 rfl)
  | true =>
    refine iteT ?_
    refine ⟨g2, s12.vs, s12.gw w, Out.bindL kRef q2 s12 fun g3 b3 H3 v3 s3 e3 q3 => ?_⟩
    have s13 := s12.trans s3
    obtain ⟨k, rfl, q3⟩ := Out.asI q3 s13.wd (s13.gw w) (fun e he => he) e3
    obtain ⟨d2, ed2, q3⟩ := q3.of
    exact ⟨g3.ce, _, _, d2, .ofInt j, .ofInt k, ed2, Out.flat (d := .bl d2) q3 s13 rfl⟩
theorem has_non {K : PySem.W.Frag} {H : Hp} {C : Ce} {v : V} {d : D} (h : Has K H C v d) (pos : Bool) : d.isN pos = if pos then decide (v = .non) else !decide (v = .non) := by
  obtain ⟨av, rfl, rfl, _⟩ := h
  cases av <;> cases pos <;> rfl
theorem snd_isN {p : Bool} {j : Nat} {pos' : Pos} (ha : Snd X W a ma) : Snd X W (.Compare a [if p then .Is else .IsNot] [.Constant .none j pos'] pos) (do
    let d ← look (← ma)
    pure (.tmp true (.bl (d.isN p)))) := by
  have go : ∀ σ H Q, SM kRef X.K W (do
    let d ← look (← ma)
    pure (.tmp true (.bl (d.isN p)))) σ H Q → SM kRef X.K W ma σ H fun v H1 => Q (.bl (if p then decide (v = .non) else !decide (v = .non))) H1 := fun σ H Q ⟨g, hv, w, o⟩ => by
    subst hv
    refine ⟨g, rfl, w, o.bind kRef fun g1 b1 H1 v1 s1 e1 q1 => ?_⟩
    obtain ⟨d, hd, q1⟩ := Out.look q1 s1.wd (s1.gw w) (fun e he => he) e1
    rw [has_non hd] at q1
    exact Out.flat (d := .bl _) q1 s1 rfl
  cases p with
  | true =>
    refine Snd.of (pe_cmpR op_isN ha.pe pe_non (nomark _)) (pt_cmpR op_isN ha.pe pe_non (nomark _)) (fun _ _ _ h => nomatch h) fun σ H Q h => ?_
    obtain ⟨g, hv, w, o⟩ := go σ H Q h
    refine ⟨g, hv, w, o.mono fun v H1 q => ?_⟩
    exact ⟨rfl, q⟩
  | false =>
    refine Snd.of (pe_cmpR op_notN ha.pe pe_non (nomark _)) (pt_cmpR op_notN ha.pe pe_non (nomark _)) (fun _ _ _ h => nomatch h) fun σ H Q h => ?_
    obtain ⟨g, hv, w, o⟩ := go σ H Q h
    refine ⟨g, hv, w, o.mono fun v H1 q => ?_⟩
    exact ⟨rfl, q⟩
theorem snd_isB {p b0 : Bool} {j : Nat} {pos' : Pos} (ha : Snd X W a ma) : Snd X W (.Compare a [if p then .Is else .IsNot] [.Constant (.bool b0) j pos'] pos) (do
    let c ← asB (← ma)
    pure (.tmp true (.bl (if p then decide (c = b0) else !decide (c = b0))))) := by
  have go : ∀ σ H Q, SM kRef X.K W (do
    let c ← asB (← ma)
    pure (.tmp true (.bl (if p then decide (c = b0) else !decide (c = b0))))) σ H Q → SM kRef X.K W ma σ H fun v H1 => ∃ c, v = .bl c ∧ Q (.bl (if p then decide (c = b0) else !decide (c = b0))) H1 := fun σ H Q ⟨g, hv, w, o⟩ => by
    subst hv
    refine ⟨g, rfl, w, o.bind kRef fun g1 b1 H1 v1 s1 e1 q1 => ?_⟩
    obtain ⟨c, rfl, q1⟩ := Out.asB q1 s1.wd (s1.gw w) (fun e he => he) e1
    exact ⟨c, rfl, Out.flat (d := .bl _) q1 s1 rfl⟩
  cases p with
  | true =>
    refine Snd.of (pe_cmpR op_is_bl ha.pe pe_bl (nomark _)) (pt_cmpR op_is_bl ha.pe pe_bl (nomark _)) (fun _ _ _ h => nomatch h) fun σ H Q h => ?_
    obtain ⟨g, hv, w, o⟩ := go σ H Q h
    refine ⟨g, hv, w, o.mono fun v H1 q => ?_⟩
    obtain ⟨c, rfl, q⟩ := q
    exact ⟨c, b0, rfl, rfl, q⟩
  | false =>
    refine Snd.of (pe_cmpR op_isnot_bl ha.pe pe_bl (nomark _)) (pt_cmpR op_isnot_bl ha.pe pe_bl (nomark _)) (fun _ _ _ h => nomatch h) fun σ H Q h => ?_
    obtain ⟨g, hv, w, o⟩ := go σ H Q h
    refine ⟨g, hv, w, o.mono fun v H1 q => ?_⟩
    obtain ⟨c, rfl, q⟩ := q
    exact ⟨c, b0, rfl, rfl, q⟩
end

/-! ### arguments -/
section
variable {K : PySem.W.Frag} {W : Str → St → Hp → Prop} {H H' H1 H2 : Hp} {g g' g1 g2 : GA} {rs rs' acc : List En} {α β γ δ : Type} {k : Kd α γ}
theorem ensL_cons (r : RefB) (rs : List RefB) : ensL (r :: rs) = r.ens ++ ensL rs := rfl
theorem Out.peekL : ∀ {rs : List RefB} {vs : List V} {f : List D → M α} {Q : γ → Hp → Prop}, Out k K W H g ((peekL (rs.map RefB.r) >>= f) g2.d) Q → Wd K H2 (ents g2.sl ++ rs') g2.ce → GW K H2 g2 → (∀ e ∈ ensL rs, e ∈ rs') → isL g2 rs vs →
    ∃ ds, HasL K H2 g2.ce vs ds ∧ Out k K W H g (f ds g2.d) Q
  | [], vs, f, Q, o, _, _, _, hv => by
    have hv : vs = [] := hv
    subst hv
    exact ⟨[], rfl, o⟩
  | r :: rs, vs, f, Q, o, w, gw, hr, ⟨v, vs', e, h1, h2⟩ => by
    subst e
    have o' : Out k K W H g (((Om.peek r.r) >>= fun d => (Om.peekL (rs.map RefB.r) >>= fun ds => f (d :: ds))) g2.d) Q := by
      have e : (Om.peekL ((r :: rs).map RefB.r) >>= f) = ((Om.peek r.r) >>= fun d => (Om.peekL (rs.map RefB.r) >>= fun ds => f (d :: ds))) := by
        show (((Om.peek r.r) >>= fun d => (Om.peekL (rs.map RefB.r) >>= fun ds => (pure (d :: ds) : M (List D)))) >>= f) = _
        rw [M.assoc]; congr 1; funext d; rw [M.assoc]; rfl
      rw [e] at o; exact o
    rw [← RefB.ar] at o'
    obtain ⟨d, hd, o1⟩ := Out.peek o' w gw (fun e he => hr e (by rw [ensL_cons]; exact List.mem_append_left _ (by rw [← RefB.aens]; exact he))) (RefB.ais h1)
    obtain ⟨ds, hds, o2⟩ := Out.peekL o1 w gw (fun e he => hr e (by rw [ensL_cons]; exact List.mem_append_right _ he)) h2
    exact ⟨d :: ds, ⟨d, ds, rfl, hd, hds⟩, o2⟩
theorem Out.forceL : ∀ {rs : List RefB} {vs : List V} {g1 : GA} {acc : List En} {f : List (Bool × D) → M α} {Q : γ → Hp → Prop}, Out k K W H g ((forceL (rs.map RefB.r) >>= f) g1.d) Q → GW K H g → GSt K H g H1 g1 (acc ++ ensL rs) → isL g1 rs vs →
    ∃ (g2 : GA) (es : List En), GSt K H g H1 g2 (acc ++ es) ∧ es.map (fun e => e.2.v) = vs ∧ g2.vs = g1.vs ∧ Out k K W H g (f (es.map fun e => (e.1, e.2.d)) g2.d) Q
  | [], vs, g1, acc, f, Q, o, w, s, hv => by
    have hv : vs = [] := hv
    subst hv
    exact ⟨g1, [], s, rfl, rfl, o⟩
  | r :: rs, vs, g1, acc, f, Q, o, w, s, ⟨v, vs', e, h1, h2⟩ => by
    subst e
    have o' : Out k K W H g (((Om.force r.r) >>= fun d => (Om.forceL (rs.map RefB.r) >>= fun ds => f (d :: ds))) g1.d) Q := by
      have e : (Om.forceL ((r :: rs).map RefB.r) >>= f) = ((Om.force r.r) >>= fun d => (Om.forceL (rs.map RefB.r) >>= fun ds => f (d :: ds))) := by
        show (((Om.force r.r) >>= fun d => (Om.forceL (rs.map RefB.r) >>= fun ds => (pure (d :: ds) : M (List (Bool × D))))) >>= f) = _
        rw [M.assoc]; congr 1; funext d; rw [M.assoc]; rfl
      rw [e] at o; exact o
    have p0 : (acc ++ ensL (r :: rs)).Perm (r.ens ++ (acc ++ ensL rs)) := by rw [ensL_cons]; exact List.perm_append_comm_assoc _ _ _
    obtain ⟨g2, en, Y, s2, pY, ev, evs, o1⟩ := Out.force o' w s ⟨_, p0⟩ h1
    have pY' : Y.Perm (acc ++ ensL rs) := (List.perm_append_left_iff _).mp (pY.symm.trans p0)
    have s3 : GSt K H g H1 g2 ((acc ++ [en]) ++ ensL rs) := s2.sub ⟨[], by
      rw [List.append_nil]
      refine (pY'.append_left _).trans ?_
      rw [List.append_assoc]
      exact List.perm_append_comm_assoc _ _ _⟩
    obtain ⟨g3, es, s4, e4, v4, o2⟩ := Out.forceL (f := fun ds => f ((en.1, en.2.d) :: ds)) o1 w s3 (isL_vs h2 evs)
    refine ⟨g3, en :: es, ?_, by rw [List.map_cons, ev, e4], v4.trans evs, o2⟩
    rw [List.append_assoc] at s4
    exact s4
end
section
variable {X : Cx} {W : Str → St → Hp → Prop} {x a b c u v : Expr} {ma mb mc : M Ref} {es : List Expr} {mA : M (List Ref)} {pos : Pos}
theorem pa_nilS : PA X [] (SM kL X.K W (pure [])) := PA.weak pa_nil fun σ H Q ⟨g, _, w, o⟩ => by
  have o' : Out kL X.K W H g (some (.ok [] g.d)) Q := o
  exact o' g [] H [] (.refl w) rfl rfl rfl
theorem pa_consS (ha : Snd X W a ma) (hr : PA X es (SM kL X.K W mA)) (hs : starEach (a :: es) X.env = (false, eval a X.env) :: starEach es X.env) : PA X (a :: es) (SM kL X.K W (do
    let r ← stab (← ma)
    let rs ← mA
    pure (r :: rs))) := PA.weak (pa_cons (se_stab ha.pe) hr hs) fun σ H Q ⟨g, hv, w, o⟩ => by
  subst hv
  have o' : Out kL X.K W H g (((ma >>= stab) >>= fun r1 => (mA >>= fun r2 => (pure (r1 :: r2) : M (List Ref)))) g.d) Q := by rw [M.assoc]; exact o
  refine ⟨g, rfl, w, o'.bind kS fun g1 b1 H1 v1 s1 e1 o1 => ?_⟩
  refine ⟨g1, s1.vs, s1.gw w, o1.bindL kL s1 fun g2 b2 H2 v2 s2 e2 o2 => ?_⟩
  have o3 : Out kL X.K W H g (some (.ok (b1.r :: b2.map RefB.r) g2.d)) Q := o2
  exact o3 g2 (b1 :: b2) H2 (v1 :: v2) (s1.app s2) rfl rfl ⟨v1, v2, rfl, RefB.is_vs e1 s2.vs, e2⟩

/-! ### displays -/
theorem fits_map {es : List En} (h : fits (es.map fun e => ((e.1, e.2.d) : Bool × D)).length = true) : (es.map fun e => e.2.v).length ≤ sizeLine := by
  have := fits_le h
  rw [List.length_map] at this ⊢
  exact this
theorem all_fresh (es : List En) : (es.map fun e => ((e.1, e.2.d) : Bool × D)).all fresh = es.all fresh1 := by rw [List.all_map]; rfl
theorem snd_tup {kk : Nat} (h : PA X es (SM kL X.K W mA)) : Snd X W (.Tuple es kk pos) (do
    let es ← forceL (← mA)
    if fits es.length then pure (.tmp (es.all fresh) (.tup (es.map (·.2)))) else M.fail) := by
  refine Snd.val (pe_tup h) (fun _ => rfl) (fun _ _ _ h => nomatch h) fun σ H Q ⟨g, hv, w, o⟩ => ?_
  subst hv
  refine ⟨g, rfl, w, o.bind kL fun g1 b1 H1 v1 s1 e1 o1 => ?_⟩
  obtain ⟨g2, en, s2, e2, v2, o2⟩ := Out.forceL (acc := []) o1 w s1 e1
  by_cases hf : fits (en.map fun e => ((e.1, e.2.d) : Bool × D)).length = true
  case neg => rw [if_neg hf] at o2; exact o2.elim
  rw [if_pos hf] at o2
  refine ⟨by rw [← e2]; exact fits_map hf, fun p hp => ?_⟩
  have s3 : GSt X.K H g _ g2 _ := GSt.tup (show GSt X.K H g H1 g2 en from s2) hp
  rw [← e2]
  refine Out.tmp (e := (en.all fresh1, .tup p (en.map (·.2)))) o2 s3 (all_fresh en).symm ?_
  rw [AV.d, AV.dL_eq, List.map_map, List.map_map]; rfl
theorem snd_lst (h : PA X es (SM kL X.K W mA)) : Snd X W (.List es pos) (do
    let es ← forceL (← mA)
    if fits es.length then pure (.tmp (es.all fresh) (.lst (es.map (·.2)))) else M.fail) := by
  refine Snd.val (pe_lst h) (fun _ => rfl) (fun _ _ _ h => nomatch h) fun σ H Q ⟨g, hv, w, o⟩ => ?_
  subst hv
  refine ⟨g, rfl, w, o.bind kL fun g1 b1 H1 v1 s1 e1 o1 => ?_⟩
  obtain ⟨g2, en, s2, e2, v2, o2⟩ := Out.forceL (acc := []) o1 w s1 e1
  by_cases hf : fits (en.map fun e => ((e.1, e.2.d) : Bool × D)).length = true
  case neg => rw [if_neg hf] at o2; exact o2.elim
  rw [if_pos hf] at o2
  refine ⟨by rw [← e2]; exact fits_map hf, fun p hp => ?_⟩
  have s3 : GSt X.K H g _ g2 _ := GSt.lst (show GSt X.K H g H1 g2 en from s2) hp
  rw [← e2]
  refine Out.tmp (e := (en.all fresh1, .lst p (en.map (·.2)))) o2 s3 (all_fresh en).symm ?_
  rw [AV.d, AV.dL_eq, List.map_map, List.map_map]; rfl
end
end Om

/-! Om11: places, slices, calls, names. -/
namespace Om
open PySem PySem.Spec PyProof.Rows L2

/-! ### the shape of the model's tree -/
def nst : Expr → Bool
  | .Starred _ _ => false
  | _ => true
def nstL : List Expr → Bool
  | [] => true
  | e :: es => nst e && nstL es
def nslc : Expr → Bool
  | .Slice _ _ _ _ => false
  | _ => true
def nbase : Expr → Bool
  | .Call _ [] [] _ => false
  | _ => true
def nset : Expr → Bool
  | .Set _ _ _ => false
  | _ => true
theorem star_of {e : Expr} {es : List Expr} {env : Env} (h : nst e = true) : starEach (e :: es) env = (false, eval e env) :: starEach es env := by
  cases e <;> first | rfl | cases h
theorem star_any {pos : Pos} {env : Env} : ∀ {es : List Expr}, nstL es = true → (backTo pos (starEach es env)).any (·.1) = false
  | [], _ => rfl
  | e :: es, h => by
    rw [nstL, Bool.and_eq_true] at h
    rw [star_of h.1]
    exact star_any h.2
theorem star_all {pos : Pos} {env : Env} : ∀ {es : List Expr}, nstL es = true → (backTo pos (starEach es env)).all (fun x => !x.1) = true
  | [], _ => rfl
  | e :: es, h => by
    rw [nstL, Bool.and_eq_true] at h
    rw [star_of h.1]
    exact star_all h.2
theorem plain_ix {b : Expr} (h : nslc b = true) : PlainIx b := fun o i => by
  cases b <;> first | rfl | cases h
theorem base_of {o : Expr} {f : Str} {env : Env} (h : nbase o = true) : attributeBase o f env (eval o env) = eval o env := by
  unfold attributeBase
  split
  · cases h
  · rfl
theorem noMarks {op : CmpOp} {e : Expr} (h : nset e = true) : behindInMarks op e = false := by
  cases e <;> first | rfl | cases h
theorem noFold {e : Expr} {env : Env} (h : nset e = true) (x : Value) : foldedSetIterable e env x = pure x := by
  unfold foldedSetIterable
  split
  · cases h
  · rfl

/-! ### things within things -/
theorem AV.as_nil {x : AV} : x.as = [] → x.d.noL = true := by
  have go := AV.rec (motive_1 := fun x => x.as = [] → x.d.noL = true) (motive_2 := fun xs => AV.asL xs = [] → D.noLL (AV.dL xs) = true)
    (fun _ => rfl) (fun _ _ => rfl) (fun _ _ => rfl) (fun _ _ => rfl) (fun _ _ _ => rfl) (fun _ _ _ => rfl)
    (fun a xs ih h => by rw [AV.as] at h; rw [AV.d, D.noL]; exact ih h)
    (fun a xs ih h => by rw [AV.as] at h; exact nomatch h)
    (fun _ => rfl)
    (fun x xs ih1 ih2 h => by
      rw [AV.asL, List.append_eq_nil_iff] at h
      rw [AV.dL, D.noLL, ih1 h.1, ih2 h.2]; rfl) x
  exact go
theorem sub_asL {x : AV} : ∀ {xs : List AV}, x ∈ xs → x.as.Sublist (AV.asL xs)
  | y :: ys, h => by
    rw [AV.asL]
    rcases List.mem_cons.mp h with rfl | h
    · exact List.sublist_append_left _ _
    · exact (sub_asL h).trans (List.sublist_append_right _ _)
theorem AV.items_sub {x y : AV} {xs : List AV} (h : x.items = some xs) (hy : y ∈ xs) : y.as.Sublist x.as := by
  cases x with
  | tup a ys => cases h; rw [AV.as]; exact sub_asL hy
  | lst a ys => cases h; rw [AV.as]; exact (sub_asL hy).cons _
  | scr a ns =>
    cases h
    obtain ⟨n, _, rfl⟩ := List.mem_map.mp hy
    exact List.nil_sublist _
  | _ => cases h
section
variable {K : PySem.W.Frag} {H H' H1 H2 : Hp} {L R : List En} {C C' C1 C2 : Ce} {g g' g1 g2 : GA} {rs : List En}
/-- a thing is left for a part of it -/
theorem Stp.shrink {L' : List En} {x y : AV} {b : Bool} (s : Stp K H L C H' ((b, x) :: L') C') (ok : y.ok K H' C') (sub : y.as.Sublist x.as) : Stp K H L C H' ((b, y) :: L') C' := by
  have e1 : ∀ z : AV, Om.own ((b, z) :: L') = own1 (b, z) ++ Om.own L' := fun _ => rfl
  have e2 : ∀ z : AV, Om.shr ((b, z) :: L') = shr1 (b, z) ++ Om.shr L' := fun _ => rfl
  have so : (own1 (b, y)).Sublist (own1 (b, x)) := by unfold own1; split <;> first | exact sub | exact List.nil_sublist _
  have ss : (shr1 (b, y)).Sublist (shr1 (b, x)) := by unfold shr1; split <;> first | exact sub | exact List.nil_sublist _
  have so' : (Om.own ((b, y) :: L')).Sublist (Om.own ((b, x) :: L')) := by rw [e1, e1]; exact so.append (List.Sublist.refl _)
  have ss' : (Om.shr ((b, y) :: L')).Sublist (Om.shr ((b, x) :: L')) := by rw [e2, e2]; exact ss.append (List.Sublist.refl _)
  refine s.chg ⟨fun e he => ?_, s.wd.nd.sublist (so'.append (List.Sublist.refl _)), fun a ha hm => ?_, s.wd.ce⟩ (fun a q => ?_) fun a q => so'.subset q
  · rcases List.mem_cons.mp he with rfl | he
    · exact ok
    · exact s.wd.ok e (List.mem_cons_of_mem _ he)
  · refine s.wd.sh a (ss'.subset ha) ?_
    rcases List.mem_append.mp hm with h | h
    · exact List.mem_append_left _ (so'.subset h)
    · exact List.mem_append_right _ h
  · rcases q with q | q
    · exact .inl (so'.subset q)
    · exact .inr (ss'.subset q)
theorem GSt.shrink {x y : AV} {b : Bool} (s : GSt K H g H1 g1 ((b, x) :: rs)) (ok : y.ok K H1 g1.ce) (sub : y.as.Sublist x.as) : GSt K H g H1 g1 ((b, y) :: rs) := by
  refine ⟨?_, s.vs, s.gk⟩
  have p : ∀ z : AV, (ents g1.sl ++ (b, z) :: rs).Perm ((b, z) :: (ents g1.sl ++ rs)) := fun z => List.perm_middle
  exact ((s.st.perm (p x)).shrink ok sub).perm (p y).symm
/-- the thing that is meant -/
def RefA.nav (g : GA) : RefA → AV → Prop
  | .slot k, x => ∃ m, g.sl[k]? = some (some (m, x))
  | .path k is, x => ∃ e, g.sl[k]? = some (some e) ∧ e.2.at is = some x
  | .tmp e, x => e.2 = x
theorem RefA.nav_of {r : RefA} {v : V} (h : r.is g v) : ∃ x, r.nav g x ∧ x.v = v := by
  cases r with
  | slot k =>
    obtain ⟨⟨m, x⟩, q1, q2⟩ := GA.v_slot (show g.vs[k]? = some (some v) from h)
    exact ⟨x, ⟨m, q1⟩, q2⟩
  | path k is => obtain ⟨e, x, q1, q2, q3⟩ := h; exact ⟨x, ⟨e, q1, q2⟩, q3⟩
  | tmp e => exact ⟨e.2, rfl, h.symm⟩
theorem RefA.nav_get {r : RefA} {x : AV} (n : r.nav g x) : r.r.get g.d = some x.d := by
  cases r with
  | slot k =>
    obtain ⟨m, q⟩ := n
    show (match g.d.sl[k]? with
      | some (some (_, d)) => some d
      | _ => none) = _
    rw [GA.slot_d q]
  | path k is =>
    obtain ⟨e, q1, q2⟩ := n
    show (match g.d.sl[k]? with
      | some (some (_, d)) => atPath d is
      | _ => none) = _
    rw [GA.slot_d q1]
    show atPath e.2.d is = _
    rw [AV.at_d, q2]; rfl
  | tmp e => cases n; rfl
theorem RefA.nav_ok {r : RefA} {x : AV} (w : Wd K H (ents g.sl ++ rs) g.ce) (gw : GW K H g) (hr : ∀ e ∈ r.ens, e ∈ rs) (n : r.nav g x) : x.ok K H g.ce := by
  cases r with
  | slot k => obtain ⟨m, q⟩ := n; exact gw.slot q
  | path k is => obtain ⟨e, q1, q2⟩ := n; exact (AV.at_ok is q2 (gw.slot q1)).1
  | tmp e => cases n; exact w.ok e (List.mem_append_right _ (hr e (List.mem_singleton.mpr rfl)))
theorem AV.at_snoc : ∀ (is : List Int) {x y z : AV} {xs : List AV} {i : Int}, x.at is = some y → y.items = some xs → atI xs i = some z → x.at (is ++ [i]) = some z
  | [], x, y, z, xs, i, h, e1, e2 => by
    cases h
    show (x.items.bind fun xs => atI xs i).bind (fun y => AV.at y []) = some z
    rw [e1]
    simp only [Option.bind_some, e2]
    cases z <;> rfl
  | j :: is, x, y, z, xs, i, h, e1, e2 => by
    have e : ∀ js : List Int, x.at (j :: js) = (x.items.bind fun xs => atI xs j).bind fun w => AV.at w js := fun js => by cases x <;> rfl
    rw [e] at h
    show x.at (j :: (is ++ [i])) = _
    rw [e]
    cases q : (x.items.bind fun xs => atI xs j) with
    | none => rw [q] at h; cases h
    | some w =>
      rw [q] at h
      simp only [Option.bind_some] at h ⊢
      exact AV.at_snoc is h e1 e2
end
section
variable {K : PySem.W.Frag} {W : Str → St → Hp → Prop} {H H' H1 H2 : Hp} {g g' g1 g2 : GA} {rs rs' acc : List En} {α β γ δ : Type} {k : Kd α γ}
/-- looked at for an operation: the thing that is meant, and its items if it has some -/
theorem Out.peekN {r : RefA} {v : V} {f : D → M α} {Q : γ → Hp → Prop} (h : Out k K W H g ((Om.peek r.r >>= f) g2.d) Q) (w : Wd K H2 (ents g2.sl ++ rs) g2.ce) (gw : GW K H2 g2) (hr : ∀ e ∈ r.ens, e ∈ rs) (hv : r.is g2 v) :
    ∃ x y : AV, r.nav g2 x ∧ x.v = v ∧ y.v = v ∧ y.ok K H2 g2.ce ∧ (y = x ∨ ∃ xs, y.items = some xs ∧ ∀ z ∈ xs, z.as = []) ∧ Out k K W H g (f y.d g2.d) Q := by
  obtain ⟨x, n, ev⟩ := RefA.nav_of hv
  have ok := RefA.nav_ok w gw hr n
  have h' : Out k K W H g (((Om.look r.r) >>= fun d => (Om.decell d >>= f)) g2.d) Q := by
    have e : (Om.peek r.r >>= f) = ((Om.look r.r) >>= fun d => (Om.decell d >>= f)) := by unfold Om.peek; rw [M.assoc]
    rw [e] at h; exact h
  have el : Om.look r.r g2.d = some (.ok x.d g2.d) := by unfold Om.look; rw [RefA.nav_get n]
  rw [M.bind_ok el] at h'
  cases x with
  | cell a m =>
    have ok' := ok
    rw [AV.ok, List.getElem?_map] at ok
    cases q : g2.ce[m]? with
    | none => rw [q] at ok; cases ok
    | some p =>
      rw [q] at ok
      obtain rfl : p.1 = a := Option.some.inj ok
      have c := w.ce p (List.mem_of_getElem? q)
      have ed : Om.decell (AV.cell p.1 m).d g2.d = some (.ok (AV.lst p.1 p.2).d g2.d) := by
        show (match g2.d.ce[m]? with
          | some ds => some (Res.ok (D.lst ds) g2.d)
          | none => none) = _
        rw [GA.ceD, q, AV.d, AV.dL_eq]; rfl
      rw [M.bind_ok ed] at h'
      refine ⟨.cell p.1 m, .lst p.1 p.2, n, ev, ev, ?_, .inr ⟨p.2, rfl, fun z hz => (c.2 z hz).2⟩, h'⟩
      rw [AV.ok]
      exact ⟨c.1, AV.okL_iff.mpr fun x hx => (c.2 x hx).1⟩
  | _ => exact ⟨_, _, n, ev, ev, ok, .inl rfl, h'⟩
/-- an item -/
theorem Out.item {r : RefA} {x y z : AV} {xs : List AV} {i : Int} {Q : VK} (o : Out kRef K W H g (Om.itemOf r.r i z.d g2.d) Q) (s : GSt K H g H2 g2 rs) (w : GW K H g) (hr : ∃ X, rs.Perm (r.ens ++ X)) (n : r.nav g2 x) (oky : y.ok K H2 g2.ce) (hi : y.items = some xs) (hz : atI xs i = some z)
    (hy : y = x ∨ ∃ xs, y.items = some xs ∧ ∀ z ∈ xs, z.as = []) : Q z.v H2 := by
  have okz : z.ok K H2 g2.ce := (AV.items_ok hi oky z (atI_mem hz)).1
  unfold itemOf at o
  by_cases hn : z.d.noL = true
  · rw [if_pos hn] at o
    have o' : Out kRef K W H g (some (.ok (.tmp true z.d) g2.d)) Q := o
    exact o'.tmp (e := (true, z)) (s.drop.flat (e := (true, z)) (AV.as_noL z hn) okz) rfl rfl
  · rw [if_neg hn] at o
    have hyx : y = x := by
      rcases hy with e | ⟨xs', e, h⟩
      · exact e
      · rw [hi] at e; cases e
        exact absurd (AV.as_nil (h z (atI_mem hz))) hn
    subst hyx
    cases r with
    | slot k =>
      have o' : Out kRef K W H g (some (.ok (.path k [i]) g2.d)) Q := o
      obtain ⟨m, q⟩ := n
      refine o' g2 (.path k [i]) H2 z.v s.drop rfl rfl ⟨_, z, q, ?_, rfl⟩
      exact AV.at_snoc [] (show y.at [] = some y by cases y <;> rfl) hi hz
    | path k is =>
      have o' : Out kRef K W H g (some (.ok (.path k (is ++ [i])) g2.d)) Q := o
      obtain ⟨e, q, q2⟩ := n
      exact o' g2 (.path k (is ++ [i])) H2 z.v s.drop rfl rfl ⟨_, z, q, AV.at_snoc is q2 hi hz, rfl⟩
    | tmp e =>
      obtain ⟨b, av⟩ := e
      have n : av = y := n
      subst n
      have o' : Out kRef K W H g (some (.ok (.tmp b z.d) g2.d)) Q := o
      obtain ⟨Y, p⟩ := hr
      have s1 : GSt K H g H2 g2 [(b, av)] := s.sub ⟨Y, p⟩
      exact o'.tmp (e := (b, z)) (s1.shrink okz (AV.items_sub hi (atI_mem hz))) rfl rfl
end
section
variable {X : Cx} {W : Str → St → Hp → Prop} {x a b c u v : Expr} {ma mb mc : M Ref} {es : List Expr} {mA : M (List Ref)} {pos : Pos}
theorem simM_simD {e : E} {gd : Sg} {d : D} (h : simM e gd = some (.ok d gd)) : simD e gd = some d := by
  unfold simM at h
  split at h
  · rename_i d q; cases h; exact q
  · cases h
theorem snd_ixS {e : E} (ha : Snd X W a ma) (hb : Smp X b e) (hs : nslc b = true) : Snd X W (.Subscript a b pos) (do
    let r ← ma
    let d ← peek r
    match ← simM e with
    | .int k => do
      let ds ← M.of d.items
      let v ← M.of (atI ds k)
      itemOf r k v
    | _ => M.fail) := by
  obtain ⟨t, pb, hb⟩ := hb.rd
  refine Snd.val (pe_ix ix_av ha.pe pb (plain_ix hs)) (fun _ => rfl) (fun _ _ _ h => nomatch h) fun σ H Q ⟨g, hv, w, o⟩ => ?_
  subst hv
  refine ⟨g, rfl, w, o.bind kRef fun g1 b1 H1 v1 s1 e1 o1 => ?_⟩
  have gw1 := s1.gw w
  obtain ⟨x, y, n, ev, ev', oky, hy, o1⟩ := Out.peekN o1 s1.wd gw1 (fun e he => he) e1
  obtain ⟨d2, ed, o1⟩ := o1.reads simM_ok
  rw [← s1.vs]
  refine hb g1 H1 d2 _ gw1 (simM_simD ed) fun v2 hv2 => ?_
  cases d2 with
  | int i =>
    have hv2 := hv2.int
    subst hv2
    obtain ⟨ds, ei, o1⟩ := o1.of
    obtain ⟨dz, ez, o1⟩ := o1.of
    rw [AV.items_d] at ei
    cases hi : y.items with
    | none => rw [hi] at ei; cases ei
    | some xs =>
      rw [hi] at ei
      cases ei
      rw [atI_map] at ez
      cases hz : atI xs i with
      | none => rw [hz] at ez; cases ez
      | some z =>
        rw [hz] at ez
        cases ez
        refine ⟨y, g1.ce, xs, i, z, ev'.symm, oky, hi, rfl, hz, ?_⟩
        exact Out.item (Q := Q) o1 s1 w ⟨[], by rw [List.append_nil]; exact .refl _⟩ n oky hi hz hy
  | _ => exact (o1 : False).elim
theorem snd_ix (ha : Snd X W a ma) (hb : Snd X W b mb) (hs : nslc b = true) : Snd X W (.Subscript a b pos) (do
    let r ← stab (← ma)
    let k ← asI (← mb)
    let d ← peek r
    let ds ← M.of d.items
    let v ← M.of (atI ds k)
    itemOf r k v) := by
  refine Snd.val (pe_ix ix_av (se_stab ha.pe) hb.pe (plain_ix hs)) (fun _ => rfl) (fun _ _ _ h => nomatch h) fun σ H Q h => ?_
  refine sm_bin h fun g H g2 H2 r1 r2 v1 v2 Q w s e1 e2 o => ?_
  have gw := s.gw w
  obtain ⟨i, rfl, o⟩ := Out.asI o s.wd gw inr_ens e2
  rw [← RefB.ar] at o
  obtain ⟨x, y, n, ev, ev', oky, hy, o⟩ := Out.peekN o s.wd gw inl_ens (RefB.ais e1)
  obtain ⟨ds, ei, o⟩ := o.of
  obtain ⟨dz, ez, o⟩ := o.of
  rw [AV.items_d] at ei
  cases hi : y.items with
  | none => rw [hi] at ei; cases ei
  | some xs =>
    rw [hi] at ei
    cases ei
    rw [atI_map] at ez
    cases hz : atI xs i with
    | none => rw [hz] at ez; cases ez
    | some z =>
      rw [hz] at ez
      cases ez
      refine ⟨y, g2.ce, xs, i, z, ev'.symm, oky, hi, rfl, hz, ?_⟩
      exact Out.item (Q := Q) o s w ⟨r2.ens, by rw [RefB.aens]⟩ n oky hi hz hy
end
end Om

/-! Om12: slices, calls, names, new cells. -/
namespace Om
open PySem PySem.Spec PyProof.Rows L2

section
variable {K : PySem.W.Frag} {W : Str → St → Hp → Prop} {H H' H1 H2 : Hp} {g g' g1 g2 : GA} {rs rs' acc : List En} {α β γ δ : Type} {k : Kd α γ}
/-- parts of a shared thing, told besides -/
theorem GSt.parts {x : AV} : ∀ {ys : List AV}, GSt K H g H1 g1 ((false, x) :: rs) → (∀ y ∈ ys, y.ok K H1 g1.ce ∧ ∀ a ∈ y.as, a ∈ x.as) → GSt K H g H1 g1 ((false, x) :: (ys.map (fun y => ((false, y) : En)) ++ rs))
  | [], s, _ => s
  | y :: ys, s, h => by
    have ih := GSt.parts (ys := ys) s fun z hz => h z (List.mem_cons_of_mem _ hz)
    refine ⟨?_, ih.vs, ih.gk⟩
    have p : (ents g1.sl ++ (false, x) :: (ys.map (fun y => ((false, y) : En)) ++ rs)).Perm ((false, x) :: (ents g1.sl ++ (ys.map (fun y => ((false, y) : En)) ++ rs))) := List.perm_middle
    have q := (ih.st.perm p).part (y := y) (h y List.mem_cons_self).1 (h y List.mem_cons_self).2
    refine q.perm ?_
    have p2 : ((false, y) :: (false, x) :: (ents g1.sl ++ (ys.map (fun y => ((false, y) : En)) ++ rs))).Perm ((false, x) :: (false, y) :: (ents g1.sl ++ (ys.map (fun y => ((false, y) : En)) ++ rs))) := List.Perm.swap _ _ _
    refine p2.trans ?_
    refine List.Perm.trans ?_ List.perm_middle.symm
    refine List.Perm.cons _ ?_
    exact List.perm_middle.symm
theorem GSt.share1 {x : AV} {b : Bool} (s : GSt K H g H1 g1 ((b, x) :: rs)) : GSt K H g H1 g1 ((false, x) :: rs) := by
  refine ⟨?_, s.vs, s.gk⟩
  have p : ∀ z : Bool, (ents g1.sl ++ (z, x) :: rs).Perm ((z, x) :: (ents g1.sl ++ rs)) := fun z => List.perm_middle
  exact ((s.st.perm (p b)).share).perm (p false).symm
/-- a thing handed on: the thing that is meant -/
theorem Out.forceN {b : RefB} {x : AV} {f : Bool × D → M α} {Q : γ → Hp → Prop} (o : Out k K W H g ((Om.force b.r >>= f) g1.d) Q) (w : GW K H g) (s : GSt K H g H1 g1 b.ens) (n : b.a.nav g1 x) :
    ∃ (g2 : GA) (e : En), GSt K H g H1 g2 [e] ∧ e.2 = x ∧ g2.vs = g1.vs ∧ Out k K W H g (f (e.1, e.2.d) g2.d) Q := by
  have o1 : Out k K W H g (M.bind (Om.force b.r) f g1.d) Q := o
  cases b with
  | tmp e =>
    refine ⟨g1, e, s, n, rfl, ?_⟩
    unfold M.bind Om.force at o1
    exact o1
  | slot j =>
    obtain ⟨m, q1⟩ := n
    unfold M.bind Om.force at o1
    have hr : (RefB.slot j).r = Ref.slot j := rfl
    simp only [hr] at o1
    rw [GA.slot_d q1] at o1
    by_cases hn : x.d.noL = true
    · simp only [hn, if_true] at o1
      have ok := (s.gw w).slot q1
      exact ⟨g1, (false, x), s.drop.flat (e := (false, x)) (AV.as_noL x hn) ok, rfl, rfl, o1⟩
    · simp only [hn] at o1
      by_cases hm : m = .lk
      · simp only [hm] at o1; exact (o1 : False).elim
      · simp only [hm] at o1
        have s1 := s.share q1 hm
        have q1' : (g1.put j (some (.sh, x))).sl[j]? = some (some (.sh, x)) := by rw [GA.put_get (lt_of_some q1), if_pos rfl]
        have ok : x.ok K H1 (g1.put j (some (.sh, x))).ce := (s1.gw w).slot q1'
        have s2 := s1.drop.part q1' ok fun _ h => h
        refine ⟨g1.put j (some (.sh, x)), (false, x), s2, rfl, GA.put_same_vs (e := (m, x)) (e' := (.sh, x)) q1 rfl, ?_⟩
        rw [GA.put_d]; exact o1
/-- a new list at a cell -/
theorem GSt.newCell {xs : List AV} (s : GSt K H g H2 g2 rs) {p : Addr} (hp : H2 p = none) (hx : ∀ x ∈ xs, x.ok K H2 g2.ce ∧ x.as = []) :
    GSt K H g (upd H2 p (.lst (xs.map AV.v))) ⟨g2.sl, g2.ce ++ [(p, xs)]⟩ [(true, .cell p g2.ce.length)] := by
  have s0 := s.drop.st
  rw [List.append_nil] at s0
  have s1 := s0.laid (o := .lst (xs.map AV.v)) hp
  have ext : CeExt g2.ce (g2.ce ++ [(p, xs)]) := fun n a h => by
    rw [List.map_append, List.getElem?_append_left (lt_of_some h)]; exact h
  have cA : ceA (g2.ce ++ [(p, xs)]) = ceA g2.ce ++ [p] := by unfold ceA; rw [List.map_append]; rfl
  have hn := s0.wd.ne_new hp
  have nO : p ∉ own (ents g2.sl) ++ ceA g2.ce := fun hm => by
    rcases List.mem_append.mp hm with h | h
    · exact hn p (List.mem_append_left _ h) rfl
    · exact hn p (List.mem_append_right _ (List.mem_append_right _ h)) rfl
  have hp0 : H p = none := s0.dom p hp
  have e1 : own (ents g2.sl ++ [((true, AV.cell p g2.ce.length) : En)]) = own (ents g2.sl) := by rw [own_app]; show _ ++ ([] ++ []) = _; simp
  have e2 : shr (ents g2.sl ++ [((true, AV.cell p g2.ce.length) : En)]) = shr (ents g2.sl) := by rw [shr_app]; show _ ++ ([] ++ []) = _; simp
  refine ⟨⟨⟨fun e he => ?_, ?_, fun a ha hm => ?_, fun q hq => ?_⟩, s1.keep, s1.dom, fun a ha => ?_, fun a ha => ?_, s1.ext.trans ext⟩, s.vs, s.gk⟩
  · rcases List.mem_append.mp he with h | h
    · exact AV.ok_ext ext (s1.wd.ok e h)
    · cases List.mem_singleton.mp h
      show (AV.cell p g2.ce.length).ok K _ _
      rw [AV.ok, List.map_append, List.getElem?_append_right (by simp)]
      simp
  · show (own (ents g2.sl ++ [((true, AV.cell p g2.ce.length) : En)]) ++ ceA (g2.ce ++ [(p, xs)])).Nodup
    rw [e1, cA, ← List.append_assoc, List.nodup_append]
    refine ⟨s1.wd.nd, by simp, fun a ha b hb e => ?_⟩
    subst e
    cases List.mem_singleton.mp hb
    exact nO ha
  · have ha : a ∈ shr (ents g2.sl) := by rw [← e2]; exact ha
    have hm : a ∈ own (ents g2.sl) ++ (ceA g2.ce ++ [p]) := by rw [← e1, ← cA]; exact hm
    rw [← List.append_assoc] at hm
    rcases List.mem_append.mp hm with h | h
    · exact s1.wd.sh a ha h
    · cases List.mem_singleton.mp h
      exact hn p (List.mem_append_right _ (List.mem_append_left _ ha)) rfl
  · rcases List.mem_append.mp hq with h | h
    · have c := s1.wd.ce q h
      exact ⟨c.1, fun x hx' => ⟨AV.ok_ext ext (c.2 x hx').1, (c.2 x hx').2⟩⟩
    · cases List.mem_singleton.mp h
      refine ⟨upd_same, fun x hx' => ⟨AV.ok_ext ext ?_, (hx x hx').2⟩⟩
      exact AV.ok_keep (O := []) (keep_upd hp []) (fun _ z => nomatch z) .refl x (hx x hx').1 fun _ _ z => nomatch z
  · have ha : a ∈ own (ents g2.sl) ++ (shr (ents g2.sl) ++ (ceA g2.ce ++ [p])) := by rw [← e1, ← e2, ← cA]; exact ha
    rw [← List.append_assoc, ← List.append_assoc] at ha
    rcases List.mem_append.mp ha with h | h
    · rw [List.append_assoc] at h
      exact s1.all a h
    · cases List.mem_singleton.mp h
      exact .inr hp0
  · have ha : a ∈ own (ents g2.sl) ++ (ceA g2.ce ++ [p]) := by rw [← e1, ← cA]; exact ha
    rw [← List.append_assoc] at ha
    rcases List.mem_append.mp ha with h | h
    · exact s1.own a h
    · cases List.mem_singleton.mp h
      exact .inr hp0
end
section
variable {X : Cx} {W : Str → St → Hp → Prop} {x a b c u v : Expr} {ma mb mc : M Ref} {e : Expr} {es : List Expr} {mA : M (List Ref)} {pos : Pos}
theorem as_of_noL {x : AV} (h : x.d.noL = true) : x.as = [] := AV.as_noL x h
theorem snd_newc (h : PA X es (SM kL X.K W mA)) : Snd X W (.List es pos) (do
    let es ← forceL (← mA)
    if fits es.length && es.all (fun e => e.2.noL && e.2.noC) then fun g => some (.ok (.tmp true (.cell g.ce.length)) { g with ce := g.ce ++ [es.map (·.2)] }) else M.fail) := by
  refine Snd.val (pe_lst h) (fun _ => rfl) (fun _ _ _ h => nomatch h) fun σ H Q ⟨g, hv, w, o⟩ => ?_
  subst hv
  refine ⟨g, rfl, w, o.bind kL fun g1 b1 H1 v1 s1 e1 o1 => ?_⟩
  obtain ⟨g2, en, s2, e2, v2, o2⟩ := Out.forceL (acc := []) o1 w s1 e1
  by_cases hf : (fits (en.map fun e => ((e.1, e.2.d) : Bool × D)).length && (en.map fun e => ((e.1, e.2.d) : Bool × D)).all (fun e => e.2.noL && e.2.noC)) = true
  case neg => rw [if_neg hf] at o2; exact o2.elim
  rw [if_pos hf] at o2
  rw [Bool.and_eq_true] at hf
  refine ⟨by rw [← e2]; exact fits_map hf.1, fun p hp => ?_⟩
  have s2' : GSt X.K H g H1 g2 en := s2
  have hx : ∀ x ∈ en.map (·.2), x.ok X.K H1 g2.ce ∧ x.as = [] := fun x hx => by
    obtain ⟨e0, he, rfl⟩ := List.mem_map.mp hx
    refine ⟨s2'.st.wd.ok e0 (List.mem_append_right _ he), AV.as_noL _ ?_⟩
    have := List.all_eq_true.mp hf.2 (e0.1, e0.2.d) (List.mem_map.mpr ⟨e0, he, rfl⟩)
    rw [Bool.and_eq_true] at this
    exact this.1
  have s3 := s2'.newCell hp hx
  have ev : v1 = (en.map (·.2)).map AV.v := by rw [← e2, List.map_map]; rfl
  rw [ev]
  have ed : (⟨g2.sl, g2.ce ++ [(p, en.map (·.2))]⟩ : GA).d = { g2.d with ce := g2.d.ce ++ [(en.map fun e => ((e.1, e.2.d) : Bool × D)).map (·.2)] } := by
    unfold GA.d
    simp only [List.map_append, List.map_cons, List.map_nil, List.map_map]
    rfl
  have el : g2.d.ce.length = g2.ce.length := by unfold GA.d; simp
  have o3 : Out kRef X.K W H g (some (.ok (.tmp true (.cell g2.ce.length)) (⟨g2.sl, g2.ce ++ [(p, en.map (·.2))]⟩ : GA).d)) Q := by
    rw [ed, ← el]; exact o2
  exact Out.tmp (e := (true, .cell p g2.ce.length)) o3 s3 rfl rfl

/-! ### slices -/
def cutA (xs : List AV) (lo hi : Option Int) : List AV := (xs.drop (HT.sIx xs.length 0 lo)).take (HT.sIx xs.length xs.length hi - HT.sIx xs.length 0 lo)
theorem cutA_d (xs : List AV) (lo hi : Option Int) : (cutA xs lo hi).map AV.d = cutD (xs.map AV.d) lo hi := by
  unfold cutA cutD
  rw [List.map_take, List.map_drop, List.length_map]
theorem cutA_v (xs : List AV) (lo hi : Option Int) : (cutA xs lo hi).map AV.v = cutV (xs.map AV.v) lo hi := by
  unfold cutA cutV
  rw [List.map_take, List.map_drop, List.length_map]
theorem cutA_mem {xs : List AV} {lo hi : Option Int} {x : AV} (h : x ∈ cutA xs lo hi) : x ∈ xs := List.mem_of_mem_drop (List.mem_of_mem_take h)
/-- a slice by things -/
def rSlX (K : PySem.W.Frag) : V → Option Int → Option Int → Hp → VK → Prop := fun x lo hi H Q => ∃ (y : AV) (C : Ce) (xs : List AV), x = y.v ∧ y.ok K H C ∧
  (((∃ a, y = .lst a xs) ∧ ∀ p, H p = none → Q (.ref p) (upd H p (.lst ((cutA xs lo hi).map AV.v)))) ∨
   ((∃ a, y = .tup a xs) ∧ (cutA xs lo hi = xs → Q x H) ∧ ∀ p, H p = none → Q (.ref p) (upd H p (.tup ((cutA xs lo hi).map AV.v)))))
theorem sl_x : SlR X (rSlX X.K) := by
  intro pins s σ H x v vl vu lo hi sl Q I rx hs pl pu h
  obtain ⟨y, C, xs, rfl, ok, h⟩ := h
  rcases h with ⟨⟨a, rfl⟩, q⟩ | ⟨⟨a, rfl⟩, q1, q2⟩
  · rw [AV.ok] at ok
    refine sl_list pins s σ H _ v vl vu lo hi sl Q I rx hs pl pu ⟨a, xs.map AV.v, rfl, SqL.of ok.1, fun p hp => ?_⟩
    rw [← cutA_v]; exact q p hp
  · rw [AV.ok] at ok
    refine sl_tupA pins s σ H _ v vl vu lo hi sl Q I rx hs pl pu ⟨a, xs.map AV.v, rfl, ok.1, fun hw => q1 ?_, fun _ p hp => ?_⟩
    · unfold cutA
      rw [List.length_map] at hw
      rw [hw.1, hw.2]
      simp
    · rw [← cutA_v]; exact q2 p hp
theorem po_noneS {T : Tab} : PO X none (SM kO X.K W (pure none)) := ⟨fun pins s σ H Q I ⟨g, _, w, o⟩ => by
  have o' : Out kO X.K W H g (some (.ok none g.d)) Q := o
  exact po_none.run pins s σ H Q I (o' g none H none (.refl w) rfl rfl rfl)⟩
theorem po_someS (h : Snd X W a ma) : PO X (some a) (SM kO X.K W (do
    let i ← asI (← ma)
    pure (some i))) := ⟨fun pins s σ H Q I ⟨g, hv, w, o⟩ => by
  subst hv
  refine (po_some h.pe).run pins s g.vs H Q I ⟨g, rfl, w, o.bind kRef fun g1 b1 H1 v1 s1 e1 o1 => ?_⟩
  obtain ⟨i, rfl, o1⟩ := Out.asI o1 s1.wd (s1.gw w) (fun e he => he) e1
  have o' : Out kO X.K W H g (some (.ok (some i) g1.d)) Q := o1
  exact ⟨i, rfl, o' g1 (some i) H1 (some i) s1.drop rfl rfl rfl⟩⟩
theorem slD_some {y : AV} {lo hi : Option Int} {d : D} (h : slD y.d lo hi = some d) : ∃ (a : Addr) (xs : List AV), (y = .lst a xs ∧ d = .lst ((cutA xs lo hi).map AV.d)) ∨ (y = .tup a xs ∧ D.noLL (xs.map AV.d) = true ∧ d = .tup ((cutA xs lo hi).map AV.d)) := by
  cases y with
  | lst a xs =>
    rw [AV.d, AV.dL_eq] at h
    cases h
    exact ⟨a, xs, .inl ⟨rfl, by rw [cutA_d]⟩⟩
  | tup a xs =>
    rw [AV.d, AV.dL_eq] at h
    unfold slD at h
    dsimp only at h
    by_cases hn : D.noLL (xs.map AV.d) = true
    · rw [if_pos hn] at h
      cases h
      exact ⟨a, xs, .inr ⟨rfl, hn, by rw [cutA_d]⟩⟩
    · rw [if_neg hn] at h; cases h
  | _ => simp [AV.d, slD] at h
theorem snd_sl {lo hi : Option Expr} {mlo mhi : M (Option Int)} {p2 : Pos} (ha : Snd X W a ma) (hl : PO X lo (SM kO X.K W mlo)) (hh : PO X hi (SM kO X.K W mhi)) : Snd X W (.Subscript a (.Slice lo hi none p2) pos) (do
    let r ← stab (← ma)
    let l ← mlo
    let h ← mhi
    let d ← peek r
    let x ← M.of (slD d l h)
    if x.flatItems then pure (.tmp true x) else do
      let y ← force r
      pure (.tmp false x)) := by
  refine Snd.val (pe_slice sl_x (se_stab ha.pe) hl hh) (fun _ => rfl) (fun _ _ _ h => nomatch h) fun σ H Q ⟨g, hv, w, o⟩ => ?_
  subst hv
  rw [← M.assoc] at o
  refine ⟨g, rfl, w, o.bind kS fun g1 (b1 : RefB) H1 v1 s1 e1 o1 => ?_⟩
  refine ⟨g1, s1.vs, s1.gw w, o1.bindL kO s1 fun g2 (l : Option Int) H2 l' s2 e2 o2 => ?_⟩
  have e2 : l' = l := e2
  subst e2
  have s12 := s1.app s2
  refine ⟨g2, s12.vs, s12.gw w, Out.bindL kO o2 s12 fun g3 (hh : Option Int) H3 h' s3 e3 o3 => ?_⟩
  have e3 : h' = hh := e3
  subst e3
  have s13 : GSt X.K H g H3 g3 b1.ens := (s12.app s3).sub ⟨[], by
    show ((b1.ens ++ []) ++ []).Perm _
    simp⟩
  have gw := s13.gw w
  have e1' : b1.is g3 v1 := RefB.is_vs e1 (s3.vs.trans s2.vs)
  have o3 : Out kRef X.K W H g ((Om.peek b1.r >>= fun d => (M.of (slD d l' h') >>= fun x => if x.flatItems then pure (.tmp true x) else do
      let y ← force b1.r
      pure (.tmp false x))) g3.d) Q := o3
  rw [← RefB.ar] at o3
  obtain ⟨x, y, n, ev, ev', oky, hy, o4⟩ := Out.peekN (rs := b1.ens) o3 s13.wd gw (fun e he => by rw [RefB.aens] at he; exact he) (RefB.ais e1')
  obtain ⟨d, ed, o4⟩ := o4.of
  by_cases hf : d.flatItems = true
  · rw [if_pos hf] at o4
    obtain ⟨a0, xs, ⟨rfl, rfl⟩ | ⟨rfl, hn, rfl⟩⟩ := slD_some ed
    · have ok2 := oky
      rw [AV.ok] at ok2
      refine ⟨.lst a0 xs, g3.ce, xs, ev'.symm, oky, .inl ⟨⟨a0, rfl⟩, ?_⟩⟩
      refine Out.newL o4 s13 (fun z hz => ?_) rfl hf
      exact AV.okL_iff.mp ok2.2 z (cutA_mem hz)
    · have ok2 := oky
      rw [AV.ok] at ok2
      refine ⟨.tup a0 xs, g3.ce, xs, ev'.symm, oky, .inr ⟨⟨a0, rfl⟩, fun e => ?_, ?_⟩⟩
      · have N := Out.newR o4 s13
        refine N.same _ ⟨.tup a0 xs, ev', ?_, oky⟩ hf
        rw [e, AV.d, AV.dL_eq]
      · refine Out.newT o4 s13 (fun z hz => ?_) rfl hf
        exact AV.okL_iff.mp ok2.2 z (cutA_mem hz)
  · rw [if_neg hf] at o4
    obtain ⟨a0, xs, ⟨rfl, rfl⟩ | ⟨rfl, hn, rfl⟩⟩ := slD_some ed
    · have ok2 := oky
      rw [AV.ok] at ok2
      refine ⟨.lst a0 xs, g3.ce, xs, ev'.symm, oky, .inl ⟨⟨a0, rfl⟩, fun p hp => ?_⟩⟩
      have hyx : AV.lst a0 xs = x := by
        rcases hy with e | ⟨ys, e, hz⟩
        · exact e
        · cases e
          exfalso
          refine hf (D.noLL_iff.mpr fun d hd => ?_)
          obtain ⟨z, hz', rfl⟩ := List.mem_map.mp hd
          exact AV.as_nil (hz z (cutA_mem hz'))
      subst hyx
      rw [RefB.ar] at o4
      obtain ⟨g4, ⟨b4, x4⟩, s4, ex4, v4, o5⟩ := Out.forceN o4 w s13 n
      have ex4 : x4 = .lst a0 xs := ex4
      subst ex4
      have s5 : GSt X.K H g H3 g4 ((false, .lst a0 xs) :: []) := GSt.share1 s4
      have ok4 : (AV.lst a0 xs).ok X.K H3 g4.ce := s5.st.wd.ok (false, .lst a0 xs) (List.mem_append_right _ List.mem_cons_self)
      have s6 := s5.parts (ys := cutA xs l' h') fun z hz => AV.items_ok (x := .lst a0 xs) rfl ok4 z (cutA_mem hz)
      have s7 : GSt X.K H g H3 g4 ((cutA xs l' h').map (fun y => ((false, y) : En))) := s6.sub ⟨[(false, .lst a0 xs)], by
        rw [List.append_nil]
        exact (List.perm_append_singleton _ _).symm⟩
      have s8 := s7.lst hp
      rw [List.map_map, List.map_map] at s8
      have f1 : ((cutA xs l' h').map ((fun e : En => e.2.v) ∘ fun x => ((false, x) : En))) = (cutA xs l' h').map AV.v := rfl
      have f2 : ((cutA xs l' h').map ((fun e : En => e.2) ∘ fun x => ((false, x) : En))) = cutA xs l' h' := by simp [Function.comp_def]
      rw [f1, f2] at s8
      have s9 := GSt.share1 s8
      have o6 : Out kRef X.K W H g (some (.ok (.tmp false (.lst ((cutA xs l' h').map AV.d))) g4.d)) Q := o5
      exact Out.tmp (e := (false, .lst p (cutA xs l' h'))) o6 s9 rfl (by rw [AV.d, AV.dL_eq])
    · exfalso
      refine hf (D.noLL_iff.mpr fun d hd => ?_)
      obtain ⟨z, hz', rfl⟩ := List.mem_map.mp hd
      exact D.noLL_iff.mp hn _ (List.mem_map.mpr ⟨z, cutA_mem hz', rfl⟩)
end
end Om

/-! Om13: constants, names, calls of built-in functions, calls. -/
namespace Om
open PySem PySem.Spec PyProof.Rows L2

section
variable {X : Cx} {W : Str → St → Hp → Prop} {x a b c u v : Expr} {ma mb mc : M Ref} {e : Expr} {es : List Expr} {mA : M (List Ref)} {pos : Pos}
/-! ### constants and names -/
theorem snd_non {j : Nat} : Snd X W (.Constant .none j pos) (pure (.tmp true .non)) := Snd.val pe_non (fun _ => rfl) (fun _ _ _ h => nomatch h) (sm_flat (d := .non) rfl)
theorem snd_bl {j : Nat} {b : Bool} : Snd X W (.Constant (.bool b) j pos) (pure (.tmp true (.bl b))) := Snd.val pe_bl (fun _ => rfl) (fun _ _ _ h => nomatch h) (sm_flat (d := .bl b) rfl)
theorem snd_int {j : Nat} {i : Int} : Snd X W (.Constant (.int i) j pos) (pure (.tmp true (.int i))) := Snd.val pe_int (fun _ => rfl) (fun _ _ _ h => nomatch h) (sm_flat (d := .int i) rfl)
theorem snd_str {j : Nat} {s : Str} : Snd X W (.Constant (.str s) j pos) (pure (.tmp true (.str s))) := Snd.val pe_str (fun _ => rfl) (fun _ _ _ h => nomatch h) (sm_flat (d := .str s) rfl)
theorem snd_var {k : Nat} {x : Str} (hN : X.N[k]? = some x) (hv : Vis X.env.scope x) (hd : (x == ("__debug__" : Str)) = false) (hcd : (x == ("__classdict__" : Str)) = false) : Snd X W (.Name x pos) (readVar k) :=
  Snd.val (pe_var hN hv hd hcd) (fun _ => rfl) (fun _ _ _ h => nomatch h) fun _ _ _ h => readVar_ok h
theorem smp_of {e : E} {t : TE} (h : PE X x t) (q : ∀ (g : GA) (H : Hp) (d : D) (Q : VK), GW X.K H g → simD e g.d = some d → (∀ v, Has X.K H g.ce v d → Q v H) → t g.vs H Q) : Smp X x e := ⟨t, h, q⟩
theorem smp_non {j : Nat} : Smp X (.Constant .none j pos) .non := smp_of pe_non fun g H d Q w e h => by
  cases e; exact h .non ⟨.non, rfl, rfl, trivial⟩
theorem smp_bl {j : Nat} {b : Bool} : Smp X (.Constant (.bool b) j pos) (.bl b) := smp_of pe_bl fun g H d Q w e h => by
  cases e; exact h (.bl b) ⟨.bl b, rfl, rfl, trivial⟩
theorem smp_int {j : Nat} {i : Int} : Smp X (.Constant (.int i) j pos) (.int i) := smp_of pe_int fun g H d Q w e h => by
  cases e; exact h (.int i) ⟨.int i, rfl, rfl, trivial⟩
theorem smp_str {j : Nat} {s : Str} : Smp X (.Constant (.str s) j pos) (.str s) := smp_of pe_str fun g H d Q w e h => by
  cases e; exact h (.str s) ⟨.str s, rfl, rfl, trivial⟩
theorem smp_var {k : Nat} {x : Str} (hN : X.N[k]? = some x) (hv : Vis X.env.scope x) (hd : (x == ("__debug__" : Str)) = false) (hcd : (x == ("__classdict__" : Str)) = false) : Smp X (.Name x pos) (.var k) :=
  smp_of (pe_var hN hv hd hcd) fun g H d Q w e h => by
    have e : (match g.d.sl[k]? with
      | some (some (_, d)) => some d
      | _ => none) = some d := e
    cases q : g.sl[k]? with
    | none =>
      have : g.d.sl[k]? = none := by rw [GA.slD, q]; rfl
      rw [this] at e; cases e
    | some z =>
      cases z with
      | none =>
        have : g.d.sl[k]? = some none := by rw [GA.slD, q]; rfl
        rw [this] at e; cases e
      | some en =>
        rw [GA.slot_d q] at e
        cases e
        exact ⟨en.2.v, GA.slot_v q, h _ ⟨en.2, rfl, rfl, w.slot q⟩⟩
/-- a constant of the module -/
structure GlD (X : Cx) (x : Str) (d : D) : Prop where
  gl : ∃ (av : AV) (u : Value), X.mg x = some u ∧ RelV av.v u ∧ av.d = d ∧ ∀ H C, av.ok X.K H C
theorem snd_glob {o : Option D} {x : Str} (hg : Gl X x) (hd : (x == ("__debug__" : Str)) = false) (hl : ∀ d, o = some d → GlD X x d) : Snd X W (.Name x pos) (do
    let d ← M.of o
    if d.noL && d.noC then pure (.tmp true d) else M.fail) := by
  cases o with
  | none => exact Snd.val (t := fun _ _ _ => False) ⟨fun _ _ _ _ _ _ h => h.elim⟩ (fun _ => rfl) (fun _ _ _ h => nomatch h) fun σ H Q ⟨g, _, _, o⟩ => o
  | some d =>
    obtain ⟨av, u, hm, r, ed, ok⟩ := (hl d rfl).gl
    refine Snd.val (pe_glob hg hm r hd) (fun _ => rfl) (fun _ _ _ h => nomatch h) fun σ H Q ⟨g, _, w, o⟩ => ?_
    obtain ⟨d', e, o⟩ := o.of
    cases e
    by_cases hn : (d.noL && d.noC) = true
    · rw [if_pos hn] at o
      rw [Bool.and_eq_true] at hn
      exact Out.tmp (e := (true, av)) (g2 := g) o ((GSt.refl w).flat (e := (true, av)) (AV.as_noL av (by rw [ed]; exact hn.1)) (ok _ _)) rfl ed
    · rw [if_neg hn] at o; exact o.elim
/-! ### built-in functions -/
def biN : Bi → Str
  | .len => "len" | .sum => "sum" | .min => "min" | .max => "max" | .all => "all" | .any => "any" | .sorted => "sorted" | .list => "list" | .tuple => "tuple" | .int => "int" | .str => "str" | .abs => "abs"
def biC : Bi → Option String
  | .len => some "len" | .sum => some "sum" | .min => some "min" | .max => some "max" | .all => some "all" | .any => some "any" | .sorted => some "sorted" | .abs => some "abs"
  | _ => none
def biT : Bi → Option String
  | .list => some "list" | .tuple => some "tuple" | .int => some "int" | .str => some "str"
  | _ => none
theorem biN_boot : ∀ b : Bi, bootBuiltins (biN b) = some (biV b)
  | .len => by decide +kernel
  | .sum => by decide +kernel
  | .min => by decide +kernel
  | .max => by decide +kernel
  | .all => by decide +kernel
  | .any => by decide +kernel
  | .sorted => by decide +kernel
  | .list => by decide +kernel
  | .tuple => by decide +kernel
  | .int => by decide +kernel
  | .str => by decide +kernel
  | .abs => by decide +kernel
theorem biN_ne (b : Bi) : biN b ≠ "__name__" ∧ (biN b == ("__debug__" : Str)) = false := by cases b <;> decide
theorem pe_bi {bi : Bi} {p : Pos} {t : TA} (hc : X.calm = true) (hg : Gl X (biN bi)) (hm : X.mg (biN bi) = none) (ha : PA X (e :: es) t) (hs : nstL (e :: es) = true) : PE X (.Call (.Name (biN bi) p) (e :: es) [] pos) (tCB (rBi X.K bi) t) := by
  rw [nstL, Bool.and_eq_true] at hs
  have cb := cb_any' (X := X) bi hc
  have hb := biN_boot bi
  obtain ⟨n1, n2⟩ := biN_ne bi
  cases bi <;> first
    | exact pe_callB cb hg hm hb ha n1 n2 (star_of hs.1) (star_any hs.2)
    | exact pe_callTy cb hg hm hb ha n1 n2 (star_of hs.1) (star_any hs.2)
theorem snd_bcall {bi : Bi} {p : Pos} (hc : X.calm = true) (hg : Gl X (biN bi)) (hm : X.mg (biN bi) = none) (ha : PA X (e :: es) (SM kL X.K W mA)) (hs : nstL (e :: es) = true) : Snd X W (.Call (.Name (biN bi) p) (e :: es) [] pos) (do
    let rs ← mA
    let ds ← peekL rs
    let d ← M.of (bcallD bi ds)
    pure (.tmp true d)) := by
  refine Snd.val (pe_bi hc hg hm ha hs) (fun _ => rfl) (fun _ _ _ h => nomatch h) fun σ H Q ⟨g, hv, w, o⟩ => ?_
  subst hv
  refine ⟨g, rfl, w, o.bind kL fun g1 b1 H1 v1 s1 e1 o1 => ?_⟩
  obtain ⟨ds, hd, o1⟩ := Out.peekL o1 s1.wd (s1.gw w) (fun e he => he) e1
  obtain ⟨d, ed, o1⟩ := o1.of
  exact ⟨g1.ce, ds, d, hd, ed, Out.newR o1 s1⟩
/-- isinstance(a, T) -/
def tyN : Ty → Str
  | .int => "int" | .bool => "bool" | .str => "str" | .tuple => "tuple" | .list => "list"
theorem ty_boot : ∀ t : Ty, bootBuiltins (tyN t) = some (.type (tyS t))
  | .int => by decide +kernel
  | .bool => by decide +kernel
  | .str => by decide +kernel
  | .tuple => by decide +kernel
  | .list => by decide +kernel
theorem ty_ne (t : Ty) : tyN t ≠ "__name__" ∧ (tyN t == ("__debug__" : Str)) = false := by cases t <;> decide
theorem isi_boot : bootBuiltins "isinstance" = some (.builtin "isinstance") := by decide +kernel
theorem snd_isi {t : Ty} {p p2 : Pos} (hg : Gl X "isinstance") (hm : X.mg "isinstance" = none) (hg2 : Gl X (tyN t)) (hm2 : X.mg (tyN t) = none) (ha : Snd X W a ma) (hs : nst a = true) : Snd X W (.Call (.Name "isinstance" p) [a, .Name (tyN t) p2] [] pos) (do
    let d ← look (← ma)
    let b ← M.of (isiD t d)
    pure (.tmp true (.bl b))) := by
  have pt : PE X (.Name (tyN t) p2) (tC (.ty (tyS t))) := pe_bltn hg2 hm2 (ty_boot t) rfl (ty_ne t).1 (ty_ne t).2
  have pa : PA X [a, .Name (tyN t) p2] (tCons (SM kRef X.K W ma) (tCons (tC (.ty (tyS t))) tNil)) := pa_cons ha.pe (pa_cons pt pa_nil) (star_of hs)
  refine Snd.val (pe_callB (cb_isi t) hg hm isi_boot pa (by decide) (by decide) (star_of hs) rfl) (fun _ => rfl) (fun _ _ _ h => nomatch h) fun σ H Q ⟨g, hv, w, o⟩ => ?_
  subst hv
  refine ⟨g, rfl, w, o.bind kRef fun g1 b1 H1 v1 s1 e1 o1 => ?_⟩
  obtain ⟨d, hd, o1⟩ := Out.look o1 s1.wd (s1.gw w) (fun e he => he) e1
  obtain ⟨c, ec, o1⟩ := o1.of
  exact ⟨g1.ce, v1, d, c, rfl, hd, ec, Out.flat (d := .bl c) o1 s1 rfl⟩
/-! ### list(range(..)) -/
theorem rng_len (l h : Int) : (rngD l h).length = (h - l).toNat := by unfold rngD; rw [List.length_map, List.length_range]
theorem rg_av (l h : Int) : ((List.range (h - l).toNat).map fun i => AV.int (l + (i : Nat))).map AV.d = rngD l h ∧ ((List.range (h - l).toNat).map fun i => AV.int (l + (i : Nat))).map AV.v = rgV l h := by
  constructor
  · unfold rngD; rw [List.map_map]; rfl
  · unfold rgV; rw [List.map_map]; rfl
theorem rg_flat (l h : Int) : D.noLL (rngD l h) = true := D.noLL_iff.mpr fun d hd => by
  obtain ⟨i, _, rfl⟩ := List.mem_map.mp hd
  rfl
theorem newRg {K : PySem.W.Frag} {H H2 : Hp} {g g2 : GA} {rs : List En} {l h : Int} {Q : VK} (o : Out kRef K W H g (some (.ok (.tmp true (.lst (rngD l h))) g2.d)) Q) (s : GSt K H g H2 g2 rs) : ∀ q, H2 q = none → Q (.ref q) (upd H2 q (.lst (rgV l h))) := by
  have := Out.newL (xs := (List.range (h - l).toNat).map fun i => AV.int (l + (i : Nat))) o s (fun x hx => by
    obtain ⟨i, _, rfl⟩ := List.mem_map.mp hx
    trivial) (rg_av l h).1 (rg_flat l h)
  rw [(rg_av l h).2] at this
  exact this
theorem snd_lrng1 {p p2 pos2 : Pos} (hc : X.calm = true) (hg : Gl X "list") (hm : X.mg "list" = none) (hg2 : Gl X "range") (hm2 : X.mg "range" = none) (ha : Snd X W a ma) (hs : nst a = true) : Snd X W (.Call (.Name "list" p) [.Call (.Name "range" p2) [a] [] pos2] [] pos) (do
    let n ← asI (← ma)
    if range62 n && decide (n.toNat ≤ 2 ^ 24) then pure (.tmp true (.lst (rngD 0 n))) else M.fail) := by
  refine Snd.val (pe_listRg hc hg hm (prg_1 hg2 hm2 ha.pe (star_of hs))) (fun _ => rfl) (fun _ _ _ h => nomatch h) fun σ H Q ⟨g, hv, w, o⟩ => ?_
  subst hv
  refine ⟨g, rfl, w, o.bind kRef fun g1 b1 H1 v1 s1 e1 o1 => ?_⟩
  obtain ⟨i, rfl, o1⟩ := Out.asI o1 s1.wd (s1.gw w) (fun e he => he) e1
  by_cases hr : (range62 i && decide (i.toNat ≤ 2 ^ 24)) = true
  case neg => rw [if_neg hr] at o1; exact o1.elim
  rw [if_pos hr] at o1
  simp only [range62, veil_eq, Bool.and_eq_true, decide_eq_true_eq] at hr
  refine ⟨i, rfl, ⟨by decide, by decide, hr.1.1, hr.1.2, by rw [Int.sub_zero]; exact hr.2⟩, newRg o1 s1⟩
theorem snd_lrng2 {p p2 pos2 : Pos} (hc : X.calm = true) (hg : Gl X "list") (hm : X.mg "list" = none) (hg2 : Gl X "range") (hm2 : X.mg "range" = none) (ha : Snd X W a ma) (hb : Snd X W b mb) (hs : nst a = true) (hs2 : nst b = true) : Snd X W (.Call (.Name "list" p) [.Call (.Name "range" p2) [a, b] [] pos2] [] pos) (do
    let l ← asI (← ma)
    let h ← asI (← mb)
    if range62 l && range62 h && decide ((h - l).toNat ≤ 2 ^ 24) then pure (.tmp true (.lst (rngD l h))) else M.fail) := by
  refine Snd.val (pe_listRg hc hg hm (prg_2 hg2 hm2 ha.pe hb.pe (star_of hs) (star_of hs2) (star_any (es := [b]) (by rw [nstL, hs2]; rfl)))) (fun _ => rfl) (fun _ _ _ h => nomatch h) fun σ H Q ⟨g, hv, w, o⟩ => ?_
  subst hv
  refine ⟨g, rfl, w, o.bind kRef fun g1 b1 H1 v1 s1 e1 o1 => ?_⟩
  obtain ⟨i, rfl, o1⟩ := Out.asI o1 s1.wd (s1.gw w) (fun e he => he) e1
  refine ⟨g1, s1.vs, s1.gw w, o1.bindL kRef s1 fun g2 b2 H2 v2 s2 e2 o2 => ?_⟩
  have s12 := s1.trans s2
  obtain ⟨j, rfl, o2⟩ := Out.asI o2 s12.wd (s12.gw w) (fun e he => he) e2
  by_cases hr : (range62 i && range62 j && decide ((j - i).toNat ≤ 2 ^ 24)) = true
  case neg => rw [if_neg hr] at o2; exact o2.elim
  rw [if_pos hr] at o2
  simp only [range62, veil_eq, Bool.and_eq_true, decide_eq_true_eq] at hr
  exact ⟨i, j, rfl, rfl, ⟨hr.1.1.1, hr.1.1.2, hr.1.2.1, hr.1.2.2, hr.2⟩, newRg o2 s12⟩
/-! ### methods that change nothing -/
theorem snd_bits {apos : Pos} (ha : Snd X W a ma) (hb : nbase a = true) (hl : (apos.endLine == pos.line) = true) : Snd X W (.Call (.Attribute a "bit_length" apos) [] [] pos) (do
    let r ← stab (← ma)
    let d0 ← look r
    if Me.bits.fit d0 then do
      let rs ← (pure [] : M (List Ref))
      let d ← peek r
      let ds ← peekL rs
      let x ← M.of (methD .bits d ds)
      pure (.tmp true x)
    else M.fail) := by
  refine Snd.val (pe_bits (se_stab ha.pe) (base_of hb) hl) (fun _ => rfl) (fun _ _ _ h => nomatch h) fun σ H Q ⟨g, hv, w, o⟩ => ?_
  subst hv
  rw [← M.assoc] at o
  refine ⟨g, rfl, w, o.bind kS fun g1 (b1 : RefB) H1 v1 s1 e1 o1 => ?_⟩
  have o1 : Out kRef X.K W H g ((Om.look b1.r >>= fun d0 => if Me.bits.fit d0 then (Om.peek b1.r >>= fun d => (M.of (methD .bits d []) >>= fun x => (pure (.tmp true x) : M Ref))) else M.fail) g1.d) Q := o1
  rw [← RefB.ar] at o1
  obtain ⟨d0, hd0, o2⟩ := Out.look (rs := b1.ens) o1 s1.wd (s1.gw w) (fun e he => by rw [RefB.aens] at he; exact he) (RefB.ais e1)
  by_cases hf : Me.bits.fit d0 = true
  case neg => rw [if_neg hf] at o2; exact o2.elim
  rw [if_pos hf] at o2
  obtain ⟨d, hd, o2⟩ := Out.peek (rs := b1.ens) o2 s1.wd (s1.gw w) (fun e he => by rw [RefB.aens] at he; exact he) (RefB.ais e1)
  obtain ⟨y, ey, o2⟩ := o2.of
  cases d with
  | int i =>
    cases ey
    exact ⟨i, hd.int, Out.flat (d := .int _) o2 s1 rfl⟩
  | _ => cases ey
/-! ### calls -/
theorem snd_call {T : Tab} {f : Str} {CA : Str → Addr} {Wx : WX} {k : Nat} {fa : Addr} {fd : FuncData} {ps : List Str} {p : Pos} (tk : Takes X Wx) (hW : ∀ c σ H, W c σ H → Wx (.ref (CA c)) none σ H)
    (F : FnOk X.prog X.w X.K X.mg X.base (L2.CX X.prog X.w) k fa fd ps (spT X.K CA (T.run f) (T.mask f))) (hr : Room k X.A) (hg : Gl X f) (hm : X.mg f = some (.ref fa)) (hk : PySem.W.keepIn X.K (.ref fa) = true) (hb : Binds X.K fd ps [])
    (hd : (f == ("__debug__" : Str)) = false) (ha : PA X (e :: es) (SM kL X.K W mA)) (hs : nstL (e :: es) = true) : Snd X W (.Call (.Name f p) (e :: es) [] pos) (do
    let rs ← mA
    callF T f rs) := by
  rw [nstL, Bool.and_eq_true] at hs
  refine Snd.val (pe_callS (E := WE Wx) F hr hg hm hk hb (fun σ => passAt tk σ) ha hd (star_of hs.1) (star_any hs.2)) (fun _ => rfl) (fun _ _ _ h => nomatch h) fun σ H Q ⟨g, hv, w, o⟩ => ?_
  subst hv
  refine ⟨g, rfl, w, o.bind kL fun g1 b1 H1 v1 s1 e1 o1 => ?_⟩
  exact Out.call o1 w s1 e1 fun c H' h => hW c _ _ h
end
end Om

/-! Om14: a list is written; locks. -/
namespace Om
open PySem PySem.Spec PyProof.Rows L2

/-! ### a list within a thing is changed -/
def putA : AV → List Int → List AV → Option AV
  | .lst a _, [], ys => some (.lst a ys)
  | .lst a xs, i :: is, ys => (ixN xs.length i).bind fun j => (xs[j]?).bind fun x => (putA x is ys).map fun x' => .lst a (xs.set j x')
  | .tup a xs, i :: is, ys => (ixN xs.length i).bind fun j => (xs[j]?).bind fun x => (putA x is ys).map fun x' => .tup a (xs.set j x')
  | _, _, _ => none
theorem putA_v : ∀ (is : List Int) {x x' : AV} {ys : List AV}, putA x is ys = some x' → x'.v = x.v
  | [], x, x', ys, h => by
    cases x <;> first | (cases h; rfl) | (simp [putA] at h)
  | i :: is, x, x', ys, h => by
    cases x with
    | tup a xs =>
      rw [putA] at h
      cases e : ixN xs.length i with
      | none => rw [e] at h; cases h
      | some j =>
        rw [e] at h; simp only [Option.bind_some] at h
        cases e2 : xs[j]? with
        | none => rw [e2] at h; cases h
        | some z =>
          rw [e2] at h; simp only [Option.bind_some] at h
          cases e3 : putA z is ys with
          | none => rw [e3] at h; cases h
          | some z' => rw [e3] at h; cases h; rfl
    | lst a xs =>
      rw [putA] at h
      cases e : ixN xs.length i with
      | none => rw [e] at h; cases h
      | some j =>
        rw [e] at h; simp only [Option.bind_some] at h
        cases e2 : xs[j]? with
        | none => rw [e2] at h; cases h
        | some z =>
          rw [e2] at h; simp only [Option.bind_some] at h
          cases e3 : putA z is ys with
          | none => rw [e3] at h; cases h
          | some z' => rw [e3] at h; cases h; rfl
    | _ => simp [putA] at h
/-- an item in the middle -/
theorem split_at {α : Type} {xs : List α} {j : Nat} {z : α} (h : xs[j]? = some z) : ∃ l r, xs = l ++ z :: r ∧ l.length = j ∧ ∀ w, xs.set j w = l ++ w :: r := by
  obtain ⟨hj, e⟩ := List.getElem?_eq_some_iff.mp h
  refine ⟨xs.take j, xs.drop (j + 1), ?_, by rw [List.length_take]; omega, fun w => ?_⟩
  · rw [← e, List.getElem_cons_drop]; exact (List.take_append_drop j xs).symm
  · rw [List.set_eq_take_append_cons_drop, if_pos hj]
theorem asL_app (l r : List AV) : AV.asL (l ++ r) = AV.asL l ++ AV.asL r := by rw [AV.asL_eq, AV.asL_eq, AV.asL_eq, List.flatMap_append]
section
variable {K : PySem.W.Frag} {H H2 H3 : Hp} {C : Ce} {a : Addr} {xs ys : List AV}
theorem okL_upd {zs : List AV} {o : HO} (hH : ∃ vs, H a = some (.lst vs)) (ok : ∀ z ∈ zs, z.ok K H C) (no : ∀ z ∈ zs, a ∉ z.as) : ∀ z ∈ zs, z.ok K (upd H a o) C := fun z hz =>
  AV.ok_keep (O := [a]) (fun b u e hb => by rw [upd_ne (by simpa using hb)]; exact e) (fun b hb => by cases List.mem_singleton.mp hb; exact hH) .refl z (ok z hz) fun b hb hm => by
    cases List.mem_singleton.mp hm; exact no z hz hb
/-- what the change makes of a thing -/
theorem putA_ok {N : List Addr} {o : HO} (ho : o = .lst (ys.map AV.v)) (hy : ∀ y ∈ ys, y.ok K (upd H a o) C) (hp : ∃ Z, (AV.asL xs ++ N).Perm (AV.asL ys ++ Z)) : ∀ (is : List Int) {x : AV}, x.at is = some (.lst a xs) → x.ok K H C → x.as.Nodup →
    ∃ x', putA x is ys = some x' ∧ putPath x.d is (ys.map AV.d) = some x'.d ∧ x'.ok K (upd H a o) C ∧ a ∈ x.as ∧ ∃ Z, (x.as ++ N).Perm (x'.as ++ Z)
  | [], x, h, ok, nd => by
    have h : some x = some (.lst a xs) := by cases x <;> exact h
    cases h
    refine ⟨.lst a ys, rfl, by rw [AV.d]; show some (D.lst (ys.map AV.d)) = _; rw [AV.d, AV.dL_eq], ?_, by rw [AV.as]; exact List.mem_cons_self, ?_⟩
    · rw [AV.ok]
      exact ⟨by rw [upd_same, ho], AV.okL_iff.mpr hy⟩
    · obtain ⟨Z, p⟩ := hp
      exact ⟨Z, by rw [AV.as, AV.as]; exact p.cons a⟩
  | i :: is, x, h, ok, nd => by
    have hHa : ∀ z : AV, z.ok K H C → a ∈ z.as → ∃ vs, H a = some (.lst vs) := fun z o m => AV.ok_as z o a m
    have go : ∀ ws : List AV, ws.Nodup ∨ True → (atI ws i).bind (fun y => y.at is) = some (.lst a xs) → (∀ w ∈ ws, w.ok K H C) → (AV.asL ws).Nodup →
        ∃ j z z', ixN ws.length i = some j ∧ ws[j]? = some z ∧ putA z is ys = some z' ∧ putPath z.d is (ys.map AV.d) = some z'.d ∧ (∀ w ∈ ws.set j z', w.ok K (upd H a o) C) ∧ (ws.set j z').map AV.v = ws.map AV.v ∧ a ∈ AV.asL ws ∧ ∃ Z, (AV.asL ws ++ N).Perm (AV.asL (ws.set j z') ++ Z) := by
      intro ws _ hat hok hnd
      unfold atI at hat
      cases e : ixN ws.length i with
      | none => rw [e] at hat; cases hat
      | some j =>
        rw [e] at hat; simp only [Option.bind_some] at hat
        cases e2 : ws[j]? with
        | none => rw [e2] at hat; cases hat
        | some z =>
          rw [e2] at hat; simp only [Option.bind_some] at hat
          obtain ⟨l, r, ews, _, hset⟩ := split_at e2
          have nz : (AV.asL l ++ (z.as ++ AV.asL r)).Nodup := by rw [ews, asL_app, AV.asL] at hnd; exact hnd
          obtain ⟨n1, n2, n3⟩ := List.nodup_append.mp nz
          obtain ⟨n4, n5, n6⟩ := List.nodup_append.mp n2
          have okz : z.ok K H C := hok z (List.mem_of_getElem? e2)
          obtain ⟨z', e3, e4, o', ma, Z, p⟩ := putA_ok ho hy hp is hat okz n4
          have hvs := hHa z okz ma
          refine ⟨j, z, z', rfl, e2, e3, e4, fun w hw => ?_, ?_, ?_, Z, ?_⟩
          · rw [hset] at hw
            rcases List.mem_append.mp hw with hw | hw
            · exact okL_upd (zs := l) hvs (fun q hq => hok q (by rw [ews]; exact List.mem_append_left _ hq)) (fun q hq hm => n3 a (mem_asL.mpr ⟨q, hq, hm⟩) a (List.mem_append_left _ ma) rfl) w hw
            · rcases List.mem_cons.mp hw with rfl | hw
              · exact o'
              · exact okL_upd (zs := r) hvs (fun q hq => hok q (by rw [ews]; exact List.mem_append_right _ (List.mem_cons_of_mem _ hq))) (fun q hq hm => n6 a ma a (mem_asL.mpr ⟨q, hq, hm⟩) rfl) w hw
          · rw [hset, ews, List.map_append, List.map_append, List.map_cons, List.map_cons, putA_v is e3]
          · rw [ews, asL_app, AV.asL]
            exact List.mem_append_right _ (List.mem_append_left _ ma)
          · rw [hset]
            have e5 : AV.asL ws = AV.asL l ++ (z.as ++ AV.asL r) := by rw [ews, asL_app, AV.asL]
            rw [e5, asL_app, AV.asL]
            -- (L ++ (z ++ r)) ++ N ~ (L ++ (z' ++ r)) ++ Z
            have q1 : ((AV.asL l ++ (z.as ++ AV.asL r)) ++ N).Perm (AV.asL l ++ (AV.asL r ++ (z.as ++ N))) := by
              rw [List.append_assoc]
              refine List.Perm.append_left _ ?_
              rw [List.append_assoc]
              exact List.perm_append_comm_assoc _ _ _
            have q2 : ((AV.asL l ++ (z'.as ++ AV.asL r)) ++ Z).Perm (AV.asL l ++ (AV.asL r ++ (z'.as ++ Z))) := by
              rw [List.append_assoc]
              refine List.Perm.append_left _ ?_
              rw [List.append_assoc]
              exact List.perm_append_comm_assoc _ _ _
            exact q1.trans ((List.Perm.append_left _ (List.Perm.append_left _ p)).trans q2.symm)
    cases x with
    | tup b ws =>
      have h : (atI ws i).bind (fun y => y.at is) = some (.lst a xs) := h
      rw [AV.as] at nd
      have ok0 := ok
      rw [AV.ok] at ok
      obtain ⟨j, z, z', e1, e2, e3, e4, o', ev, ma, Z, p⟩ := go ws (.inr trivial) h (AV.okL_iff.mp ok.2) nd
      have hvs : ∃ vs, H a = some (.lst vs) := hHa _ ok0 (by rw [AV.as]; exact ma)
      refine ⟨.tup b (ws.set j z'), ?_, ?_, ?_, by rw [AV.as]; exact ma, Z, by rw [AV.as, AV.as]; exact p⟩
      · rw [putA, e1]; simp only [Option.bind_some, e2, e3, Option.map_some]
      · rw [AV.d, AV.dL_eq, putPath, List.length_map, e1]
        simp only [Option.bind_some, List.getElem?_map, e2, Option.map_some, e4]
        rw [AV.d, AV.dL_eq, List.map_set]
      · rw [AV.ok, ev]
        refine ⟨sqT_keep (O := [a]) (fun c u e hb => by rw [upd_ne (by simpa using hb)]; exact e) (fun c hc => by cases List.mem_singleton.mp hc; exact hvs) ok.1, AV.okL_iff.mpr o'⟩
    | lst b ws =>
      have h : (atI ws i).bind (fun y => y.at is) = some (.lst a xs) := h
      rw [AV.as] at nd
      have ok0 := ok
      rw [AV.ok] at ok
      obtain ⟨nb, nd⟩ := List.nodup_cons.mp nd
      obtain ⟨j, z, z', e1, e2, e3, e4, o', ev, ma, Z, p⟩ := go ws (.inr trivial) h (AV.okL_iff.mp ok.2) nd
      have hba : b ≠ a := fun e => nb (e ▸ ma)
      refine ⟨.lst b (ws.set j z'), ?_, ?_, ?_, by rw [AV.as]; exact List.mem_cons_of_mem _ ma, Z, by rw [AV.as, AV.as]; exact p.cons b⟩
      · rw [putA, e1]; simp only [Option.bind_some, e2, e3, Option.map_some]
      · rw [AV.d, AV.dL_eq, putPath, List.length_map, e1]
        simp only [Option.bind_some, List.getElem?_map, e2, Option.map_some, e4]
        rw [AV.d, AV.dL_eq, List.map_set]
      · rw [AV.ok, ev]
        exact ⟨by rw [upd_ne hba]; exact ok.1, AV.okL_iff.mpr o'⟩
    | scr b ns =>
      have h : (atI (ns.map AV.int) i).bind (fun y => y.at is) = some (.lst a xs) := h
      cases e : atI (ns.map AV.int) i with
      | none => rw [e] at h; cases h
      | some y =>
        rw [e] at h
        obtain ⟨n, _, rfl⟩ := List.mem_map.mp (atI_mem e)
        cases is <;> cases h
    | _ => cases h
end
section
variable {K : PySem.W.Frag} {H H2 : Hp} {L R rs : List En} {C C2 : Ce} {a : Addr} {x x' : AV} {o : HO}
/-- a list of an owned thing is written; the new parts go into it -/
theorem Stp.write (s : Stp K H L C H2 ((true, x) :: (R ++ rs)) C2) (ma : a ∈ x.as) (ok' : x'.ok K (upd H2 a o) C2) (fr : ∀ e ∈ rs, fresh1 e = true) (hp : ∃ Z, (x.as ++ AV.asL (rs.map (·.2))).Perm (x'.as ++ Z)) :
    Stp K H L C (upd H2 a o) ((true, x') :: R) C2 := by
  obtain ⟨Z, p⟩ := hp
  obtain ⟨f1, f2⟩ := fresh_own fr
  rw [f1] at p
  have okx := s.wd.ok (true, x) List.mem_cons_self
  have hvs : ∃ vs, H2 a = some (.lst vs) := AV.ok_as x okx a ma
  have e1 : Om.own ((true, x) :: (R ++ rs)) = x.as ++ (Om.own R ++ Om.own rs) := by show x.as ++ Om.own (R ++ rs) = _; rw [own_app]
  have e2 : Om.own ((true, x') :: R) = x'.as ++ Om.own R := rfl
  have e3 : Om.shr ((true, x) :: (R ++ rs)) = Om.shr R := by show [] ++ Om.shr (R ++ rs) = _; rw [shr_app, f2]; simp
  have e4 : Om.shr ((true, x') :: R) = Om.shr R := rfl
  have aO : a ∈ Om.own ((true, x) :: (R ++ rs)) := by rw [e1]; exact List.mem_append_left _ ma
  have pO : (Om.own ((true, x) :: (R ++ rs)) ++ ceA C2).Perm ((Om.own ((true, x') :: R) ++ ceA C2) ++ Z) := by
    rw [e1, e2]
    have q : (x.as ++ (Om.own R ++ Om.own rs)).Perm ((x.as ++ Om.own rs) ++ Om.own R) := by
      rw [List.append_assoc]
      exact List.Perm.append_left _ List.perm_append_comm
    have q2 : ((x.as ++ Om.own rs) ++ Om.own R).Perm ((x'.as ++ Om.own R) ++ Z) := by
      refine (p.append_right _).trans ?_
      rw [List.append_assoc, List.append_assoc]
      exact List.Perm.append_left _ List.perm_append_comm
    refine ((q.trans q2).append_right _).trans ?_
    rw [List.append_assoc, List.append_assoc (x'.as ++ Om.own R)]
    exact List.Perm.append_left _ List.perm_append_comm
  have nd2 := pO.nodup_iff.mp s.wd.nd
  have sub : ∀ b, b ∈ Om.own ((true, x') :: R) ++ ceA C2 → b ∈ Om.own ((true, x) :: (R ++ rs)) ++ ceA C2 := fun b hb => pO.mem_iff.mpr (List.mem_append_left _ hb)
  have ap : ∀ e ∈ R, a ∉ e.2.as := fun e he hm => by
    have w : Wd K H2 ([(true, x)] ++ (R ++ rs)) C2 := s.wd
    exact w.apart e (List.mem_append_left _ he) a hm (List.mem_append_left _ (by show a ∈ x.as ++ []; rw [List.append_nil]; exact ma))
  have kp : Keep [a] H2 (upd H2 a o) := fun b u e hb => by rw [upd_ne (by simpa using hb)]; exact e
  have kl : ∀ b ∈ [a], ∃ vs, H2 b = some (.lst vs) := fun b hb => by cases List.mem_singleton.mp hb; exact hvs
  have aL : a ∈ Om.own L ++ ceA C ∨ H a = none := s.own a (List.mem_append_left _ aO)
  refine ⟨⟨fun e he => ?_, (List.nodup_append.mp nd2).1, fun b hb hm => ?_, fun q hq => ?_⟩, fun b u hb no => ?_, fun b hb => ?_, fun b hb => ?_, fun b hb => s.own b (sub b hb), s.ext⟩
  · rcases List.mem_cons.mp he with rfl | he
    · exact ok'
    · exact AV.ok_keep kp kl .refl e.2 (s.wd.ok e (List.mem_cons_of_mem _ (List.mem_append_left _ he))) fun b hb hm => by
        cases List.mem_singleton.mp hm; exact ap e he hb
  · exact s.wd.sh b (by rw [e3]; rw [e4] at hb; exact hb) (sub b hm)
  · have c := s.wd.ce q hq
    have hqa : q.1 ≠ a := fun e => by
      have nd := s.wd.nd
      exact (List.nodup_append.mp nd).2.2 a aO q.1 (List.mem_map.mpr ⟨q, hq, rfl⟩) e.symm
    refine ⟨by rw [upd_ne hqa]; exact c.1, fun y hy => ⟨AV.ok_keep kp kl .refl y (c.2 y hy).1 fun b hb => ?_, (c.2 y hy).2⟩⟩
    rw [(c.2 y hy).2] at hb; cases hb
  · have hba : b ≠ a := fun e => by
      subst e
      rcases aL with z | z
      · exact no z
      · rw [hb] at z; cases z
    rw [upd_ne hba]
    exact s.keep b u hb no
  · by_cases hba : b = a
    · subst hba; rw [upd_same] at hb; cases hb
    · rw [upd_ne hba] at hb; exact s.dom b hb
  · refine s.all b ?_
    simp only [List.mem_append] at hb ⊢
    rcases hb with h | h | h
    · exact (List.mem_append.mp (sub b (List.mem_append_left _ h))).elim .inl fun z => .inr (.inr z)
    · exact .inr (.inl (by rw [e3]; rw [e4] at h; exact h))
    · exact .inr (.inr h)
/-- a cell is written -/
theorem Stp.writeC {n : Nat} {ys zs : List AV} (s : Stp K H L C H2 R C2) (hn : C2[n]? = some (a, zs)) (hy : ∀ y ∈ ys, y.ok K H2 C2 ∧ y.as = []) : Stp K H L C (upd H2 a (.lst (ys.map AV.v))) R (C2.set n (a, ys)) := by
  have ec : ceA (C2.set n (a, ys)) = ceA C2 := by
    unfold ceA
    rw [List.map_set]
    refine set_same ?_
    rw [List.getElem?_map, hn]; rfl
  have ext : CeExt C2 (C2.set n (a, ys)) := fun m b h => by
    show (ceA (C2.set n (a, ys)))[m]? = _
    rw [ec]; exact h
  have ma : a ∈ ceA C2 := List.mem_map.mpr ⟨(a, zs), List.mem_of_getElem? hn, rfl⟩
  have hvs : ∃ vs, H2 a = some (.lst vs) := ⟨_, (s.wd.ce _ (List.mem_of_getElem? hn)).1⟩
  have kp : Keep [a] H2 (upd H2 a (.lst (ys.map AV.v))) := fun b u e hb => by rw [upd_ne (by simpa using hb)]; exact e
  have kl : ∀ b ∈ [a], ∃ vs, H2 b = some (.lst vs) := fun b hb => by cases List.mem_singleton.mp hb; exact hvs
  have noO : a ∉ Om.own R := fun h => (List.nodup_append.mp s.wd.nd).2.2 a h a ma rfl
  have noS : a ∉ Om.shr R := fun h => s.wd.sh a h (List.mem_append_right _ ma)
  have aL : a ∈ Om.own L ++ ceA C ∨ H a = none := s.own a (List.mem_append_right _ ma)
  refine ⟨⟨fun e he => ?_, by rw [ec]; exact s.wd.nd, by rw [ec]; exact s.wd.sh, fun q hq => ?_⟩, fun b u hb no => ?_, fun b hb => ?_, by rw [ec]; exact s.all, by rw [ec]; exact s.own, s.ext.trans ext⟩
  · refine AV.ok_keep kp kl ext e.2 (s.wd.ok e he) fun b hb hm => ?_
    cases List.mem_singleton.mp hm
    cases q : e.1 with
    | true => exact noO (mem_own.mpr ⟨e, he, q, hb⟩)
    | false => exact noS (mem_shr.mpr ⟨e, he, q, hb⟩)
  · rcases List.mem_or_eq_of_mem_set hq with h | rfl
    · have c := s.wd.ce q h
      by_cases hqa : q.1 = a
      · -- another entry at the same place cannot be; but then it is the changed one
        obtain ⟨m, hm⟩ := List.getElem?_of_mem hq
        rw [List.getElem?_set] at hm
        split at hm
        · rename_i hnm
          split at hm
          · cases hm
            exact ⟨upd_same, fun x hx => ⟨AV.ok_keep kp kl ext x (hy x hx).1 (fun b hb => by rw [(hy x hx).2] at hb; cases hb), (hy x hx).2⟩⟩
          · cases hm
        · rename_i hnm
          exfalso
          have nd := (List.nodup_append.mp s.wd.nd).2.1
          have g1 : (ceA C2)[m]? = some a := by unfold ceA; rw [List.getElem?_map, hm]; exact congrArg some hqa
          have g2 : (ceA C2)[n]? = some a := by unfold ceA; rw [List.getElem?_map, hn]; rfl
          obtain ⟨k1, l1⟩ := List.getElem?_eq_some_iff.mp g1
          obtain ⟨k2, l2⟩ := List.getElem?_eq_some_iff.mp g2
          exact hnm ((List.getElem_inj nd).mp (l2.trans l1.symm))
      · refine ⟨by rw [upd_ne hqa]; exact c.1, fun y hy' => ⟨AV.ok_keep kp kl ext y (c.2 y hy').1 fun b hb => ?_, (c.2 y hy').2⟩⟩
        rw [(c.2 y hy').2] at hb; cases hb
    · exact ⟨upd_same, fun x hx => ⟨AV.ok_keep kp kl ext x (hy x hx).1 (fun b hb => by rw [(hy x hx).2] at hb; cases hb), (hy x hx).2⟩⟩
  · have hba : b ≠ a := fun e => by
      subst e
      rcases aL with z | z
      · exact no z
      · rw [hb] at z; cases z
    rw [upd_ne hba]
    exact s.keep b u hb no
  · by_cases hba : b = a
    · subst hba; rw [upd_same] at hb; cases hb
    · rw [upd_ne hba] at hb; exact s.dom b hb
end
end Om

/-! Om15: methods that change a list. -/
namespace Om
open PySem PySem.Spec PyProof.Rows L2

/-! ### what a method makes -/
noncomputable def mutA : Mu → List AV → List AV → Option (List AV × AV)
  | .append, xs, [x] => if decide (xs.length < 16777216) then some (xs ++ [x], .non) else none
  | .insert, xs, [.int i, x] => if decide (xs.length < 16777216) && decide (0 ≤ i ∧ i < 2 ^ 63) then some (xs.take i.toNat ++ x :: xs.drop i.toNat, .non) else none
  | .extend, xs, [.lst _ zs] => if fits (xs.length + zs.length) && D.noLL (zs.map AV.d) then some (xs ++ zs, .non) else none
  | .extend, xs, [.tup _ zs] => if fits (xs.length + zs.length) && D.noLL (zs.map AV.d) then some (xs ++ zs, .non) else none
  | .pop, xs, [] => match xs[xs.length - 1]? with
    | some x => if x.d.noL then some (xs.dropLast, x) else none
    | none => none
  | .reverse, xs, [] => some (xs.reverse, .non)
  | .clear, _, [] => some ([], .non)
  | _, _, _ => none
theorem d_int {x : AV} {i : Int} (h : x.d = .int i) : x = .int i := by
  cases x <;> first | (rw [AV.d] at h; cases h; rfl) | (rw [AV.d] at h; cases h)
theorem d_lst {x : AV} {ds : List D} (h : x.d = .lst ds) : ∃ a xs, x = .lst a xs ∧ xs.map AV.d = ds := by
  cases x with
  | lst a xs => rw [AV.d, AV.dL_eq] at h; cases h; exact ⟨a, xs, rfl, rfl⟩
  | _ => rw [AV.d] at h; cases h
theorem map_one {α β : Type} {f : α → β} {l : List α} {b : β} (h : l.map f = [b]) : ∃ a, l = [a] ∧ f a = b := by
  cases l with
  | nil => cases h
  | cons a t => cases t with
    | nil => cases h; exact ⟨a, rfl, rfl⟩
    | cons _ _ => cases h
theorem map_two {α β : Type} {f : α → β} {l : List α} {b c : β} (h : l.map f = [b, c]) : ∃ a a', l = [a, a'] ∧ f a = b ∧ f a' = c := by
  cases l with
  | nil => cases h
  | cons a t => cases t with
    | nil => cases h
    | cons a' t' => cases t' with
      | nil => cases h; exact ⟨a, a', rfl, rfl, rfl⟩
      | cons _ _ => cases h
theorem mutA_d {m : Mu} {xs es : List AV} {yd : List D} {rd : D} (h : mutD m (xs.map AV.d) (es.map AV.d) = some (yd, rd)) : ∃ ys r, mutA m xs es = some (ys, r) ∧ ys.map AV.d = yd ∧ r.d = rd := by
  cases m with
  | append =>
    cases es with
    | nil => cases h
    | cons x t =>
      cases t with
      | cons _ _ => cases h
      | nil =>
        rw [List.map_cons, List.map_nil, mutD, List.length_map] at h
        by_cases hc : decide (xs.length < 16777216) = true
        · rw [if_pos hc] at h; cases h
          exact ⟨xs ++ [x], .non, by rw [mutA, if_pos hc], by simp, rfl⟩
        · rw [if_neg hc] at h; cases h
  | insert =>
    cases es with
    | nil => cases h
    | cons y t =>
      cases t with
      | nil => cases y <;> cases h
      | cons x t =>
        cases t with
        | cons _ _ => cases y <;> cases h
        | nil =>
          cases y with
          | int i =>
            rw [List.map_cons, List.map_cons, List.map_nil, AV.d, mutD, List.length_map] at h
            by_cases hc : (decide (xs.length < 16777216) && decide (0 ≤ i ∧ i < 2 ^ 63)) = true
            · rw [if_pos hc] at h; cases h
              exact ⟨xs.take i.toNat ++ x :: xs.drop i.toNat, .non, by rw [mutA, if_pos hc], by simp [List.map_take, List.map_drop], rfl⟩
            · rw [if_neg hc] at h; cases h
          | _ => cases h
  | extend =>
    cases es with
    | nil => cases h
    | cons y t =>
      cases t with
      | cons _ _ => cases y <;> cases h
      | nil =>
        cases y with
        | lst b zs =>
          rw [List.map_cons, List.map_nil, AV.d, AV.dL_eq, mutD, List.length_map, List.length_map] at h
          by_cases hc : (fits (xs.length + zs.length) && D.noLL (zs.map AV.d)) = true
          · rw [if_pos hc] at h; cases h
            exact ⟨xs ++ zs, .non, by rw [mutA, if_pos hc], by simp, rfl⟩
          · rw [if_neg hc] at h; cases h
        | tup b zs =>
          rw [List.map_cons, List.map_nil, AV.d, AV.dL_eq, mutD, List.length_map, List.length_map] at h
          by_cases hc : (fits (xs.length + zs.length) && D.noLL (zs.map AV.d)) = true
          · rw [if_pos hc] at h; cases h
            exact ⟨xs ++ zs, .non, by rw [mutA, if_pos hc], by simp, rfl⟩
          · rw [if_neg hc] at h; cases h
        | _ => cases h
  | pop =>
    cases es with
    | cons _ _ => cases h
    | nil =>
      rw [List.map_nil, mutD, List.length_map, List.getElem?_map] at h
      cases e : xs[xs.length - 1]? with
      | none => rw [e] at h; cases h
      | some x =>
        rw [e] at h
        simp only [Option.map_some] at h
        by_cases hc : x.d.noL = true
        · rw [if_pos hc] at h; cases h
          exact ⟨xs.dropLast, x, by rw [mutA, e]; exact if_pos hc, by rw [List.map_dropLast], rfl⟩
        · rw [if_neg hc] at h; cases h
  | popAt => cases h
  | reverse =>
    cases es with
    | cons _ _ => cases h
    | nil => cases h; exact ⟨xs.reverse, .non, rfl, by rw [List.map_reverse], rfl⟩
  | clear =>
    cases es with
    | cons _ _ => cases h
    | nil => cases h; exact ⟨[], .non, rfl, rfl, rfl⟩
theorem asL_noL {zs : List AV} (h : D.noLL (zs.map AV.d) = true) : AV.asL zs = [] := AV.asL_noL zs (by rw [AV.dL_eq]; exact h)
/-- the parts of what is made -/
theorem mutA_parts {K : PySem.W.Frag} {H : Hp} {C : Ce} {m : Mu} {xs es ys : List AV} {r : AV} (h : mutA m xs es = some (ys, r)) (hx : ∀ x ∈ xs, x.ok K H C) (he : ∀ x ∈ es, x.ok K H C) :
    (∀ y ∈ ys, y.ok K H C ∧ ∀ a ∈ y.as, a ∈ AV.asL xs ∨ a ∈ AV.asL es) ∧ r.ok K H C ∧ r.as = [] ∧ ∃ Z, (AV.asL xs ++ AV.asL es).Perm (AV.asL ys ++ Z) := by
  have old : ∀ y ∈ xs, y.ok K H C ∧ ∀ a ∈ y.as, a ∈ AV.asL xs ∨ a ∈ AV.asL es := fun y hy => ⟨hx y hy, fun a ha => .inl (mem_asL.mpr ⟨y, hy, ha⟩)⟩
  have new : ∀ y ∈ es, y.ok K H C ∧ ∀ a ∈ y.as, a ∈ AV.asL xs ∨ a ∈ AV.asL es := fun y hy => ⟨he y hy, fun a ha => .inr (mem_asL.mpr ⟨y, hy, ha⟩)⟩
  cases m with
  | append =>
    cases es with
    | nil => cases h
    | cons x t =>
      cases t with
      | cons _ _ => cases h
      | nil =>
        rw [mutA] at h
        split at h
        · cases h
          refine ⟨fun y hy => (List.mem_append.mp hy).elim (old y) fun z => by cases List.mem_singleton.mp z; exact new x List.mem_cons_self, trivial, rfl, [], ?_⟩
          rw [asL_app, List.append_nil]
        · cases h
  | insert =>
    cases es with
    | nil => cases h
    | cons y t =>
      cases t with
      | nil => cases y <;> cases h
      | cons x t =>
        cases t with
        | cons _ _ => cases y <;> cases h
        | nil =>
          cases y with
          | int i =>
            rw [mutA] at h
            split at h
            · cases h
              refine ⟨fun y hy => ?_, trivial, rfl, [], ?_⟩
              · rcases List.mem_append.mp hy with h | h
                · exact old y (List.mem_of_mem_take h)
                · rcases List.mem_cons.mp h with rfl | h
                  · exact new y (List.mem_cons_of_mem _ List.mem_cons_self)
                  · exact old y (List.mem_of_mem_drop h)
              · have e : AV.asL xs = AV.asL (xs.take i.toNat) ++ AV.asL (xs.drop i.toNat) := by rw [← asL_app, List.take_append_drop]
                have e0 : (AV.int i).as = [] := rfl
                rw [List.append_nil, asL_app, e, AV.asL, AV.asL, AV.asL, AV.asL, e0, List.append_nil, List.nil_append, List.append_assoc]
                exact List.Perm.append_left _ List.perm_append_comm
            · cases h
          | _ => cases h
  | extend =>
    cases es with
    | nil => cases h
    | cons y t =>
      cases t with
      | cons _ _ => cases y <;> cases h
      | nil =>
        cases y with
        | lst b zs =>
          rw [mutA] at h
          split at h
          · rename_i hc
            cases h
            rw [Bool.and_eq_true] at hc
            have okz := he _ List.mem_cons_self
            rw [AV.ok] at okz
            refine ⟨fun y hy => ?_, trivial, rfl, AV.asL [AV.lst b zs], ?_⟩
            · rcases List.mem_append.mp hy with h | h
              · exact old y h
              · refine ⟨AV.okL_iff.mp okz.2 y h, fun a ha => ?_⟩
                rw [AV.as_noL y (D.noLL_iff.mp hc.2 _ (List.mem_map.mpr ⟨y, h, rfl⟩))] at ha
                cases ha
            · rw [asL_app, asL_noL hc.2, List.append_nil]
          · cases h
        | tup b zs =>
          rw [mutA] at h
          split at h
          · rename_i hc
            cases h
            rw [Bool.and_eq_true] at hc
            have okz := he _ List.mem_cons_self
            rw [AV.ok] at okz
            refine ⟨fun y hy => ?_, trivial, rfl, AV.asL [AV.tup b zs], ?_⟩
            · rcases List.mem_append.mp hy with h | h
              · exact old y h
              · refine ⟨AV.okL_iff.mp okz.2 y h, fun a ha => ?_⟩
                rw [AV.as_noL y (D.noLL_iff.mp hc.2 _ (List.mem_map.mpr ⟨y, h, rfl⟩))] at ha
                cases ha
            · rw [asL_app, asL_noL hc.2, List.append_nil]
          · cases h
        | _ => cases h
  | pop =>
    cases es with
    | cons _ _ => cases h
    | nil =>
      rw [mutA] at h
      cases e : xs[xs.length - 1]? with
      | none => rw [e] at h; cases h
      | some x =>
        rw [e] at h
        dsimp only at h
        split at h
        · rename_i hc
          cases h
          have hm := List.mem_of_getElem? e
          refine ⟨fun y hy => old y (List.dropLast_subset _ hy), hx r hm, AV.as_noL r hc, r.as, ?_⟩
          have hne : xs ≠ [] := fun z => by subst z; cases hm
          have hl : xs.getLast hne = r := by
            rw [List.getLast_eq_getElem]
            obtain ⟨k1, k2⟩ := List.getElem?_eq_some_iff.mp e
            exact k2
          have : xs = xs.dropLast ++ [r] := by rw [← hl]; exact (List.dropLast_concat_getLast hne).symm
          rw [AV.asL, List.append_nil]
          conv => lhs; rw [this, asL_app, AV.asL, AV.asL, List.append_nil]
        · cases h
  | popAt => cases h
  | reverse =>
    cases es with
    | cons _ _ => cases h
    | nil =>
      cases h
      refine ⟨fun y hy => old y (List.mem_reverse.mp hy), trivial, rfl, [], ?_⟩
      rw [List.append_nil, AV.asL, List.append_nil, AV.asL_eq, AV.asL_eq]
      exact List.Perm.flatMap_right _ (List.reverse_perm xs).symm
  | clear =>
    cases es with
    | cons _ _ => cases h
    | nil =>
      cases h
      exact ⟨fun y hy => (nomatch hy), trivial, rfl, AV.asL xs ++ AV.asL [], .refl _⟩

/-! ### the model's methods -/
def rMu (K : PySem.W.Frag) (m : Mu) : V → List V → Hp → VK → Prop := fun x vs H Q => ∃ (C : Ce) (l : Addr) (xs es ys : List AV) (r : AV), x = .ref l ∧ H l = some (.lst (xs.map AV.v)) ∧ vs = es.map AV.v ∧ (∀ e ∈ es, e.ok K H C) ∧ mutA m xs es = some (ys, r) ∧
  Q r.v (upd H l (.lst (ys.map AV.v)))
theorem list_extend_tup (l : Addr) (items : Array Value) (n : Nat) (b : Addr) (items2 : Array Value) (n2 : Nat) (dd : Option Addr) (sl : Array (Option Value)) (hs0 : ¬(!items.isEmpty && Builtin.List.listTooLong (items.size + items2.size)) = true) (hs1 : items.size ≤ sizeLine) (hs2 : items.size + items2.size ≤ sizeLine + 1) :
    Meets (Builtin.«list.extend» ⟨[.ref l, .ref b], []⟩) (fun _ R s => s.heap.get? l = some { cls := .type "list", dict := none, data := .seq items n, slots := #[] } ∧ s.heap.get? b = some { cls := .type "tuple", dict := dd, data := .seq items2 n2, slots := sl } ∧ R (.ok (.ret Value.none)) { s with heap := s.heap.update l (Obj.mapSeq fun x => x ++ items2), toks := s.toks }) :=
  .of_wp fun prog w A R s h => by
    obtain ⟨hp, g, d, tk, os⟩ := s; obtain ⟨hl, hb, h⟩ := h; have f1 := AutoSeq1.idx_int; have f2 := AutoSeq1.sub_tuple_tuple; have f3 := AutoSeq1.sub_list_list; have f4 := AutoSeq1.sub_tuple_list; have f5 := AutoSeq1.sub_list_tuple;
    have hz' : (items ++ items2).size ≤ sizeLine + 1 := by rw [Array.size_append]; exact hs2
    wp_walk using (wpAny_updateSeq hl rfl (hz := hs1) (_hz' := hz')), AutoSeq1.wpAny_loadPart' hl, AutoSeq1.wpAny_loadPart' hb; exact ⟨_, rfl, h⟩
/-- a tuple's things are put behind -/
def rExtendT (K : PySem.W.Frag) : V → List V → Hp → VK → Prop := fun x vs H Q => ∃ l b xs zs, x = .ref l ∧ vs = [.ref b] ∧ H l = some (.lst xs) ∧ SqT K H b zs ∧ xs.length + zs.length ≤ sizeLine ∧ Q .non (upd H l (.lst (xs ++ zs)))
theorem mt_extendT {X : Cx} : MtM X "list.extend" (rExtendT X.K) := by
  intro pins s σ H x vs v us Q I rx rv h
  obtain ⟨l, b, xs, zs, rfl, rfl, hH, hB, hz, q⟩ := h
  cases rx
  obtain ⟨u, rfl, ru⟩ := rv.one
  cases ru
  obtain ⟨z, its, n, r, hl, e⟩ := I.lstM hH
  obtain ⟨its2, r2, ht, _⟩ := I.tuple hB
  obtain ⟨⟨oc, od, odt, osl⟩, e2, c2, n2, d2⟩ := ht
  dsimp only at c2 d2
  subst c2 d2
  have hl2 := r2.length
  have hsz : its.toArray.size + its2.toArray.size ≤ sizeLine := by rw [List.size_toArray, List.size_toArray]; omega
  have hlong : ¬ (!its.toArray.isEmpty && Builtin.List.listTooLong (its.toArray.size + its2.toArray.size)) = true := by
    rw [notLongL hsz, Bool.and_false]
    exact Bool.false_ne_true
  refine call_meets F.slot_list_extend ⟨_, e, rfl⟩ F.entry_list_extend (F.args_list_extend_2 _ _)
    (list_extend_tup l its.toArray n b its2.toArray n2 _ _ hlong (by rw [List.size_toArray]; omega) (by omega)) ⟨e, e2, ?_⟩
  refine ⟨.non, _, I.lset (its' := its ++ its2) hH e (by simp) (r.append r2) ?_, rfl, q⟩
  rw [List.length_append]
  omega
def muN : Mu → Str
  | .append => "append" | .extend => "extend" | .insert => "insert" | .pop => "pop" | .popAt => "pop" | .reverse => "reverse" | .clear => "clear"
def muS : Mu → String
  | .append => "list.append" | .extend => "list.extend" | .insert => "list.insert" | .pop => "list.pop" | .popAt => "list.pop" | .reverse => "list.reverse" | .clear => "list.clear"
theorem lt_line {n : Nat} (h : n < 16777216) : n < sizeLine := by rw [sizeLine_eq]; exact h
theorem mt_mu {X : Cx} (m : Mu) : MtR X (muS m) (rMu X.K m) := by
  intro pins s σ H x vs v us Q I rx rv h
  obtain ⟨C, l, xs, es, ys, r, rfl, hH, rfl, he, hm, q⟩ := h
  cases m with
  | append =>
    cases es with
    | nil => cases hm
    | cons y t =>
      cases t with
      | cons _ _ => cases hm
      | nil =>
        rw [mutA] at hm
        split at hm
        · rename_i hc
          cases hm
          refine mt_append pins s σ H _ _ v us Q I rx rv ⟨l, _, y.v, rfl, rfl, hH, lt_line (by rw [List.length_map]; exact of_decide_eq_true hc), ?_⟩
          rw [List.map_append] at q; exact q
        · cases hm
  | insert =>
    cases es with
    | nil => cases hm
    | cons y t =>
      cases t with
      | nil => cases y <;> cases hm
      | cons z t =>
        cases t with
        | cons _ _ => cases y <;> cases hm
        | nil =>
          cases y with
          | int i =>
            rw [mutA] at hm
            split at hm
            · rename_i hc
              cases hm
              simp only [Bool.and_eq_true, decide_eq_true_eq] at hc
              refine mt_insert pins s σ H _ _ v us Q I rx rv ⟨l, _, i, z.v, rfl, rfl, hH, lt_line (by rw [List.length_map]; exact hc.1), hc.2.1, hc.2.2, ?_⟩
              rw [List.map_append, List.map_cons, List.map_take, List.map_drop] at q
              rw [List.append_assoc]; exact q
            · cases hm
          | _ => cases hm
  | extend =>
    cases es with
    | nil => cases hm
    | cons y t =>
      cases t with
      | cons _ _ => cases y <;> cases hm
      | nil =>
        cases y with
        | lst b zs =>
          rw [mutA] at hm
          split at hm
          · rename_i hc
            cases hm
            rw [Bool.and_eq_true] at hc
            have okz := he _ List.mem_cons_self
            rw [AV.ok] at okz
            refine mt_extend pins s σ H _ _ v us Q I rx rv ⟨l, b, _, _, rfl, rfl, hH, okz.1, by rw [List.length_map, List.length_map]; exact fits_le hc.1, ?_⟩
            rw [List.map_append] at q; exact q
          · cases hm
        | tup b zs =>
          rw [mutA] at hm
          split at hm
          · rename_i hc
            cases hm
            rw [Bool.and_eq_true] at hc
            have okz := he _ List.mem_cons_self
            rw [AV.ok] at okz
            refine mt_extendT pins s σ H _ _ v us Q I rx rv ⟨l, b, _, _, rfl, rfl, hH, okz.1, by rw [List.length_map, List.length_map]; exact fits_le hc.1, ?_⟩
            rw [List.map_append] at q; exact q
          · cases hm
        | _ => cases hm
  | pop =>
    cases es with
    | cons _ _ => cases hm
    | nil =>
      rw [mutA] at hm
      cases e : xs[xs.length - 1]? with
      | none => rw [e] at hm; cases hm
      | some z =>
        rw [e] at hm
        dsimp only at hm
        split at hm
        · cases hm
          refine mt_pop pins s σ H _ _ v us Q I rx rv ⟨l, _, r.v, rfl, rfl, hH, by rw [List.length_map, List.getElem?_map, e]; rfl, ?_⟩
          rw [List.map_dropLast] at q; exact q
        · cases hm
  | popAt => cases hm
  | reverse =>
    cases es with
    | cons _ _ => cases hm
    | nil =>
      cases hm
      refine mt_reverse pins s σ H _ _ v us Q I rx rv ⟨l, _, rfl, rfl, hH, ?_⟩
      rw [List.map_reverse] at q; exact q
  | clear =>
    cases es with
    | cons _ _ => cases hm
    | nil =>
      cases hm
      exact mt_clear pins s σ H _ _ v us Q I rx rv ⟨l, _, rfl, rfl, hH, q⟩
theorem mu_slot : ∀ m : Mu, PySem.Slot "list" (muN m) (muS m) ∧ typeOf (.builtin (muS m)) = pure (.type "method_descriptor")
  | .append => ⟨PySem.F.slot_list_append, PySem.F.type_list_append⟩
  | .extend => ⟨PySem.F.slot_list_extend, PySem.F.type_list_extend⟩
  | .insert => ⟨PySem.F.slot_list_insert, PySem.F.type_list_insert⟩
  | .pop => ⟨PySem.F.slot_list_pop, PySem.F.type_list_pop⟩
  | .popAt => ⟨PySem.F.slot_list_pop, PySem.F.type_list_pop⟩
  | .reverse => ⟨PySem.F.slot_list_reverse, PySem.F.type_list_reverse⟩
  | .clear => ⟨PySem.F.slot_list_clear, PySem.F.type_list_clear⟩
end Om

/-! Om16: locks; a changing method, whole. -/
namespace Om
open PySem PySem.Spec PyProof.Rows L2

section
variable {K : PySem.W.Frag} {W : Str → St → Hp → Prop} {H H' H1 H2 : Hp} {g g' g1 g2 : GA} {rs rs' acc : List En} {α β γ δ : Type} {k : Kd α γ} {kk : Nat} {av : AV}
theorem ents_lk {sl : SlA} {j : Nat} {x : AV} (h : j < sl.length) : (ents (sl.set j (some (.lk, x)))).Perm (ents (sl.set j none)) := ents_set (some (.lk, x)) h
theorem GW.lock (w : GW K H g) (q : g.sl[kk]? = some (some (.ow, av))) : GW K H (g.put kk (some (.lk, av))) := by
  have hk := lt_of_some q
  have p := ents_get q
  have pl : (ents (g.put kk (some (.lk, av))).sl).Perm (ents (g.sl.set kk none)) := ents_lk hk
  have w1 : Wd K H ((true, av) :: ents (g.sl.set kk none)) g.ce := w.wd.perm p
  have sub : ∀ a, a ∈ own (ents (g.put kk (some (.lk, av))).sl) → a ∈ own (ents (g.sl.set kk none)) := fun a ha => (List.Perm.flatMap_right _ pl).mem_iff.mp ha
  refine ⟨w1.sub ⟨[(true, av)], ?_⟩, fun j x hj => ?_⟩
  · exact ((List.perm_append_singleton _ _).symm).trans (pl.symm.append_right _)
  · rw [GA.put_get hk] at hj
    by_cases h : kk = j
    · rw [if_pos h] at hj
      have hj : av = x := by cases hj; rfl
      subst hj
      refine ⟨w.slot q, fun a ha hm => ?_⟩
      have nd := w1.nd
      rw [show own ((true, av) :: ents (g.sl.set kk none)) = av.as ++ own (ents (g.sl.set kk none)) from rfl, List.append_assoc] at nd
      refine (List.nodup_append.mp nd).2.2 a ha a ?_ rfl
      rcases List.mem_append.mp hm with h | h
      · exact List.mem_append_left _ (sub a h)
      · exact List.mem_append_right _ h
    · rw [if_neg h] at hj
      obtain ⟨o1, o2⟩ := w.gh j x hj
      refine ⟨o1, fun a ha hm => o2 a ha ?_⟩
      rcases List.mem_append.mp hm with h | h
      · refine List.mem_append_left _ ((List.Perm.flatMap_right _ p).mem_iff.mpr ?_)
        exact List.mem_append_right _ (sub a h)
      · exact List.mem_append_right _ h
theorem GSt.back (s1 : GSt K H g H1 g1 []) (q1 : g1.sl[kk]? = some (some (.ow, av))) (s2 : GSt K H1 (g1.put kk (some (.lk, av))) H2 g2 rs) (q2 : g2.sl[kk]? = some (some (.lk, av))) : GSt K H g H2 (g2.put kk (some (.ow, av))) rs := by
  have hk1 := lt_of_some q1
  have hk2 := lt_of_some q2
  have a1 : Stp K H (ents g.sl) g.ce H1 (ents (g1.put kk (some (.lk, av))).sl ++ [(true, av)]) (g1.put kk (some (.lk, av))).ce := by
    have z := s1.st
    rw [List.append_nil] at z
    refine z.perm ((ents_get q1).trans ?_)
    refine (List.perm_append_singleton _ _).symm.trans ?_
    exact (ents_lk hk1).symm.append_right _
  have a2 := a1.app s2.st
  refine ⟨?_, ?_, fun j x hj => ?_⟩
  · refine a2.perm ?_
    have p2 : (ents g2.sl).Perm (ents (g2.sl.set kk none)) := ents_get q2
    have p3 : (ents (g2.put kk (some (.ow, av))).sl).Perm ((true, av) :: ents (g2.sl.set kk none)) := ents_set (some (.ow, av)) hk2
    refine (p2.append_right _).trans ?_
    refine List.Perm.trans ?_ (p3.symm.append_right _)
    exact (List.perm_middle (a := ((true, av) : En)) (l₁ := ents (g2.sl.set kk none)) (l₂ := rs))
  · have e : (g2.put kk (some (.ow, av))).vs = g2.vs := GA.put_same_vs (e := (.lk, av)) (e' := (.ow, av)) q2 rfl
    have e' : (g1.put kk (some (.lk, av))).vs = g1.vs := GA.put_same_vs (e := (.ow, av)) (e' := (.lk, av)) q1 rfl
    rw [e, s2.vs, e', s1.vs]
  · rw [GA.put_get hk2] at hj
    by_cases h : kk = j
    · rw [if_pos h] at hj; cases hj
    · rw [if_neg h] at hj
      have := s2.gk j x hj
      rw [GA.put_get hk1, if_neg h] at this
      exact s1.gk j x this
theorem GA.put_put (g : GA) (o o' : Option (Mo × AV)) : (g.put kk o).put kk o' = g.put kk o' := by
  unfold GA.put; simp
/-- with a slot locked -/
theorem Out.lockIn (k1 : Kd β δ) {m : M β} {f : β → M α} {Q : γ → Hp → Prop} (o : Out k K W H g ((Om.lockIn kk m >>= f) g1.d) Q) (w : GW K H g) (s1 : GSt K H g H1 g1 []) :
    ∃ av, g1.sl[kk]? = some (some (.ow, av)) ∧ GW K H1 (g1.put kk (some (.lk, av))) ∧ (g1.put kk (some (.lk, av))).vs = g1.vs ∧
      ∀ P : δ → Hp → Prop, (∀ (g2 : GA) (b : k1.β) (H2 : Hp) (v : δ), GSt K H g H2 (g2.put kk (some (.ow, av))) (k1.ens b) → k1.val K g2 H2 b v → g2.sl[kk]? = some (some (.lk, av)) → Out k K W H g (f (k1.er b) (g2.put kk (some (.ow, av))).d) Q → P v H2) →
        Out k1 K W H1 (g1.put kk (some (.lk, av))) (m (g1.put kk (some (.lk, av))).d) P := by
  have o' : Out k K W H g (M.bind (Om.lockIn kk m) f g1.d) Q := o
  unfold M.bind Om.lockIn at o'
  cases q : g1.sl[kk]? with
  | none =>
    have : g1.d.sl[kk]? = none := by rw [GA.slD, q]; rfl
    rw [this] at o'; exact o'.elim
  | some z =>
    cases z with
    | none =>
      have : g1.d.sl[kk]? = some none := by rw [GA.slD, q]; rfl
      rw [this] at o'; exact o'.elim
    | some e =>
      obtain ⟨mo, av⟩ := e
      rw [GA.slot_d q] at o'
      cases mo with
      | sh => exact o'.elim
      | lk => exact o'.elim
      | ow =>
        have ed : (g1.put kk (some (.lk, av))).d = { g1.d with sl := g1.d.sl.set kk (some (.lk, av.d)) } := by rw [GA.put_d]; rfl
        refine ⟨av, rfl, (s1.gw w).lock q, GA.put_same_vs (e := (.ow, av)) (e' := (.lk, av)) q rfl, fun P hP => ?_⟩
        dsimp only at o'
        rw [ed]
        have key : ∀ (g2 : GA) (H2 : Hp) (rs : List En), GSt K H1 (g1.put kk (some (.lk, av))) H2 g2 rs → ∀ d', g2.d.sl[kk]? = some (some (.lk, d')) → g2.sl[kk]? = some (some (.lk, av)) ∧ d' = av.d ∧ GSt K H g H2 (g2.put kk (some (.ow, av))) rs := by
          intro g2 H2 rs s2 d' hd
          obtain ⟨av', q2, e2⟩ := GA.slot_of hd
          have h3 := s2.gk kk av' q2
          rw [GA.put_get (lt_of_some q), if_pos rfl] at h3
          cases h3
          exact ⟨q2, e2.symm, s1.back q s2 q2⟩
        cases em : m { g1.d with sl := g1.d.sl.set kk (some (.lk, av.d)) } with
        | none => rw [em] at o'; exact o'.elim
        | some r =>
          rw [em] at o'
          cases r with
          | ok a g0 =>
            intro g2 b H2 v s2 e1 e2 e3
            rw [ed.symm] at em
            subst e1
            unfold unl at o'
            dsimp only at o'
            cases q0 : g2.d.sl[kk]? with
            | none => rw [q0] at o'; exact o'.elim
            | some z =>
              rw [q0] at o'
              cases z with
              | none => exact o'.elim
              | some p =>
                obtain ⟨mo, d'⟩ := p
                cases mo with
                | sh => exact o'.elim
                | ow => exact o'.elim
                | lk =>
                  obtain ⟨q2, e4, s3⟩ := key g2 H2 _ s2 d' q0
                  refine hP g2 b H2 v s3 e3 q2 ?_
                  rw [e2, GA.put_d]
                  subst e4
                  exact o'
          | exc c g0 =>
            intro g2 H2 s2 e1
            subst e1
            unfold unl at o'
            dsimp only at o'
            cases q0 : g2.d.sl[kk]? with
            | none => rw [q0] at o'; exact o'.elim
            | some z =>
              rw [q0] at o'
              cases z with
              | none => exact o'.elim
              | some p =>
                obtain ⟨mo, d'⟩ := p
                cases mo with
                | sh => exact o'.elim
                | ow => exact o'.elim
                | lk =>
                  obtain ⟨q2, e4, s3⟩ := key g2 H2 _ s2 d' q0
                  subst e4
                  have o2 := o' (g2.put kk (some (.ow, av))) H2 s3 (by rw [GA.put_d]; rfl)
                  have e : (g2.put kk (some (.ow, av))).vs = g2.vs := GA.put_same_vs (e := (.lk, av)) (e' := (.ow, av)) q2 rfl
                  rw [e] at o2; exact o2
end

/-! ### places -/
def AV.isLC : AV → Bool
  | .lst _ _ => true
  | .cell _ _ => true
  | _ => false
def kP (k : Nat) : Kd (List Int) V := ⟨List Int, id, fun _ => [], fun _ g _ is v => ∃ e x, g.sl[k]? = some (some e) ∧ e.2.at is = some x ∧ x.v = v ∧ x.isLC = true⟩
def kE : Kd (List (Bool × D)) (List V) := ⟨List En, fun es => es.map fun e => (e.1, e.2.d), fun es => es, fun _ _ _ es vs => es.map (fun e => e.2.v) = vs⟩
theorem chkP_ok {g : GA} {k : Nat} {is : List Int} : ∀ {r : Res Unit}, chkP k is g.d = some r → r = .ok () g.d ∧ ∃ e x, g.sl[k]? = some (some e) ∧ e.2.at is = some x ∧ x.isLC = true := by
  intro r h
  unfold chkP at h
  cases q : g.sl[k]? with
  | none =>
    have : g.d.sl[k]? = none := by rw [GA.slD, q]; rfl
    rw [this] at h; cases h
  | some z =>
    cases z with
    | none =>
      have : g.d.sl[k]? = some none := by rw [GA.slD, q]; rfl
      rw [this] at h; cases h
    | some e =>
      rw [GA.slot_d q] at h
      dsimp only at h
      rw [AV.at_d] at h
      cases e2 : e.2.at is with
      | none => rw [e2] at h; cases h
      | some x =>
        rw [e2] at h
        simp only [Option.map_some] at h
        cases x with
        | lst a xs => rw [AV.d] at h; cases h; exact ⟨rfl, e, _, rfl, e2, rfl⟩
        | cell a n => rw [AV.d] at h; cases h; exact ⟨rfl, e, _, rfl, e2, rfl⟩
        | _ => rw [AV.d] at h; cases h
theorem hasK_ok {g : GA} {k : Nat} : ∀ {r : Res Unit}, hasK k g.d = some r → r = .ok () g.d ∧ ∃ e, g.sl[k]? = some (some e) := by
  intro r h
  unfold hasK at h
  cases q : g.sl[k]? with
  | none =>
    have : g.d.sl[k]? = none := by rw [GA.slD, q]; rfl
    rw [this] at h; cases h
  | some z =>
    cases z with
    | none =>
      have : g.d.sl[k]? = some none := by rw [GA.slD, q]; rfl
      rw [this] at h; cases h
    | some e =>
      rw [GA.slot_d q] at h
      cases h
      exact ⟨rfl, e, rfl⟩
section
variable {X : Cx} {W : Str → St → Hp → Prop} {x : Str} {a b : Expr} {ma mb : M Ref} {pos pos2 : Pos} {k : Nat}
/-- the place of what a method changes: a name -/
theorem pl_name (hN : X.N[k]? = some x) (hv : Vis X.env.scope x) (hd : (x == ("__debug__" : Str)) = false) (hcd : (x == ("__classdict__" : Str)) = false) : PE X (.Name x pos) (SM (kP k) X.K W (do
    hasK k
    let is ← (pure [] : M (List Int))
    chkP k is
    pure is)) := PE.weak (pe_var hN hv hd hcd) fun σ H Q ⟨g, hs, w, o⟩ => by
  subst hs
  obtain ⟨u, e1, o⟩ := o.reads (fun r hr => ⟨(), (hasK_ok hr).1⟩)
  have o : Out (kP k) X.K W H g ((chkP k [] >>= fun _ => (pure [] : M (List Int))) g.d) Q := o
  obtain ⟨u, e2, o⟩ := o.reads (fun r hr => ⟨(), (chkP_ok hr).1⟩)
  obtain ⟨_, e, x, q1, q2, q3⟩ := chkP_ok e2
  refine ⟨e.2.v, GA.slot_v q1, ?_⟩
  have o : Out (kP k) X.K W H g (some (.ok [] g.d)) Q := o
  exact o g [] H e.2.v (.refl w) rfl rfl ⟨e, x, q1, q2, by
    have q2 : some e.2 = some x := by rw [← q2]; cases e.2 <;> rfl
    cases q2; rfl, q3⟩
/-- an item of a name's thing -/
theorem pl_item (hN : X.N[k]? = some x) (hv : Vis X.env.scope x) (hd : (x == ("__debug__" : Str)) = false) (hcd : (x == ("__classdict__" : Str)) = false) (ha : Snd X W a ma) (hs : nslc a = true) : PE X (.Subscript (.Name x pos2) a pos) (SM (kP k) X.K W (do
    hasK k
    let is ← (do
      let i ← asI (← ma)
      (pure [i] : M (List Int)))
    chkP k is
    pure is)) := PE.weak (pe_ix ix_av (pe_var hN hv hd hcd) ha.pe (plain_ix hs)) fun σ H Q ⟨g, hs, w, o⟩ => by
  subst hs
  obtain ⟨u, e1, o⟩ := o.reads (fun r hr => ⟨(), (hasK_ok hr).1⟩)
  obtain ⟨_, e, q⟩ := hasK_ok e1
  refine ⟨e.2.v, GA.slot_v q, ?_⟩
  rw [M.assoc] at o
  refine ⟨g, rfl, w, o.bind kRef fun g1 b1 H1 v1 s1 e1 o1 => ?_⟩
  rw [M.assoc] at o1
  obtain ⟨i, rfl, o1⟩ := Out.asI o1 s1.wd (s1.gw w) (fun e he => he) e1
  have o1 : Out (kP k) X.K W H g ((chkP k [i] >>= fun _ => (pure [i] : M (List Int))) g1.d) Q := o1
  obtain ⟨u, e2, o1⟩ := o1.reads (fun r hr => ⟨(), (chkP_ok hr).1⟩)
  obtain ⟨_, e', z, q1, q2, q3⟩ := chkP_ok e2
  have hv' : e'.2.v = e.2.v := by
    have h1 := GA.slot_v q1
    rw [s1.vs, GA.slot_v q] at h1
    exact (Option.some.inj (Option.some.inj h1)).symm
  have o1 : Out (kP k) X.K W H g (some (.ok [i] g1.d)) Q := o1
  cases hi : e'.2.items with
  | none =>
    have : e'.2.at [i] = (e'.2.items.bind fun xs => atI xs i).bind fun y => AV.at y [] := by cases e'.2 <;> rfl
    rw [this, hi] at q2; cases q2
  | some xs =>
    have : e'.2.at [i] = (e'.2.items.bind fun xs => atI xs i).bind fun y => AV.at y [] := by cases e'.2 <;> rfl
    rw [this, hi] at q2
    cases hz : atI xs i with
    | none => simp only [Option.bind_some, hz] at q2; cases q2
    | some y =>
      simp only [Option.bind_some, hz] at q2
      have q2 : some y = some z := by rw [← q2]; cases y <;> rfl
      obtain rfl : z = y := (Option.some.inj q2).symm
      refine ⟨e'.2, g1.ce, xs, i, z, hv'.symm, (s1.gw w).slot q1, hi, rfl, hz, ?_⟩
      exact o1 g1 [i] H1 z.v s1.drop rfl rfl ⟨e', z, q1, AV.at_snoc [] (show e'.2.at [] = some e'.2 by cases e'.2 <;> rfl) hi hz, rfl, q3⟩
/-- an item of an item -/
theorem pl_item2 {e2 : E} {pos3 : Pos} (hN : X.N[k]? = some x) (hv : Vis X.env.scope x) (hd : (x == ("__debug__" : Str)) = false) (hcd : (x == ("__classdict__" : Str)) = false) (ha : Snd X W a ma) (hs : nslc a = true) (hb : Smp X b e2) (hs2 : nslc b = true) :
    PE X (.Subscript (.Subscript (.Name x pos2) a pos3) b pos) (SM (kP k) X.K W (do
    hasK k
    let is ← (do
      let i ← asI (← ma)
      M.bind (simM e2) (D.asPlace i))
    chkP k is
    pure is)) := by
  obtain ⟨t, pb, hb⟩ := hb.rd
  refine PE.weak (pe_ix ix_av (pe_ix ix_av (pe_var hN hv hd hcd) ha.pe (plain_ix hs)) pb (plain_ix hs2)) fun σ H Q ⟨g, hs, w, o⟩ => ?_
  subst hs
  obtain ⟨u, e1, o⟩ := o.reads (fun r hr => ⟨(), (hasK_ok hr).1⟩)
  obtain ⟨_, e, q⟩ := hasK_ok e1
  refine ⟨e.2.v, GA.slot_v q, ?_⟩
  rw [M.assoc] at o
  refine ⟨g, rfl, w, o.bind kRef fun g1 b1 H1 v1 s1 e1 o1 => ?_⟩
  rw [M.assoc] at o1
  obtain ⟨i, rfl, o1⟩ := Out.asI o1 s1.wd (s1.gw w) (fun e he => he) e1
  have o1 : Out (kP k) X.K W H g ((simM e2 >>= fun d => (D.asPlace i d >>= fun is => (chkP k is >>= fun _ => (pure is : M (List Int))))) g1.d) Q := by
    have ee : ((M.bind (simM e2) (D.asPlace i) : M (List Int)) >>= fun is => (chkP k is >>= fun _ => (pure is : M (List Int)))) = (simM e2 >>= fun d => (D.asPlace i d >>= fun is => (chkP k is >>= fun _ => (pure is : M (List Int))))) := M.assoc (m := simM e2)
    rw [← ee]; exact o1
  obtain ⟨d2, ed, o1⟩ := o1.reads simM_ok
  cases d2 with
  | int j =>
    have o1 : Out (kP k) X.K W H g ((chkP k [i, j] >>= fun _ => (pure [i, j] : M (List Int))) g1.d) Q := o1
    obtain ⟨u, e2, o1⟩ := o1.reads (fun r hr => ⟨(), (chkP_ok hr).1⟩)
    obtain ⟨_, e', z, q1, q2, q3⟩ := chkP_ok e2
    have hv' : e'.2.v = e.2.v := by
      have h1 := GA.slot_v q1
      rw [s1.vs, GA.slot_v q] at h1
      exact (Option.some.inj (Option.some.inj h1)).symm
    have o1 : Out (kP k) X.K W H g (some (.ok [i, j] g1.d)) Q := o1
    have at2 : ∀ (y : AV) (j : Int) (js : List Int), y.at (j :: js) = (y.items.bind fun xs => atI xs j).bind fun w => AV.at w js := fun y j js => by cases y <;> rfl
    rw [at2] at q2
    cases hi : e'.2.items with
    | none => rw [hi] at q2; cases q2
    | some xs =>
      rw [hi] at q2
      cases hz : atI xs i with
      | none => simp only [Option.bind_some, hz] at q2; cases q2
      | some y =>
        simp only [Option.bind_some, hz] at q2
        rw [at2] at q2
        cases hi2 : y.items with
        | none => rw [hi2] at q2; cases q2
        | some ys =>
          rw [hi2] at q2
          cases hz2 : atI ys j with
          | none => simp only [Option.bind_some, hz2] at q2; cases q2
          | some y2 =>
            simp only [Option.bind_some, hz2] at q2
            have q2 : some y2 = some z := by rw [← q2]; cases y2 <;> rfl
            obtain rfl : z = y2 := (Option.some.inj q2).symm
            have ok1 := (s1.gw w).slot q1
            have ok2 := (AV.items_ok hi ok1 y (atI_mem hz)).1
            refine ⟨e'.2, g1.ce, xs, i, y, hv'.symm, ok1, hi, rfl, hz, ?_⟩
            rw [← s1.vs]
            refine hb g1 H1 (.int j) _ (s1.gw w) (simM_simD ed) fun v2 hv2 => ?_
            have hv2 := hv2.int
            subst hv2
            refine ⟨y, g1.ce, ys, j, z, rfl, ok2, hi2, rfl, hz2, ?_⟩
            have at1 : e'.2.at [i] = some y := AV.at_snoc [] (show e'.2.at [] = some e'.2 by cases e'.2 <;> rfl) hi hz
            exact o1 g1 [i, j] H1 z.v s1.drop rfl rfl ⟨e', z, q1, AV.at_snoc [i] at1 hi2 hz2, rfl, q3⟩
  | _ => exact (o1 : False).elim
end
end Om

/-! Om17: a changing method, whole. -/
namespace Om
open PySem PySem.Spec PyProof.Rows L2

section
variable {K : PySem.W.Frag} {W : Str → St → Hp → Prop} {H H1 H2 : Hp} {g g1 g2 : GA} {rs : List En} {kk : Nat}
theorem mutSlot_lst {m : Mu} {k : Nat} {is : List Int} {es : List (Bool × D)} {gd : Sg} {d : D} {ds : List D} (q : gd.sl[k]? = some (some (.ow, d))) (h : atPath d is = some (.lst ds)) :
    mutSlot m k is es gd = if es.all fresh then match mutD m ds (es.map (·.2)) with
      | some (ys, r) => match putPath d is ys with
        | some d' => some (.ok (.tmp true r) { gd with sl := gd.sl.set k (some (.ow, d')) })
        | none => none
      | none => none
    else none := by
  unfold mutSlot
  rw [q]
  dsimp only
  rw [h]
  dsimp only
  rw [show decide (Mo.ow = Mo.ow) = true from rfl, Bool.true_and]
  try rfl
theorem mutSlot_cell {m : Mu} {k : Nat} {is : List Int} {es : List (Bool × D)} {gd : Sg} {d : D} {mo : Mo} {n : Nat} (q : gd.sl[k]? = some (some (mo, d))) (h : atPath d is = some (.cell n)) :
    mutSlot m k is es gd = match gd.ce[n]? with
      | some ds => if es.all (fun e => e.2.noL && e.2.noC) then match mutD m ds (es.map (·.2)) with
          | some (ys, r) => some (.ok (.tmp true r) { gd with ce := gd.ce.set n ys })
          | none => none
        else none
      | none => none := by
  unfold mutSlot
  rw [q]
  dsimp only
  rw [h]
  try rfl
/-- the end of a changing method -/
theorem mut_fin {m : Mu} {is : List Int} {es : List En} {av x : AV} {Q : VK} (o : Out kRef K W H g (mutSlot m kk is (es.map fun e => (e.1, e.2.d)) g2.d) Q) (w : GW K H g) (s : GSt K H g H2 g2 es) (q : g2.sl[kk]? = some (some (.ow, av))) (hx : av.at is = some x) (hl : x.isLC = true) :
    rMu K m x.v (es.map fun e => e.2.v) H2 Q := by
  have gw := s.gw w
  have okav := gw.slot q
  have em : (es.map fun e => ((e.1, e.2.d) : Bool × D)).map (·.2) = (es.map (·.2)).map AV.d := by rw [List.map_map, List.map_map]; rfl
  have ev : (es.map fun e => e.2.v) = (es.map (·.2)).map AV.v := by rw [List.map_map]; rfl
  have oke : ∀ y ∈ es.map (·.2), y.ok K H2 g2.ce := fun y hy => by
    obtain ⟨e, he, rfl⟩ := List.mem_map.mp hy
    exact s.st.wd.ok e (List.mem_append_right _ he)
  have hk := lt_of_some q
  cases x with
  | lst a xs =>
    rw [mutSlot_lst (GA.slot_d q) (ds := xs.map AV.d) (by show atPath av.d is = _; rw [AV.at_d, hx, Option.map_some, AV.d, AV.dL_eq])] at o
    by_cases hf : (es.map fun e => ((e.1, e.2.d) : Bool × D)).all fresh = true
    case neg => rw [if_neg hf] at o; exact o.elim
    rw [if_pos hf, em] at o
    have hfr : ∀ e ∈ es, fresh1 e = true := List.all_eq_true.mp (by rw [← all_fresh]; exact hf)
    cases hmd : mutD m (xs.map AV.d) ((es.map (·.2)).map AV.d) with
    | none => rw [hmd] at o; exact o.elim
    | some yr =>
      obtain ⟨yd, rd⟩ := yr
      rw [hmd] at o
      dsimp only at o
      obtain ⟨ys, r, hma, e1, e2⟩ := mutA_d hmd
      -- what owns what
      have p0 := perm_get (rs := es) q
      have wd0 : Wd K H2 ((true, av) :: (ents (g2.sl.set kk none) ++ es)) g2.ce := s.st.wd.perm p0
      have nd0 := wd0.nd
      rw [show own ((true, av) :: (ents (g2.sl.set kk none) ++ es)) = av.as ++ own (ents (g2.sl.set kk none) ++ es) from rfl, List.append_assoc] at nd0
      obtain ⟨ndav, _, ndis⟩ := List.nodup_append.mp nd0
      obtain ⟨okx, subx⟩ := AV.at_ok is hx okav
      have okx' := okx
      rw [AV.ok] at okx
      have oks : ∀ y ∈ xs, y.ok K H2 g2.ce := AV.okL_iff.mp okx.2
      obtain ⟨okys, okr, asr, hperm⟩ := mutA_parts hma oks oke
      obtain ⟨f1, f2⟩ := fresh_own hfr
      have aav : a ∈ av.as := subx a (by rw [AV.as]; exact List.mem_cons_self)
      -- a is not among the new list's parts
      have ndx : (a :: AV.asL xs).Nodup := by
        have nsub : ∀ (is : List Int) (z : AV), z.at is = some (.lst a xs) → z.as.Nodup → (a :: AV.asL xs).Nodup := by
          intro is
          induction is with
          | nil => intro z hz hn; have hz : some z = some (.lst a xs) := by cases z <;> exact hz
                   cases hz; rw [AV.as] at hn; exact hn
          | cons i is ih =>
            intro z hz hn
            have ez : z.at (i :: is) = (z.items.bind fun xs => atI xs i).bind fun y => AV.at y is := by cases z <;> rfl
            rw [ez] at hz
            cases hi : z.items with
            | none => rw [hi] at hz; cases hz
            | some zs =>
              rw [hi] at hz
              cases hz2 : atI zs i with
              | none => simp only [Option.bind_some, hz2] at hz; cases hz
              | some y =>
                simp only [Option.bind_some, hz2] at hz
                exact ih y hz (hn.sublist (AV.items_sub hi (atI_mem hz2)))
        exact nsub is av hx ndav
      have na : ∀ y ∈ ys, a ∉ y.as := fun y hy hm => by
        rcases (okys y hy).2 a hm with h | h
        · exact (List.nodup_cons.mp ndx).1 h
        · rw [f1] at h
          exact ndis a aav a (List.mem_append_left _ (by rw [own_app]; exact List.mem_append_right _ h)) rfl
      have okys' : ∀ y ∈ ys, y.ok K (upd H2 a (.lst (ys.map AV.v))) g2.ce := okL_upd ⟨_, okx.1⟩ (fun y hy => (okys y hy).1) na
      obtain ⟨av', eA, eP, okA, _, hZ⟩ := putA_ok (N := AV.asL (es.map (·.2))) (o := .lst (ys.map AV.v)) rfl okys' hperm is hx okav ndav
      rw [← e1, eP] at o
      dsimp only at o
      refine ⟨g2.ce, a, xs, es.map (·.2), ys, r, rfl, okx.1, ev, oke, hma, ?_⟩
      have s1 : Stp K H (ents g.sl) g.ce (upd H2 a (.lst (ys.map AV.v))) ((true, av') :: ents (g2.sl.set kk none)) g2.ce := Stp.write (R := ents (g2.sl.set kk none)) (s.st.perm p0) aav okA hfr hZ
      have evs : (g2.put kk (some (.ow, av'))).vs = g2.vs := GA.put_same_vs (e := (.ow, av)) (e' := (.ow, av')) q (putA_v is eA)
      have s2 : GSt K H g (upd H2 a (.lst (ys.map AV.v))) (g2.put kk (some (.ow, av'))) [] := by
        refine ⟨?_, evs.trans s.vs, fun j y hj => ?_⟩
        · rw [List.append_nil]
          exact s1.perm (ents_set (some (.ow, av')) hk).symm
        · rw [GA.put_get hk] at hj
          by_cases h : kk = j
          · rw [if_pos h] at hj; cases hj
          · rw [if_neg h] at hj; exact s.gk j y hj
      have okr' : r.ok K (upd H2 a (.lst (ys.map AV.v))) g2.ce := okL_upd (zs := [r]) ⟨_, okx.1⟩ (fun z hz => by cases List.mem_singleton.mp hz; exact okr) (fun z hz hm => by cases List.mem_singleton.mp hz; rw [asr] at hm; cases hm) r List.mem_cons_self
      have s3 := s2.flat (e := (true, r)) asr okr'
      have o2 : Out kRef K W H g (some (.ok (.tmp true rd) (g2.put kk (some (.ow, av'))).d)) Q := by rw [GA.put_d]; exact o
      exact Out.tmp (e := (true, r)) o2 s3 rfl e2
  | cell a n =>
    rw [mutSlot_cell (GA.slot_d q) (n := n) (by show atPath av.d is = _; rw [AV.at_d, hx]; rfl)] at o
    obtain ⟨okx, _⟩ := AV.at_ok is hx okav
    rw [AV.ok, List.getElem?_map] at okx
    cases hc : g2.ce[n]? with
    | none => rw [hc] at okx; cases okx
    | some p =>
      obtain ⟨a', xs⟩ := p
      rw [hc] at okx
      obtain rfl : a' = a := Option.some.inj okx
      rw [GA.ceD, hc] at o
      dsimp only [Option.map_some] at o
      by_cases hf : ((es.map fun e => ((e.1, e.2.d) : Bool × D)).all fun e => e.2.noL && e.2.noC) = true
      case neg => rw [if_neg hf] at o; exact o.elim
      rw [if_pos hf, em] at o
      have hfl : ∀ e ∈ es, e.2.as = [] := fun e he => AV.as_noL _ (by
        have := List.all_eq_true.mp hf (e.1, e.2.d) (List.mem_map.mpr ⟨e, he, rfl⟩)
        rw [Bool.and_eq_true] at this
        exact this.1)
      cases hmd : mutD m (xs.map AV.d) ((es.map (·.2)).map AV.d) with
      | none => rw [hmd] at o; exact o.elim
      | some yr =>
        obtain ⟨yd, rd⟩ := yr
        rw [hmd] at o
        dsimp only at o
        obtain ⟨ys, r, hma, e1, e2⟩ := mutA_d hmd
        have c := gw.wd.ce _ (List.mem_of_getElem? hc)
        obtain ⟨okys, okr, asr, _⟩ := mutA_parts hma (fun y hy => (c.2 y hy).1) oke
        have asys : ∀ y ∈ ys, y.as = [] := fun y hy => List.eq_nil_iff_forall_not_mem.mpr fun b hb => by
          rcases (okys y hy).2 b hb with h | h
          · obtain ⟨z, hz, hbz⟩ := mem_asL.mp h
            rw [(c.2 z hz).2] at hbz; cases hbz
          · obtain ⟨z, hz, hbz⟩ := mem_asL.mp h
            obtain ⟨e, he, rfl⟩ := List.mem_map.mp hz
            rw [hfl e he] at hbz; cases hbz
        refine ⟨g2.ce, a', xs, es.map (·.2), ys, r, rfl, c.1, ev, oke, hma, ?_⟩
        have s0 := s.drop.st
        rw [List.append_nil] at s0
        have s1 := s0.writeC (ys := ys) hc fun y hy => ⟨(okys y hy).1, asys y hy⟩
        have s2 : GSt K H g (upd H2 a' (.lst (ys.map AV.v))) ⟨g2.sl, g2.ce.set n (a', ys)⟩ [] := ⟨by rw [List.append_nil]; exact s1, s.vs, s.gk⟩
        have okr' : r.ok K (upd H2 a' (.lst (ys.map AV.v))) (g2.ce.set n (a', ys)) := AV.ok_keep (O := [a']) (fun b u e hb => by rw [upd_ne (by simpa using hb)]; exact e) (fun b hb => by cases List.mem_singleton.mp hb; exact ⟨_, c.1⟩) (fun m' b h => by
          have : (g2.ce.set n (a', ys)).map (·.1) = g2.ce.map (·.1) := by
            rw [List.map_set]
            refine set_same ?_
            rw [List.getElem?_map, hc]; rfl
          rw [this]; exact h) r okr (fun b hb => by rw [asr] at hb; cases hb)
        have s3 := s2.flat (e := (true, r)) asr okr'
        have ed : (⟨g2.sl, g2.ce.set n (a', ys)⟩ : GA).d = { g2.d with ce := g2.d.ce.set n yd } := by
          unfold GA.d
          rw [List.map_set, e1]
        have o2 : Out kRef K W H g (some (.ok (.tmp true rd) (⟨g2.sl, g2.ce.set n (a', ys)⟩ : GA).d)) Q := by rw [ed]; exact o
        exact Out.tmp (e := (true, r)) o2 s3 rfl e2
  | _ => cases hl
theorem isLC_ty {x : AV} {C : Ce} (h : x.isLC = true) (ok : x.ok K H C) (hc : ∀ p ∈ C, H p.1 = some (.lst (p.2.map AV.v))) : tyV K "list" x.v H := by
  cases x with
  | lst a xs => rw [AV.ok] at ok; exact .inl ⟨rfl, _, SqL.of ok.1⟩
  | cell a n =>
    rw [AV.ok, List.getElem?_map] at ok
    cases q : C[n]? with
    | none => rw [q] at ok; cases ok
    | some p =>
      rw [q] at ok
      obtain rfl : p.1 = a := Option.some.inj ok
      exact .inl ⟨rfl, _, SqL.of (hc p (List.mem_of_getElem? q))⟩
  | _ => cases h
end
section
variable {X : Cx} {W : Str → St → Hp → Prop} {o e : Expr} {es : List Expr} {mp : M (List Int)} {mA : M (List Ref)} {pos apos : Pos} {kk : Nat} {m : Mu}
/-- the reading of a changing method -/
theorem mut_sm {σ : St} {H : Hp} {Q : VK} (h : SM kRef X.K W (do
      let is ← mp
      let es ← lockIn kk (do forceL (← mA))
      mutSlot m kk is es) σ H Q) : tBM X.K "list" (rMu X.K m) (SM (kP kk) X.K W mp) (SM kL X.K W mA) σ H Q := by
  obtain ⟨g, hv, w, o⟩ := h
  subst hv
  refine ⟨g, rfl, w, o.bind (kP kk) fun g1 (is : List Int) H1 v1 s1 e1 o1 => ?_⟩
  obtain ⟨e, x, q1, q2, q3, q4⟩ := e1
  have gw1 := s1.gw w
  obtain ⟨okx, _⟩ := AV.at_ok is q2 (gw1.slot q1)
  refine ⟨by rw [← q3]; exact isLC_ty q4 okx fun p hp => (gw1.wd.ce p hp).1, ?_⟩
  obtain ⟨av, qk, gwl, vsl, hl⟩ := Out.lockIn kE o1 w s1
  have q1' : some (some e) = some (some (.ow, av)) := q1.symm.trans qk
  obtain rfl : e = (.ow, av) := Option.some.inj (Option.some.inj q1')
  refine ⟨g1.put kk (some (.lk, av)), vsl.trans s1.vs, gwl, ?_⟩
  have o2 := hl (fun vs H2 => rMu X.K m v1 vs H2 Q) fun g2 (en : List En) H2 vs s2 e2 q2' o3 => by
    have e2 : en.map (fun e => e.2.v) = vs := e2
    subst e2
    rw [← q3]
    refine mut_fin o3 w s2 ?_ q2 q4
    rw [GA.put_get (lt_of_some q2'), if_pos rfl]
  refine o2.bind kL fun g2 (bs : List RefB) H2 vs s2 e2 o3 => ?_
  have o4 : Out kE X.K W H1 (g1.put kk (some (.lk, av))) ((forceL (bs.map RefB.r) >>= (Pure.pure : List (Bool × D) → M (List (Bool × D)))) g2.d) (fun vs H2 => rMu X.K m v1 vs H2 Q) := by
    rw [M.bind_pure]; exact o3
  obtain ⟨g3, en, s3, e3, v3, o5⟩ := Out.forceL (acc := []) o4 gwl s2 e2
  have o6 : Out kE X.K W H1 (g1.put kk (some (.lk, av))) (some (.ok (en.map fun e => (e.1, e.2.d)) g3.d)) (fun vs H2 => rMu X.K m v1 vs H2 Q) := o5
  exact o6 g3 en H2 vs s3 rfl rfl e3
theorem star_few {pos : Pos} {env : Env} (hs : nstL es = true) (hn : decide (es.length < 30) = true) : ((backTo pos (starEach es env)).all (fun x => !x.1) && (backToKw pos (keywordEach [] env)).all (fun x => x.1.isSome)
      && decide (es.length + ([] : List Keyword).length + (if ([] : List Keyword).isEmpty then 0 else 1) < 30)) = true := by
  rw [star_all hs, Bool.true_and]
  show (true && decide (es.length + 0 + 0 < 30)) = true
  rw [Bool.true_and]; exact hn
theorem snd_mut (ho : PE X o (SM (kP kk) X.K W mp)) (ha : PA X (e :: es) (SM kL X.K W mA)) (hb : nbase o = true) (hl : (apos.endLine == pos.line) = true) (hs : nstL (e :: es) = true) (hn : decide ((e :: es).length < 30) = true) :
    Snd X W (.Call (.Attribute o (muN m) apos) (e :: es) [] pos) (do
      let is ← mp
      let es ← lockIn kk (do forceL (← mA))
      mutSlot m kk is es) := by
  obtain ⟨hsl, hty⟩ := mu_slot m
  have hs' := hs
  rw [nstL, Bool.and_eq_true] at hs'
  exact Snd.val (pe_bm PySem.F.plainAttrs_list hsl hty (mt_mu m) ho ha (base_of hb) (star_few hs hn) hl (star_of hs'.1) (star_any hs'.2)) (fun _ => rfl) (fun _ _ _ h => nomatch h) fun σ H Q h => mut_sm h
theorem snd_mut0 (ho : PE X o (SM (kP kk) X.K W mp)) (hb : nbase o = true) (hl : (apos.endLine == pos.line) = true) :
    Snd X W (.Call (.Attribute o (muN m) apos) [] [] pos) (do
      let is ← mp
      let es ← lockIn kk (do forceL (← (pure [] : M (List Ref))))
      mutSlot m kk is es) := by
  obtain ⟨hsl, hty⟩ := mu_slot m
  refine Snd.val (pe_bm0 PySem.F.plainAttrs_list hsl hty (mt_mu m) ho (base_of hb) hl) (fun _ => rfl) (fun _ _ _ h => nomatch h) fun σ H Q h => ?_
  obtain ⟨g, hv, w, o⟩ := mut_sm h
  refine ⟨g, hv, w, o.mono fun v H1 q => ?_⟩
  obtain ⟨q1, g', _, w', o'⟩ := q
  have o' : Out kL X.K W H1 g' (some (.ok [] g'.d)) (fun vs H2 => rMu X.K m v vs H2 Q) := o'
  exact ⟨q1, o' g' [] H1 [] (.refl w') rfl rfl rfl⟩
end
end Om

/-! Om18: list.index. -/
namespace Om
open PySem PySem.Spec PyProof.Rows L2
section
variable {X : Cx} {W : Str → St → Hp → Prop} {o e : Expr} {es : List Expr} {ma : M Ref} {mA : M (List Ref)} {pos apos : Pos} {kk : Nat} {m : Mu}
theorem fit_ty {K : PySem.W.Frag} {H : Hp} {g : GA} {v : V} {d : D} (h : Me.index.fit d = true) (hv : Has K H g.ce v d) (gw : GW K H g) : tyV K "list" v H := by
  cases d with
  | lst ds => obtain ⟨a, xs, rfl, h1, _⟩ := hv.lst; exact .inl ⟨rfl, _, SqL.of h1⟩
  | scr ns => obtain ⟨a, rfl, h1⟩ := hv.scr; exact .inl ⟨rfl, _, h1⟩
  | cell n =>
    obtain ⟨av, rfl, hd, ok⟩ := hv
    cases av with
    | cell a m => exact isLC_ty (x := .cell a m) rfl ok fun p hp => (gw.wd.ce p hp).1
    | _ => rw [AV.d] at hd; cases hd
  | _ => cases h
theorem flat_has {K : PySem.W.Frag} {H : Hp} {C : Ce} {x : AV} (ok : x.ok K H C) (h : x.d.flat = true) : x.v = x.d.fv ∧ flatV x.v = true := flat_v ⟨x, rfl, rfl, ok⟩ h
theorem snd_index (ha : Snd X W o ma) (hA : PA X (e :: es) (SM kL X.K W mA)) (hb : nbase o = true) (hl : (apos.endLine == pos.line) = true) (hs : nstL (e :: es) = true) (hn : decide ((e :: es).length < 30) = true) :
    Snd X W (.Call (.Attribute o "index" apos) (e :: es) [] pos) (do
      let r ← stab (← ma)
      let d0 ← look r
      if Me.index.fit d0 then do
        let rs ← mA
        let d ← peek r
        let ds ← peekL rs
        let x ← M.of (methD .index d ds)
        pure (.tmp true x)
      else M.fail) := by
  have hs' := hs
  rw [nstL, Bool.and_eq_true] at hs'
  refine Snd.val (pe_bm PySem.F.plainAttrs_list PySem.F.slot_list_index PySem.F.type_list_index mt_index (se_stab ha.pe) hA (base_of hb) (star_few hs hn) hl (star_of hs'.1) (star_any hs'.2)) (fun _ => rfl) (fun _ _ _ h => nomatch h) fun σ H Q ⟨g, hv, w, o⟩ => ?_
  subst hv
  rw [← M.assoc] at o
  refine ⟨g, rfl, w, o.bind kS fun g1 (b1 : RefB) H1 v1 s1 e1 o1 => ?_⟩
  have o1 : Out kRef X.K W H g ((Om.look b1.r >>= fun d0 => if Me.index.fit d0 then (mA >>= fun rs => (Om.peek b1.r >>= fun d => (Om.peekL rs >>= fun ds => (M.of (methD .index d ds) >>= fun x => (pure (.tmp true x) : M Ref))))) else M.fail) g1.d) Q := o1
  rw [← RefB.ar] at o1
  obtain ⟨d0, hd0, o2⟩ := Out.look (rs := b1.ens) o1 s1.wd (s1.gw w) (fun e he => by rw [RefB.aens] at he; exact he) (RefB.ais e1)
  by_cases hf : Me.index.fit d0 = true
  case neg => rw [if_neg hf] at o2; exact o2.elim
  rw [if_pos hf] at o2
  refine ⟨fit_ty hf hd0 (s1.gw w), g1, s1.vs, s1.gw w, Out.bindL kL o2 s1 fun g2 (bs : List RefB) H2 vs s2 e2 o3 => ?_⟩
  have s12 := s1.app s2
  obtain ⟨d, hd, o3⟩ := Out.peek (rs := b1.ens ++ ensL bs) o3 s12.wd (s12.gw w) (fun e he => by rw [RefB.aens] at he; exact List.mem_append_left _ he) (RefB.ais (RefB.is_vs e1 s2.vs))
  obtain ⟨ds, hds, o3⟩ := Out.peekL (rs' := b1.ens ++ ensL bs) o3 s12.wd (s12.gw w) (fun e he => List.mem_append_right _ he) e2
  obtain ⟨y, ey, o9⟩ := o3.of
  cases d with
  | lst ys =>
    cases ds with
    | nil => cases ey
    | cons x t =>
      cases t with
      | cons _ _ => cases ey
      | nil =>
        obtain ⟨vx, evs, hx⟩ := hds.one
        subst evs
        have ey : (if x.flat && ys.all D.flat then (idxI ys x).map fun n => D.int (n : Nat) else none) = some y := ey
        by_cases hc : (x.flat && ys.all D.flat) = true
        case neg => rw [if_neg hc] at ey; cases ey
        rw [if_pos hc] at ey
        rw [Bool.and_eq_true] at hc
        cases ej : idxI ys x with
        | none => rw [ej] at ey; cases ey
        | some j =>
          rw [ej] at ey
          cases ey
          unfold idxI at ej
          obtain ⟨hj, hp, hno⟩ := List.findIdx?_eq_some_iff_getElem.mp ej
          obtain ⟨a, xs, rfl, hH, exs, oks⟩ := hd.lst
          subst exs
          obtain ⟨vx', fx⟩ := flat_v hx hc.1
          have fl : ∀ z ∈ xs, z.d.flat = true := fun z hz => List.all_eq_true.mp hc.2 _ (List.mem_map.mpr ⟨z, hz, rfl⟩)
          have fv : ∀ z ∈ xs, z.v = z.d.fv ∧ flatV z.v = true := fun z hz => flat_has (oks z hz) (fl z hz)
          rw [List.length_map] at hj
          have key : ∀ (m : Nat) (hm : m < xs.length), PyData.eqv ((xs.map AV.d)[m]'(by rw [List.length_map]; exact hm)).p x.p = eqV (xs[m]).v vx := fun m hm => by
            rw [List.getElem_map, eqv_flat (fl _ (List.getElem_mem hm)) hc.1, (fv _ (List.getElem_mem hm)).1, vx']
          refine ⟨a, xs.map AV.v, vx, j, (xs[j]).v, rfl, rfl, SqL.of hH, fx, ?_, by rw [List.getElem?_map, List.getElem?_eq_getElem hj]; rfl, ?_, fun m z' hm hz' => ?_, Out.flat (d := .int (j : Nat)) o9 s12 rfl⟩
          · rw [List.all_map, List.all_eq_true]
            exact fun z hz => (fv z hz).2
          · rw [← key j hj]; exact hp
          · have hm' : m < xs.length := by omega
            rw [List.getElem?_map, List.getElem?_eq_getElem hm'] at hz'
            cases hz'
            rw [← key m hm']
            have := hno m hm
            simpa using this
  | _ => cases ey
end
end Om

/-! Om19: what is walked. -/
namespace Om
open PySem PySem.Spec PyProof.Rows L2

/-! ### what an iterator yields, by things -/
def OkX (K : PySem.W.Frag) (H : Hp) (C : Ce) (Xs : List AV) (Zs : List (Addr × List V)) : Prop := (∀ X ∈ Xs, X.ok K H C) ∧ ∀ z ∈ Zs, H z.1 = some (.lst z.2)
/-- what is yielded: a part of what is walked, or a new tuple -/
def Yl (K : PySem.W.Frag) (H : Hp) (C : Ce) (Xs : List AV) (x : V) (H' : Hp) (d : D) : Prop :=
  (H' = H ∧ ∃ av : AV, av.v = x ∧ av.d = d ∧ av.ok K H C ∧ (av.as = [] ∨ ∃ X ∈ Xs, ∀ a ∈ av.as, a ∈ X.as)) ∨
  (∃ (p : Addr) (ys : List AV), H p = none ∧ H' = upd H p (.tup (ys.map AV.v)) ∧ x = .ref p ∧ d = .tup (ys.map AV.d) ∧ ∀ y ∈ ys, y.ok K H C ∧ y.as = [])
structure Wlk (K : PySem.W.Frag) (J : It) (ds : List D) (Xs : List AV) (Zs : List (Addr × List V)) : Prop where
  stop : ∀ H C i, OkX K H C Xs Zs → ds.length ≤ i → J.stop i H
  go : ∀ H C i, OkX K H C Xs Zs → i < ds.length → J.go i H
  yld : ∀ H C i x H' d, OkX K H C Xs Zs → ds[i]? = some d → J.yld i H x H' → Yl K H C Xs x H' d
def AV.adr : AV → Addr
  | .scr a _ => a
  | .cell a _ => a
  | .tup a _ => a
  | .lst a _ => a
  | _ => 0
def itOf (K : PySem.W.Frag) : AV → It
  | .tup a _ => Itt K a
  | x => Itl K x.adr
section
variable {K : PySem.W.Frag} {H : Hp} {C : Ce}
theorem items_sq {y : AV} {xs : List AV} (hi : y.items = some xs) (ok : y.ok K H C) : y.v = .ref y.adr ∧ ((itOf K y = Itl K y.adr ∧ SqL K H y.adr (xs.map AV.v)) ∨ (itOf K y = Itt K y.adr ∧ SqT K H y.adr (xs.map AV.v))) := by
  cases y with
  | tup a ys => cases hi; rw [AV.ok] at ok; exact ⟨rfl, .inr ⟨rfl, ok.1⟩⟩
  | lst a ys => cases hi; rw [AV.ok] at ok; exact ⟨rfl, .inl ⟨rfl, SqL.of ok.1⟩⟩
  | scr a ns =>
    cases hi
    obtain ⟨a', e', hs⟩ := Has.scr (K := K) (H := H) (C := C) (v := .ref a) (ns := ns) ⟨.scr a ns, rfl, rfl, ok⟩
    cases e'
    rw [(int_avs ns).2]
    exact ⟨rfl, .inl ⟨rfl, hs⟩⟩
  | _ => cases hi
theorem get_len {α : Type} {l : List α} {i : Nat} (h : i < l.length) : ∃ x, l[i]? = some x := ⟨_, List.getElem?_eq_getElem h⟩
theorem wlk_seq {y : AV} {xs : List AV} (hi : y.items = some xs) : Wlk K (itOf K y) (xs.map AV.d) [y] [] := by
  have key : ∀ H C, OkX K H C [y] [] → _ := fun H C h => items_sq hi (h.1 y List.mem_cons_self)
  refine ⟨fun H C i h hl => ?_, fun H C i h hl => ?_, fun H C i x H' d h hd hy => ?_⟩
  · obtain ⟨_, ⟨e, q⟩ | ⟨e, q⟩⟩ := key H C h
    · rw [e]; exact ⟨_, q, by rw [List.length_map] at hl ⊢; exact hl⟩
    · rw [e]; exact ⟨_, q, by rw [List.length_map] at hl ⊢; exact hl⟩
  · rw [List.length_map] at hl
    obtain ⟨z, hz⟩ := get_len hl
    obtain ⟨_, ⟨e, q⟩ | ⟨e, q⟩⟩ := key H C h
    · rw [e]; exact ⟨_, z.v, q, by rw [List.getElem?_map, hz]; rfl⟩
    · rw [e]; exact ⟨_, z.v, q, by rw [List.getElem?_map, hz]; rfl⟩
  · rw [List.getElem?_map] at hd
    cases hz : xs[i]? with
    | none => rw [hz] at hd; cases hd
    | some z =>
      rw [hz] at hd
      cases hd
      obtain ⟨okz, sub⟩ := AV.items_ok hi (h.1 y List.mem_cons_self) z (List.mem_of_getElem? hz)
      have fin : H' = H ∧ (xs.map AV.v)[i]? = some x := by
        obtain ⟨_, ⟨e, q⟩ | ⟨e, q⟩⟩ := key H C h
        · rw [e] at hy; exact ⟨hy.1, hy.2 _ q⟩
        · rw [e] at hy; exact ⟨hy.1, hy.2 _ q⟩
      rw [List.getElem?_map, hz] at fin
      exact .inl ⟨fin.1, z, Option.some.inj fin.2, rfl, okz, .inr ⟨y, List.mem_cons_self, sub⟩⟩
theorem wlk_cut {y : AV} {xs zs : List AV} {p : Addr} (hi : y.items = some xs) (hz : ∀ z ∈ zs, z ∈ xs) : Wlk K (Itl K p) (zs.map AV.d) [y] [(p, zs.map AV.v)] := by
  have key : ∀ H C, OkX K H C [y] [(p, zs.map AV.v)] → SqL K H p (zs.map AV.v) := fun H C h => SqL.of (h.2 _ List.mem_cons_self)
  refine ⟨fun H C i h hl => ?_, fun H C i h hl => ?_, fun H C i x H' d h hd hy => ?_⟩
  · exact ⟨_, key H C h, by rw [List.length_map] at hl ⊢; exact hl⟩
  · rw [List.length_map] at hl
    obtain ⟨z, hz⟩ := get_len hl
    exact ⟨_, z.v, key H C h, by rw [List.getElem?_map, hz]; rfl⟩
  · rw [List.getElem?_map] at hd
    cases hzi : zs[i]? with
    | none => rw [hzi] at hd; cases hd
    | some z =>
      rw [hzi] at hd
      cases hd
      obtain ⟨okz, sub⟩ := AV.items_ok hi (h.1 y List.mem_cons_self) z (hz z (List.mem_of_getElem? hzi))
      have e := hy.2 _ (key H C h)
      rw [List.getElem?_map, hzi] at e
      exact .inl ⟨hy.1, z, Option.some.inj e, rfl, okz, .inr ⟨y, List.mem_cons_self, sub⟩⟩
theorem rngD_get {lo hi : Int} {i : Nat} {d : D} (h : (rngD lo hi)[i]? = some d) : d = .int (lo + (i : Nat)) := by
  unfold rngD at h
  rw [List.getElem?_map] at h
  cases q : (List.range (hi - lo).toNat)[i]? with
  | none => rw [q] at h; cases h
  | some j =>
    rw [q] at h
    obtain ⟨hj, e⟩ := List.getElem?_eq_some_iff.mp q
    rw [List.getElem_range] at e
    subst e
    cases h; rfl
theorem wlk_rng {lo hi : Int} : Wlk K (Itr lo (hi - lo).toNat) (rngD lo hi) [] [] := by
  refine ⟨fun H C i h hl => ?_, fun H C i h hl => ?_, fun H C i x H' d h hd hy => ?_⟩
  · rw [rng_len] at hl; exact hl
  · rw [rng_len] at hl; exact hl
  · obtain ⟨e1, e2⟩ := hy
    refine .inl ⟨e1, .int (lo + (i : Nat)), e2.symm, (rngD_get hd).symm, trivial, .inl rfl⟩
theorem wlk_rng3 {lo hi c : Int} {n : Nat} (hn : Builtin.Range.rangeSize lo hi c = n) : Wlk K (Itc lo c n) (rng3D lo hi c) [] [] := by
  have hl : (rng3D lo hi c).length = n := by unfold rng3D; rw [List.length_map, List.length_range, hn, Int.toNat_natCast]
  refine ⟨fun H C i h hl' => ?_, fun H C i h hl' => ?_, fun H C i x H' d h hd hy => ?_⟩
  · rw [hl] at hl'; exact hl'
  · rw [hl] at hl'; exact hl'
  · obtain ⟨e1, e2⟩ := hy
    refine .inl ⟨e1, .int (lo + (i : Nat) * c), e2.symm, ?_, trivial, .inl rfl⟩
    unfold rng3D at hd
    rw [List.getElem?_map] at hd
    cases q : (List.range (Builtin.Range.rangeSize lo hi c).toNat)[i]? with
    | none => rw [q] at hd; cases hd
    | some j =>
      rw [q] at hd
      obtain ⟨hj, e⟩ := List.getElem?_eq_some_iff.mp q
      rw [List.getElem_range] at e
      subst e
      cases hd; rfl
theorem enumD_len : ∀ (ds : List D) (n : Nat), (enumD n ds).length = ds.length
  | [], n => rfl
  | d :: ds, n => by rw [enumD, List.length_cons, List.length_cons, enumD_len ds]
theorem enumD_get : ∀ (ds : List D) (n i : Nat) {d : D}, (enumD n ds)[i]? = some d → ∃ e, ds[i]? = some e ∧ d = .tup [.int ((n + i : Nat) : Int), e]
  | [], n, i, d, h => by rw [enumD] at h; simp at h
  | e :: ds, n, 0, d, h => by rw [enumD] at h; cases h; exact ⟨e, rfl, rfl⟩
  | e :: ds, n, i + 1, d, h => by
    rw [enumD, List.getElem?_cons_succ] at h
    obtain ⟨e', h1, h2⟩ := enumD_get ds (n + 1) i h
    exact ⟨e', h1, by rw [h2]; congr 4; omega⟩
theorem wlk_enum {a : Addr} {xs : List AV} (hn : D.noLL (xs.map AV.d) = true) : Wlk K (Ite K a) (enumD 0 (xs.map AV.d)) [.lst a xs] [] := by
  have key : ∀ H C, OkX K H C [.lst a xs] [] → SqL K H a (xs.map AV.v) ∧ ∀ x ∈ xs, x.ok K H C := fun H C h => by
    have ok := h.1 _ List.mem_cons_self
    rw [AV.ok] at ok
    exact ⟨SqL.of ok.1, AV.okL_iff.mp ok.2⟩
  refine ⟨fun H C i h hl => ?_, fun H C i h hl => ?_, fun H C i x H' d h hd hy => ?_⟩
  · rw [enumD_len, List.length_map] at hl
    exact ⟨_, (key H C h).1, by rw [List.length_map]; exact hl⟩
  · rw [enumD_len, List.length_map] at hl
    obtain ⟨z, hz⟩ := get_len hl
    exact ⟨_, z.v, (key H C h).1, by rw [List.getElem?_map, hz]; rfl⟩
  · obtain ⟨e, he, rfl⟩ := enumD_get _ _ _ hd
    rw [List.getElem?_map] at he
    cases hz : xs[i]? with
    | none => rw [hz] at he; cases he
    | some z =>
      rw [hz] at he
      cases he
      obtain ⟨T, w, e1, e2, e3, e4⟩ := hy
      have e5 := e4 _ (key H C h).1
      rw [List.getElem?_map, hz] at e5
      obtain rfl : z.v = w := Option.some.inj e5
      have hm := List.mem_of_getElem? hz
      refine .inr ⟨T, [.int (i : Nat), z], e2, e3, e1, ?_, fun y hy => ?_⟩
      · rw [Nat.zero_add]; rfl
      · rcases List.mem_cons.mp hy with rfl | hy
        · exact ⟨trivial, rfl⟩
        · cases List.mem_singleton.mp hy
          exact ⟨(key H C h).2 z hm, AV.as_noL z (D.noLL_iff.mp hn _ (List.mem_map.mpr ⟨z, hm, rfl⟩))⟩
theorem zipD_len : ∀ (xs ys : List D), (zipD xs ys).length = min xs.length ys.length
  | [], ys => by cases ys <;> simp [zipD]
  | x :: xs, [] => by simp [zipD]
  | x :: xs, y :: ys => by rw [zipD, List.length_cons, List.length_cons, List.length_cons, zipD_len xs ys]; omega
theorem zipD_get : ∀ (xs ys : List D) (i : Nat) {d : D}, (zipD xs ys)[i]? = some d → ∃ x y, xs[i]? = some x ∧ ys[i]? = some y ∧ d = .tup [x, y]
  | [], ys, i, d, h => by cases ys <;> simp [zipD] at h
  | x :: xs, [], i, d, h => by simp [zipD] at h
  | x :: xs, y :: ys, 0, d, h => by rw [zipD] at h; cases h; exact ⟨x, y, rfl, rfl, rfl⟩
  | x :: xs, y :: ys, i + 1, d, h => by
    rw [zipD, List.getElem?_cons_succ] at h
    obtain ⟨x', y', h1, h2, h3⟩ := zipD_get xs ys i h
    exact ⟨x', y', h1, h2, h3⟩
/-- zip, by the readings of the two -/
theorem wlk_zip {J : It} {u w : AV} {xs ys : List AV} (hx : D.noLL (xs.map AV.d) = true) (hy : D.noLL (ys.map AV.d) = true)
    (okk : ∀ H C, OkX K H C [u, w] [] → (∀ x ∈ xs, x.ok K H C) ∧ ∀ y ∈ ys, y.ok K H C)
    (stop : ∀ H C i, OkX K H C [u, w] [] → xs.length ≤ i ∨ ys.length ≤ i → J.stop i H) (go : ∀ H C i, OkX K H C [u, w] [] → i < xs.length → i < ys.length → J.go i H)
    (yld : ∀ H C i x H', OkX K H C [u, w] [] → J.yld i H x H' → ∃ T p q, x = .ref T ∧ H T = none ∧ H' = upd H T (.tup [p, q]) ∧ (xs.map AV.v)[i]? = some p ∧ (ys.map AV.v)[i]? = some q) : Wlk K J (zipD (xs.map AV.d) (ys.map AV.d)) [u, w] [] := by
  refine ⟨fun H C i h hl => ?_, fun H C i h hl => ?_, fun H C i x H' d h hd hyy => ?_⟩
  · rw [zipD_len, List.length_map, List.length_map] at hl
    exact stop H C i h (by omega)
  · rw [zipD_len, List.length_map, List.length_map] at hl
    exact go H C i h (by omega) (by omega)
  · obtain ⟨x', y', h1, h2, rfl⟩ := zipD_get _ _ _ hd
    rw [List.getElem?_map] at h1 h2
    cases hz : xs[i]? with
    | none => rw [hz] at h1; cases h1
    | some z =>
      cases hz2 : ys[i]? with
      | none => rw [hz2] at h2; cases h2
      | some z2 =>
        rw [hz] at h1; rw [hz2] at h2
        cases h1; cases h2
        obtain ⟨T, p, q, e1, e2, e3, e4, e5⟩ := yld H C i x H' h hyy
        rw [List.getElem?_map, hz] at e4
        rw [List.getElem?_map, hz2] at e5
        obtain rfl : z.v = p := Option.some.inj e4
        obtain rfl : z2.v = q := Option.some.inj e5
        have m1 := List.mem_of_getElem? hz
        have m2 := List.mem_of_getElem? hz2
        refine .inr ⟨T, [z, z2], e2, e3, e1, rfl, fun y hy' => ?_⟩
        rcases List.mem_cons.mp hy' with rfl | hy'
        · exact ⟨(okk H C h).1 y m1, AV.as_noL y (D.noLL_iff.mp hx _ (List.mem_map.mpr ⟨y, m1, rfl⟩))⟩
        · cases List.mem_singleton.mp hy'
          exact ⟨(okk H C h).2 z2 m2, AV.as_noL z2 (D.noLL_iff.mp hy _ (List.mem_map.mpr ⟨z2, m2, rfl⟩))⟩
end
end Om

/-! Om20: what is walked: the readings. -/
namespace Om
open PySem PySem.Spec PyProof.Rows L2

structure WkA where
  ds : List D
  mo : Mo
  lk : Option Nat
  T : List En
  Xs : List AV
  Zs : List (Addr × List V)
def shs (Xs : List AV) : List En := Xs.map fun x => (false, x)
structure WkOk (K : PySem.W.Frag) (g : GA) (H : Hp) (b : WkA) (J : It) : Prop where
  wlk : Wlk K J b.ds b.Xs b.Zs
  zs : ∀ z ∈ b.Zs, H z.1 = some (.lst z.2) ∧ z.1 ∉ own (ents g.sl) ++ ceA g.ce
  at' : match b.lk with
    | none => (b.mo = .sh ∧ b.T = shs b.Xs) ∨ (b.T = [] ∧ (b.mo = .lk ∨ b.mo = .sh ∧ D.noLL b.ds = true) ∧ ∀ X ∈ b.Xs, X.ok K H g.ce ∧ ∀ a ∈ X.as, a ∉ own (ents g.sl) ++ ceA g.ce)
    | some k => b.T = [] ∧ (b.mo = .lk ∨ b.mo = .sh ∧ D.noLL b.ds = true) ∧ ∃ av, g.sl[k]? = some (some (.ow, av)) ∧ ∀ X ∈ b.Xs, X.ok K H g.ce ∧ ∀ a ∈ X.as, a ∈ av.as
def kW : Kd Wk It := ⟨WkA, fun b => (b.ds, b.mo, b.lk), fun b => b.T, WkOk⟩

/-! ### a list or a tuple is walked -/
section
variable {X : Cx} {tg l : Expr} {tl : TE}
def iSeq (K : PySem.W.Frag) (tl : TE) : TI := fun σ H R => tl σ H fun x H1 => ∃ a, x = .ref a ∧ (((∃ xs, SqL K H1 a xs) ∧ R (Itl K a) H1) ∨ ((∃ xs, SqT K H1 a xs) ∧ R (Itt K a) H1))
theorem pi_seq (hl : PE X l tl) : PI X tg l (iSeq X.K tl) := by
  refine ⟨fun pins s σ H R I h => ?_⟩
  refine thn (hl.run pins s σ H _ I h) fun v s1 ⟨x, H1, I1, r1, q1⟩ => ?_
  obtain ⟨a, e, q1⟩ := q1
  subst e
  cases r1
  have fr : ∀ b ∈ [s1.heap.objs.size], FpOk X pins H1 b := fun b hb => by
    have e : b = s1.heap.objs.size := by simpa using hb
    subst e
    exact I1.fpOk (Nat.le_refl _) (I1.hok.fresh (Nat.le_refl _))
  rcases q1 with ⟨⟨xs, hq⟩, q⟩ | ⟨⟨xs, hq⟩, q⟩
  · obtain ⟨its, rv, p, hz⟩ := I1.list hq
    refine wpAny_pyIter_list p.isList ?_
    exact ⟨s1.heap.objs.size, [s1.heap.objs.size], _, _, H1, rfl, I1.kept (t' := s1.toks) fun b o e => Heap.get?_push_of_some _ e, turn_list a _, ⟨_, Heap.get?_push_size _ rfl, rfl, rfl⟩, fr, q⟩
  · obtain ⟨its, rv, p, hz⟩ := I1.tuple hq
    refine wpAny_pyIter_tuple (show s1.heap.IsTuple a its.toArray from p) ?_
    exact ⟨s1.heap.objs.size, [s1.heap.objs.size], _, _, H1, rfl, I1.kept (t' := s1.toks) fun b o e => Heap.get?_push_of_some _ e, turn_tuple a _, ⟨_, Heap.get?_push_size _ rfl, rfl, rfl⟩, fr, q⟩
theorem PI.weak {iter : Expr} {w w' : TI} (h : PI X tg iter w) (q : ∀ σ H R, w' σ H R → w σ H R) : PI X tg iter w' := ⟨fun pins s σ H R I z => h.run pins s σ H R I (q σ H R z)⟩
end
section
variable {K : PySem.W.Frag} {W : Str → St → Hp → Prop} {H H' H1 H2 : Hp} {g g' g1 g2 : GA} {rs rs' acc : List En} {α β γ δ : Type} {k : Kd α γ}
/-- a thing is taken to be walked: cut as the list of the walked things -/
theorem Out.take {b : RefA} {y : AV} {f : Wk → M α} {Q : γ → Hp → Prop} (o : Out k K W H g ((Om.takeOut b.r >>= f) g1.d) Q) (w : GW K H g) (s : GSt K H g H1 g1 b.ens) (n : b.nav g1 y) :
    ∃ (xs : List AV) (mo : Mo) (lk : Option Nat) (T : List En), y.items = some xs ∧ GSt K H g H1 g1 T ∧ Out k K W H g (f (xs.map AV.d, mo, lk) g1.d) Q ∧
      (match lk with
        | none => (mo = .sh ∧ T = shs [y]) ∨ (T = [] ∧ (mo = .lk ∨ mo = .sh ∧ D.noLL (xs.map AV.d) = true) ∧ ∀ X ∈ [y], X.ok K H1 g1.ce ∧ ∀ a ∈ X.as, a ∉ own (ents g1.sl) ++ ceA g1.ce)
        | some k => T = [] ∧ (mo = .lk ∨ mo = .sh ∧ D.noLL (xs.map AV.d) = true) ∧ ∃ av, g1.sl[k]? = some (some (.ow, av)) ∧ ∀ X ∈ [y], X.ok K H1 g1.ce ∧ ∀ a ∈ X.as, a ∈ av.as) := by
  have gw := s.gw w
  have hk : ∀ (j : Nat) (is : List Int) (m : Mo) (av : AV), g1.sl[j]? = some (some (m, av)) → av.at is = some y → GSt K H g H1 g1 [] → Out k K W H g ((Om.walkK j is >>= f) g1.d) Q →
      ∃ (xs : List AV) (mo : Mo) (lk : Option Nat) (T : List En), y.items = some xs ∧ GSt K H g H1 g1 T ∧ Out k K W H g (f (xs.map AV.d, mo, lk) g1.d) Q ∧
      (match lk with
        | none => (mo = .sh ∧ T = shs [y]) ∨ (T = [] ∧ (mo = .lk ∨ mo = .sh ∧ D.noLL (xs.map AV.d) = true) ∧ ∀ X ∈ [y], X.ok K H1 g1.ce ∧ ∀ a ∈ X.as, a ∉ own (ents g1.sl) ++ ceA g1.ce)
        | some k => T = [] ∧ (mo = .lk ∨ mo = .sh ∧ D.noLL (xs.map AV.d) = true) ∧ ∃ av, g1.sl[k]? = some (some (.ow, av)) ∧ ∀ X ∈ [y], X.ok K H1 g1.ce ∧ ∀ a ∈ X.as, a ∈ av.as) := by
    intro j is m av q hat s o
    have o' : Out k K W H g (M.bind (Om.walkK j is) f g1.d) Q := o
    unfold M.bind Om.walkK at o'
    rw [GA.slot_d q] at o'
    dsimp only at o'
    rw [AV.at_d, hat, Option.map_some, Option.bind_some, AV.items_d] at o'
    cases hi : y.items with
    | none => rw [hi] at o'; exact o'.elim
    | some xs =>
      rw [hi, Option.map_some] at o'
      dsimp only at o'
      obtain ⟨oky, suby⟩ := AV.at_ok is hat (gw.slot q)
      by_cases hc : (av.d.noL || decide (m = .sh)) = true
      · rw [if_pos hc] at o'
        refine ⟨xs, .sh, none, shs [y], rfl, ?_, o', .inl ⟨rfl, rfl⟩⟩
        rw [Bool.or_eq_true, decide_eq_true_eq] at hc
        rcases hc with hc | hc
        · refine s.flat (e := (false, y)) (List.eq_nil_iff_forall_not_mem.mpr fun a ha => ?_) oky
          have := suby a ha
          rw [AV.as_noL av hc] at this; cases this
        · subst hc
          exact s.part q oky suby
      · rw [if_neg hc] at o'
        rw [Bool.or_eq_true, decide_eq_true_eq, not_or] at hc
        obtain ⟨mo, emo, hmo⟩ : ∃ mo : Mo, (if D.noLL (xs.map AV.d) then Mo.sh else .lk) = mo ∧ (mo = .lk ∨ mo = .sh ∧ D.noLL (xs.map AV.d) = true) := by
          by_cases h : D.noLL (xs.map AV.d) = true
          · rw [if_pos h]; exact ⟨_, rfl, .inr ⟨rfl, h⟩⟩
          · rw [if_neg h]; exact ⟨_, rfl, .inl rfl⟩
        rw [emo] at o'
        cases m with
        | sh => exact absurd rfl hc.2
        | ow =>
          rw [if_pos rfl] at o'
          exact ⟨xs, _, some j, [], rfl, s, o', rfl, hmo, av, q, fun X hX => by cases List.mem_singleton.mp hX; exact ⟨oky, suby⟩⟩
        | lk =>
          rw [if_neg (show ¬ (Mo.lk = Mo.ow) by decide)] at o'
          obtain ⟨_, ap⟩ := gw.gh j av q
          exact ⟨xs, _, none, [], rfl, s, o', .inr ⟨rfl, hmo, fun X hX => by cases List.mem_singleton.mp hX; exact ⟨oky, fun a ha => ap a (suby a ha)⟩⟩⟩
  cases b with
  | slot j =>
    obtain ⟨m, q⟩ := n
    exact hk j [] m y q (by cases y <;> rfl) s o
  | path j is =>
    obtain ⟨⟨m, av⟩, q, hat⟩ := n
    exact hk j is m av q hat s o
  | tmp e =>
    obtain ⟨fl, z⟩ := e
    have n : z = y := n
    subst n
    have o1 : Out k K W H g ((M.of z.d.items >>= fun ds => f (ds, .sh, none)) g1.d) Q := by
      have e : (Om.takeOut (RefA.tmp (fl, z)).r >>= f) = (M.of z.d.items >>= fun ds => f (ds, .sh, none)) := by
        show ((M.of z.d.items >>= fun ds => (pure (ds, .sh, none) : M Wk)) >>= f) = _
        rw [M.assoc]; rfl
      rw [e] at o; exact o
    obtain ⟨ds, ei, o2⟩ := o1.of
    rw [AV.items_d] at ei
    cases hi : z.items with
    | none => rw [hi] at ei; cases ei
    | some xs =>
      rw [hi] at ei
      cases ei
      exact ⟨xs, .sh, none, shs [z], rfl, GSt.share1 (b := fl) s, o2, .inl ⟨rfl, rfl⟩⟩
end
section
variable {K : PySem.W.Frag} {W : Str → St → Hp → Prop} {H H' H1 H2 : Hp} {g g' g1 g2 : GA} {rs rs' acc : List En} {α β γ δ : Type} {k : Kd α γ}
/-- a thing handed on, behind another -/
theorem Out.forceN2 {b : RefB} {x : AV} {e0 : En} {f : Bool × D → M α} {Q : γ → Hp → Prop} (o : Out k K W H g ((Om.force b.r >>= f) g1.d) Q) (w : GW K H g) (s : GSt K H g H1 g1 ([e0] ++ b.ens)) (n : b.a.nav g1 x) :
    ∃ (g2 : GA) (e : En), GSt K H g H1 g2 [e0, e] ∧ e.2 = x ∧ g2.vs = g1.vs ∧ Out k K W H g (f (e.1, e.2.d) g2.d) Q := by
  have o1 : Out k K W H g (M.bind (Om.force b.r) f g1.d) Q := o
  cases b with
  | tmp e =>
    refine ⟨g1, e, s, n, rfl, ?_⟩
    unfold M.bind Om.force at o1
    exact o1
  | slot j =>
    obtain ⟨m, q1⟩ := n
    unfold M.bind Om.force at o1
    have hr : (RefB.slot j).r = Ref.slot j := rfl
    simp only [hr] at o1
    rw [GA.slot_d q1] at o1
    have s : GSt K H g H1 g1 [e0] := s
    by_cases hn : x.d.noL = true
    · simp only [hn, if_true] at o1
      have ok := (s.gw w).slot q1
      exact ⟨g1, (false, x), s.flat (e := (false, x)) (AV.as_noL x hn) ok, rfl, rfl, o1⟩
    · simp only [hn] at o1
      by_cases hm : m = .lk
      · simp only [hm] at o1; exact (o1 : False).elim
      · simp only [hm] at o1
        have s1 := s.share q1 hm
        have q1' : (g1.put j (some (.sh, x))).sl[j]? = some (some (.sh, x)) := by rw [GA.put_get (lt_of_some q1), if_pos rfl]
        have ok : x.ok K H1 (g1.put j (some (.sh, x))).ce := (s1.gw w).slot q1'
        have s2 := s1.part q1' ok fun _ h => h
        refine ⟨g1.put j (some (.sh, x)), (false, x), s2, rfl, GA.put_same_vs (e := (m, x)) (e' := (.sh, x)) q1 rfl, ?_⟩
        rw [GA.put_d]; exact o1
theorem GSt.share2 {b c : Bool} {x y : AV} (s : GSt K H g H1 g1 [(b, x), (c, y)]) : GSt K H g H1 g1 (shs [x, y]) := by
  have s1 : GSt K H g H1 g1 [(false, x), (c, y)] := GSt.share1 s
  have s2 : GSt K H g H1 g1 [(c, y), (false, x)] := s1.sub ⟨[], by rw [List.append_nil]; exact List.Perm.swap _ _ _⟩
  have s3 : GSt K H g H1 g1 [(false, y), (false, x)] := GSt.share1 s2
  exact s3.sub ⟨[], by rw [List.append_nil]; exact List.Perm.swap _ _ _⟩
end
section
variable {X : Cx} {W : Str → St → Hp → Prop} {a b c tg : Expr} {ma mb mc : M Ref} {pos : Pos}
/-- the walked thing itself -/
theorem pi_seqS (ha : Snd X W a ma) : PI X tg a (SM kW X.K W (do takeOut (← ma))) := PI.weak (pi_seq ha.pe) fun σ H R ⟨g, hv, w, o⟩ => by
  subst hv
  refine ⟨g, rfl, w, o.bind kRef fun g1 b1 H1 v1 s1 e1 o1 => ?_⟩
  have o1 : Out kW X.K W H g ((Om.takeOut (RefA.r b1) >>= (Pure.pure : Wk → M Wk)) g1.d) R := by rw [M.bind_pure]; exact o1
  obtain ⟨y, n, ev⟩ := RefA.nav_of e1
  have oky := RefA.nav_ok s1.wd (s1.gw w) (fun e he => he) n
  obtain ⟨xs, mo, lk, T, hi, s2, o2, hat⟩ := Out.take o1 w s1 n
  obtain ⟨evy, hs⟩ := items_sq hi oky
  have o3 : Out kW X.K W H g (some (.ok (xs.map AV.d, mo, lk) g1.d)) R := o2
  have fin : R (itOf X.K y) H1 := o3 g1 ⟨xs.map AV.d, mo, lk, T, [y], []⟩ H1 (itOf X.K y) s2 rfl rfl ⟨wlk_seq hi, (fun z hz => nomatch hz), hat⟩
  refine ⟨y.adr, ev.symm.trans evy, ?_⟩
  rcases hs with ⟨e, q⟩ | ⟨e, q⟩
  · rw [e] at fin; exact .inl ⟨⟨_, q⟩, fin⟩
  · rw [e] at fin; exact .inr ⟨⟨_, q⟩, fin⟩
/-- ranges -/
theorem pi_rng1 {p : Pos} (hg : Gl X "range") (hm : X.mg "range" = none) (ha : Snd X W a ma) (hs : nst a = true) : PI X tg (.Call (.Name "range" p) [a] [] pos) (SM kW X.K W (do
    let i ← asI (← ma)
    if range62 i then pure (rngD 0 i, .sh, none) else M.fail)) := PI.weak (pi_range1 hg hm (pa_cons ha.pe pa_nil (star_of hs)) (star_of hs)) fun σ H R ⟨g, hv, w, o⟩ => by
  subst hv
  refine ⟨g, rfl, w, o.bind kRef fun g1 b1 H1 v1 s1 e1 o1 => ?_⟩
  obtain ⟨i, rfl, o1⟩ := Out.asI o1 s1.wd (s1.gw w) (fun e he => he) e1
  by_cases hr : range62 i = true
  case neg => rw [if_neg hr] at o1; exact o1.elim
  rw [if_pos hr] at o1
  simp only [range62, veil_eq, decide_eq_true_eq] at hr
  have o3 : Out kW X.K W H g (some (.ok (rngD 0 i, .sh, none) g1.d)) R := o1
  have wl := wlk_rng (K := X.K) (lo := 0) (hi := i)
  rw [Int.sub_zero] at wl
  exact ⟨i, rfl, hr.1, hr.2, o3 g1 ⟨rngD 0 i, .sh, none, [], [], []⟩ H1 (Itr 0 i.toNat) s1.drop rfl rfl ⟨wl, (fun z hz => nomatch hz), .inl ⟨rfl, rfl⟩⟩⟩
theorem pi_rng2 {p : Pos} (hg : Gl X "range") (hm : X.mg "range" = none) (ha : Snd X W a ma) (hb : Snd X W b mb) (hs : nst a = true) (hs2 : nst b = true) : PI X tg (.Call (.Name "range" p) [a, b] [] pos) (SM kW X.K W (do
    let i ← asI (← ma)
    let j ← asI (← mb)
    if range62 i && range62 j then pure (rngD i j, .sh, none) else M.fail)) := PI.weak (pi_range2 hg hm (pa_cons ha.pe (pa_cons hb.pe pa_nil (star_of hs2)) (star_of hs)) (by rw [star_of hs, star_of hs2]; rfl) (star_of hs2)) fun σ H R ⟨g, hv, w, o⟩ => by
  subst hv
  refine ⟨g, rfl, w, o.bind kRef fun g1 b1 H1 v1 s1 e1 o1 => ?_⟩
  obtain ⟨i, rfl, o1⟩ := Out.asI o1 s1.wd (s1.gw w) (fun e he => he) e1
  refine ⟨g1, s1.vs, s1.gw w, o1.bindL kRef s1 fun g2 b2 H2 v2 s2 e2 o2 => ?_⟩
  have s12 := s1.trans s2
  obtain ⟨j, rfl, o2⟩ := Out.asI o2 s12.wd (s12.gw w) (fun e he => he) e2
  by_cases hr : (range62 i && range62 j) = true
  case neg => rw [if_neg hr] at o2; exact o2.elim
  rw [if_pos hr] at o2
  simp only [range62, veil_eq, Bool.and_eq_true, decide_eq_true_eq] at hr
  have o3 : Out kW X.K W H g (some (.ok (rngD i j, .sh, none) g2.d)) R := o2
  exact ⟨i, j, rfl, ⟨hr.1.1, hr.1.2, hr.2.1, hr.2.2⟩, o3 g2 ⟨rngD i j, .sh, none, [], [], []⟩ H2 (Itr i (j - i).toNat) s12.drop rfl rfl ⟨wlk_rng, (fun z hz => nomatch hz), .inl ⟨rfl, rfl⟩⟩⟩
theorem pi_rng3 {p : Pos} (hg : Gl X "range") (hm : X.mg "range" = none) (ha : Snd X W a ma) (hb : Snd X W b mb) (hc : Snd X W c mc) (hs : nst a = true) (hs2 : nst b = true) (hs3 : nst c = true) : PI X tg (.Call (.Name "range" p) [a, b, c] [] pos) (SM kW X.K W (do
    let i ← asI (← ma)
    let j ← asI (← mb)
    let k ← asI (← mc)
    if rng3Ok i j k then pure (rng3D i j k, .sh, none) else M.fail)) := PI.weak (pi_range3 hg hm (pa_cons ha.pe (pa_cons hb.pe (pa_cons hc.pe pa_nil (star_of hs3)) (star_of hs2)) (star_of hs)) (star_of hs) (star_any (es := [b, c]) (by rw [nstL, nstL, hs2, hs3]; rfl))) fun σ H R ⟨g, hv, w, o⟩ => by
  subst hv
  refine ⟨g, rfl, w, o.bind kRef fun g1 b1 H1 v1 s1 e1 o1 => ?_⟩
  obtain ⟨i, rfl, o1⟩ := Out.asI o1 s1.wd (s1.gw w) (fun e he => he) e1
  refine ⟨g1, s1.vs, s1.gw w, o1.bindL kRef s1 fun g2 b2 H2 v2 s2 e2 o2 => ?_⟩
  have s12 := s1.trans s2
  obtain ⟨j, rfl, o2⟩ := Out.asI o2 s12.wd (s12.gw w) (fun e he => he) e2
  refine ⟨g2, s12.vs, s12.gw w, Out.bindL kRef o2 s12 fun g3 b3 H3 v3 s3 e3 o3 => ?_⟩
  have s13 := s12.trans s3
  obtain ⟨k, rfl, o3⟩ := Out.asI o3 s13.wd (s13.gw w) (fun e he => he) e3
  by_cases hr : rng3Ok i j k = true
  case neg => rw [if_neg hr] at o3; exact o3.elim
  rw [if_pos hr] at o3
  simp only [rng3Ok, veil_eq, Bool.and_eq_true, decide_eq_true_eq] at hr
  have o4 : Out kW X.K W H g (some (.ok (rng3D i j k, .sh, none) g3.d)) R := o3
  have hn : Builtin.Range.rangeSize i j k = (((Builtin.Range.rangeSize i j k).toNat : Nat) : Int) := (Int.toNat_of_nonneg hr.1.2.2).symm
  exact ⟨i, j, k, (Builtin.Range.rangeSize i j k).toNat, rfl, ⟨hr.1.1, hr.1.2.1, hr.2, hn⟩, o4 g3 ⟨rng3D i j k, .sh, none, [], [], []⟩ H3 (Itc i k (Builtin.Range.rangeSize i j k).toNat) s13.drop rfl rfl ⟨wlk_rng3 hn, (fun z hz => nomatch hz), .inl ⟨rfl, rfl⟩⟩⟩
/-- enumerate -/
theorem d_lst_nav {b : RefB} {g : GA} {v : V} (h : b.is g v) : ∃ x, b.a.nav g x ∧ x.v = v := RefA.nav_of (RefB.ais h)
theorem pi_enumS {p tpos : Pos} {elts : List Expr} {kk : Nat} (hg : Gl X "enumerate") (hm : X.mg "enumerate" = none) (ha : Snd X W a ma) (hs : nst a = true) : PI X (.Tuple elts kk tpos) (.Call (.Name "enumerate" p) [a] [] pos) (SM kW X.K W (do
    let x ← force (← stab (← ma))
    match x.2 with
    | .lst ds => if D.noLL ds then pure (enumD 0 ds, .sh, none) else M.fail
    | _ => M.fail)) := PI.weak (pi_enum hg hm (pa_cons (se_stab ha.pe) pa_nil (star_of hs)) (star_of hs)) fun σ H R ⟨g, hv, w, o⟩ => by
  subst hv
  rw [← M.assoc] at o
  refine ⟨g, rfl, w, o.bind kS fun g1 (b1 : RefB) H1 v1 s1 e1 o1 => ?_⟩
  obtain ⟨x, n, ev⟩ := d_lst_nav e1
  obtain ⟨g2, ⟨fl, y⟩, s2, ey, vs2, o2⟩ := Out.forceN o1 w s1 n
  have ey : y = x := ey
  subst ey
  have ok := s2.wd.ok (fl, y) (List.mem_append_right _ List.mem_cons_self)
  cases y with
  | lst a xs =>
    have o2 : Out kW X.K W H g ((if D.noLL (xs.map AV.d) then pure (enumD 0 (xs.map AV.d), .sh, none) else M.fail) g2.d) R := by
      have o2 : Out kW X.K W H g ((match (AV.lst a xs).d with
        | .lst ds => if D.noLL ds then pure (enumD 0 ds, .sh, none) else M.fail
        | _ => M.fail : M Wk) g2.d) R := o2
      rw [AV.d, AV.dL_eq] at o2; exact o2
    by_cases hn : D.noLL (xs.map AV.d) = true
    case neg => rw [if_neg hn] at o2; exact o2.elim
    rw [if_pos hn] at o2
    have o3 : Out kW X.K W H g (some (.ok (enumD 0 (xs.map AV.d), .sh, none) g2.d)) R := o2
    have ok : (AV.lst a xs).ok X.K H1 g2.ce := ok
    rw [AV.ok] at ok
    exact ⟨a, xs.map AV.v, by rw [← ev]; rfl, SqL.of ok.1, o3 g2 ⟨enumD 0 (xs.map AV.d), .sh, none, shs [.lst a xs], [.lst a xs], []⟩ H1 (Ite X.K a) (GSt.share1 s2) rfl rfl ⟨wlk_enum hn, (fun z hz => nomatch hz), .inl ⟨rfl, rfl⟩⟩⟩
  | _ => exact (o2 : False).elim
theorem pi_zipS {p tpos : Pos} {elts : List Expr} {kk : Nat} (hg : Gl X "zip") (hm : X.mg "zip" = none) (ha : Snd X W a ma) (hb : Snd X W b mb) (hs : nst a = true) (hs2 : nst b = true) : PI X (.Tuple elts kk tpos) (.Call (.Name "zip" p) [a, b] [] pos) (SM kW X.K W (do
    let x ← force (← stab (← ma))
    let y ← force (← stab (← mb))
    match x.2, y.2 with
    | .lst xs, .lst ys => if D.noLL xs && D.noLL ys then pure (zipD xs ys, .sh, none) else M.fail
    | .tup xs, .tup ys => if D.noLL xs && D.noLL ys then pure (zipD xs ys, .sh, none) else M.fail
    | _, _ => M.fail)) := PI.weak (RZ.pi_zipA hg hm (pa_cons (se_stab ha.pe) (pa_cons (se_stab hb.pe) pa_nil (star_of hs2)) (star_of hs)) (star_of hs) (star_any (es := [b]) (by rw [nstL, hs2]; rfl))) fun σ H R ⟨g, hv, w, o⟩ => by
  subst hv
  rw [← M.assoc] at o
  refine ⟨g, rfl, w, o.bind kS fun g1 (b1 : RefB) H1 v1 s1 e1 o1 => ?_⟩
  obtain ⟨x, n, ev⟩ := d_lst_nav e1
  obtain ⟨g2, ⟨fl, y⟩, s2, ey, vs2, o2⟩ := Out.forceN o1 w s1 n
  have ey : y = x := ey
  subst ey
  rw [← M.assoc] at o2
  refine ⟨g2, vs2.trans s1.vs, s2.gw w, Out.bindL kS o2 s2 fun g3 (b3 : RefB) H3 v3 s3 e3 o3 => ?_⟩
  obtain ⟨x', n', ev'⟩ := d_lst_nav e3
  have s23 : GSt X.K H g H3 g3 ([(fl, y)] ++ b3.ens) := s2.app s3
  obtain ⟨g4, ⟨fl4, z⟩, s4, ez, vs4, o4⟩ := Out.forceN2 o3 w s23 n'
  have ez : z = x' := ez
  subst ez
  have ok1 := s4.wd.ok (fl, y) (List.mem_append_right _ List.mem_cons_self)
  have ok2 := s4.wd.ok (fl4, z) (List.mem_append_right _ (List.mem_cons_of_mem _ List.mem_cons_self))
  have s5 : GSt X.K H g H3 g4 (shs [y, z]) := GSt.share2 s4
  have o4 : Out kW X.K W H g ((match y.d, z.d with
    | .lst xs, .lst ys => if D.noLL xs && D.noLL ys then pure (zipD xs ys, .sh, none) else M.fail
    | .tup xs, .tup ys => if D.noLL xs && D.noLL ys then pure (zipD xs ys, .sh, none) else M.fail
    | _, _ => M.fail : M Wk) g4.d) R := o4
  cases y with
  | lst a1 xs =>
    cases z with
    | lst a2 ys =>
      rw [AV.d, AV.d, AV.dL_eq, AV.dL_eq] at o4
      dsimp only at o4
      by_cases hn : (D.noLL (xs.map AV.d) && D.noLL (ys.map AV.d)) = true
      case neg => rw [if_neg hn] at o4; exact o4.elim
      rw [if_pos hn] at o4
      rw [Bool.and_eq_true] at hn
      have ok1 : (AV.lst a1 xs).ok X.K H3 g4.ce := ok1
      have ok2 : (AV.lst a2 ys).ok X.K H3 g4.ce := ok2
      rw [AV.ok] at ok1 ok2
      have key : ∀ H C, OkX X.K H C [.lst a1 xs, .lst a2 ys] [] → (SqL X.K H a1 (xs.map AV.v) ∧ SqL X.K H a2 (ys.map AV.v)) ∧ (∀ x ∈ xs, x.ok X.K H C) ∧ ∀ y ∈ ys, y.ok X.K H C := fun H C h => by
        have h1 := h.1 _ List.mem_cons_self
        have h2 := h.1 _ (List.mem_cons_of_mem _ List.mem_cons_self)
        rw [AV.ok] at h1 h2
        exact ⟨⟨SqL.of h1.1, SqL.of h2.1⟩, AV.okL_iff.mp h1.2, AV.okL_iff.mp h2.2⟩
      refine ⟨a1, a2, xs.map AV.v, ys.map AV.v, by rw [← ev, ← ev']; rfl, .inl ⟨SqL.of ok1.1, SqL.of ok2.1, ?_⟩⟩
      have o5 : Out kW X.K W H g (some (.ok (zipD (xs.map AV.d) (ys.map AV.d), .sh, none) g4.d)) R := o4
      refine o5 g4 ⟨zipD (xs.map AV.d) (ys.map AV.d), .sh, none, shs [.lst a1 xs, .lst a2 ys], [.lst a1 xs, .lst a2 ys], []⟩ H3 (Itz X.K a1 a2) s5 rfl rfl ⟨wlk_zip hn.1 hn.2 (fun H C h => (key H C h).2) (fun H C i h hl => ?_) (fun H C i h h1 h2 => ?_) (fun H C i x H' h hy => ?_), (fun z hz => nomatch hz), .inl ⟨rfl, rfl⟩⟩
      · exact ⟨_, _, (key H C h).1.1, (key H C h).1.2, by rw [List.length_map, List.length_map]; exact hl⟩
      · obtain ⟨p, hp⟩ := get_len h1
        obtain ⟨q, hq⟩ := get_len h2
        exact ⟨_, _, p.v, q.v, (key H C h).1.1, (key H C h).1.2, by rw [List.getElem?_map, hp]; rfl, by rw [List.getElem?_map, hq]; rfl⟩
      · obtain ⟨T, p, q, e1, e2, e3, e4, e5⟩ := hy
        exact ⟨T, p, q, e1, e2, e3, e4 _ (key H C h).1.1, e5 _ (key H C h).1.2⟩
    | _ => exact (o4 : False).elim
  | tup a1 xs =>
    cases z with
    | tup a2 ys =>
      rw [AV.d, AV.d, AV.dL_eq, AV.dL_eq] at o4
      dsimp only at o4
      by_cases hn : (D.noLL (xs.map AV.d) && D.noLL (ys.map AV.d)) = true
      case neg => rw [if_neg hn] at o4; exact o4.elim
      rw [if_pos hn] at o4
      rw [Bool.and_eq_true] at hn
      have ok1 : (AV.tup a1 xs).ok X.K H3 g4.ce := ok1
      have ok2 : (AV.tup a2 ys).ok X.K H3 g4.ce := ok2
      rw [AV.ok] at ok1 ok2
      have key : ∀ H C, OkX X.K H C [.tup a1 xs, .tup a2 ys] [] → (SqT X.K H a1 (xs.map AV.v) ∧ SqT X.K H a2 (ys.map AV.v)) ∧ (∀ x ∈ xs, x.ok X.K H C) ∧ ∀ y ∈ ys, y.ok X.K H C := fun H C h => by
        have h1 := h.1 _ List.mem_cons_self
        have h2 := h.1 _ (List.mem_cons_of_mem _ List.mem_cons_self)
        rw [AV.ok] at h1 h2
        exact ⟨⟨h1.1, h2.1⟩, AV.okL_iff.mp h1.2, AV.okL_iff.mp h2.2⟩
      refine ⟨a1, a2, xs.map AV.v, ys.map AV.v, by rw [← ev, ← ev']; rfl, .inr ⟨ok1.1, ok2.1, ?_⟩⟩
      have o5 : Out kW X.K W H g (some (.ok (zipD (xs.map AV.d) (ys.map AV.d), .sh, none) g4.d)) R := o4
      refine o5 g4 ⟨zipD (xs.map AV.d) (ys.map AV.d), .sh, none, shs [.tup a1 xs, .tup a2 ys], [.tup a1 xs, .tup a2 ys], []⟩ H3 (RZ.ItzT X.K a1 a2) s5 rfl rfl ⟨wlk_zip hn.1 hn.2 (fun H C h => (key H C h).2) (fun H C i h hl => ?_) (fun H C i h h1 h2 => ?_) (fun H C i x H' h hy => ?_), (fun z hz => nomatch hz), .inl ⟨rfl, rfl⟩⟩
      · exact ⟨_, _, (key H C h).1.1, (key H C h).1.2, by rw [List.length_map, List.length_map]; exact hl⟩
      · obtain ⟨p, hp⟩ := get_len h1
        obtain ⟨q, hq⟩ := get_len h2
        exact ⟨_, _, p.v, q.v, (key H C h).1.1, (key H C h).1.2, by rw [List.getElem?_map, hp]; rfl, by rw [List.getElem?_map, hq]; rfl⟩
      · obtain ⟨T, p, q, e1, e2, e3, e4, e5⟩ := hy
        exact ⟨T, p, q, e1, e2, e3, e4 _ (key H C h).1.1, e5 _ (key H C h).1.2⟩
    | _ => exact (o4 : False).elim
  | _ => cases z <;> exact (o4 : False).elim
/-- a slice, walked -/
theorem pi_cutS {lo hi : Option Expr} {mlo mhi : M (Option Int)} {p2 : Pos} (ha : Snd X W a ma) (hl : PO X lo (SM kO X.K W mlo)) (hh : PO X hi (SM kO X.K W mhi)) : PI X tg (.Subscript a (.Slice lo hi none p2) pos) (SM kW X.K W (do
    let r ← stab (← ma)
    let l ← mlo
    let h ← mhi
    let d ← look r
    if d.isLst then do
      let w ← takeOut r
      pure (cutD w.1 l h, w.2.1, w.2.2)
    else do
      let x ← M.of (slD d l h)
      let ds ← M.of x.items
      pure (ds, .sh, none))) := PI.weak (pi_seq (pe_slice sl_x (se_stab ha.pe) hl hh)) fun σ H R ⟨g, hv, w, o⟩ => by
  subst hv
  rw [← M.assoc] at o
  refine ⟨g, rfl, w, o.bind kS fun g1 (b1 : RefB) H1 v1 s1 e1 o1 => ?_⟩
  refine ⟨g1, s1.vs, s1.gw w, o1.bindL kO s1 fun g2 (l : Option Int) H2 l' s2 e2 o2 => ?_⟩
  have e2 : l' = l := e2
  subst e2
  have s12 := s1.app s2
  refine ⟨g2, s12.vs, s12.gw w, Out.bindL kO o2 s12 fun g3 (hh : Option Int) H3 h' s3 e3 o3 => ?_⟩
  have e3 : h' = hh := e3
  subst e3
  have s13 : GSt X.K H g H3 g3 b1.ens := (s12.app s3).sub ⟨[], by
    show ((b1.ens ++ []) ++ []).Perm _
    simp⟩
  have gw := s13.gw w
  have e1' : b1.is g3 v1 := RefB.is_vs e1 (s3.vs.trans s2.vs)
  obtain ⟨y, n, ev⟩ := d_lst_nav e1'
  have oky := RefA.nav_ok (rs := b1.ens) s13.wd gw (fun e he => by rw [RefB.aens] at he; exact he) n
  have o3 : Out kW X.K W H g ((Om.look b1.a.r >>= fun d => if d.isLst then (Om.takeOut b1.a.r >>= fun w => (pure (cutD w.1 l' h', w.2.1, w.2.2) : M Wk)) else (M.of (slD d l' h') >>= fun x => (M.of x.items >>= fun ds => (pure (ds, .sh, none) : M Wk)))) g3.d) R := by
    rw [RefB.ar]; exact o3
  have el : Om.look b1.a.r g3.d = some (.ok y.d g3.d) := by unfold Om.look; rw [RefA.nav_get n]
  rw [M.bind_ok el] at o3
  cases y with
  | lst a0 ys =>
    have hil : (AV.lst a0 ys).d.isLst = true := by rw [AV.d]; rfl
    rw [if_pos hil] at o3
    have s13' : GSt X.K H g H3 g3 b1.a.ens := by rw [RefB.aens]; exact s13
    obtain ⟨xs, mo, lk, T, hi, s4, o4, hat⟩ := Out.take o3 w s13' n
    cases hi
    have okl := oky
    rw [AV.ok] at okl
    refine ⟨.lst a0 ys, g3.ce, ys, ev.symm, oky, .inl ⟨⟨a0, rfl⟩, fun p hp => ?_⟩⟩
    refine ⟨p, rfl, .inl ⟨⟨_, SqL.of upd_same⟩, ?_⟩⟩
    have o5 : Out kW X.K W H g (some (.ok (cutD (ys.map AV.d) l' h', mo, lk) g3.d)) R := o4
    have s5 : GSt X.K H g (upd H3 p (.lst ((cutA ys l' h').map AV.v))) g3 T := ⟨s4.st.laid hp, s4.vs, s4.gk⟩
    have kp : Keep [] H3 (upd H3 p (.lst ((cutA ys l' h').map AV.v))) := keep_upd hp []
    have okk : ∀ x : AV, x.ok X.K H3 g3.ce → x.ok X.K (upd H3 p (.lst ((cutA ys l' h').map AV.v))) g3.ce := fun x hx => AV.ok_keep (O := []) kp (fun _ z => nomatch z) .refl x hx fun _ _ z => nomatch z
    have np := s4.st.left.wd.ne_new hp
    have hcut : D.noLL (ys.map AV.d) = true → D.noLL (cutD (ys.map AV.d) l' h') = true := fun h => by
      rw [← cutA_d]
      refine D.noLL_iff.mpr fun d hd => ?_
      obtain ⟨z, hz, rfl⟩ := List.mem_map.mp hd
      exact D.noLL_iff.mp h _ (List.mem_map.mpr ⟨z, cutA_mem hz, rfl⟩)
    refine o5 g3 ⟨cutD (ys.map AV.d) l' h', mo, lk, T, [.lst a0 ys], [(p, (cutA ys l' h').map AV.v)]⟩ _ (Itl X.K p) s5 rfl rfl ⟨?_, fun z hz => ?_, ?_⟩
    · rw [← cutA_d]; exact wlk_cut rfl fun z hz => cutA_mem hz
    · cases List.mem_singleton.mp hz
      refine ⟨upd_same, fun hm => ?_⟩
      rcases List.mem_append.mp hm with h | h
      · exact np p (List.mem_append_left _ h) rfl
      · exact np p (List.mem_append_right _ (List.mem_append_right _ h)) rfl
    · cases lk with
      | none =>
        rcases hat with h | ⟨h1, h2, h3⟩
        · exact .inl h
        · refine .inr ⟨h1, h2.imp_right (fun q => ⟨q.1, hcut q.2⟩), fun X hX => ⟨okk X (h3 X hX).1, (h3 X hX).2⟩⟩
      | some k =>
        obtain ⟨h1, h2, av, q, h3⟩ := hat
        exact ⟨h1, h2.imp_right (fun q => ⟨q.1, hcut q.2⟩), av, q, fun X hX => ⟨okk X (h3 X hX).1, (h3 X hX).2⟩⟩
  | tup a0 ys =>
    have hil : ¬ (AV.tup a0 ys).d.isLst = true := by rw [AV.d]; exact Bool.false_ne_true
    rw [if_neg hil] at o3
    obtain ⟨d, ed, o4⟩ := o3.of
    obtain ⟨a1, xs, ⟨h, _⟩ | ⟨h, hn, rfl⟩⟩ := slD_some ed
    · cases h
    · cases h
      obtain ⟨ds, eds, o5⟩ := o4.of
      cases eds
      have okl := oky
      rw [AV.ok] at okl
      have hcut : D.noLL ((cutA ys l' h').map AV.d) = true := by
        refine D.noLL_iff.mpr fun d hd => ?_
        obtain ⟨z, hz, rfl⟩ := List.mem_map.mp hd
        exact D.noLL_iff.mp hn _ (List.mem_map.mpr ⟨z, cutA_mem hz, rfl⟩)
      have o6 : Out kW X.K W H g (some (.ok ((cutA ys l' h').map AV.d, .sh, none) g3.d)) R := o5
      refine ⟨.tup a0 ys, g3.ce, ys, ev.symm, oky, .inr ⟨⟨a0, rfl⟩, fun e => ?_, fun p hp => ?_⟩⟩
      · refine ⟨a0, by rw [← ev]; rfl, .inr ⟨⟨_, okl.1⟩, ?_⟩⟩
        rw [e] at o6
        have wl := wlk_seq (K := X.K) (y := .tup a0 ys) rfl
        have sT : GSt X.K H g H3 g3 (shs [.tup a0 ys]) := s13.drop.flat (e := (false, .tup a0 ys)) (AV.as_noL _ (by rw [AV.d, AV.dL_eq]; exact hn)) oky
        exact o6 g3 ⟨ys.map AV.d, .sh, none, shs [.tup a0 ys], [.tup a0 ys], []⟩ H3 (Itt X.K a0) sT rfl rfl ⟨wl, (fun z hz => nomatch hz), .inl ⟨rfl, rfl⟩⟩
      · refine ⟨p, rfl, .inr ⟨⟨_, SqT.of upd_same⟩, ?_⟩⟩
        have wl := wlk_seq (K := X.K) (y := .tup p (cutA ys l' h')) rfl
        have s1 := s13.addL (xs := cutA ys l' h') fun x hx => ⟨AV.okL_iff.mp okl.2 x (cutA_mem hx), D.noLL_iff.mp hn _ (List.mem_map.mpr ⟨x, cutA_mem hx, rfl⟩)⟩
        have s2 := s1.tup hp
        rw [List.map_map, List.map_map] at s2
        have f1 : ((cutA ys l' h').map ((fun e : En => e.2.v) ∘ fun x => ((true, x) : En))) = (cutA ys l' h').map AV.v := rfl
        have f2 : ((cutA ys l' h').map ((fun e : En => e.2) ∘ fun x => ((true, x) : En))) = cutA ys l' h' := by simp [Function.comp_def]
        rw [f1, f2] at s2
        exact o6 g3 ⟨(cutA ys l' h').map AV.d, .sh, none, shs [.tup p (cutA ys l' h')], [.tup p (cutA ys l' h')], []⟩ _ (Itt X.K p) (GSt.share1 s2) rfl rfl ⟨wl, (fun z hz => nomatch hz), .inl ⟨rfl, rfl⟩⟩
  | _ =>
    exfalso
    rw [if_neg (by rw [AV.d]; exact Bool.false_ne_true)] at o3
    obtain ⟨d, ed, _⟩ := o3.of
    obtain ⟨a1, xs, ⟨h, _⟩ | ⟨h, hn, rfl⟩⟩ := slD_some ed <;> cases h
end
end Om

/-! Om21: targets. -/
namespace Om
open PySem PySem.Spec PyProof.Rows L2

mutual
def asgA : G → Mo × AV → GA → Option GA
  | .name k, e, g => if k < g.sl.length then some (g.put k (some e)) else none
  | .tup gs, (m, x), g => match x with
    | .tup _ xs => asgAs gs m xs g
    | .lst _ xs => if D.noLL (xs.map AV.d) then asgAs gs .sh xs g else none
    | _ => none
def asgAs : Gs → Mo → List AV → GA → Option GA
  | .nil, _, [], g => some g
  | .cons G gs, m, x :: xs, g => (asgA G (m, x) g).bind fun g' => asgAs gs m xs g'
  | _, _, _, _ => none
end
mutual
theorem asgA_d : ∀ (G : G) (m : Mo) (x : AV) (g : GA) {r : Res Unit}, asgG G (m, x.d) g.d = some r → ∃ g', asgA G (m, x) g = some g' ∧ r = .ok () g'.d
  | .name k, m, x, g, r, h => by
    rw [asgG, setSlot, GA.lenD] at h
    by_cases hk : k < g.sl.length
    · rw [if_pos hk] at h
      cases h
      exact ⟨g.put k (some (m, x)), by rw [asgA, if_pos hk], by rw [GA.put_d]; rfl⟩
    · rw [if_neg hk] at h; cases h
  | .tup gs, m, x, g, r, h => by
    cases x with
    | tup a xs =>
      rw [AV.d, AV.dL_eq, asgG] at h
      obtain ⟨g', e1, e2⟩ := asgAs_d gs m xs g h
      exact ⟨g', by rw [asgA]; exact e1, e2⟩
    | lst a xs =>
      rw [AV.d, AV.dL_eq, asgG] at h
      by_cases hn : D.noLL (xs.map AV.d) = true
      · simp only [hn, if_true] at h
        obtain ⟨g', e1, e2⟩ := asgAs_d gs .sh xs g h
        exact ⟨g', by rw [asgA]; simp only [hn, if_true]; exact e1, e2⟩
      · simp only [hn] at h; cases h
    | _ => simp [AV.d, asgG, M.fail] at h
theorem asgAs_d : ∀ (gs : Gs) (m : Mo) (xs : List AV) (g : GA) {r : Res Unit}, asgGs gs m (xs.map AV.d) g.d = some r → ∃ g', asgAs gs m xs g = some g' ∧ r = .ok () g'.d
  | .nil, m, [], g, r, h => by rw [List.map_nil, asgGs] at h; cases h; exact ⟨g, by rw [asgAs], rfl⟩
  | .nil, m, x :: xs, g, r, h => by rw [List.map_cons, asgGs] at h <;> first | cases h | (intros; simp_all)
  | .cons G gs, m, [], g, r, h => by rw [List.map_nil, asgGs] at h <;> first | cases h | (intros; simp_all)
  | .cons G gs, m, x :: xs, g, r, h => by
    rw [List.map_cons, asgGs] at h
    have h' : M.bind (asgG G (m, x.d)) (fun _ => asgGs gs m (xs.map AV.d)) g.d = some r := h
    unfold M.bind at h'
    cases e : asgG G (m, x.d) g.d with
    | none => rw [e] at h'; cases h'
    | some q =>
      obtain ⟨g1, e1, e2⟩ := asgA_d G m x g e
      rw [e, e2] at h'
      obtain ⟨g2, e3, e4⟩ := asgAs_d gs m xs g1 h'
      exact ⟨g2, by rw [asgAs, e1]; exact e3, e4⟩
end
/-! what a store leaves as it is -/
mutual
theorem asgA_keep : ∀ (G : G) (m : Mo) (x : AV) (g : GA) {g' : GA}, asgA G (m, x) g = some g' → g'.ce = g.ce ∧ g'.sl.length = g.sl.length ∧ ∀ j, j ∉ G.slots → g'.sl[j]? = g.sl[j]?
  | .name k, m, x, g, g', h => by
    rw [asgA] at h
    by_cases hk : k < g.sl.length
    · rw [if_pos hk] at h
      cases h
      refine ⟨rfl, by simp [GA.put], fun j hj => ?_⟩
      rw [GA.put_get hk, if_neg]
      intro e; subst e; exact hj (by rw [G.slots]; exact List.mem_singleton.mpr rfl)
    · rw [if_neg hk] at h; cases h
  | .tup gs, m, x, g, g', h => by
    cases x with
    | tup a xs => rw [asgA] at h; obtain ⟨e1, e2, e3⟩ := asgAs_keep gs m xs g h; exact ⟨e1, e2, fun j hj => e3 j (by rw [G.slots] at hj; exact hj)⟩
    | lst a xs =>
      rw [asgA] at h
      by_cases hn : D.noLL (xs.map AV.d) = true
      · simp only [hn, if_true] at h
        obtain ⟨e1, e2, e3⟩ := asgAs_keep gs .sh xs g h
        exact ⟨e1, e2, fun j hj => e3 j (by rw [G.slots] at hj; exact hj)⟩
      · simp only [hn] at h; cases h
    | _ => simp [asgA] at h
theorem asgAs_keep : ∀ (gs : Gs) (m : Mo) (xs : List AV) (g : GA) {g' : GA}, asgAs gs m xs g = some g' → g'.ce = g.ce ∧ g'.sl.length = g.sl.length ∧ ∀ j, j ∉ gs.slots → g'.sl[j]? = g.sl[j]?
  | .nil, m, [], g, g', h => by rw [asgAs] at h; cases h; exact ⟨rfl, rfl, fun _ _ => rfl⟩
  | .nil, m, x :: xs, g, g', h => by rw [asgAs] at h <;> first | cases h | (intros; simp_all)
  | .cons G gs, m, [], g, g', h => by rw [asgAs] at h <;> first | cases h | (intros; simp_all)
  | .cons G gs, m, x :: xs, g, g', h => by
    rw [asgAs] at h
    cases e : asgA G (m, x) g with
    | none => rw [e] at h; cases h
    | some g1 =>
      rw [e] at h
      obtain ⟨a1, a2, a3⟩ := asgA_keep G m x g e
      obtain ⟨b1, b2, b3⟩ := asgAs_keep gs m xs g1 h
      refine ⟨b1.trans a1, b2.trans a2, fun j hj => ?_⟩
      rw [Gs.slots, List.mem_append, not_or] at hj
      rw [b3 j hj.2, a3 j hj.1]
end
section
variable {K : PySem.W.Frag} {H H' : Hp} {L : List En} {C : Ce}
/-- a tuple is taken apart -/
theorem Stp.explode {L' : List En} {C' : Ce} {b : Bool} {a : Addr} {xs : List AV} (s : Stp K H L C H' ((b, .tup a xs) :: L') C') : Stp K H L C H' (xs.map (fun x => ((b, x) : En)) ++ L') C' := by
  have ok := s.wd.ok _ List.mem_cons_self
  have ok : (AV.tup a xs).ok K H' C' := ok
  rw [AV.ok] at ok
  have eo : Om.own (xs.map (fun x => ((b, x) : En)) ++ L') = Om.own ((b, .tup a xs) :: L') := by
    rw [own_app]
    show _ = own1 (b, AV.tup a xs) ++ Om.own L'
    congr 1
    cases b with
    | true =>
      show (xs.map (fun x => ((true, x) : En))).flatMap own1 = (AV.tup a xs).as
      rw [AV.as, AV.asL_eq, List.flatMap_map]; rfl
    | false =>
      show (xs.map (fun x => ((false, x) : En))).flatMap own1 = []
      rw [List.flatMap_map]
      exact List.flatMap_eq_nil_iff.mpr fun _ _ => rfl
  have es : Om.shr (xs.map (fun x => ((b, x) : En)) ++ L') = Om.shr ((b, .tup a xs) :: L') := by
    rw [shr_app]
    show _ = shr1 (b, AV.tup a xs) ++ Om.shr L'
    congr 1
    cases b with
    | false =>
      show (xs.map (fun x => ((false, x) : En))).flatMap shr1 = (AV.tup a xs).as
      rw [AV.as, AV.asL_eq, List.flatMap_map]; rfl
    | true =>
      show (xs.map (fun x => ((true, x) : En))).flatMap shr1 = []
      rw [List.flatMap_map]
      exact List.flatMap_eq_nil_iff.mpr fun _ _ => rfl
  refine s.chg ⟨fun e he => ?_, by rw [eo]; exact s.wd.nd, by rw [eo, es]; exact s.wd.sh, s.wd.ce⟩ (fun q h => by rw [eo, es] at h; exact h) (fun q h => by rw [eo] at h; exact h)
  rcases List.mem_append.mp he with h | h
  · obtain ⟨x, hx, rfl⟩ := List.mem_map.mp h
    exact AV.okL_iff.mp ok.2 x hx
  · exact s.wd.ok e (List.mem_cons_of_mem _ h)
/-- flat things, told besides -/
theorem Stp.flats {L' : List En} {C' : Ce} {b : Bool} : ∀ {xs : List AV}, Stp K H L C H' L' C' → (∀ x ∈ xs, x.ok K H' C' ∧ x.as = []) → Stp K H L C H' (xs.map (fun x => ((b, x) : En)) ++ L') C'
  | [], s, _ => s
  | x :: xs, s, h => (Stp.flats (xs := xs) s fun y hy => h y (List.mem_cons_of_mem _ hy)).flat (e := (b, x)) (h x List.mem_cons_self).2 (h x List.mem_cons_self).1
mutual
/-- a store of an owned or of a shared thing -/
theorem asgA_own : ∀ (G : G) (b : Bool) (x : AV) (g : GA) (rs : List En) {g' : GA}, Stp K H L C H' ((b, x) :: (ents g.sl ++ rs)) g.ce → asgA G (moB b, x) g = some g' → Stp K H L C H' (ents g'.sl ++ rs) g'.ce
  | .name k, b, x, g, rs, g', s, h => by
    rw [asgA] at h
    by_cases hk : k < g.sl.length
    · rw [if_pos hk] at h
      cases h
      obtain ⟨o, ho⟩ : ∃ o, g.sl[k]? = some o := ⟨_, List.getElem?_eq_getElem hk⟩
      have p1 := ents_get ho
      have p2 : (ents (g.put k (some (moB b, x))).sl).Perm ((b, x) :: ents (g.sl.set k none)) := by
        have := ents_set (some (moB b, x)) hk
        cases b <;> exact this
      refine s.sub ⟨entL o, ?_⟩
      refine ((p1.append_right rs).cons (b, x)).trans ?_
      refine List.Perm.trans ?_ ((p2.append_right rs).append_right (entL o)).symm
      show ((b, x) :: (entL o ++ ents (g.sl.set k none) ++ rs)).Perm ((b, x) :: (ents (g.sl.set k none) ++ rs ++ entL o))
      refine List.Perm.cons _ ?_
      rw [List.append_assoc]
      exact List.perm_append_comm
    · rw [if_neg hk] at h; cases h
  | .tup gs, b, x, g, rs, g', s, h => by
    cases x with
    | tup a xs => rw [asgA] at h; exact asgAs_own gs b xs g rs s.explode h
    | lst a xs =>
      rw [asgA] at h
      by_cases hn : D.noLL (xs.map AV.d) = true
      · simp only [hn, if_true] at h
        have ok := s.wd.ok _ List.mem_cons_self
        have ok : (AV.lst a xs).ok K H' g.ce := ok
        rw [AV.ok] at ok
        have s0 : Stp K H L C H' (ents g.sl ++ rs) g.ce := s.sub ⟨[(b, .lst a xs)], (List.perm_append_singleton _ _).symm⟩
        exact asgAs_own gs false xs g rs (s0.flats fun x hx => ⟨AV.okL_iff.mp ok.2 x hx, AV.as_noL x (D.noLL_iff.mp hn _ (List.mem_map.mpr ⟨x, hx, rfl⟩))⟩) h
      · simp only [hn] at h; cases h
    | _ => simp [asgA] at h
theorem asgAs_own : ∀ (gs : Gs) (b : Bool) (xs : List AV) (g : GA) (rs : List En) {g' : GA}, Stp K H L C H' (xs.map (fun x => ((b, x) : En)) ++ (ents g.sl ++ rs)) g.ce → asgAs gs (moB b) xs g = some g' → Stp K H L C H' (ents g'.sl ++ rs) g'.ce
  | .nil, b, [], g, rs, g', s, h => by rw [asgAs] at h; cases h; exact s
  | .nil, b, x :: xs, g, rs, g', s, h => by rw [asgAs] at h <;> first | cases h | (intros; simp_all)
  | .cons G gs, b, [], g, rs, g', s, h => by rw [asgAs] at h <;> first | cases h | (intros; simp_all)
  | .cons G gs, b, x :: xs, g, rs, g', s, h => by
    rw [asgAs] at h
    cases e : asgA G (moB b, x) g with
    | none => rw [e] at h; cases h
    | some g1 =>
      rw [e] at h
      have s1 : Stp K H L C H' ((b, x) :: (ents g.sl ++ (xs.map (fun x => ((b, x) : En)) ++ rs))) g.ce := s.perm (by
        show ((b, x) :: (xs.map (fun x => ((b, x) : En)) ++ (ents g.sl ++ rs))).Perm _
        refine List.Perm.cons _ ?_
        exact List.perm_append_comm_assoc _ _ _)
      have s2 := asgA_own G b x g (xs.map (fun x => ((b, x) : En)) ++ rs) s1 e
      refine asgAs_own gs b xs g1 rs (s2.perm ?_) h
      exact List.perm_append_comm_assoc _ _ _
end
mutual
/-- a store of a thing that is locked elsewhere -/
theorem asgA_lk : ∀ (G : G) (x : AV) (g : GA) (rs : List En) {g' : GA}, Stp K H L C H' (ents g.sl ++ rs) g.ce → x.ok K H' g.ce → asgA G (.lk, x) g = some g' → Stp K H L C H' (ents g'.sl ++ rs) g'.ce
  | .name k, x, g, rs, g', s, ok, h => by
    rw [asgA] at h
    by_cases hk : k < g.sl.length
    · rw [if_pos hk] at h
      cases h
      obtain ⟨o, ho⟩ : ∃ o, g.sl[k]? = some o := ⟨_, List.getElem?_eq_getElem hk⟩
      have p1 := ents_get ho
      have p2 : (ents (g.put k (some (.lk, x))).sl).Perm (ents (g.sl.set k none)) := ents_lk hk
      refine s.sub ⟨entL o, ?_⟩
      refine (p1.append_right rs).trans ?_
      refine List.Perm.trans ?_ ((p2.append_right rs).append_right (entL o)).symm
      rw [List.append_assoc]
      exact List.perm_append_comm
    · rw [if_neg hk] at h; cases h
  | .tup gs, x, g, rs, g', s, ok, h => by
    cases x with
    | tup a xs => rw [asgA] at h; rw [AV.ok] at ok; exact asgAs_lk gs xs g rs s (AV.okL_iff.mp ok.2) h
    | lst a xs =>
      rw [asgA] at h
      rw [AV.ok] at ok
      by_cases hn : D.noLL (xs.map AV.d) = true
      · simp only [hn, if_true] at h
        exact asgAs_own gs false xs g rs (s.flats fun x hx => ⟨AV.okL_iff.mp ok.2 x hx, AV.as_noL x (D.noLL_iff.mp hn _ (List.mem_map.mpr ⟨x, hx, rfl⟩))⟩) h
      · simp only [hn] at h; cases h
    | _ => simp [asgA] at h
theorem asgAs_lk : ∀ (gs : Gs) (xs : List AV) (g : GA) (rs : List En) {g' : GA}, Stp K H L C H' (ents g.sl ++ rs) g.ce → (∀ x ∈ xs, x.ok K H' g.ce) → asgAs gs .lk xs g = some g' → Stp K H L C H' (ents g'.sl ++ rs) g'.ce
  | .nil, [], g, rs, g', s, _, h => by rw [asgAs] at h; cases h; exact s
  | .nil, x :: xs, g, rs, g', s, _, h => by rw [asgAs] at h <;> first | cases h | (intros; simp_all)
  | .cons G gs, [], g, rs, g', s, _, h => by rw [asgAs] at h <;> first | cases h | (intros; simp_all)
  | .cons G gs, x :: xs, g, rs, g', s, ok, h => by
    rw [asgAs] at h
    cases e : asgA G (.lk, x) g with
    | none => rw [e] at h; cases h
    | some g1 =>
      rw [e] at h
      have s2 := asgA_lk G x g rs s (ok x List.mem_cons_self) e
      refine asgAs_lk gs xs g1 rs s2 (fun y hy => ?_) h
      rw [(asgA_keep G .lk x g e).1]
      exact ok y (List.mem_cons_of_mem _ hy)
end
mutual
/-- the locked things behind a store -/
theorem asgA_gh : ∀ (G : G) (m : Mo) (x : AV) (g : GA) {g' : GA}, x.ok K H g.ce → asgA G (m, x) g = some g' → ∀ (j : Nat) (y : AV), g'.sl[j]? = some (some (.lk, y)) → g.sl[j]? = some (some (.lk, y)) ∨ (y.ok K H g.ce ∧ ∀ a ∈ y.as, a ∈ x.as)
  | .name k, m, x, g, g', ok, h, j, y, hj => by
    rw [asgA] at h
    by_cases hk : k < g.sl.length
    · rw [if_pos hk] at h
      cases h
      rw [GA.put_get hk] at hj
      by_cases e : k = j
      · rw [if_pos e] at hj
        cases hj
        exact .inr ⟨ok, fun _ h => h⟩
      · rw [if_neg e] at hj; exact .inl hj
    · rw [if_neg hk] at h; cases h
  | .tup gs, m, x, g, g', ok, h, j, y, hj => by
    cases x with
    | tup a xs =>
      rw [asgA] at h; rw [AV.ok] at ok
      rcases asgAs_gh gs m xs g (AV.okL_iff.mp ok.2) h j y hj with q | ⟨q1, q2⟩
      · exact .inl q
      · exact .inr ⟨q1, fun a ha => by rw [AV.as]; exact q2 a ha⟩
    | lst a xs =>
      rw [asgA] at h
      rw [AV.ok] at ok
      by_cases hn : D.noLL (xs.map AV.d) = true
      · simp only [hn, if_true] at h
        rcases asgAs_gh gs .sh xs g (AV.okL_iff.mp ok.2) h j y hj with q | ⟨q1, q2⟩
        · exact .inl q
        · exact .inr ⟨q1, fun a ha => by rw [AV.as]; exact List.mem_cons_of_mem _ (q2 a ha)⟩
      · simp only [hn] at h; cases h
    | _ => simp [asgA] at h
theorem asgAs_gh : ∀ (gs : Gs) (m : Mo) (xs : List AV) (g : GA) {g' : GA}, (∀ x ∈ xs, x.ok K H g.ce) → asgAs gs m xs g = some g' → ∀ (j : Nat) (y : AV), g'.sl[j]? = some (some (.lk, y)) → g.sl[j]? = some (some (.lk, y)) ∨ (y.ok K H g.ce ∧ ∀ a ∈ y.as, a ∈ AV.asL xs)
  | .nil, m, [], g, g', _, h, j, y, hj => by rw [asgAs] at h; cases h; exact .inl hj
  | .nil, m, x :: xs, g, g', _, h, j, y, hj => by rw [asgAs] at h <;> first | cases h | (intros; simp_all)
  | .cons G gs, m, [], g, g', _, h, j, y, hj => by rw [asgAs] at h <;> first | cases h | (intros; simp_all)
  | .cons G gs, m, x :: xs, g, g', ok, h, j, y, hj => by
    rw [asgAs] at h
    cases e : asgA G (m, x) g with
    | none => rw [e] at h; cases h
    | some g1 =>
      rw [e] at h
      have ec := (asgA_keep G m x g e).1
      rcases asgAs_gh gs m xs g1 (fun y hy => by rw [ec]; exact ok y (List.mem_cons_of_mem _ hy)) h j y hj with q | ⟨q1, q2⟩
      · rcases asgA_gh G m x g (ok x List.mem_cons_self) e j y q with q | ⟨q1, q2⟩
        · exact .inl q
        · exact .inr ⟨q1, fun a ha => by rw [AV.asL]; exact List.mem_append_left _ (q2 a ha)⟩
      · rw [ec] at q1
        exact .inr ⟨q1, fun a ha => by rw [AV.asL]; exact List.mem_append_right _ (q2 a ha)⟩
end
end

/-! ### the model's targets -/
def tG (K : PySem.W.Frag) (G : G) : TG := fun v σ H Q => ∃ (ga : GA) (m : Mo) (x : AV) (ga' : GA), ga.vs = σ ∧ x.v = v ∧ x.ok K H ga.ce ∧ asgA G (m, x) ga = some ga' ∧ Q ga'.vs H
def tGs (K : PySem.W.Frag) (gs : Gs) : TGs := fun vs σ H Q => ∃ (ga : GA) (m : Mo) (xs : List AV) (ga' : GA), ga.vs = σ ∧ xs.map AV.v = vs ∧ (∀ x ∈ xs, x.ok K H ga.ce) ∧ asgAs gs m xs ga = some ga' ∧ Q ga'.vs H
section
variable {X : Cx} {tg : Expr} {es : List Expr} {pos : Pos}
theorem PG.weak {t t' : TG} (h : PG X tg t) (w : ∀ v σ H Q, t' v σ H Q → t v σ H Q) : PG X tg t' := ⟨fun pins s σ H v u Q I r q => h.run pins s σ H v u Q I r (w v σ H Q q)⟩
theorem PGs.weak {t t' : TGs} (h : PGs X es t) (w : ∀ v σ H Q, t' v σ H Q → t v σ H Q) : PGs X es t' := ⟨fun pins s σ H v u Q I r q => h.run pins s σ H v u Q I r (w v σ H Q q)⟩
theorem PG.or {t t' : TG} (h : PG X tg t) (h' : PG X tg t') : PG X tg (fun v σ H Q => t v σ H Q ∨ t' v σ H Q) := ⟨fun pins s σ H v u Q I r q => q.elim (h.run pins s σ H v u Q I r) (h'.run pins s σ H v u Q I r)⟩
theorem tg_name {k : Nat} {x : Str} (hN : X.N.Nodup) (hi : X.N[k]? = some x) (hx : Loc X.env.scope x) (hf : X.fn x = true ∨ X.env.scope.names.lookup x = some .local) : PG X (.Name x pos) (tG X.K (.name k)) :=
  PG.weak (pg_name hN hi hx hf) fun v σ H Q ⟨ga, m, z, ga', e1, e2, _, e3, q⟩ => by
    rw [asgA] at e3
    by_cases hk : k < ga.sl.length
    · rw [if_pos hk] at e3
      cases e3
      rw [GA.put_vs, e1, Option.map_some, e2] at q
      exact q
    · rw [if_neg hk] at e3; cases e3
theorem tgs_nil : PGs X [] (tGs X.K .nil) := PGs.weak pgs_nil fun vs σ H Q ⟨ga, m, xs, ga', e1, e2, _, e3, q⟩ => by
  cases xs with
  | nil => rw [asgAs] at e3; cases e3; rw [e1] at q; exact ⟨e2.symm, q⟩
  | cons _ _ => rw [asgAs] at e3 <;> first | cases e3 | (intros; simp_all)
theorem tgs_cons {e : Expr} {G : G} {gs : Gs} (h1 : PG X e (tG X.K G)) (h2 : PGs X es (tGs X.K gs)) (hs : nst e = true) : PGs X (e :: es) (tGs X.K (.cons G gs)) :=
  PGs.weak (pgs_cons h1 h2 (by cases e <;> first | rfl | cases hs)) fun vs σ H Q ⟨ga, m, xs, ga', e1, e2, ok, e3, q⟩ => by
    cases xs with
    | nil => rw [asgAs] at e3 <;> first | cases e3 | (intros; simp_all)
    | cons x xs =>
      rw [asgAs] at e3
      cases e : asgA G (m, x) ga with
      | none => rw [e] at e3; cases e3
      | some g1 =>
        rw [e] at e3
        refine ⟨x.v, xs.map AV.v, by rw [← e2]; rfl, ga, m, x, g1, e1, rfl, ok x List.mem_cons_self, e, g1, m, xs, ga', rfl, rfl, fun y hy => ?_, e3, q⟩
        rw [(asgA_keep G m x ga e).1]
        exact ok y (List.mem_cons_of_mem _ hy)
theorem asgAs_len : ∀ (gs : Gs) (m : Mo) (xs : List AV) (g : GA) {g' : GA} {ts : List Expr}, asgAs gs m xs g = some g' → PGs X ts (tGs X.K gs) → True := fun _ _ _ _ _ _ _ _ => trivial
theorem asgE_len {env : Env} : ∀ {es : List Expr}, nstL es = true → (assignEach es env).length = es.length ∧ (assignEach es env).findIdx? (·.1) = none
  | [], _ => ⟨rfl, rfl⟩
  | e :: es, h => by
    rw [nstL, Bool.and_eq_true] at h
    obtain ⟨i1, i2⟩ := asgE_len (es := es) (env := env) h.2
    have e1 : assignEach (e :: es) env = (false, assign e env) :: assignEach es env := by
      have h1 := h.1
      cases e <;> first | rfl | cases h1
    rw [e1]
    exact ⟨by rw [List.length_cons, List.length_cons, i1], by rw [List.findIdx?_cons]; simp [i2]⟩
def Gs.len : Gs → Nat
  | .nil => 0
  | .cons _ gs => gs.len + 1
theorem asgAs_n : ∀ (gs : Gs) (m : Mo) (xs : List AV) (g : GA) {g' : GA}, asgAs gs m xs g = some g' → xs.length = gs.len
  | .nil, m, [], g, g', h => rfl
  | .nil, m, x :: xs, g, g', h => by rw [asgAs] at h <;> first | cases h | (intros; simp_all)
  | .cons G gs, m, [], g, g', h => by rw [asgAs] at h <;> first | cases h | (intros; simp_all)
  | .cons G gs, m, x :: xs, g, g', h => by
    rw [asgAs] at h
    cases e : asgA G (m, x) g with
    | none => rw [e] at h; cases h
    | some g1 => rw [e] at h; rw [List.length_cons, Gs.len, asgAs_n gs m xs g1 h]
theorem tg_tup {gs : Gs} {kk : Nat} (hc : X.calm = true) (h : PGs X es (tGs X.K gs)) (hs : nstL es = true) (hl : es.length = gs.len) : PG X (.Tuple es kk pos) (tG X.K (.tup gs)) := by
  obtain ⟨n1, n2⟩ := asgE_len (env := X.env) hs
  refine PG.weak (PG.or (pg_tup hc h (n1.trans hl) n2) (pg_lst hc h (n1.trans hl) n2)) fun v σ H Q ⟨ga, m, x, ga', e1, e2, ok, e3, q⟩ => ?_
  cases x with
  | tup a xs =>
    rw [asgA] at e3
    rw [AV.ok] at ok
    exact .inl ⟨a, xs.map AV.v, e2.symm, ok.1, by rw [List.length_map]; exact asgAs_n gs m xs ga e3, ga, m, xs, ga', e1, rfl, AV.okL_iff.mp ok.2, e3, q⟩
  | lst a xs =>
    rw [asgA] at e3
    rw [AV.ok] at ok
    by_cases hn : D.noLL (xs.map AV.d) = true
    · simp only [hn, if_true] at e3
      exact .inr ⟨a, xs.map AV.v, e2.symm, SqL.of ok.1, by rw [List.length_map]; exact asgAs_n gs .sh xs ga e3, ga, .sh, xs, ga', e1, rfl, AV.okL_iff.mp ok.2, e3, q⟩
    · simp only [hn] at e3; cases e3
  | _ => simp [asgA] at e3
end
end Om

/-! Om22: slots emptied, restored, locked; what persists. -/
namespace Om
open PySem PySem.Spec PyProof.Rows L2

/-! ### emptied slots -/
theorem wipeL_map {α β : Type} (f : α → β) (s : List (Option α)) : ∀ ks : List Nat, (wipeL s ks).map (Option.map f) = wipeL (s.map (Option.map f)) ks
  | [] => rfl
  | k :: ks => by rw [wipeL, List.map_set, wipeL_map f s ks]; rfl
theorem wipeL_wipe (σ : St) : ∀ ks : List Nat, wipeL σ ks = L2.wipe σ ks
  | [] => rfl
  | k :: ks => by rw [wipeL, wipeL_wipe σ ks]; rfl
theorem wipeL_len {α : Type} (s : List (Option α)) : ∀ ks : List Nat, (wipeL s ks).length = s.length
  | [] => rfl
  | k :: ks => by rw [wipeL, List.length_set, wipeL_len s ks]
theorem wipeL_out {α : Type} (s : List (Option α)) {j : Nat} : ∀ {ks : List Nat}, j ∉ ks → (wipeL s ks)[j]? = s[j]?
  | [], _ => rfl
  | k :: ks, h => by
    rw [List.mem_cons, not_or] at h
    rw [wipeL, List.getElem?_set_ne (Ne.symm h.1), wipeL_out s h.2]
theorem wipeL_in {α : Type} (s : List (Option α)) {j : Nat} {y : α} : ∀ {ks : List Nat}, j ∈ ks → (wipeL s ks)[j]? ≠ some (some y)
  | [], h => nomatch h
  | k :: ks, h => by
    rw [wipeL]
    by_cases e : k = j
    · subst e
      by_cases hl : k < (wipeL s ks).length
      · rw [List.getElem?_set_self hl]; exact fun h => nomatch h
      · rw [List.getElem?_eq_none (by rw [List.length_set]; omega)]; exact fun h => nomatch h
    · rw [List.getElem?_set_ne e]
      exact wipeL_in s ((List.mem_cons.mp h).resolve_left (Ne.symm e))
theorem wipeL_some {α : Type} {s : List (Option α)} {j : Nat} {y : α} {ks : List Nat} (h : (wipeL s ks)[j]? = some (some y)) : j ∉ ks ∧ s[j]? = some (some y) := by
  by_cases hj : j ∈ ks
  · exact absurd h (wipeL_in s hj)
  · exact ⟨hj, by rw [← wipeL_out s hj]; exact h⟩
theorem wipe_twice (σ : St) (ks : List Nat) : L2.wipe (L2.wipe σ ks) ks = L2.wipe σ ks := by
  rw [← wipeL_wipe, ← wipeL_wipe]
  apply List.ext_getElem?
  intro j
  by_cases h : j ∈ ks
  · cases e1 : (wipeL (wipeL σ ks) ks)[j]? with
    | none =>
      have : ¬ j < σ.length := fun hl => by
        have : j < (wipeL (wipeL σ ks) ks).length := by rw [wipeL_len, wipeL_len]; exact hl
        rw [List.getElem?_eq_getElem this] at e1; cases e1
      rw [List.getElem?_eq_none (by rw [wipeL_len]; omega)]
    | some o =>
      cases o with
      | some y => exact absurd e1 (wipeL_in _ h)
      | none =>
        have hl : j < σ.length := by
          have := lt_of_some e1
          rw [wipeL_len, wipeL_len] at this; exact this
        cases e2 : (wipeL σ ks)[j]? with
        | none => rw [List.getElem?_eq_getElem (by rw [wipeL_len]; exact hl)] at e2; cases e2
        | some o2 =>
          cases o2 with
          | none => rfl
          | some y => exact absurd e2 (wipeL_in _ h)
  · rw [wipeL_out _ h]
def GA.wipe (own : List Nat) (g : GA) : GA := ⟨wipeL g.sl own, g.ce⟩
theorem GA.wipe_d (own : List Nat) (g : GA) : (g.wipe own).d = wipeS own g.d := by
  unfold GA.wipe GA.d wipeS
  rw [wipeL_map]
theorem GA.wipe_vs (own : List Nat) (g : GA) : (g.wipe own).vs = L2.wipe g.vs own := by
  unfold GA.wipe GA.vs
  rw [wipeL_map, wipeL_wipe]
theorem ents_none {s : SlA} {k : Nat} : ∃ Z, (ents s).Perm (ents (s.set k none) ++ Z) := by
  by_cases hk : k < s.length
  · obtain ⟨o, ho⟩ : ∃ o, s[k]? = some o := ⟨_, List.getElem?_eq_getElem hk⟩
    exact ⟨entL o, (ents_get ho).trans List.perm_append_comm⟩
  · rw [List.set_eq_of_length_le (by omega)]
    exact ⟨[], by rw [List.append_nil]⟩
theorem ents_wipe (s : SlA) : ∀ ks : List Nat, ∃ Z, (ents s).Perm (ents (wipeL s ks) ++ Z)
  | [] => ⟨[], by rw [List.append_nil]; exact .refl _⟩
  | k :: ks => by
    obtain ⟨Z, p⟩ := ents_wipe s ks
    obtain ⟨Z', p'⟩ := ents_none (s := wipeL s ks) (k := k)
    exact ⟨Z' ++ Z, by rw [← List.append_assoc]; exact p.trans (p'.append_right Z)⟩
/-! ### restored slots -/
theorem wipeL_set {s : SlA} {k : Nat} {o : Option (Mo × AV)} : ∀ {ks : List Nat}, k ∉ ks → wipeL (s.set k o) ks = (wipeL s ks).set k o
  | [], _ => rfl
  | j :: ks, h => by
    rw [List.mem_cons, not_or] at h
    rw [wipeL, wipeL, wipeL_set h.2, List.set_comm _ _ h.1]
theorem mergeL_set {old s : SlA} {k : Nat} {o : Option (Mo × AV)} : ∀ {ks : List Nat}, k ∉ ks → mergeL old (s.set k o) ks = (mergeL old s ks).set k o
  | [], _ => rfl
  | j :: ks, h => by
    rw [List.mem_cons, not_or] at h
    rw [mergeL, mergeL, mergeL_set h.2, List.set_comm _ _ h.1]
theorem mergeL_len {α : Type} (old s : List (Option α)) : ∀ ks : List Nat, (mergeL old s ks).length = s.length
  | [] => rfl
  | k :: ks => by rw [mergeL, List.length_set, mergeL_len old s ks]
theorem mergeL_map {α β : Type} (f : α → β) (old s : List (Option α)) : ∀ ks : List Nat, (mergeL old s ks).map (Option.map f) = mergeL (old.map (Option.map f)) (s.map (Option.map f)) ks
  | [] => rfl
  | k :: ks => by
    rw [mergeL, List.map_set, mergeL_map f old s ks, mergeL]
    congr 1
    rw [List.getElem?_map]
    cases old[k]? <;> rfl
def savedE (old : SlA) (ks : List Nat) : List En := ents (ks.map fun k => (old[k]?).getD none)
theorem ents_merge {old : SlA} : ∀ {ks : List Nat} {s : SlA}, ks.Nodup → old.length = s.length → (ents (mergeL old s ks)).Perm (savedE old ks ++ ents (wipeL s ks))
  | [], s, _, _ => .refl _
  | k :: ks, s, nd, hl => by
    obtain ⟨n1, n2⟩ := List.nodup_cons.mp nd
    have ih := ents_merge (old := old) (ks := ks) (s := s.set k none) n2 (by rw [List.length_set]; exact hl)
    rw [wipeL_set n1, mergeL_set n1] at ih
    rw [mergeL, wipeL]
    have es : savedE old (k :: ks) = entL ((old[k]?).getD none) ++ savedE old ks := ents_cons _ _
    rw [es]
    by_cases hk : k < s.length
    · have p := ents_set (sl := mergeL old s ks) (k := k) ((old[k]?).getD none) (by rw [mergeL_len]; exact hk)
      refine p.trans ?_
      rw [List.append_assoc]
      exact List.Perm.append_left _ ih
    · have e1 : (mergeL old s ks).set k ((old[k]?).getD none) = mergeL old s ks := List.set_eq_of_length_le (by rw [mergeL_len]; omega)
      have e2 : (mergeL old s ks).set k none = mergeL old s ks := List.set_eq_of_length_le (by rw [mergeL_len]; omega)
      have e3 : old[k]? = none := List.getElem?_eq_none (by omega)
      rw [e1, e3]
      rw [e2] at ih
      exact ih
theorem mergeL_out {α : Type} (old s : List (Option α)) {j : Nat} : ∀ {ks : List Nat}, j ∉ ks → (mergeL old s ks)[j]? = s[j]?
  | [], _ => rfl
  | k :: ks, h => by
    rw [List.mem_cons, not_or] at h
    rw [mergeL, List.getElem?_set_ne (Ne.symm h.1), mergeL_out old s h.2]
theorem mergeL_in {α : Type} (old s : List (Option α)) (hl : old.length = s.length) {j : Nat} : ∀ {ks : List Nat}, j ∈ ks → (mergeL old s ks)[j]? = old[j]?
  | [], h => nomatch h
  | k :: ks, h => by
    rw [mergeL]
    by_cases e : k = j
    · subst e
      by_cases hk : k < s.length
      · rw [List.getElem?_set_self (by rw [mergeL_len]; exact hk)]
        rw [List.getElem?_eq_getElem (by omega)]; rfl
      · rw [List.getElem?_eq_none (by rw [List.length_set, mergeL_len]; omega), List.getElem?_eq_none (by omega)]
    · rw [List.getElem?_set_ne e]
      exact mergeL_in old s hl ((List.mem_cons.mp h).resolve_left (Ne.symm e))
theorem mergeL_self {α : Type} (s : List (Option α)) (ks : List Nat) : mergeL s s ks = s := by
  apply List.ext_getElem?
  intro j
  by_cases h : j ∈ ks
  · rw [mergeL_in s s rfl h]
  · rw [mergeL_out s s h]
/-- restored values, where the rest is as it was -/
theorem merge_vs {σ τ : St} {ks : List Nat} (hl : σ.length = τ.length) (h : L2.wipe τ ks = L2.wipe σ ks) : mergeL σ τ ks = σ := by
  apply List.ext_getElem?
  intro j
  by_cases hj : j ∈ ks
  · rw [mergeL_in σ τ hl hj]
  · rw [mergeL_out σ τ hj]
    have := congrArg (fun l => l[j]?) h
    simp only [← wipeL_wipe] at this
    rw [wipeL_out _ hj, wipeL_out _ hj] at this
    exact this
/-! ### what persists through a step -/
section
variable {K : PySem.W.Frag} {H H' H1 H2 : Hp} {L L' : List En} {C C' : Ce} {g g' g1 g2 gm : GA} {rs : List En}
theorem Stp.thing (s : Stp K H L C H' L' C') (w : Wd K H L C) {x : AV} (ok : x.ok K H C) (ap : ∀ a ∈ x.as, a ∉ Om.own L ++ ceA C) : x.ok K H' C' ∧ ∀ a ∈ x.as, a ∉ Om.own L' ++ ceA C' := by
  refine ⟨AV.ok_keep s.keep w.ownL s.ext x ok ap, fun a ha hm => ?_⟩
  rcases s.own a hm with z | z
  · exact ap a ha z
  · obtain ⟨vs, q⟩ := AV.ok_as x ok a ha
    rw [z] at q; cases q
theorem Stp.addr (s : Stp K H L C H' L' C') {a : Addr} {o : HO} (h : H a = some o) (ap : a ∉ Om.own L ++ ceA C) : H' a = some o ∧ a ∉ Om.own L' ++ ceA C' := by
  refine ⟨s.keep a o h ap, fun hm => ?_⟩
  rcases s.own a hm with z | z
  · exact ap z
  · rw [h] at z; cases z
theorem Stp.addr2 (s : Stp K H L C H' L' C') {a : Addr} {o : HO} (h : H a = some o) (ap : ∀ b ∈ Om.own L ++ (Om.shr L ++ ceA C), b ≠ a) : ∀ b ∈ Om.own L' ++ (Om.shr L' ++ ceA C'), b ≠ a := fun b hb e => by
  subst e
  rcases s.all b hb with z | z
  · exact ap b z rfl
  · rw [h] at z; cases z
/-- another list is written -/
theorem Stp.other (s : Stp K H L C H' L' C') {p : Addr} {vs ws : List V} (h0 : H p = none) (hp : H' p = some (.lst vs)) (np : ∀ b ∈ Om.own L' ++ (Om.shr L' ++ ceA C'), b ≠ p) : Stp K H L C (upd H' p (.lst ws)) L' C' := by
  have kp : Keep [p] H' (upd H' p (.lst ws)) := fun b u e hb => by rw [upd_ne (by simpa using hb)]; exact e
  have kl : ∀ b ∈ [p], ∃ vs, H' b = some (.lst vs) := fun b hb => by cases List.mem_singleton.mp hb; exact ⟨_, hp⟩
  refine ⟨⟨fun e he => ?_, s.wd.nd, s.wd.sh, fun q hq => ?_⟩, fun a o ha no => ?_, fun a ha => ?_, s.all, s.own, s.ext⟩
  · refine AV.ok_keep kp kl .refl e.2 (s.wd.ok e he) fun b hb hm => ?_
    cases List.mem_singleton.mp hm
    cases q : e.1 with
    | true => exact np p (List.mem_append_left _ (mem_own.mpr ⟨e, he, q, hb⟩)) rfl
    | false => exact np p (List.mem_append_right _ (List.mem_append_left _ (mem_shr.mpr ⟨e, he, q, hb⟩))) rfl
  · have c := s.wd.ce q hq
    have hqp : q.1 ≠ p := np q.1 (List.mem_append_right _ (List.mem_append_right _ (List.mem_map.mpr ⟨q, hq, rfl⟩)))
    refine ⟨by rw [upd_ne hqp]; exact c.1, fun y hy => ⟨AV.ok_keep kp kl .refl y (c.2 y hy).1 (fun b hb => by rw [(c.2 y hy).2] at hb; cases hb), (c.2 y hy).2⟩⟩
  · have hap : a ≠ p := fun e => by subst e; rw [h0] at ha; cases ha
    rw [upd_ne hap]; exact s.keep a o ha no
  · by_cases hap : a = p
    · subst hap; exact h0
    · rw [upd_ne hap] at ha; exact s.dom a ha
theorem GW.wipe (w : GW K H g) (own : List Nat) : GW K H (g.wipe own) := by
  refine ⟨w.wd.sub (ents_wipe g.sl own), fun j x hj => ?_⟩
  obtain ⟨_, hj⟩ := wipeL_some hj
  obtain ⟨o1, o2⟩ := w.gh j x hj
  refine ⟨o1, fun a ha hm => o2 a ha ?_⟩
  rcases List.mem_append.mp hm with h | h
  · refine List.mem_append_left _ ?_
    obtain ⟨Z, p⟩ := ents_wipe g.sl own
    have := (List.Perm.flatMap_right own1 p).mem_iff.mpr (by rw [List.flatMap_append]; exact List.mem_append_left _ h)
    exact this
  · exact List.mem_append_right _ h
theorem own_wipe {own' : List Nat} {a : Addr} (h : a ∈ own (ents (g.wipe own').sl)) : a ∈ own (ents g.sl) := by
  obtain ⟨Z, p⟩ := ents_wipe g.sl own'
  exact (List.Perm.flatMap_right own1 p).mem_iff.mpr (by rw [List.flatMap_append]; exact List.mem_append_left _ h)
theorem shr_wipe {own' : List Nat} {a : Addr} (h : a ∈ shr (ents (g.wipe own').sl)) : a ∈ shr (ents g.sl) := by
  obtain ⟨Z, p⟩ := ents_wipe g.sl own'
  exact (List.Perm.flatMap_right shr1 p).mem_iff.mpr (by rw [List.flatMap_append]; exact List.mem_append_left _ h)
/-! ### locks, around what is walked -/
def pst {α : Type} (lk : Option Nat) (f : Sg → Res α) (g : Sg) : Option (Res α) := match lk with
  | none => some (f g)
  | some k => unl k f g
def postL {α : Type} (lk : Option Nat) (r : Option (Res α)) : Option (Res α) := match r with
  | none => none
  | some (.ok a g) => pst lk (.ok a) g
  | some (.exc c g) => pst lk (.exc c) g
/-- what is known of what is walked, when the walk begins -/
structure RdOk (K : PySem.W.Frag) (H0 : Hp) (g0 : GA) (H : Hp) (g : GA) (R : List En) (b : WkA) : Prop where
  ok : ∀ X ∈ b.Xs, X.ok K H g.ce
  ap : ∀ X ∈ b.Xs, ∀ a ∈ X.as, a ∉ own (ents g.sl) ++ ceA g.ce
  sh : b.mo = .lk ∨ (b.mo = .sh ∧ D.noLL b.ds = true) ∨ (b.mo = .sh ∧ ∀ X ∈ b.Xs, ∀ a ∈ X.as, a ∉ own (ents g.sl ++ R) ++ ceA g.ce ∧ (a ∈ own (ents g0.sl) ++ (shr (ents g0.sl) ++ ceA g0.ce) ∨ H0 a = none))
  zs : ∀ z ∈ b.Zs, H z.1 = some (.lst z.2) ∧ z.1 ∉ own (ents g.sl) ++ ceA g.ce
theorem lock_start {b : WkA} {J : It} (s1 : GSt K H g H1 g1 b.T) (w : GW K H g) (e1 : WkOk K g1 H1 b J) : ∃ (gl : GA) (R : List En),
    (∀ (α : Type) (mm : M α), lockO b.lk mm g1.d = postL b.lk (mm gl.d)) ∧ Stp K H (ents g.sl) g.ce H1 (ents gl.sl ++ R) gl.ce ∧ GW K H1 gl ∧ gl.vs = g.vs ∧ RdOk K H g H1 gl R b ∧
    (∀ (α : Type) (f : Sg → Res α) (gm : GA) (r : Res α), (∀ (j : Nat) (x : AV), gm.sl[j]? = some (some (.lk, x)) → gl.sl[j]? = some (some (.lk, x))) → pst b.lk f gm.d = some r →
      ∃ gf : GA, r = f gf.d ∧ gf.vs = gm.vs ∧ gf.ce = gm.ce ∧ (∀ rs, (ents gf.sl ++ rs).Perm (ents gm.sl ++ (R ++ rs))) ∧ ∀ (j : Nat) (x : AV), gf.sl[j]? = some (some (.lk, x)) → g.sl[j]? = some (some (.lk, x))) := by
  have gw1 := s1.gw w
  have hat := e1.at'
  cases hlk : b.lk with
  | none =>
    rw [hlk] at hat
    have s0 := s1.drop
    refine ⟨g1, [], fun α mm => ?_, s0.st, gw1, s1.vs, ⟨fun X hX => ?_, fun X hX => ?_, ?_, e1.zs⟩, fun α f gm r hgk hr => ?_⟩
    · show mm g1.d = _
      cases mm g1.d with
      | none => rfl
      | some r => cases r <;> rfl
    · rcases hat with ⟨_, hT⟩ | ⟨_, _, h⟩
      · exact s1.wd.ok (false, X) (List.mem_append_right _ (by rw [hT]; exact List.mem_map.mpr ⟨X, hX, rfl⟩))
      · exact (h X hX).1
    · rcases hat with ⟨_, hT⟩ | ⟨_, _, h⟩
      · exact s1.wd.apart (false, X) (by rw [hT]; exact List.mem_map.mpr ⟨X, hX, rfl⟩)
      · exact (h X hX).2
    · rcases hat with ⟨hmo, hT⟩ | ⟨_, h | h, _⟩
      · refine .inr (.inr ⟨hmo, fun X hX a ha => ⟨?_, ?_⟩⟩)
        · rw [List.append_nil]
          exact s1.wd.apart (false, X) (by rw [hT]; exact List.mem_map.mpr ⟨X, hX, rfl⟩) a ha
        · exact s1.st.all a (List.mem_append_right _ (List.mem_append_left _ (mem_shr.mpr ⟨(false, X), List.mem_append_right _ (by rw [hT]; exact List.mem_map.mpr ⟨X, hX, rfl⟩), rfl, ha⟩)))
      · exact .inl h
      · exact .inr (.inl h)
    · cases hr
      exact ⟨gm, rfl, rfl, rfl, fun rs => .refl _, fun j x hj => s1.gk j x (hgk j x hj)⟩
  | some k =>
    rw [hlk] at hat
    obtain ⟨hT, hmo, av, q, hX⟩ := hat
    have hk := lt_of_some q
    have gwl := gw1.lock q
    have s0 := s1.drop
    have sA : Stp K H (ents g.sl) g.ce H1 (ents (g1.put k (some (.lk, av))).sl ++ [(true, av)]) (g1.put k (some (.lk, av))).ce := by
      have z := s0.st
      rw [List.append_nil] at z
      refine z.perm ((ents_get q).trans ?_)
      refine (List.perm_append_singleton _ _).symm.trans ?_
      exact (ents_lk hk).symm.append_right _
    refine ⟨g1.put k (some (.lk, av)), [(true, av)], fun α mm => ?_, sA, gwl, (GA.put_same_vs (e := (.ow, av)) (e' := (.lk, av)) q rfl).trans s1.vs, ⟨fun X h => (hX X h).1, fun X h a ha hm => ?_, ?_, fun z hz => ⟨(e1.zs z hz).1, fun hm => (e1.zs z hz).2 ?_⟩⟩, fun α f gm r hgk hr => ?_⟩
    · show Om.lockIn k mm g1.d = _
      unfold Om.lockIn
      rw [GA.slot_d q]
      dsimp only
      rw [GA.put_d]
      show _ = postL (some k) (mm { g1.d with sl := g1.d.sl.set k (some (.lk, av.d)) })
      cases mm { g1.d with sl := g1.d.sl.set k (some (.lk, av.d)) } with
      | none => rfl
      | some r => cases r <;> rfl
    · have q' : (g1.put k (some (.lk, av))).sl[k]? = some (some (.lk, av)) := by rw [GA.put_get hk, if_pos rfl]
      exact (gwl.gh k av q').2 a ((hX X h).2 a ha) hm
    · rcases hmo with h | h
      · exact .inl h
      · exact .inr (.inl h)
    · rcases List.mem_append.mp hm with h | h
      · refine List.mem_append_left _ ((List.Perm.flatMap_right own1 (ents_get q)).mem_iff.mpr ?_)
        rw [List.flatMap_append]
        exact List.mem_append_right _ ((List.Perm.flatMap_right own1 (ents_lk hk)).mem_iff.mp h)
      · exact List.mem_append_right _ h
    · have hr : unl k f gm.d = some r := hr
      unfold unl at hr
      cases q0 : gm.d.sl[k]? with
      | none => rw [q0] at hr; cases hr
      | some z =>
        rw [q0] at hr
        cases z with
        | none => cases hr
        | some p =>
          obtain ⟨mo, d'⟩ := p
          cases mo with
          | sh => cases hr
          | ow => cases hr
          | lk =>
            obtain ⟨av', q2, e2⟩ := GA.slot_of q0
            have h3 := hgk k av' q2
            rw [GA.put_get hk, if_pos rfl] at h3
            have h3 : av = av' := by cases h3; rfl
            subst h3
            have hk2 := lt_of_some q2
            cases hr
            refine ⟨gm.put k (some (.ow, av)), by rw [GA.put_d, ← e2]; rfl, GA.put_same_vs (e := (.lk, av)) (e' := (.ow, av)) q2 rfl, rfl, fun rs => ?_, fun j x hj => ?_⟩
            · have p2 : (ents gm.sl).Perm (ents (gm.sl.set k none)) := ents_get q2
              have p3 : (ents (gm.put k (some (.ow, av))).sl).Perm ((true, av) :: ents (gm.sl.set k none)) := ents_set (some (.ow, av)) hk2
              refine (p3.append_right rs).trans ?_
              refine List.Perm.trans ?_ (p2.symm.append_right _)
              exact (List.perm_middle (a := ((true, av) : En)) (l₁ := ents (gm.sl.set k none)) (l₂ := rs)).symm
            · rw [GA.put_get hk2] at hj
              by_cases h : k = j
              · rw [if_pos h] at hj; cases hj
              · rw [if_neg h] at hj
                have := hgk j x hj
                rw [GA.put_get hk, if_neg h] at this
                exact s1.gk j x this
end
mutual
/-- a store of what is not owned owns nothing new -/
theorem asgA_ownS : ∀ (G : G) (m : Mo) (x : AV) (g : GA) {g' : GA}, m ≠ .ow → asgA G (m, x) g = some g' → ∀ a ∈ own (ents g'.sl), a ∈ own (ents g.sl)
  | .name k, m, x, g, g', hm, h, a, ha => by
    rw [asgA] at h
    by_cases hk : k < g.sl.length
    · rw [if_pos hk] at h
      cases h
      obtain ⟨o, ho⟩ : ∃ o, g.sl[k]? = some o := ⟨_, List.getElem?_eq_getElem hk⟩
      have p1 := ents_get ho
      have p2 := ents_set (some (m, x)) hk
      have ha := (List.Perm.flatMap_right own1 p2).mem_iff.mp ha
      rw [List.flatMap_append] at ha
      refine (List.Perm.flatMap_right own1 p1).mem_iff.mpr ?_
      rw [List.flatMap_append]
      rcases List.mem_append.mp ha with h | h
      · cases m with
        | ow => exact absurd rfl hm
        | sh => simp [entL, entO, own1] at h
        | lk => simp [entL, entO, own1] at h
      · exact List.mem_append_right _ h
    · rw [if_neg hk] at h; cases h
  | .tup gs, m, x, g, g', hm, h, a, ha => by
    cases x with
    | tup b xs => rw [asgA] at h; exact asgAs_ownS gs m xs g hm h a ha
    | lst b xs =>
      rw [asgA] at h
      by_cases hn : D.noLL (xs.map AV.d) = true
      · simp only [hn, if_true] at h
        exact asgAs_ownS gs .sh xs g (fun h => nomatch h) h a ha
      · simp only [hn] at h; cases h
    | _ => simp [asgA] at h
theorem asgAs_ownS : ∀ (gs : Gs) (m : Mo) (xs : List AV) (g : GA) {g' : GA}, m ≠ .ow → asgAs gs m xs g = some g' → ∀ a ∈ own (ents g'.sl), a ∈ own (ents g.sl)
  | .nil, m, [], g, g', _, h, a, ha => by rw [asgAs] at h; cases h; exact ha
  | .nil, m, x :: xs, g, g', _, h, a, ha => by rw [asgAs] at h <;> first | cases h | (intros; simp_all)
  | .cons G gs, m, [], g, g', _, h, a, ha => by rw [asgAs] at h <;> first | cases h | (intros; simp_all)
  | .cons G gs, m, x :: xs, g, g', hm, h, a, ha => by
    rw [asgAs] at h
    cases e : asgA G (m, x) g with
    | none => rw [e] at h; cases h
    | some g1 =>
      rw [e] at h
      exact asgA_ownS G m x g hm e a (asgAs_ownS gs m xs g1 hm h a ha)
end
mutual
/-- what is shared behind a store -/
theorem asgA_shrS : ∀ (G : G) (m : Mo) (x : AV) (g : GA) {g' : GA}, asgA G (m, x) g = some g' → ∀ a ∈ shr (ents g'.sl), a ∈ shr (ents g.sl) ∨ a ∈ x.as
  | .name k, m, x, g, g', h, a, ha => by
    rw [asgA] at h
    by_cases hk : k < g.sl.length
    · rw [if_pos hk] at h
      cases h
      obtain ⟨o, ho⟩ : ∃ o, g.sl[k]? = some o := ⟨_, List.getElem?_eq_getElem hk⟩
      have p1 := ents_get ho
      have p2 := ents_set (some (m, x)) hk
      have ha := (List.Perm.flatMap_right shr1 p2).mem_iff.mp ha
      rw [List.flatMap_append] at ha
      rcases List.mem_append.mp ha with h | h
      · refine .inr ?_
        cases m with
        | sh => simpa [entL, entO, shr1] using h
        | ow => simp [entL, entO, shr1] at h
        | lk => simp [entL, entO, shr1] at h
      · refine .inl ((List.Perm.flatMap_right shr1 p1).mem_iff.mpr ?_)
        rw [List.flatMap_append]
        exact List.mem_append_right _ h
    · rw [if_neg hk] at h; cases h
  | .tup gs, m, x, g, g', h, a, ha => by
    cases x with
    | tup b xs => rw [asgA] at h; rw [AV.as]; exact asgAs_shrS gs m xs g h a ha
    | lst b xs =>
      rw [asgA] at h
      by_cases hn : D.noLL (xs.map AV.d) = true
      · simp only [hn, if_true] at h
        rw [AV.as]
        exact (asgAs_shrS gs .sh xs g h a ha).imp_right (List.mem_cons_of_mem _)
      · simp only [hn] at h; cases h
    | _ => simp [asgA] at h
theorem asgAs_shrS : ∀ (gs : Gs) (m : Mo) (xs : List AV) (g : GA) {g' : GA}, asgAs gs m xs g = some g' → ∀ a ∈ shr (ents g'.sl), a ∈ shr (ents g.sl) ∨ a ∈ AV.asL xs
  | .nil, m, [], g, g', h, a, ha => by rw [asgAs] at h; cases h; exact .inl ha
  | .nil, m, x :: xs, g, g', h, a, ha => by rw [asgAs] at h <;> first | cases h | (intros; simp_all)
  | .cons G gs, m, [], g, g', h, a, ha => by rw [asgAs] at h <;> first | cases h | (intros; simp_all)
  | .cons G gs, m, x :: xs, g, g', h, a, ha => by
    rw [asgAs] at h
    cases e : asgA G (m, x) g with
    | none => rw [e] at h; cases h
    | some g1 =>
      rw [e] at h
      rw [AV.asL]
      rcases asgAs_shrS gs m xs g1 h a ha with q | q
      · exact (asgA_shrS G m x g e a q).imp_right (List.mem_append_left _)
      · exact .inr (List.mem_append_right _ q)
end
end Om

/-! Om23: list comprehensions. -/
namespace Om
open PySem PySem.Spec PyProof.Rows L2

def WF : Str → St → Hp → Prop := fun _ _ _ => False
def kEl : Kd (Bool × D) V := ⟨En, fun e => (e.1, e.2.d), fun e => [e], fun _ _ _ e v => e.2.v = v⟩
section
variable {K : PySem.W.Frag} {W : Str → St → Hp → Prop} {H H0 H' H1 H2 : Hp} {L L' rs : List En} {C C' : Ce} {g g' g0 g1 g2 gl gi : GA} {α α' β γ δ : Type} {k : Kd α γ}
/-- the next of two, where nothing is raised -/
theorem Out.noxBind (k1 : Kd β δ) {post : Option (Res α') → Option (Res α)} (hp : post none = none) {m : M β} {f : β → M α'} {Q : γ → Hp → Prop} {P : δ → Hp → Prop} (o : Out k K W H0 g0 (post ((noX m >>= f) g1.d)) Q)
    (q : ∀ (g' : GA) (b : k1.β) (H' : Hp) (v : δ), GSt K H g1 H' g' (k1.ens b) → k1.val K g' H' b v → Out k K W H0 g0 (post (f (k1.er b) g'.d)) Q → P v H') : Out k1 K WF H g1 (m g1.d) P := by
  have o' : Out k K W H0 g0 (post (M.bind (noX m) f g1.d)) Q := o
  unfold M.bind noX at o'
  cases e : m g1.d with
  | none => rw [e] at o'; dsimp only at o'; rw [hp] at o'; exact o'
  | some r =>
    rw [e] at o'
    cases r with
    | exc c gd => dsimp only at o'; rw [hp] at o'; exact o'.elim
    | ok a gd =>
      intro g' b H' v s e1 e2 e3
      refine q g' b H' v s e3 ?_
      rw [e1, e2]; exact o'
/-- a list that lies there already takes its things up -/
theorem Stp.lstAt (s : Stp K H L C H' (L' ++ rs) C') {p : Addr} (hp0 : H p = none) (hp : H' p = some (.lst (rs.map fun e => e.2.v))) (hn : ∀ a ∈ Om.own (L' ++ rs) ++ (Om.shr (L' ++ rs) ++ ceA C'), a ≠ p) :
    Stp K H L C H' (L' ++ [(rs.all fresh1, .lst p (rs.map (·.2)))]) C' := by
  have ok : (AV.lst p (rs.map (·.2))).ok K H' C' := by
    rw [AV.ok, List.map_map]
    refine ⟨hp, AV.okL_iff.mpr fun x hx => ?_⟩
    obtain ⟨e, he, rfl⟩ := List.mem_map.mp hx
    exact s.wd.ok e (List.mem_append_right _ he)
  have has : (AV.lst p (rs.map (·.2))).as = [p] ++ AV.asL (rs.map (·.2)) := by rw [AV.as]; rfl
  have w := s.wd.gather ok [p] has (.inr ⟨p, rfl, hn⟩) (rs.all fresh1) fun h e he => (List.all_eq_true.mp h) e he
  have one : ∀ a, a ∈ Om.own [((rs.all fresh1 : Bool), AV.lst p (rs.map (·.2)))] ∨ a ∈ Om.shr [((rs.all fresh1 : Bool), AV.lst p (rs.map (·.2)))] → a = p ∨ a ∈ Om.own rs ∨ a ∈ Om.shr rs := fun a z => by
    have z' := asL_of_own z
    have e : AV.asL ([((rs.all fresh1 : Bool), AV.lst p (rs.map (·.2)))].map (·.2)) = p :: AV.asL (rs.map (·.2)) := by show AV.as _ ++ [] = _; rw [List.append_nil, AV.as]
    rw [e] at z'
    rcases List.mem_cons.mp z' with z | z
    · exact .inl z
    · exact .inr (own_or_shr z)
  refine ⟨w, s.keep, s.dom, fun a q => ?_, fun a q => ?_, s.ext⟩
  · rw [own_app, shr_app] at q
    have al := s.all a
    rw [own_app, shr_app] at al
    simp only [List.mem_append] at q al
    rcases q with (q | q) | (q | q) | q
    · simpa using al (.inl (.inl q))
    · rcases one a (.inl q) with rfl | z | z
      · exact .inr hp0
      · simpa using al (.inl (.inr z))
      · simpa using al (.inr (.inl (.inr z)))
    · simpa using al (.inr (.inl (.inl q)))
    · rcases one a (.inr q) with rfl | z | z
      · exact .inr hp0
      · simpa using al (.inl (.inr z))
      · simpa using al (.inr (.inl (.inr z)))
    · simpa using al (.inr (.inr q))
  · rw [own_app] at q
    have al := s.own a
    rw [own_app] at al
    simp only [List.mem_append] at q al
    rcases q with (q | q) | q
    · simpa using al (.inl (.inl q))
    · cases hf : rs.all fresh1 with
      | false => rw [hf] at q; exact absurd q (by simp [Om.own, own1])
      | true =>
        rw [hf] at q
        have e : Om.own [((true : Bool), AV.lst p (rs.map (·.2)))] = p :: AV.asL (rs.map (·.2)) := by show AV.as _ ++ [] = _; rw [List.append_nil, AV.as]
        rw [e, (fresh_own fun e he => (List.all_eq_true.mp hf) e he).1] at q
        rcases List.mem_cons.mp q with rfl | q
        · exact .inr hp0
        · simpa using al (.inl (.inr q))
    · simpa using al (.inr q)
theorem ok_laid {p : Addr} {o : HO} (hp : H p = none) {x : AV} (hx : x.ok K H C) : x.ok K (upd H p o) C := AV.ok_keep (O := []) (keep_upd hp []) (fun _ z => nomatch z) .refl x hx fun _ _ z => nomatch z
theorem GW.laid (w : GW K H g) {p : Addr} {o : HO} (hp : H p = none) : GW K (upd H p o) g := ⟨w.wd.laid hp, fun j x hj => ⟨ok_laid hp (w.gh j x hj).1, (w.gh j x hj).2⟩⟩
theorem ok_over {p : Addr} {vs : List V} {o : HO} (hp : H p = some (.lst vs)) {x : AV} (hx : x.ok K H C) (no : p ∉ x.as) : x.ok K (upd H p o) C :=
  AV.ok_keep (O := [p]) (fun b u e hb => by rw [upd_ne (by simpa using hb)]; exact e) (fun b hb => by cases List.mem_singleton.mp hb; exact ⟨_, hp⟩) .refl x hx fun b hb hm => by
    cases List.mem_singleton.mp hm; exact no hb

/-- what holds between the turns of a comprehension: es, what it has made; vs, what stands in its list -/
structure CInv (K : PySem.W.Frag) (H0 : Hp) (g0 gl : GA) (R : List En) (own' : List Nat) (b : WkA) (p : Addr) (H : Hp) (gi : GA) (es : List En) (vs : List V) : Prop where
  st : Stp K H0 (ents g0.sl) g0.ce H (ents (gi.wipe own').sl ++ (R ++ es)) gi.ce
  gw : GW K H (gi.wipe own')
  vs' : L2.wipe gi.vs own' = L2.wipe g0.vs own'
  gk : ∀ (j : Nat) (x : AV), (gi.wipe own').sl[j]? = some (some (.lk, x)) → gl.sl[j]? = some (some (.lk, x))
  ok : ∀ X ∈ b.Xs, X.ok K H gi.ce
  ap : ∀ X ∈ b.Xs, ∀ a ∈ X.as, a ∉ own (ents (gi.wipe own').sl) ++ ceA gi.ce
  sh : b.mo = .lk ∨ (b.mo = .sh ∧ D.noLL b.ds = true) ∨ (b.mo = .sh ∧ ∀ X ∈ b.Xs, ∀ a ∈ X.as, a ∉ own (ents (gi.wipe own').sl ++ (R ++ es)) ++ ceA gi.ce ∧ (a ∈ own (ents g0.sl) ++ (shr (ents g0.sl) ++ ceA g0.ce) ∨ H0 a = none))
  zs : ∀ z ∈ b.Zs, H z.1 = some (.lst z.2) ∧ z.1 ∉ own (ents (gi.wipe own').sl) ++ ceA gi.ce
  hD : H p = some (.lst vs)
  nD : ∀ a ∈ own (ents (gi.wipe own').sl ++ (R ++ es)) ++ (shr (ents (gi.wipe own').sl ++ (R ++ es)) ++ ceA gi.ce), a ≠ p
  nX : ∀ X ∈ b.Xs, p ∉ X.as
  nZ : ∀ z ∈ b.Zs, z.1 ≠ p
  nL : ∀ (j : Nat) (x : AV), gl.sl[j]? = some (some (.lk, x)) → p ∉ x.as
  h0 : H0 p = none
variable {R es : List En} {own' : List Nat} {b : WkA} {p : Addr} {vs ws : List V} {J : It} {G : G}
theorem CInv.upd' (c : CInv K H0 g0 gl R own' b p H gi es vs) : CInv K H0 g0 gl R own' b p (upd H p (.lst ws)) gi es ws :=
  ⟨c.st.other c.h0 c.hD c.nD, ⟨(c.st.other (ws := ws) c.h0 c.hD c.nD).wd.left, fun j x hj => ⟨ok_over c.hD (c.gw.gh j x hj).1 (c.nL j x (c.gk j x hj)), (c.gw.gh j x hj).2⟩⟩, c.vs', c.gk, fun X hX => ok_over c.hD (c.ok X hX) (c.nX X hX), c.ap, c.sh,
    fun z hz => ⟨by rw [upd_ne (c.nZ z hz)]; exact (c.zs z hz).1, (c.zs z hz).2⟩, upd_same, c.nD, c.nX, c.nZ, c.nL, c.h0⟩
theorem CInv.laid (c : CInv K H0 g0 gl R own' b p H gi es vs) {q : Addr} {o : HO} (hq : H q = none) : CInv K H0 g0 gl R own' b p (upd H q o) gi es vs :=
  ⟨c.st.laid hq, c.gw.laid hq, c.vs', c.gk, fun X hX => ok_laid hq (c.ok X hX), c.ap, c.sh, fun z hz => ⟨by rw [upd_ne (ne_of_none (c.zs z hz).1 hq)]; exact (c.zs z hz).1, (c.zs z hz).2⟩,
    by rw [upd_ne (ne_of_none c.hD hq)]; exact c.hD, c.nD, c.nX, c.nZ, c.nL, c.h0⟩
/-- a thing comes -/
theorem CInv.come (c : CInv K H0 g0 gl R own' b p H gi es vs) (wl : Wlk K J b.ds b.Xs b.Zs) {i : Nat} {x : V} {d : D} (hd : b.ds[i]? = some d) (hy : J.yld i H x H') :
    ∃ av : AV, av.v = x ∧ av.d = d ∧ av.ok K H' gi.ce ∧ p ∉ av.as ∧ CInv K H0 g0 gl R own' b p H' gi es vs ∧ ((b.mo = .lk ∧ ∀ a ∈ av.as, a ∉ own (ents (gi.wipe own').sl) ++ ceA gi.ce) ∨ (b.mo = .sh ∧ Stp K H0 (ents g0.sl) g0.ce H' ((false, av) :: (ents (gi.wipe own').sl ++ (R ++ es))) gi.ce)) := by
  have okx : OkX K H gi.ce b.Xs b.Zs := ⟨c.ok, fun z hz => (c.zs z hz).1⟩
  have flat : ∀ {H' : Hp} {av : AV}, CInv K H0 g0 gl R own' b p H' gi es vs → av.ok K H' gi.ce → av.as = [] → (b.mo = .lk ∧ ∀ a ∈ av.as, a ∉ own (ents (gi.wipe own').sl) ++ ceA gi.ce) ∨ (b.mo = .sh ∧ Stp K H0 (ents g0.sl) g0.ce H' ((false, av) :: (ents (gi.wipe own').sl ++ (R ++ es))) gi.ce) := fun {H' av} c ok has => by
    rcases c.sh with h | ⟨h, _⟩ | ⟨h, _⟩
    · exact .inl ⟨h, fun a ha => by rw [has] at ha; cases ha⟩
    · exact .inr ⟨h, c.st.flat (e := (false, av)) has ok⟩
    · exact .inr ⟨h, c.st.flat (e := (false, av)) has ok⟩
  rcases wl.yld H gi.ce i x H' d okx hd hy with ⟨rfl, av, e1, e2, ok, hs⟩ | ⟨q, ys, hq, rfl, rfl, rfl, hys⟩
  · refine ⟨av, e1, e2, ok, (by
      rcases hs with hs | ⟨X, hX, hs⟩
      · rw [hs]; exact fun h => nomatch h
      · exact fun h => c.nX X hX (hs p h)), c, ?_⟩
    rcases hs with hs | ⟨X, hX, hs⟩
    · exact flat c ok hs
    · rcases c.sh with h | ⟨h, hn⟩ | ⟨h, hsh⟩
      · exact .inl ⟨h, fun a ha => c.ap X hX a (hs a ha)⟩
      · have : av.as = [] := AV.as_noL av (by rw [e2]; exact D.noLL_iff.mp hn d (List.mem_of_getElem? hd))
        exact .inr ⟨h, c.st.flat (e := (false, av)) this ok⟩
      · exact .inr ⟨h, c.st.addShr ok (fun a ha => (hsh X hX a (hs a ha)).1) fun a ha => (hsh X hX a (hs a ha)).2⟩
  · have c' := c.laid (o := .tup (ys.map AV.v)) hq
    have ok : (AV.tup q ys).ok K (upd H q (.tup (ys.map AV.v))) gi.ce := by
      rw [AV.ok]
      exact ⟨SqT.of upd_same, AV.okL_iff.mpr fun y hy => ok_laid hq (hys y hy).1⟩
    have has : (AV.tup q ys).as = [] := by
      rw [AV.as]
      exact List.eq_nil_iff_forall_not_mem.mpr fun a ha => by
        obtain ⟨y, hy, h⟩ := mem_asL.mp ha
        rw [(hys y hy).2] at h; cases h
    exact ⟨.tup q ys, rfl, by rw [AV.d, AV.dL_eq], ok, (by rw [has]; intro h; cases h), c', flat c' ok has⟩
/-- behind the store -/
structure CMid (K : PySem.W.Frag) (H0 : Hp) (g0 gl : GA) (R : List En) (own' : List Nat) (b : WkA) (p : Addr) (H : Hp) (ga : GA) (es : List En) (vs : List V) : Prop where
  st : Stp K H0 (ents g0.sl) g0.ce H (ents ga.sl ++ (R ++ es)) ga.ce
  gw : GW K H ga
  vs' : L2.wipe ga.vs own' = L2.wipe g0.vs own'
  gk : ∀ (j : Nat) (x : AV), j ∉ own' → ga.sl[j]? = some (some (.lk, x)) → gl.sl[j]? = some (some (.lk, x))
  ok : ∀ X ∈ b.Xs, X.ok K H ga.ce
  ap : ∀ X ∈ b.Xs, ∀ a ∈ X.as, a ∉ own (ents ga.sl) ++ ceA ga.ce
  sh : b.mo = .lk ∨ (b.mo = .sh ∧ D.noLL b.ds = true) ∨ (b.mo = .sh ∧ ∀ X ∈ b.Xs, ∀ a ∈ X.as, a ∉ own (ents ga.sl ++ (R ++ es)) ++ ceA ga.ce ∧ (a ∈ own (ents g0.sl) ++ (shr (ents g0.sl) ++ ceA g0.ce) ∨ H0 a = none))
  zs : ∀ z ∈ b.Zs, H z.1 = some (.lst z.2) ∧ z.1 ∉ own (ents ga.sl) ++ ceA ga.ce
  hD : H p = some (.lst vs)
  nD : ∀ a ∈ own (ents ga.sl ++ (R ++ es)) ++ (shr (ents ga.sl ++ (R ++ es)) ++ ceA ga.ce), a ≠ p
  nX : ∀ X ∈ b.Xs, p ∉ X.as
  nZ : ∀ z ∈ b.Zs, z.1 ≠ p
  nL : ∀ (j : Nat) (x : AV), gl.sl[j]? = some (some (.lk, x)) → p ∉ x.as
  h0 : H0 p = none
theorem CInv.mid (c : CInv K H0 g0 gl R own' b p H gi es vs) {av : AV} (ok : av.ok K H gi.ce) (hm : (b.mo = .lk ∧ ∀ a ∈ av.as, a ∉ own (ents (gi.wipe own').sl) ++ ceA gi.ce) ∨ (b.mo = .sh ∧ Stp K H0 (ents g0.sl) g0.ce H ((false, av) :: (ents (gi.wipe own').sl ++ (R ++ es))) gi.ce))
    (hp : p ∉ av.as) (hG : ∀ j ∈ G.slots, j ∈ own') {ga : GA} (ha : asgA G (b.mo, av) (gi.wipe own') = some ga) : CMid K H0 g0 gl R own' b p H ga es vs := by
  obtain ⟨ec, el, es'⟩ := asgA_keep G b.mo av (gi.wipe own') ha
  have ec : ga.ce = gi.ce := ec
  have hmo : b.mo ≠ .ow := by rcases hm with ⟨h, _⟩ | ⟨h, _⟩ <;> rw [h] <;> exact fun h => nomatch h
  have ow := asgA_ownS G b.mo av (gi.wipe own') hmo ha
  have st : Stp K H0 (ents g0.sl) g0.ce H (ents ga.sl ++ (R ++ es)) ga.ce := by
    rcases hm with ⟨h, ap⟩ | ⟨h, s⟩
    · rw [h] at ha
      exact asgA_lk G av (gi.wipe own') (R ++ es) c.st ok ha
    · rw [h] at ha
      exact asgA_own G false av (gi.wipe own') (R ++ es) s ha
  have sub : ∀ a, a ∈ own (ents ga.sl) ++ ceA ga.ce → a ∈ own (ents (gi.wipe own').sl) ++ ceA gi.ce := fun a h => by
    rcases List.mem_append.mp h with h | h
    · exact List.mem_append_left _ (ow a h)
    · exact List.mem_append_right _ (by rw [← ec]; exact h)
  have gw : GW K H ga := by
    refine ⟨st.left.wd, fun j y hj => ?_⟩
    rcases asgA_gh (H := H) (K := K) G b.mo av (gi.wipe own') ok ha j y hj with q | ⟨q1, q2⟩
    · obtain ⟨o1, o2⟩ := c.gw.gh j y q
      have o1 : y.ok K H gi.ce := o1
      exact ⟨by rw [ec]; exact o1, fun a h hm => o2 a h (sub a hm)⟩
    · have q1 : y.ok K H gi.ce := q1
      refine ⟨by rw [ec]; exact q1, fun a h hm' => ?_⟩
      rcases hm with ⟨_, ap⟩ | ⟨_, s⟩
      · exact ap a (q2 a h) (sub a hm')
      · have := s.wd.sh a (show a ∈ av.as ++ _ from List.mem_append_left _ (q2 a h))
        refine this ?_
        rcases List.mem_append.mp (sub a hm') with h | h
        · refine List.mem_append_left _ ?_
          show a ∈ [] ++ own (ents (gi.wipe own').sl ++ (R ++ es))
          rw [List.nil_append, own_app]
          exact List.mem_append_left _ h
        · exact List.mem_append_right _ h
  have vs' : L2.wipe ga.vs own' = L2.wipe g0.vs own' := by
    have e : L2.wipe ga.vs own' = L2.wipe (gi.wipe own').vs own' := by
      rw [← wipeL_wipe, ← wipeL_wipe]
      apply List.ext_getElem?
      intro j
      have hl : ga.vs.length = (gi.wipe own').vs.length := by unfold GA.vs; rw [List.length_map, List.length_map, el]
      by_cases hj : j ∈ own'
      · by_cases hlt : j < ga.vs.length
        · have h1 : (wipeL ga.vs own')[j]? = some none := by
            obtain ⟨o, ho⟩ : ∃ o, (wipeL ga.vs own')[j]? = some o := ⟨_, List.getElem?_eq_getElem (by rw [wipeL_len]; exact hlt)⟩
            cases o with
            | none => exact ho
            | some y => exact absurd ho (wipeL_in _ hj)
          have h2 : (wipeL (gi.wipe own').vs own')[j]? = some none := by
            obtain ⟨o, ho⟩ : ∃ o, (wipeL (gi.wipe own').vs own')[j]? = some o := ⟨_, List.getElem?_eq_getElem (by rw [wipeL_len, ← hl]; exact hlt)⟩
            cases o with
            | none => exact ho
            | some y => exact absurd ho (wipeL_in _ hj)
          rw [h1, h2]
        · rw [List.getElem?_eq_none (by rw [wipeL_len]; omega), List.getElem?_eq_none (by rw [wipeL_len, ← hl]; omega)]
      · rw [wipeL_out _ hj, wipeL_out _ hj, GA.slV, GA.slV, es' j fun h => hj (hG j h)]
    rw [e, GA.wipe_vs, wipe_twice]
    exact c.vs'
  refine ⟨st, gw, vs', fun j x hj h => ?_, fun X hX => by rw [ec]; exact c.ok X hX, fun X hX a h hm => c.ap X hX a h (sub a hm), ?_, fun z hz => ⟨(c.zs z hz).1, fun hm => (c.zs z hz).2 (sub _ hm)⟩, c.hD, ?_, c.nX, c.nZ, c.nL, c.h0⟩
  · rw [es' j fun h => hj (hG j h)] at h
    exact c.gk j x h
  · rcases c.sh with h | h | ⟨h, q⟩
    · exact .inl h
    · exact .inr (.inl h)
    · refine .inr (.inr ⟨h, fun X hX a ha => ⟨fun hm => (q X hX a ha).1 ?_, (q X hX a ha).2⟩⟩)
      rcases List.mem_append.mp hm with hm | hm
      · rw [own_app] at hm
        rcases List.mem_append.mp hm with hm | hm
        · exact List.mem_append_left _ (by rw [own_app]; exact List.mem_append_left _ (ow a hm))
        · exact List.mem_append_left _ (by rw [own_app]; exact List.mem_append_right _ hm)
      · exact List.mem_append_right _ (by rw [← ec]; exact hm)
  · intro a h e
    rcases List.mem_append.mp h with h | h
    · rw [own_app] at h
      rcases List.mem_append.mp h with h | h
      · exact c.nD a (List.mem_append_left _ (by rw [own_app]; exact List.mem_append_left _ (ow a h))) e
      · exact c.nD a (List.mem_append_left _ (by rw [own_app]; exact List.mem_append_right _ h)) e
    · rcases List.mem_append.mp h with h | h
      · rw [shr_app] at h
        rcases List.mem_append.mp h with h | h
        · rcases asgA_shrS G b.mo av (gi.wipe own') ha a h with z | z
          · exact c.nD a (List.mem_append_right _ (List.mem_append_left _ (by rw [shr_app]; exact List.mem_append_left _ z))) e
          · subst e; exact hp z
        · exact c.nD a (List.mem_append_right _ (List.mem_append_left _ (by rw [shr_app]; exact List.mem_append_right _ h))) e
      · exact c.nD a (List.mem_append_right _ (List.mem_append_right _ (by rw [← ec]; exact h))) e
/-- the turn's end -/
theorem CMid.end' {ga gn : GA} (c : CMid K H0 g0 gl R own' b p H ga es vs) {rs : List En} (s : GSt K H ga H' gn rs) : CInv K H0 g0 gl R own' b p H' gn (es ++ rs) vs := by
  have a0 := c.st.app s.st
  have sub : ∀ a, a ∈ own (ents (gn.wipe own').sl) ++ ceA gn.ce → a ∈ own (ents gn.sl ++ rs) ++ ceA gn.ce := fun a h => by
    rcases List.mem_append.mp h with h | h
    · exact List.mem_append_left _ (by rw [own_app]; exact List.mem_append_left _ (own_wipe h))
    · exact List.mem_append_right _ h
  have thing : ∀ X ∈ b.Xs, X.ok K H' gn.ce ∧ ∀ a ∈ X.as, a ∉ own (ents gn.sl ++ rs) ++ ceA gn.ce := fun X hX => s.st.thing c.gw.wd (c.ok X hX) (c.ap X hX)
  have nd : ∀ a ∈ own (ents ga.sl) ++ (shr (ents ga.sl) ++ ceA ga.ce), a ≠ p := fun a h => c.nD a (by
    simp only [own_app, shr_app, List.mem_append] at h ⊢
    rcases h with h | h | h
    · exact .inl (.inl h)
    · exact .inr (.inl (.inl h))
    · exact .inr (.inr h))
  have nd2 := s.st.addr2 c.hD nd
  obtain ⟨hD2, _⟩ := s.st.addr c.hD fun h => nd p (by
    rcases List.mem_append.mp h with h | h
    · exact List.mem_append_left _ h
    · exact List.mem_append_right _ (List.mem_append_right _ h)) rfl
  have bel : ∀ a, a ∈ own (ents (gn.wipe own').sl ++ (R ++ (es ++ rs))) → a ∈ own (ents gn.sl ++ rs) ∨ a ∈ own (R ++ es) := fun a h => by
    simp only [own_app, List.mem_append] at h ⊢
    rcases h with h | h | h | h
    · exact .inl (.inl (own_wipe h))
    · exact .inr (.inl h)
    · exact .inr (.inr h)
    · exact .inl (.inr h)
  refine ⟨?_, (s.gw c.gw).wipe own', by rw [s.vs]; exact c.vs', fun j x hj => ?_, fun X hX => (thing X hX).1, fun X hX a ha h => (thing X hX).2 a ha (sub a h), ?_, fun z hz => ?_, hD2, ?_, c.nX, c.nZ, c.nL, c.h0⟩
  · obtain ⟨Z, pz⟩ := ents_wipe gn.sl own'
    refine a0.sub ⟨Z, ?_⟩
    refine (pz.append_right _).trans ?_
    show ((ents (wipeL gn.sl own') ++ Z) ++ ((R ++ es) ++ rs)).Perm ((ents (wipeL gn.sl own') ++ (R ++ (es ++ rs))) ++ Z)
    rw [List.append_assoc, List.append_assoc, List.append_assoc (ents (wipeL gn.sl own'))]
    exact List.Perm.append_left _ List.perm_append_comm
  · obtain ⟨h1, h2⟩ := wipeL_some hj
    exact c.gk j x h1 (s.gk j x h2)
  · rcases c.sh with h | h | ⟨h, q⟩
    · exact .inl h
    · exact .inr (.inl h)
    · refine .inr (.inr ⟨h, fun X hX a ha => ⟨fun hm => ?_, (q X hX a ha).2⟩⟩)
      rcases List.mem_append.mp hm with hm | hm
      · rcases bel a hm with z | z
        · exact (thing X hX).2 a ha (List.mem_append_left _ z)
        · exact (q X hX a ha).1 (List.mem_append_left _ (by rw [own_app]; exact List.mem_append_right _ z))
      · exact (thing X hX).2 a ha (List.mem_append_right _ hm)
  · obtain ⟨z1, z2⟩ := s.st.addr (c.zs z hz).1 (c.zs z hz).2
    exact ⟨z1, fun h => z2 (sub _ h)⟩
  · intro a h e
    rcases List.mem_append.mp h with h | h
    · rcases bel a h with z | z
      · exact nd2 a (List.mem_append_left _ z) e
      · exact c.nD a (List.mem_append_left _ (by rw [own_app]; exact List.mem_append_right _ z)) e
    · rcases List.mem_append.mp h with h | h
      · simp only [shr_app, List.mem_append] at h
        have back : a ∈ shr (R ++ es) → False := fun h => c.nD a (List.mem_append_right _ (List.mem_append_left _ (by rw [shr_app]; exact List.mem_append_right _ h))) e
        have back2 : a ∈ shr (ents gn.sl ++ rs) → False := fun h => nd2 a (List.mem_append_right _ (List.mem_append_left _ h)) e
        rcases h with h | h | h | h
        · exact back2 (by rw [shr_app]; exact List.mem_append_left _ (shr_wipe h))
        · exact back (by rw [shr_app]; exact List.mem_append_left _ h)
        · exact back (by rw [shr_app]; exact List.mem_append_right _ h)
        · exact back2 (by rw [shr_app]; exact List.mem_append_right _ h)
      · exact nd2 a (List.mem_append_right _ (List.mem_append_right _ h)) e
end
/-! ### the comprehension's reading -/
theorem comp_ok {K : PySem.W.Frag} {W : Str → St → Hp → Prop} {own' : List Nat} {G : G} {mI : M Wk} {mC : M Bool} {mE : M Ref} {σ : St} {H : Hp} {Q : VK} (hnd : own'.Nodup) (hG : ∀ j ∈ G.slots, j ∈ own')
    (h : SM kRef K W (do
      let w ← mI
      if fits w.1.length then do
        let es ← lockO w.2.2 (compM own' G w.2.1 mC mE w.1)
        pure (.tmp (es.all fresh) (.lst (es.map (·.2))))
      else M.fail) σ H Q) : tLc (SM kW K W mI) (tG K G) (SM kB K WF mC) (SM kEl K WF (do force (← stab (← mE)))) own' σ H Q := by
  obtain ⟨g0, hσ, w, o⟩ := h
  subst hσ
  refine ⟨g0, rfl, w, o.bind kW fun g1 (b : WkA) H1 J s1 e1 o1 => ?_⟩
  intro p hp
  have o1 : Out kRef K W H g0 ((if fits b.ds.length then (lockO b.lk (compM own' G b.mo mC mE b.ds) >>= fun es => (pure (.tmp (es.all fresh) (.lst (es.map (·.2)))) : M Ref)) else M.fail) g1.d) Q := o1
  by_cases hf : fits b.ds.length = true
  case neg => rw [if_neg hf] at o1; exact o1.elim
  rw [if_pos hf] at o1
  have hfl := fits_le hf
  obtain ⟨gl, R, hlock, sl, gwl, vsl, rd, fin⟩ := lock_start s1 w e1
  -- what is done behind the turns
  let fz : List (Bool × D) → M Ref := fun es => pure (.tmp (es.all fresh) (.lst (es.map (·.2))))
  let mrg : Option (Res (List (Bool × D))) → Option (Res (List (Bool × D))) := fun r => match r with
    | some (.ok es s2) => some (.ok es { s2 with sl := mergeL gl.d.sl s2.sl own' })
    | _ => none
  let post : Option (Res (List (Bool × D))) → Option (Res Ref) := fun r => match postL b.lk (mrg r) with
    | none => none
    | some (.ok a g') => fz a g'
    | some (.exc c g') => some (.exc c g')
  have hpost : post none = none := rfl
  have o2 : Out kRef K W H g0 (post (compL own' G b.mo mC mE b.ds gl.d)) Q := by
    have o1' : Out kRef K W H g0 (M.bind (lockO b.lk (compM own' G b.mo mC mE b.ds)) fz g1.d) Q := o1
    unfold M.bind at o1'
    rw [hlock] at o1'
    have hcm : compM own' G b.mo mC mE b.ds gl.d = mrg (compL own' G b.mo mC mE b.ds gl.d) := by
      unfold compM
      cases compL own' G b.mo mC mE b.ds gl.d with
      | none => rfl
      | some r => cases r <;> rfl
    rw [hcm] at o1'
    show Out kRef K W H g0 (match postL b.lk (mrg (compL own' G b.mo mC mE b.ds gl.d)) with
      | none => none
      | some (.ok a g') => fz a g'
      | some (.exc c g') => some (.exc c g')) Q
    revert o1'
    generalize postL b.lk (mrg (compL own' G b.mo mC mE b.ds gl.d)) = q
    cases q with
    | none => exact fun h => h
    | some r => cases r <;> exact fun h => h
  have h0 : H p = none := s1.st.dom p hp
  have nls : ∀ {x : AV} {C : Ce}, x.ok K H1 C → p ∉ x.as := fun {x C} hx hm => by
    obtain ⟨vs, q⟩ := AV.ok_as x hx p hm
    rw [hp] at q; cases q
  have hR : (ents gl.sl ++ R).Perm (ents (gl.wipe own').sl ++ ((savedE gl.sl own' ++ R) ++ [])) := by
    have q := ents_merge (old := gl.sl) (s := gl.sl) hnd rfl
    rw [mergeL_self] at q
    rw [List.append_nil, ← List.append_assoc]
    exact (q.trans List.perm_append_comm).append_right R
  have hown : ∀ a, a ∈ own (ents (gl.wipe own').sl ++ ((savedE gl.sl own' ++ R) ++ [])) → a ∈ own (ents gl.sl ++ R) := fun a h => (List.Perm.flatMap_right own1 hR).mem_iff.mpr h
  have c0 : CInv K H g0 gl (savedE gl.sl own' ++ R) own' b p (upd H1 p (.lst [])) gl [] [] := by
    have st := (sl.perm hR).laid (o := .lst []) hp
    refine ⟨st, (gwl.laid hp).wipe own', by rw [vsl], fun j x hj => (wipeL_some hj).2, fun X hX => ok_laid hp (rd.ok X hX), fun X hX a ha hm => rd.ap X hX a ha ?_, ?_, fun z hz => ⟨by rw [upd_ne (ne_of_none (rd.zs z hz).1 hp)]; exact (rd.zs z hz).1, fun hm => (rd.zs z hz).2 ?_⟩, upd_same, ?_, fun X hX => nls (rd.ok X hX), fun z hz e => ?_, fun j x hj => nls (gwl.gh j x hj).1, h0⟩
    · rcases List.mem_append.mp hm with h | h
      · exact List.mem_append_left _ (own_wipe h)
      · exact List.mem_append_right _ h
    · rcases rd.sh with h | h | ⟨h, q⟩
      · exact .inl h
      · exact .inr (.inl h)
      · refine .inr (.inr ⟨h, fun X hX a ha => ⟨fun hm => (q X hX a ha).1 ?_, (q X hX a ha).2⟩⟩)
        rcases List.mem_append.mp hm with h | h
        · exact List.mem_append_left _ (hown a h)
        · exact List.mem_append_right _ h
    · rcases List.mem_append.mp hm with h | h
      · exact List.mem_append_left _ (own_wipe h)
      · exact List.mem_append_right _ h
    · exact (sl.perm hR).wd.ne_new hp
    · have := (rd.zs z hz).1
      rw [e, hp] at this; cases this
  -- the turns
  let kk : List En → List (Bool × D) → M (List (Bool × D)) := fun es xs => pure (es.map (fun e => (e.1, e.2.d)) ++ xs)
  let I : Nat → Hp → Prop := fun i H' => ∃ (gi : GA) (es : List En), es.length ≤ i ∧ CInv K H g0 gl (savedE gl.sl own' ++ R) own' b p H' gi es (es.map fun e => e.2.v) ∧ Out kRef K W H g0 (post ((compL own' G b.mo mC mE (b.ds.drop i) >>= kk es) gi.d)) Q
  refine ⟨fun i m H' => m = b.ds.length - i ∧ i ≤ b.ds.length ∧ I i H', ⟨b.ds.length, rfl, Nat.zero_le _, gl, [], Nat.le_refl _, c0, ?_⟩, ?_⟩
  · have e : (compL own' G b.mo mC mE (b.ds.drop 0) >>= kk []) = compL own' G b.mo mC mE b.ds := by
      rw [List.drop_zero]; exact M.bind_pure
    rw [e]; exact o2
  rintro i m H' ⟨rfl, hi, gi, es, hes, c, oi⟩
  have okx : OkX K H' gi.ce b.Xs b.Zs := ⟨c.ok, fun z hz => (c.zs z hz).1⟩
  by_cases hlt : i < b.ds.length
  · refine .inr ⟨e1.wlk.go H' gi.ce i okx hlt, I (i + 1), fun H2 h2 => ⟨b.ds.length - (i + 1), by omega, rfl, hlt, h2⟩, fun x H2 hy => ?_⟩
    obtain ⟨d, hd⟩ := get_len hlt
    obtain ⟨av, ev, ed, okav, hpav, c2, hm⟩ := c.come e1.wlk hd hy
    have edrop : b.ds.drop i = d :: b.ds.drop (i + 1) := by
      obtain ⟨_, e⟩ := List.getElem?_eq_some_iff.mp hd
      rw [List.drop_eq_getElem_cons hlt, e]
    rw [edrop] at oi
    have oi : Out kRef K W H g0 (post (((asgG G (b.mo, d) >>= fun _ => (noX mC >>= fun bb => if bb then (noX (do force (← stab (← mE))) >>= fun x => (compL own' G b.mo mC mE (b.ds.drop (i + 1)) >>= fun xs => (pure (x :: xs) : M (List (Bool × D))))) else compL own' G b.mo mC mE (b.ds.drop (i + 1)))) >>= kk es) (gi.wipe own').d)) Q := by
      rw [GA.wipe_d]; exact oi
    rw [M.assoc] at oi
    cases ea : asgG G (b.mo, d) (gi.wipe own').d with
    | none =>
      exfalso
      have oi' : Out kRef K W H g0 (post (M.bind (asgG G (b.mo, d)) (fun _ => ((noX mC >>= fun bb => if bb then (noX (do force (← stab (← mE))) >>= fun x => (compL own' G b.mo mC mE (b.ds.drop (i + 1)) >>= fun xs => (pure (x :: xs) : M (List (Bool × D))))) else compL own' G b.mo mC mE (b.ds.drop (i + 1))) >>= kk es)) (gi.wipe own').d)) Q := oi
      unfold M.bind at oi'
      rw [ea] at oi'
      exact oi'
    | some r =>
      have ea' := ea
      rw [← ed] at ea'
      obtain ⟨ga, ega, er⟩ := asgA_d G b.mo av (gi.wipe own') ea'
      rw [er] at ea
      rw [M.bind_ok ea, M.assoc] at oi
      have mid := c2.mid okav hm hpav hG ega
      refine ⟨gi.wipe own', b.mo, av, ga, by rw [GA.wipe_vs]; exact c.vs', ev, okav, ega, ?_⟩
      refine ⟨mid.vs', ga, rfl, mid.gw, oi.noxBind kB hpost fun g2 (bb : Bool) H3 b' s2 e2 o3 => ?_⟩
      have e2 : b' = bb := e2
      subst e2
      cases b' with
      | false =>
        rw [if_neg (by decide)]
        have c3 := mid.end' s2
        rw [show kB.ens false = [] from rfl, List.append_nil] at c3
        exact ⟨g2, es, by omega, c3, o3⟩
      | true =>
        rw [if_pos rfl]
        have o3 : Out kRef K W H g0 (post ((noX (do force (← stab (← mE))) >>= fun x => (compL own' G b.mo mC mE (b.ds.drop (i + 1)) >>= fun xs => kk es (x :: xs))) g2.d)) Q := by
          have e : ((noX (do force (← stab (← mE))) >>= fun x => (compL own' G b.mo mC mE (b.ds.drop (i + 1)) >>= fun xs => (pure (x :: xs) : M (List (Bool × D))))) >>= kk es) = (noX (do force (← stab (← mE))) >>= fun x => (compL own' G b.mo mC mE (b.ds.drop (i + 1)) >>= fun xs => kk es (x :: xs))) := by
            rw [M.assoc]; congr 1; funext x; rw [M.assoc]; rfl
          rw [← e]; exact o3
        have s2' : GSt K H2 ga H3 g2 [] := s2
        refine ⟨g2, s2.vs, s2.gw mid.gw, o3.noxBind kEl hpost fun g3 (en : En) H4 y s3 e3 o4 => ?_⟩
        have e3 : en.2.v = y := e3
        subst e3
        have s23 : GSt K H2 ga H4 g3 [en] := s2'.app s3
        have c3 := mid.end' s23
        refine ⟨es.map fun e => e.2.v, c3.hD, by rw [List.length_map]; omega, ?_⟩
        have ev2 : (es.map fun e => e.2.v) ++ [en.2.v] = (es ++ [en]).map fun e => e.2.v := by rw [List.map_append]; rfl
        rw [ev2]
        refine ⟨g3, es ++ [en], by rw [List.length_append, List.length_singleton]; omega, c3.upd', ?_⟩
        have ek : (fun xs => kk es ((en.1, en.2.d) :: xs)) = kk (es ++ [en]) := by
          funext xs
          show (pure _ : M (List (Bool × D))) = pure _
          congr 1
          simp
        rw [← ek]; exact o4
  · have e : i = b.ds.length := by omega
    subst e
    refine .inl ⟨e1.wlk.stop H' gi.ce _ okx (Nat.le_refl _), ?_⟩
    rw [List.drop_length] at oi
    have oi : Out kRef K W H g0 (post (some (.ok (es.map (fun e => (e.1, e.2.d)) ++ []) gi.d))) Q := oi
    rw [List.append_nil] at oi
    -- the old slots
    let gm : GA := ⟨mergeL gl.sl gi.sl own', gi.ce⟩
    have hlen : gl.sl.length = gi.sl.length := by
      have h1 := congrArg List.length c.vs'
      rw [wipe_length, wipe_length] at h1
      have h2 := congrArg List.length vsl
      unfold GA.vs at h1 h2
      rw [List.length_map, List.length_map] at h1 h2
      omega
    have em : gm.d = { gi.d with sl := mergeL gl.d.sl gi.d.sl own' } := by
      show (⟨(mergeL gl.sl gi.sl own').map (Option.map enD), _⟩ : Sg) = _
      rw [mergeL_map]; rfl
    have vsm : gm.vs = g0.vs := by
      have h1 : gm.vs = mergeL gl.vs gi.vs own' := by
        show (mergeL gl.sl gi.sl own').map (Option.map fun e => e.2.v) = _
        rw [mergeL_map]; rfl
      rw [h1, ← vsl]
      refine merge_vs ?_ (by rw [vsl]; exact c.vs')
      unfold GA.vs; rw [List.length_map, List.length_map]; exact hlen
    have gkm : ∀ (j : Nat) (x : AV), gm.sl[j]? = some (some (.lk, x)) → gl.sl[j]? = some (some (.lk, x)) := fun j x hj => by
      by_cases hjo : j ∈ own'
      · have := mergeL_in gl.sl gi.sl hlen hjo
        rw [← this]; exact hj
      · have h1 : gi.sl[j]? = some (some (.lk, x)) := by rw [← mergeL_out gl.sl gi.sl hjo]; exact hj
        exact c.gk j x (by show (wipeL gi.sl own')[j]? = _; rw [wipeL_out _ hjo]; exact h1)
    have oi : Out kRef K W H g0 (match pst b.lk (.ok (es.map fun e => (e.1, e.2.d))) gm.d with
      | none => none
      | some (.ok a g') => fz a g'
      | some (.exc c g') => some (.exc c g')) Q := by rw [em]; exact oi
    cases hpst : pst b.lk (Res.ok (es.map fun e => (e.1, e.2.d))) gm.d with
    | none => rw [hpst] at oi; exact oi.elim
    | some r =>
      obtain ⟨gf, er, vsf, cef, pf, gkf⟩ := fin _ _ gm r gkm hpst
      rw [hpst, er] at oi
      have oi : Out kRef K W H g0 (some (.ok (.tmp ((es.map fun e => ((e.1, e.2.d) : Bool × D)).all fresh) (.lst ((es.map fun e => ((e.1, e.2.d) : Bool × D)).map (·.2)))) gf.d)) Q := oi
      have pm : (ents (gi.wipe own').sl ++ ((savedE gl.sl own' ++ R) ++ es)).Perm (ents gf.sl ++ es) := by
        have q1 := ents_merge (old := gl.sl) (s := gi.sl) hnd hlen
        refine List.Perm.trans ?_ (pf es).symm
        refine List.Perm.trans ?_ (q1.append_right (R ++ es)).symm
        show (ents (wipeL gi.sl own') ++ ((savedE gl.sl own' ++ R) ++ es)).Perm ((savedE gl.sl own' ++ ents (wipeL gi.sl own')) ++ (R ++ es))
        rw [List.append_assoc, List.append_assoc]
        exact List.perm_append_comm_assoc _ _ _
      have st1 : Stp K H (ents g0.sl) g0.ce H' (ents gf.sl ++ es) gf.ce := by
        rw [cef]; exact c.st.perm pm
      have nD : ∀ a ∈ own (ents gf.sl ++ es) ++ (shr (ents gf.sl ++ es) ++ ceA gf.ce), a ≠ p := fun a ha => c.nD a (by
        have po := (List.Perm.flatMap_right own1 pm).mem_iff (a := a)
        have ps := (List.Perm.flatMap_right shr1 pm).mem_iff (a := a)
        rcases List.mem_append.mp ha with h | h
        · exact List.mem_append_left _ (po.mpr h)
        · rcases List.mem_append.mp h with h | h
          · exact List.mem_append_right _ (List.mem_append_left _ (ps.mpr h))
          · exact List.mem_append_right _ (List.mem_append_right _ (by rw [cef] at h; exact h)))
      have st2 := st1.lstAt h0 c.hD nD
      have sf : GSt K H g0 H' gf [(es.all fresh1, .lst p (es.map (·.2)))] := ⟨st2, vsf.trans vsm, gkf⟩
      refine Out.tmp (e := (es.all fresh1, .lst p (es.map (·.2)))) oi sf (all_fresh es).symm ?_
      rw [AV.d, AV.dL_eq, List.map_map, List.map_map]; rfl
end Om

/-! Om24: which code goes with which expression. -/
namespace Om
open PySem PySem.Spec PyProof.Rows L2

/-- what is known of a body beforehand -/
structure Cs where
  N : List Str
  sc : Scope
  cf : Str → Bool
  P : List Nat
  bl : List Str
  fns : List Str
  exs : List Str
def Cs.vis (cs : Cs) (n : Str) : Bool := match cs.sc.names.lookup n with
  | some .local => true
  | some .cell => true
  | some .free => true
  | _ => false
def Cs.gl (cs : Cs) (n : Str) : Bool := match cs.sc.names.lookup n with
  | some .globalImplicit => true
  | _ => false
def Cs.loc (cs : Cs) (n : Str) : Bool := match cs.sc.names.lookup n with
  | some .local => true
  | some .cell => cs.cf n
  | _ => false
def Cs.nm (cs : Cs) (k : Nat) (n : Str) : Bool := decide (cs.N[k]? = some n) && cs.vis n && !(n == ("__debug__" : Str)) && !(n == ("__classdict__" : Str))
def Cs.blt (cs : Cs) (n : Str) : Bool := cs.gl n && decide (n ∈ cs.bl)
def Cs.blk (cs : Cs) (scope : Scope) : Cs := { cs with sc := relS scope cs.sc, cf := fun x => scope.names.lookup x == some .cell, P := [] }
def Cs.own (cs : Cs) (own : List Nat) : List (Str × Nat) := own.map fun k => ((cs.N[k]?).getD Str.empty, k)
mutual
def ckG (cs : Cs) : G → Expr → Bool
  | .name k, x => match x with
    | .Name n _ => decide (cs.N[k]? = some n) && cs.loc n && decide (k ∉ cs.P)
    | _ => false
  | .tup gs, x => match x with
    | .Tuple es _ _ => ckGs cs gs es
    | _ => false
def ckGs (cs : Cs) : Gs → List Expr → Bool
  | .nil, es => es.isEmpty
  | .cons g gs, es => match es with
    | e :: es => ckG cs g e && ckGs cs gs es
    | [] => false
end
def isTup : Expr → Bool
  | .Tuple _ _ _ => true
  | _ => false
mutual
def ckE (cs : Cs) : E → Expr → Bool
  | .var k, x => match x with
    | .Name n _ => cs.nm k n
    | _ => false
  | .non, x => match x with
    | .Constant .none _ _ => true
    | _ => false
  | .bl b, x => match x with
    | .Constant (.bool c) _ _ => decide (b = c)
    | _ => false
  | .int i, x => match x with
    | .Constant (.int c) _ _ => decide (i = c)
    | _ => false
  | .str s, x => match x with
    | .Constant (.str c) _ _ => decide (s = c)
    | _ => false
  | .glob g, x => match x with
    | .Name n _ => decide (g = n) && cs.gl n && !(n == ("__debug__" : Str))
    | _ => false
  | .bop op a b, x => match x with
    | .BinOp u o v _ => decide (o = opM op) && ckE cs a u && ckE cs b v
    | _ => false
  | .neg a, x => match x with
    | .UnaryOp .USub u _ => ckE cs a u
    | _ => false
  | .not a, x => match x with
    | .UnaryOp .Not u _ => ckE cs a u
    | _ => false
  | .and a b, x => match x with
    | .BoolOp .And [u, v] _ => ckE cs a u && ckE cs b v
    | .BoolOp .And (u :: v :: w :: us) pos => ckE cs a u && ckE cs b (.BoolOp .And (v :: w :: us) pos)
    | _ => false
  | .or a b, x => match x with
    | .BoolOp .Or [u, v] _ => ckE cs a u && ckE cs b v
    | .BoolOp .Or (u :: v :: w :: us) pos => ckE cs a u && ckE cs b (.BoolOp .Or (v :: w :: us) pos)
    | _ => false
  | .cmp op a b, x => match x with
    | .Compare u [o] [v] _ => decide (o = copM op) && ckE cs a u && ckE cs b v
    | _ => false
  | .chain o1 o2 a b c, x => match x with
    | .Compare u [p1, p2] [v, w] _ => decide (p1 = copM o1) && decide (p2 = copM o2) && ckE cs a u && ckE cs b v && ckE cs c w
    | _ => false
  | .isN p a, x => match x with
    | .Compare u [o] [.Constant .none _ _] _ => decide (o = if p then .Is else .IsNot) && ckE cs a u
    | _ => false
  | .isB p b a, x => match x with
    | .Compare u [o] [.Constant (.bool c) _ _] _ => decide (o = if p then .Is else .IsNot) && decide (b = c) && ckE cs a u
    | _ => false
  | .tup as, x => match x with
    | .Tuple es _ _ => ckA cs as es
    | _ => false
  | .lst as, x => match x with
    | .List es _ => ckA cs as es
    | _ => false
  | .newc as, x => match x with
    | .List es _ => ckA cs as es
    | _ => false
  | .ix a i, x => match x with
    | .Subscript u v _ => ckE cs a u && ckE cs i v
    | _ => false
  | .sl a lo hi, x => match x with
    | .Subscript u (.Slice l h none _) _ => ckE cs a u && ckO cs lo l && ckO cs hi h
    | _ => false
  | .call f as, x => match x with
    | .Call (.Name n _) (e :: es) [] _ => decide (f = n) && cs.gl n && decide (n ∈ cs.fns) && !(n == ("__debug__" : Str)) && ckA cs as (e :: es)
    | _ => false
  | .bcall b as, x => match x with
    | .Call (.Name n _) (e :: es) [] _ => decide (n = biN b) && cs.blt n && ckA cs as (e :: es)
    | _ => false
  | .lrng1 a, x => match x with
    | .Call (.Name l _) [.Call (.Name r _) [u] [] _] [] _ => decide (l = "list") && decide (r = "range") && cs.blt l && cs.blt r && ckE cs a u
    | _ => false
  | .lrng2 a b, x => match x with
    | .Call (.Name l _) [.Call (.Name r _) [u, v] [] _] [] _ => decide (l = "list") && decide (r = "range") && cs.blt l && cs.blt r && ckE cs a u && ckE cs b v
    | _ => false
  | .isi a t, x => match x with
    | .Call (.Name i _) [u, .Name ty _] [] _ => decide (i = "isinstance") && decide (ty = tyN t) && cs.blt i && cs.blt ty && ckE cs a u
    | _ => false
  | .meth m o as, x => match x with
    | .Call (.Attribute u at' apos) [] [] pos => (match m with
      | .bits => decide (at' = "bit_length")
      | _ => false) && nbase u && (apos.endLine == pos.line) && ckE cs o u && ckA cs as []
    | .Call (.Attribute u at' apos) (e :: es) [] pos => (match m with
      | .index => decide (at' = "index")
      | _ => false) && nbase u && (apos.endLine == pos.line) && decide ((e :: es).length < 30) && ckE cs o u && ckA cs as (e :: es)
    | _ => false
  | .mut m k path as, x => match x with
    | .Call (.Attribute o at' apos) [] [] pos => decide (at' = muN m) && nbase o && (apos.endLine == pos.line) && ckP cs k path o && ckA cs as []
    | .Call (.Attribute o at' apos) (e :: es) [] pos => decide (at' = muN m) && nbase o && (apos.endLine == pos.line) && decide ((e :: es).length < 30) && ckP cs k path o && ckA cs as (e :: es)
    | _ => false
  | .comp i g c e own, x => match x with
    | .ListComp elt [⟨tg, iter, ifs, 0⟩] scope _ => ckI cs i tg iter && decide (own.Nodup) && g.slots.all (fun j => decide (j ∈ own)) && blkC cs.N cs.sc scope (cs.own own) && ckG (cs.blk scope) g tg && ckC (cs.blk scope) c ifs && ckE (cs.blk scope) e elt
    | _ => false
def ckA (cs : Cs) : A → List Expr → Bool
  | .nil, es => es.isEmpty
  | .cons a as, es => match es with
    | e :: es => ckE cs a e && ckA cs as es
    | [] => false
def ckO (cs : Cs) : O → Option Expr → Bool
  | .none, x => x.isNone
  | .some e, x => match x with
    | some u => ckE cs e u
    | none => false
def ckC (cs : Cs) : C → List Expr → Bool
  | .yes, xs => xs.isEmpty
  | .test e, xs => match xs with
    | [u] => ckE cs e u
    | _ => false
/-- the place of a changing method -/
def ckP (cs : Cs) (k : Nat) : A → Expr → Bool
  | .nil, x => match x with
    | .Name n _ => cs.nm k n
    | _ => false
  | .cons a as, x => match as with
    | .nil => (match x with
      | .Subscript (.Name n _) u _ => cs.nm k n && ckE cs a u
      | _ => false)
    | .cons b .nil => (match x with
      | .Subscript (.Subscript (.Name n _) u _) v _ => cs.nm k n && ckE cs a u && b.simple && ckE cs b v
      | _ => false)
    | _ => false
def ckI (cs : Cs) : I → Expr → Expr → Bool
  | .seq e, _, x => ckE cs e x
  | .seqSl a lo hi, _, x => match x with
    | .Subscript u (.Slice l h none _) _ => ckE cs a u && ckO cs lo l && ckO cs hi h
    | _ => false
  | .rng1 a, _, x => match x with
    | .Call (.Name r _) [u] [] _ => decide (r = "range") && cs.blt r && ckE cs a u
    | _ => false
  | .rng2 a b, _, x => match x with
    | .Call (.Name r _) [u, v] [] _ => decide (r = "range") && cs.blt r && ckE cs a u && ckE cs b v
    | _ => false
  | .rng3 a b c, _, x => match x with
    | .Call (.Name r _) [u, v, w] [] _ => decide (r = "range") && cs.blt r && ckE cs a u && ckE cs b v && ckE cs c w
    | _ => false
  | .enum e, tg, x => match x with
    | .Call (.Name r _) [u] [] _ => isTup tg && decide (r = "enumerate") && cs.blt r && ckE cs e u
    | _ => false
  | .zip a b, tg, x => match x with
    | .Call (.Name r _) [u, v] [] _ => isTup tg && decide (r = "zip") && cs.blt r && ckE cs a u && ckE cs b v
    | _ => false
end
/-! what such expressions are not -/
theorem ck_nst {cs : Cs} {e : E} {x : Expr} (h : ckE cs e x = true) : nst x = true := by
  cases x <;> first | rfl | (cases e <;> simp [ckE] at h)
theorem ck_nslc {cs : Cs} {e : E} {x : Expr} (h : ckE cs e x = true) : nslc x = true := by
  cases x <;> first | rfl | (cases e <;> simp [ckE] at h)
theorem ck_nset {cs : Cs} {e : E} {x : Expr} (h : ckE cs e x = true) : nset x = true := by
  cases x <;> first | rfl | (cases e <;> simp [ckE] at h)
theorem ckA_nst {cs : Cs} : ∀ {as : A} {es : List Expr}, ckA cs as es = true → nstL es = true
  | .nil, es, h => by
    cases es with
    | nil => rfl
    | cons _ _ => simp [ckA] at h
  | .cons a as, es, h => by
    cases es with
    | nil => rfl
    | cons e es =>
      simp only [ckA, Bool.and_eq_true] at h
      rw [nstL, ck_nst h.1, ckA_nst h.2]; rfl
theorem ckG_nst {cs : Cs} {g : G} {x : Expr} (h : ckG cs g x = true) : nst x = true := by
  cases x <;> first | rfl | (cases g <;> simp [ckG] at h)

/-! ### the context -/
structure FnR (X : Cx) (CA : Str → Addr) (T : Tab) (f : Str) : Prop where
  ok : ∃ (k : Nat) (fa : Addr) (fd : FuncData) (ps : List Str), FnOk X.prog X.w X.K X.mg X.base (L2.CX X.prog X.w) k fa fd ps (spT X.K CA (T.run f) (T.mask f)) ∧ Room k X.A ∧ X.mg f = some (.ref fa) ∧ PySem.W.keepIn X.K (.ref fa) = true ∧ Binds X.K fd ps []
structure Ctx (X : Cx) (CA : Str → Addr) (T : Tab) (W : Str → St → Hp → Prop) (cs : Cs) : Prop where
  N : X.N = cs.N
  nd : X.N.Nodup
  sc : X.env.scope = cs.sc
  cf : ∀ x, cs.cf x = true → X.fn x = true
  calm : X.calm = true
  hu : X.A.units + 65 < cLine
  bl : ∀ x ∈ cs.bl, X.mg x = none
  gl : ∀ x d, T.glob x = some d → GlD X x d
  fn : ∀ f ∈ cs.fns, FnR X CA T f
  tk : ∃ Wx : WX, Takes X Wx ∧ ∀ c σ H, W c σ H → Wx (.ref (CA c)) none σ H
section
variable {X : Cx} {CA : Str → Addr} {T : Tab} {W : Str → St → Hp → Prop} {cs : Cs}
theorem Ctx.nm (c : Ctx X CA T W cs) {k : Nat} {n : Str} (h : cs.nm k n = true) : X.N[k]? = some n ∧ Vis X.env.scope n ∧ (n == ("__debug__" : Str)) = false ∧ (n == ("__classdict__" : Str)) = false := by
  simp only [Cs.nm, Bool.and_eq_true, decide_eq_true_eq, Bool.not_eq_true'] at h
  refine ⟨by rw [c.N]; exact h.1.1.1, ?_, h.1.2, h.2⟩
  have hv := h.1.1.2
  unfold Cs.vis at hv
  unfold Vis
  rw [c.sc]
  split at hv
  · rename_i e; exact .inl e
  · rename_i e; exact .inr (.inl e)
  · rename_i e; exact .inr (.inr e)
  · cases hv
theorem Ctx.g (c : Ctx X CA T W cs) {n : Str} (h : cs.gl n = true) : Gl X n := by
  unfold Cs.gl at h
  unfold Gl Env.kindOf
  rw [c.sc]
  split at h
  · assumption
  · cases h
theorem Ctx.b (c : Ctx X CA T W cs) {n : Str} (h : cs.blt n = true) : Gl X n ∧ X.mg n = none := by
  simp only [Cs.blt, Bool.and_eq_true, decide_eq_true_eq] at h
  exact ⟨c.g h.1, c.bl n h.2⟩
theorem Ctx.l (c : Ctx X CA T W cs) {n : Str} (h : cs.loc n = true) : L2.Loc X.env.scope n ∧ (X.fn n = true ∨ X.env.scope.names.lookup n = some .local) := by
  unfold Cs.loc at h
  unfold L2.Loc
  rw [c.sc]
  split at h
  · rename_i e; exact ⟨.inl e, .inr e⟩
  · rename_i e; exact ⟨.inr e, .inl (c.cf n h)⟩
  · cases h
theorem Ctx.blk (c : Ctx X CA T W cs) (scope : Scope) (s : Shared) (H : Hp) (C : Addr) (cl : List (Str × Addr)) (fp : List Addr) : Ctx (X.blk s H scope (compEnvC scope cl C X.env) fp) CA T WF (cs.blk scope) where
  N := c.N
  nd := c.nd
  sc := by show relS scope X.env.scope = _; rw [c.sc]; rfl
  cf := fun x h => h
  calm := c.calm
  hu := c.hu
  bl := c.bl
  gl := fun x d h => by
    obtain ⟨av, u, h1, h2, h3, h4⟩ := (c.gl x d h).gl
    exact ⟨av, u, h1, h2, h3, h4⟩
  fn := fun f hf => by
    obtain ⟨k, fa, fd, ps, h1, h2, h3, h4, h5⟩ := (c.fn f hf).ok
    exact ⟨k, fa, fd, ps, h1, h2, h3, h4, h5⟩
  tk := ⟨fun _ _ _ _ => False, fun u s' ⟨a, B, sI, pins, σ, H, cls, d, _, _, _, _, _, _, _, _, w⟩ => w.elim, fun _ _ _ h => h⟩
mutual
theorem tgs : ∀ (g : G) {cs : Cs} {X : Cx} {W : Str → St → Hp → Prop} {x : Expr}, Ctx X CA T W cs → ckG cs g x = true → PG X x (tG X.K g)
  | .name k, cs, X, W, x, c, h => by
    rw [ckG.eq_def] at h
    dsimp only at h
    split at h
    · simp only [Bool.and_eq_true, decide_eq_true_eq] at h
      obtain ⟨hx, hf⟩ := c.l h.1.2
      exact tg_name c.nd (by rw [c.N]; exact h.1.1) hx hf
    · cases h
  | .tup gs, cs, X, W, x, c, h => by
    rw [ckG.eq_def] at h
    dsimp only at h
    split at h
    · obtain ⟨h1, h2, h3⟩ := tgsL gs c h
      exact tg_tup c.calm h1 h2 h3
    · cases h
theorem tgsL : ∀ (gs : Gs) {cs : Cs} {X : Cx} {W : Str → St → Hp → Prop} {es : List Expr}, Ctx X CA T W cs → ckGs cs gs es = true → PGs X es (tGs X.K gs) ∧ nstL es = true ∧ es.length = gs.len
  | .nil, cs, X, W, es, c, h => by
    rw [ckGs.eq_def] at h
    have h := List.isEmpty_iff.mp h
    subst h
    exact ⟨tgs_nil, rfl, rfl⟩
  | .cons g gs, cs, X, W, es, c, h => by
    rw [ckGs.eq_def] at h
    dsimp only at h
    split at h
    · rw [Bool.and_eq_true] at h
      obtain ⟨h1, h2, h3⟩ := tgsL gs c h.2
      have hs := ckG_nst h.1
      exact ⟨tgs_cons (tgs g c h.1) h1 hs, by rw [nstL, hs, h2]; rfl, by rw [List.length_cons, Gs.len, h3]⟩
    · cases h
end
theorem smp_ck (c : Ctx X CA T W cs) : ∀ {e : E} {x : Expr}, e.simple = true → ckE cs e x = true → Smp X x e
  | .var k, x, _, h => by
    rw [ckE.eq_def] at h
    dsimp only at h
    split at h
    · obtain ⟨h1, h2, h3, h4⟩ := c.nm h
      exact smp_var h1 h2 h3 h4
    · cases h
  | .non, x, _, h => by
    rw [ckE.eq_def] at h
    dsimp only at h
    split at h
    · exact smp_non
    · cases h
  | .bl b, x, _, h => by
    rw [ckE.eq_def] at h
    dsimp only at h
    split at h
    · cases of_decide_eq_true h; exact smp_bl
    · cases h
  | .int b, x, _, h => by
    rw [ckE.eq_def] at h
    dsimp only at h
    split at h
    · cases of_decide_eq_true h; exact smp_int
    · cases h
  | .str b, x, _, h => by
    rw [ckE.eq_def] at h
    dsimp only at h
    split at h
    · cases of_decide_eq_true h; exact smp_str
    · cases h
end
end Om

/-! Om25: expressions: the whole. -/
namespace Om
open PySem PySem.Spec PyProof.Rows L2

theorem own_ix {cs : Cs} (own : List Nat) : (cs.own own).map (·.2) = own := by
  unfold Cs.own
  rw [List.map_map]
  exact List.map_id' own
theorem pe_el {X : Cx} {x : Expr} {m : M Ref} (h : PE X x (SM kRef X.K WF m)) : PE X x (SM kEl X.K WF (do force (← stab (← m)))) := PE.weak (se_stab h) fun σ H Q ⟨g, hv, w, o⟩ => by
  subst hv
  rw [← M.assoc] at o
  refine ⟨g, rfl, w, o.bind kS fun g1 (b1 : RefB) H1 v1 s1 e1 o1 => ?_⟩
  obtain ⟨y, n, ev⟩ := d_lst_nav e1
  have o1 : Out kEl X.K WF H g ((Om.force b1.r >>= (Pure.pure : Bool × D → M (Bool × D))) g1.d) Q := by rw [M.bind_pure]; exact o1
  obtain ⟨g2, e, s2, ey, vs2, o2⟩ := Out.forceN o1 w s1 n
  have o3 : Out kEl X.K WF H g (some (.ok (e.1, e.2.d) g2.d)) Q := o2
  exact o3 g2 e H1 v1 s2 rfl rfl (by show e.2.v = v1; rw [ey]; exact ev)
theorem mut_eq {k : Nat} {m : Mu} {path : M (List Int)} {mA : M (List Ref)} : (do
      hasK k
      let is ← path
      chkP k is
      let es ← lockIn k (do forceL (← mA))
      mutSlot m k is es : M Ref) = (do
      let is ← (do
        hasK k
        let is ← path
        chkP k is
        pure is)
      let es ← lockIn k (do forceL (← mA))
      mutSlot m k is es) := by
  symm
  show ((hasK k >>= fun _ => (path >>= fun is => (chkP k is >>= fun _ => (pure is : M (List Int))))) >>= _) = _
  rw [M.assoc]
  congr 1; funext _
  rw [M.assoc]
  congr 1; funext is
  rw [M.assoc]
  rfl
section
variable {CA : Str → Addr} {T : Tab}
mutual
theorem sndE : ∀ (e : E) {cs : Cs} {X : Cx} {W : Str → St → Hp → Prop} {x : Expr}, Ctx X CA T W cs → ckE cs e x = true → Snd X W x (evR T e)
  | .var k, cs, X, W, x, c, h => by
    rw [ckE.eq_def] at h; dsimp only at h
    split at h
    · obtain ⟨h1, h2, h3, h4⟩ := c.nm h
      rw [evR]; exact snd_var h1 h2 h3 h4
    · cases h
  | .non, cs, X, W, x, c, h => by
    rw [ckE.eq_def] at h; dsimp only at h
    split at h
    · rw [evR]; exact snd_non
    · cases h
  | .bl b, cs, X, W, x, c, h => by
    rw [ckE.eq_def] at h; dsimp only at h
    split at h
    · cases of_decide_eq_true h; rw [evR]; exact snd_bl
    · cases h
  | .int b, cs, X, W, x, c, h => by
    rw [ckE.eq_def] at h; dsimp only at h
    split at h
    · cases of_decide_eq_true h; rw [evR]; exact snd_int
    · cases h
  | .str b, cs, X, W, x, c, h => by
    rw [ckE.eq_def] at h; dsimp only at h
    split at h
    · cases of_decide_eq_true h; rw [evR]; exact snd_str
    · cases h
  | .glob g, cs, X, W, x, c, h => by
    rw [ckE.eq_def] at h; dsimp only at h
    split at h
    · simp only [Bool.and_eq_true, decide_eq_true_eq, Bool.not_eq_true'] at h
      obtain ⟨⟨rfl, h2⟩, h3⟩ := h
      rw [evR]; exact snd_glob (c.g h2) h3 (c.gl g)
    · cases h
  | .bop op a b, cs, X, W, x, c, h => by
    rw [ckE.eq_def] at h; dsimp only at h
    split at h
    · simp only [Bool.and_eq_true, decide_eq_true_eq] at h
      obtain ⟨⟨rfl, h2⟩, h3⟩ := h
      rw [evR]; exact snd_bop (sndE a c h2) (sndE b c h3)
    · cases h
  | .neg a, cs, X, W, x, c, h => by
    rw [ckE.eq_def] at h; dsimp only at h
    split at h
    · rw [evR]; exact snd_neg (sndE a c h)
    · cases h
  | .not a, cs, X, W, x, c, h => by
    rw [ckE.eq_def] at h; dsimp only at h
    split at h
    · rw [evR]; exact snd_not (sndE a c h)
    · cases h
  | .and a b, cs, X, W, x, c, h => by
    rw [ckE.eq_def] at h; dsimp only at h
    split at h
    · rw [Bool.and_eq_true] at h
      rw [evR]; exact snd_and (sndE a c h.1) (Tl.and1 (sndE b c h.2))
    · rw [Bool.and_eq_true] at h
      rw [evR]; exact snd_and (sndE a c h.1) (Tl.more (sndE b c h.2))
    · cases h
  | .or a b, cs, X, W, x, c, h => by
    rw [ckE.eq_def] at h; dsimp only at h
    split at h
    · rw [Bool.and_eq_true] at h
      rw [evR]; exact snd_or (sndE a c h.1) (Tl.or1 (sndE b c h.2))
    · rw [Bool.and_eq_true] at h
      rw [evR]; exact snd_or (sndE a c h.1) (Tl.more (sndE b c h.2))
    · cases h
  | .cmp op a b, cs, X, W, x, c, h => by
    rw [ckE.eq_def] at h; dsimp only at h
    split at h
    · simp only [Bool.and_eq_true, decide_eq_true_eq] at h
      obtain ⟨⟨rfl, h2⟩, h3⟩ := h
      rw [evR]
      by_cases hb : b.simple = true
      · rw [if_pos hb]; exact snd_cmpS c.hu (sndE a c h2) (smp_ck c hb h3) (noMarks (ck_nset h3))
      · rw [if_neg hb]; exact snd_cmp c.hu (sndE a c h2) (sndE b c h3) (noMarks (ck_nset h3))
    · cases h
  | .chain o1 o2 a b d, cs, X, W, x, c, h => by
    rw [ckE.eq_def] at h; dsimp only at h
    split at h
    · simp only [Bool.and_eq_true, decide_eq_true_eq] at h
      obtain ⟨⟨⟨⟨rfl, rfl⟩, h2⟩, h3⟩, h4⟩ := h
      rw [evR]; exact snd_chain c.hu (sndE a c h2) (sndE b c h3) (sndE d c h4) (noMarks (ck_nset h4))
    · cases h
  | .isN p a, cs, X, W, x, c, h => by
    rw [ckE.eq_def] at h; dsimp only at h
    split at h
    · simp only [Bool.and_eq_true, decide_eq_true_eq] at h
      obtain ⟨rfl, h2⟩ := h
      rw [evR]; exact snd_isN (sndE a c h2)
    · cases h
  | .isB p b a, cs, X, W, x, c, h => by
    rw [ckE.eq_def] at h; dsimp only at h
    split at h
    · simp only [Bool.and_eq_true, decide_eq_true_eq] at h
      obtain ⟨⟨rfl, rfl⟩, h2⟩ := h
      rw [evR]; exact snd_isB (sndE a c h2)
    · cases h
  | .tup as, cs, X, W, x, c, h => by
    rw [ckE.eq_def] at h; dsimp only at h
    split at h
    · rw [evR]; exact snd_tup (sndA as c h)
    · cases h
  | .lst as, cs, X, W, x, c, h => by
    rw [ckE.eq_def] at h; dsimp only at h
    split at h
    · rw [evR]; exact snd_lst (sndA as c h)
    · cases h
  | .newc as, cs, X, W, x, c, h => by
    rw [ckE.eq_def] at h; dsimp only at h
    split at h
    · rw [evR]; exact snd_newc (sndA as c h)
    · cases h
  | .ix a i, cs, X, W, x, c, h => by
    rw [ckE.eq_def] at h; dsimp only at h
    split at h
    · rw [Bool.and_eq_true] at h
      rw [evR]
      by_cases hb : i.simple = true
      · rw [if_pos hb]; exact snd_ixS (sndE a c h.1) (smp_ck c hb h.2) (ck_nslc h.2)
      · rw [if_neg hb]; exact snd_ix (sndE a c h.1) (sndE i c h.2) (ck_nslc h.2)
    · cases h
  | .sl a lo hi, cs, X, W, x, c, h => by
    rw [ckE.eq_def] at h; dsimp only at h
    split at h
    · simp only [Bool.and_eq_true] at h
      rw [evR]; exact snd_sl (sndE a c h.1.1) (sndO lo c h.1.2) (sndO hi c h.2)
    · cases h
  | .call f as, cs, X, W, x, c, h => by
    rw [ckE.eq_def] at h; dsimp only at h
    split at h
    · simp only [Bool.and_eq_true, decide_eq_true_eq, Bool.not_eq_true'] at h
      obtain ⟨⟨⟨⟨rfl, h2⟩, h3⟩, h4⟩, h5⟩ := h
      obtain ⟨k, fa, fd, ps, f1, f2, f3, f4, f5⟩ := (c.fn f h3).ok
      obtain ⟨Wx, tk, hW⟩ := c.tk
      rw [evR]; exact snd_call tk hW f1 f2 (c.g h2) f3 f4 f5 h4 (sndA as c h5) (ckA_nst h5)
    · cases h
  | .bcall b as, cs, X, W, x, c, h => by
    rw [ckE.eq_def] at h; dsimp only at h
    split at h
    · simp only [Bool.and_eq_true, decide_eq_true_eq] at h
      obtain ⟨⟨rfl, h2⟩, h3⟩ := h
      obtain ⟨b1, b2⟩ := c.b h2
      rw [evR]; exact snd_bcall c.calm b1 b2 (sndA as c h3) (ckA_nst h3)
    · cases h
  | .lrng1 a, cs, X, W, x, c, h => by
    rw [ckE.eq_def] at h; dsimp only at h
    split at h
    · simp only [Bool.and_eq_true, decide_eq_true_eq] at h
      obtain ⟨⟨⟨⟨rfl, rfl⟩, h2⟩, h3⟩, h4⟩ := h
      obtain ⟨b1, b2⟩ := c.b h2
      obtain ⟨b3, b4⟩ := c.b h3
      rw [evR]; exact snd_lrng1 c.calm b1 b2 b3 b4 (sndE a c h4) (ck_nst h4)
    · cases h
  | .lrng2 a b, cs, X, W, x, c, h => by
    rw [ckE.eq_def] at h; dsimp only at h
    split at h
    · simp only [Bool.and_eq_true, decide_eq_true_eq] at h
      obtain ⟨⟨⟨⟨⟨rfl, rfl⟩, h2⟩, h3⟩, h4⟩, h5⟩ := h
      obtain ⟨b1, b2⟩ := c.b h2
      obtain ⟨b3, b4⟩ := c.b h3
      rw [evR]; exact snd_lrng2 c.calm b1 b2 b3 b4 (sndE a c h4) (sndE b c h5) (ck_nst h4) (ck_nst h5)
    · cases h
  | .isi a t, cs, X, W, x, c, h => by
    rw [ckE.eq_def] at h; dsimp only at h
    split at h
    · simp only [Bool.and_eq_true, decide_eq_true_eq] at h
      obtain ⟨⟨⟨⟨rfl, rfl⟩, h2⟩, h3⟩, h4⟩ := h
      obtain ⟨b1, b2⟩ := c.b h2
      obtain ⟨b3, b4⟩ := c.b h3
      rw [evR]; exact snd_isi b1 b2 b3 b4 (sndE a c h4) (ck_nst h4)
    · cases h
  | .meth m o as, cs, X, W, x, c, h => by
    rw [ckE.eq_def] at h; dsimp only at h
    split at h
    · simp only [Bool.and_eq_true] at h
      obtain ⟨⟨⟨⟨h1, h2⟩, h3⟩, h4⟩, h5⟩ := h
      cases m with
      | bits =>
        cases of_decide_eq_true h1
        cases as with
        | nil => rw [evR, evA]; exact snd_bits (sndE o c h4) h2 h3
        | cons _ _ => simp [ckA] at h5
      | _ => cases h1
    · simp only [Bool.and_eq_true] at h
      obtain ⟨⟨⟨⟨⟨h1, h2⟩, h3⟩, hn⟩, h4⟩, h5⟩ := h
      cases m with
      | index =>
        cases of_decide_eq_true h1
        rw [evR]; exact snd_index (sndE o c h4) (sndA as c h5) h2 h3 (ckA_nst h5) hn
      | _ => cases h1
    · cases h
  | .mut m k path as, cs, X, W, x, c, h => by
    rw [ckE.eq_def] at h; dsimp only at h
    split at h
    · simp only [Bool.and_eq_true] at h
      obtain ⟨⟨⟨⟨h1, h2⟩, h3⟩, h4⟩, h5⟩ := h
      cases of_decide_eq_true h1
      cases as with
      | nil => rw [evR, evA, mut_eq]; exact snd_mut0 (sndP path k c h4) h2 h3
      | cons _ _ => simp [ckA] at h5
    · simp only [Bool.and_eq_true] at h
      obtain ⟨⟨⟨⟨⟨h1, h2⟩, h3⟩, hn⟩, h4⟩, h5⟩ := h
      cases of_decide_eq_true h1
      rw [evR, mut_eq]; exact snd_mut (sndP path k c h4) (sndA as c h5) h2 h3 (ckA_nst h5) hn
    · cases h
  | .comp i g ct e own, cs, X, W, x, c, h => by
    rw [ckE.eq_def] at h; dsimp only at h
    split at h
    · rename_i x0 elt tg iter ifs scope pos0
      simp only [Bool.and_eq_true] at h
      obtain ⟨⟨⟨⟨⟨⟨h1, h2⟩, h3⟩, h4⟩, h5⟩, h6⟩, h7⟩ := h
      obtain ⟨hi, hns⟩ := sndI i c h1
      have blk := blkOk_by (N := X.N) (sc := X.env.scope) (by rw [c.N, c.sc]; exact h4)
      have pe := pe_lc (X := X) (pos := pos0) (own := cs.own own) (tt := SM kB X.K WF (evC T ct)) (g := tG X.K g) (te := SM kEl X.K WF (do force (← stab (← evR T e)))) c.calm c.nd hi blk (fun s H C cl fp => tgs g (c.blk scope s H C cl fp) h5) (fun s H C cl fp => sndC ct (c.blk scope s H C cl fp) h6) (fun s H C cl fp => pe_el (sndE e (c.blk scope s H C cl fp) h7).pe) (noFold hns)
      rw [own_ix] at pe
      rw [evR]
      refine Snd.val pe (fun _ => rfl) (fun _ _ _ h => nomatch h) fun σ H Q q => ?_
      exact comp_ok (of_decide_eq_true h2) (fun j hj => of_decide_eq_true (List.all_eq_true.mp h3 j hj)) q
    · cases h
theorem sndA : ∀ (as : A) {cs : Cs} {X : Cx} {W : Str → St → Hp → Prop} {es : List Expr}, Ctx X CA T W cs → ckA cs as es = true → PA X es (SM kL X.K W (evA T as))
  | .nil, cs, X, W, es, c, h => by
    rw [ckA.eq_def] at h
    have h := List.isEmpty_iff.mp h
    subst h
    rw [evA]; exact pa_nilS
  | .cons a as, cs, X, W, es, c, h => by
    rw [ckA.eq_def] at h; dsimp only at h
    split at h
    · rw [Bool.and_eq_true] at h
      rw [evA]; exact pa_consS (sndE a c h.1) (sndA as c h.2) (star_of (ck_nst h.1))
    · cases h
theorem sndO : ∀ (o : O) {cs : Cs} {X : Cx} {W : Str → St → Hp → Prop} {x : Option Expr}, Ctx X CA T W cs → ckO cs o x = true → PO X x (SM kO X.K W (evO T o))
  | .none, cs, X, W, x, c, h => by
    rw [ckO.eq_def] at h
    have h := Option.isNone_iff_eq_none.mp h
    subst h
    rw [evO]; exact po_noneS (T := T)
  | .some e, cs, X, W, x, c, h => by
    rw [ckO.eq_def] at h; dsimp only at h
    split at h
    · rw [evO]; exact po_someS (sndE e c h)
    · cases h
theorem sndC : ∀ (ct : C) {cs : Cs} {X : Cx} {W : Str → St → Hp → Prop} {xs : List Expr}, Ctx X CA T W cs → ckC cs ct xs = true → PTs X xs (SM kB X.K W (evC T ct))
  | .yes, cs, X, W, xs, c, h => by
    rw [ckC.eq_def] at h
    have h := List.isEmpty_iff.mp h
    subst h
    rw [evC]
    exact ⟨fun pins s σ H Q I ⟨g, _, w, o⟩ => pts_nil.run pins s σ H Q I (by
      have o : Out kB X.K W H g (some (.ok true g.d)) Q := o
      exact o g true H true (.refl w) rfl rfl rfl)⟩
  | .test e, cs, X, W, xs, c, h => by
    rw [ckC.eq_def] at h; dsimp only at h
    split at h
    · rw [evC]; exact pts_one (sndE e c h).pt
    · cases h
theorem sndP : ∀ (path : A) (k : Nat) {cs : Cs} {X : Cx} {W : Str → St → Hp → Prop} {x : Expr}, Ctx X CA T W cs → ckP cs k path x = true → PE X x (SM (kP k) X.K W (do
      hasK k
      let is ← evP T path
      chkP k is
      pure is))
  | .nil, k, cs, X, W, x, c, h => by
    rw [ckP.eq_def] at h; dsimp only at h
    split at h
    · obtain ⟨h1, h2, h3, h4⟩ := c.nm h
      rw [evP]; exact pl_name h1 h2 h3 h4
    · cases h
  | .cons a .nil, k, cs, X, W, x, c, h => by
    rw [ckP.eq_def] at h; dsimp only at h
    split at h
    · rw [Bool.and_eq_true] at h
      obtain ⟨h1, h2, h3, h4⟩ := c.nm h.1
      rw [evP]; exact pl_item h1 h2 h3 h4 (sndE a c h.2) (ck_nslc h.2)
    · cases h
  | .cons a (.cons b .nil), k, cs, X, W, x, c, h => by
    rw [ckP.eq_def] at h; dsimp only at h
    split at h
    · simp only [Bool.and_eq_true] at h
      obtain ⟨⟨⟨h0, h5⟩, h6⟩, h7⟩ := h
      obtain ⟨h1, h2, h3, h4⟩ := c.nm h0
      rw [evP]
      have e : A.place2 = fun (i : Int) (as : A) => A.place2 i as := rfl
      have e2 : ∀ i : Int, (A.cons b .nil).place2 i = M.bind (simM b) (D.asPlace i) := fun i => by
        show (if b.simple then M.bind (simM b) (D.asPlace i) else M.fail) = _
        rw [if_pos h6]
      simp only [e2]
      exact pl_item2 h1 h2 h3 h4 (sndE a c h5) (ck_nslc h5) (smp_ck c h6 h7) (ck_nslc h7)
    · cases h
  | .cons a (.cons b (.cons _ _)), k, cs, X, W, x, c, h => by
    rw [ckP.eq_def] at h; cases h
theorem sndI : ∀ (i : I) {cs : Cs} {X : Cx} {W : Str → St → Hp → Prop} {tg x : Expr}, Ctx X CA T W cs → ckI cs i tg x = true → PI X tg x (SM kW X.K W (evI T i)) ∧ nset x = true
  | .seq e, cs, X, W, tg, x, c, h => by
    rw [ckI.eq_def] at h; dsimp only at h
    rw [evI]; exact ⟨pi_seqS (sndE e c h), ck_nset h⟩
  | .seqSl a lo hi, cs, X, W, tg, x, c, h => by
    rw [ckI.eq_def] at h; dsimp only at h
    split at h
    · simp only [Bool.and_eq_true] at h
      rw [evI]; exact ⟨pi_cutS (sndE a c h.1.1) (sndO lo c h.1.2) (sndO hi c h.2), rfl⟩
    · cases h
  | .rng1 a, cs, X, W, tg, x, c, h => by
    rw [ckI.eq_def] at h; dsimp only at h
    split at h
    · simp only [Bool.and_eq_true, decide_eq_true_eq] at h
      obtain ⟨⟨rfl, h2⟩, h3⟩ := h
      obtain ⟨b1, b2⟩ := c.b h2
      rw [evI]; exact ⟨pi_rng1 b1 b2 (sndE a c h3) (ck_nst h3), rfl⟩
    · cases h
  | .rng2 a b, cs, X, W, tg, x, c, h => by
    rw [ckI.eq_def] at h; dsimp only at h
    split at h
    · simp only [Bool.and_eq_true, decide_eq_true_eq] at h
      obtain ⟨⟨⟨rfl, h2⟩, h3⟩, h4⟩ := h
      obtain ⟨b1, b2⟩ := c.b h2
      rw [evI]; exact ⟨pi_rng2 b1 b2 (sndE a c h3) (sndE b c h4) (ck_nst h3) (ck_nst h4), rfl⟩
    · cases h
  | .rng3 a b d, cs, X, W, tg, x, c, h => by
    rw [ckI.eq_def] at h; dsimp only at h
    split at h
    · simp only [Bool.and_eq_true, decide_eq_true_eq] at h
      obtain ⟨⟨⟨⟨rfl, h2⟩, h3⟩, h4⟩, h5⟩ := h
      obtain ⟨b1, b2⟩ := c.b h2
      rw [evI]; exact ⟨pi_rng3 b1 b2 (sndE a c h3) (sndE b c h4) (sndE d c h5) (ck_nst h3) (ck_nst h4) (ck_nst h5), rfl⟩
    · cases h
  | .enum e, cs, X, W, tg, x, c, h => by
    rw [ckI.eq_def] at h; dsimp only at h
    split at h
    · simp only [Bool.and_eq_true, decide_eq_true_eq] at h
      obtain ⟨⟨⟨h0, rfl⟩, h2⟩, h3⟩ := h
      obtain ⟨b1, b2⟩ := c.b h2
      cases tg <;> first | (rw [evI]; exact ⟨pi_enumS b1 b2 (sndE e c h3) (ck_nst h3), rfl⟩) | cases h0
    · cases h
  | .zip a b, cs, X, W, tg, x, c, h => by
    rw [ckI.eq_def] at h; dsimp only at h
    split at h
    · simp only [Bool.and_eq_true, decide_eq_true_eq] at h
      obtain ⟨⟨⟨⟨h0, rfl⟩, h2⟩, h3⟩, h4⟩ := h
      obtain ⟨b1, b2⟩ := c.b h2
      cases tg <;> first | (rw [evI]; exact ⟨pi_zipS b1 b2 (sndE a c h3) (sndE b c h4) (ck_nst h3) (ck_nst h4), rfl⟩) | cases h0
    · cases h
end
end
end Om

/-! Om26: statements: steps and readings. -/
namespace Om
open PySem PySem.Spec PyProof.Rows L2

/-- a statement's step -/
structure GT (K : PySem.W.Frag) (P : List Nat) (H : Hp) (g : GA) (H' : Hp) (g' : GA) (rs : List En) : Prop where
  st : Stp K H (ents g.sl) g.ce H' (ents g'.sl ++ rs) g'.ce
  fix : ∀ k ∈ P, ∀ v, g'.vs[k]? = some (some v) → g.vs[k]? = some (some v)
  gk : ∀ (j : Nat) (x : AV), g'.sl[j]? = some (some (.lk, x)) → g.sl[j]? = some (some (.lk, x))
  len : g'.sl.length = g.sl.length
/-- fewer slots are known -/
def Wkr (σ' σ : St) : Prop := σ'.length = σ.length ∧ ∀ (j : Nat) (v : V), σ'[j]? = some (some v) → σ[j]? = some (some v)
theorem Wkr.refl (σ : St) : Wkr σ σ := ⟨rfl, fun _ _ h => h⟩
theorem Wkr.trans {a b c : St} (h : Wkr a b) (h' : Wkr b c) : Wkr a c := ⟨h.1.trans h'.1, fun j v q => h'.2 j v (h.2 j v q)⟩
section
variable {K : PySem.W.Frag} {P : List Nat} {W : Str → St → Hp → Prop} {H H' H1 H2 : Hp} {g g' g1 g2 : GA} {rs rs' : List En} {α β γ δ : Type} {k : Kd α γ}
theorem vs_len (h : g'.vs = g.vs) : g'.sl.length = g.sl.length := by
  have := congrArg List.length h
  unfold GA.vs at this
  rwa [List.length_map, List.length_map] at this
theorem GSt.gt (s : GSt K H g H' g' rs) : GT K P H g H' g' rs := ⟨s.st, fun k _ v h => by rw [← s.vs]; exact h, s.gk, vs_len s.vs⟩
theorem GT.refl (w : GW K H g) : GT K P H g H g [] := (GSt.refl w).gt
theorem GT.gw (s : GT K P H g H' g' rs) (w : GW K H g) : GW K H' g' := by
  refine ⟨s.st.left.wd, fun k x h => ?_⟩
  obtain ⟨h1, h2⟩ := w.gh k x (s.gk k x h)
  refine ⟨AV.ok_keep s.st.keep w.wd.ownL s.st.ext x h1 h2, fun a ha hm => ?_⟩
  rcases s.st.left.own a hm with z | z
  · exact h2 a ha z
  · obtain ⟨vs, q⟩ := AV.ok_as x h1 a ha
    rw [z] at q; cases q
theorem GT.app (s1 : GT K P H g H1 g1 rs) (s2 : GT K P H1 g1 H2 g2 rs') : GT K P H g H2 g2 (rs ++ rs') := ⟨s1.st.app s2.st, fun k hk v h => s1.fix k hk v (s2.fix k hk v h), fun k x h => s1.gk k x (s2.gk k x h), s2.len.trans s1.len⟩
theorem GT.sub {R : List En} (s : GT K P H g H' g' rs) (h : ∃ X, rs.Perm (R ++ X)) : GT K P H g H' g' R := by
  obtain ⟨X, p⟩ := h
  exact ⟨s.st.sub ⟨X, by rw [List.append_assoc]; exact p.append_left _⟩, s.fix, s.gk, s.len⟩
theorem GT.trans (s1 : GT K P H g H1 g1 rs) (s2 : GT K P H1 g1 H2 g2 rs') : GT K P H g H2 g2 rs' := (s1.app s2).sub ⟨rs, List.perm_append_comm⟩
/-- what must hold so that a statement's answer is good -/
def OutS (K : PySem.W.Frag) (W : Str → St → Hp → Prop) (P : List Nat) (H : Hp) (g : GA) (o : Option (Res Ctl)) (D : Ends) : Prop := match o with
  | none => False
  | some (.ok .nx gd) => ∀ (g' : GA) (H' : Hp), GT K P H g H' g' [] → g'.d = gd → D.nx g'.vs H'
  | some (.ok (.rt fl d) gd) => ∀ (g' : GA) (H' : Hp) (x : AV), GT K P H g H' g' [(fl, x)] → x.d = d → g'.d = gd → D.rt x.v H'
  | some (.exc c gd) => ∀ (g' : GA) (H' : Hp), GT K P H g H' g' [] → g'.d = gd → W c g'.vs H'
theorem OutS.later {o : Option (Res Ctl)} {D : Ends} (h : OutS K W P H g o D) (s : GT K P H g H1 g1 rs) : OutS K W P H1 g1 o D := by
  cases o with
  | none => exact h
  | some r =>
    cases r with
    | ok a gd =>
      cases a with
      | nx => exact fun g' H' s' e => h g' H' (s.trans s') e
      | rt fl d => exact fun g' H' x s' e1 e2 => h g' H' x (s.trans s') e1 e2
    | exc c gd => exact fun g' H' s' e => h g' H' (s.trans s') e
/-- an expression first, from a later state -/
theorem OutS.bindE (k1 : Kd β δ) {m : M β} {f : β → M Ctl} {D : Ends} {Q : δ → Hp → Prop} (h : OutS K W P H g ((m >>= f) g1.d) D) (s : GT K P H g H1 g1 rs)
    (q : ∀ (g2 : GA) (b : k1.β) (H2 : Hp) (v : δ), GSt K H1 g1 H2 g2 (k1.ens b) → k1.val K g2 H2 b v → OutS K W P H g (f (k1.er b) g2.d) D → Q v H2) : Out k1 K W H1 g1 (m g1.d) Q := by
  have h' : OutS K W P H g (M.bind m f g1.d) D := h
  unfold M.bind at h'
  cases e : m g1.d with
  | none => rw [e] at h'; exact h'
  | some r =>
    cases r with
    | ok a g0 =>
      rw [e] at h'
      intro g' b H' v s' e1 e2 e3
      refine q g' b H' v s' e3 ?_
      rw [e1, e2]; exact h'
    | exc c g0 =>
      rw [e] at h'
      exact fun g' H' s' e => h' g' H' (s.trans s'.gt) e
end
/-- a statement's reading -/
def SS (K : PySem.W.Frag) (W : Str → St → Hp → Prop) (P : List Nat) (m : M Ctl) : TS := fun D σ H => ∃ g : GA, g.vs = σ ∧ GW K H g ∧ OutS K W P H g (m g.d) D
section
variable {X : Cx} {W : Str → St → Hp → Prop} {P : List Nat} {st : Stmt} {rest : List Stmt} {e c tg : Expr} {me mc : M Ref} {mb mb2 : M Ctl} {pos : Pos}
/-- the model may know more slots at the end -/
def weakD (D : Ends) : Ends := { nx := fun σ H => ∃ σ', Wkr σ' σ ∧ D.nx σ' H, rt := D.rt, bk := fun σ H => ∃ σ', Wkr σ' σ ∧ D.bk σ' H, ct := fun σ H => ∃ σ', Wkr σ' σ ∧ D.ct σ' H }
theorem ps_weak {t : TS} (h : PS X st t) : PS X st (fun D σ H => t (weakD D) σ H) := ⟨fun pins s σ H D I q => thn (h.run pins s σ H (weakD D) I q) fun f s' hs => by
  cases f with
  | next => obtain ⟨σ', H', I', σ2, w, q⟩ := hs; exact ⟨σ2, H', I'.weak w.1 w.2, q⟩
  | brk => obtain ⟨σ', H', I', σ2, w, q⟩ := hs; exact ⟨σ2, H', I'.weak w.1 w.2, q⟩
  | cont => obtain ⟨σ', H', I', σ2, w, q⟩ := hs; exact ⟨σ2, H', I'.weak w.1 w.2, q⟩
  | ret u => exact hs⟩
/-! ### blocks -/
theorem ss_nil : PSs X [] (SS X.K W P (pure .nx)) := PSs.weak pss_nil fun D σ H ⟨g, hv, w, o⟩ => by
  subst hv
  have o : OutS X.K W P H g (some (.ok .nx g.d)) D := o
  exact o g H (.refl w) rfl
theorem ss_cons (h1 : PS X st (SS X.K W P mb)) (h2 : PSs X rest (SS X.K W P mb2)) : PSs X (st :: rest) (SS X.K W P (do
    match ← mb with
    | .nx => mb2
    | x => pure x)) := PSs.weak (pss_cons h1 h2) fun D σ H ⟨g, hv, w, o⟩ => by
  subst hv
  refine ⟨g, rfl, w, ?_⟩
  have o' : OutS X.K W P H g (M.bind mb (fun x => match x with
    | .nx => mb2
    | x => pure x) g.d) D := o
  unfold M.bind at o'
  cases e : mb g.d with
  | none => rw [e] at o'; exact o'
  | some r =>
    rw [e] at o'
    cases r with
    | exc c gd => exact o'
    | ok a gd =>
      cases a with
      | nx =>
        intro g' H' s ed
        subst ed
        exact ⟨g', rfl, s.gw w, OutS.later (o := mb2 g'.d) o' s⟩
      | rt fl d => exact o'
/-! ### small statements -/
theorem ss_expr (he : Snd X W e me) (hs : swapsWith e none pos.line X.env = pure false) : PS X (.Expr e pos) (SS X.K W P (do
    let _ ← me
    pure .nx)) := PS.weak (ps_expr he.pe hs) fun D σ H ⟨g, hv, w, o⟩ => by
  subst hv
  refine ⟨g, rfl, w, o.bindE kRef (.refl w) fun g1 b1 H1 v1 s1 e1 o1 => ?_⟩
  have o1 : OutS X.K W P H g (some (.ok .nx g1.d)) D := o1
  rw [← s1.vs]
  exact o1 g1 H1 s1.drop.gt rfl
theorem ss_cond {b1 b2 : List Stmt} (hc : Snd X W c mc) (h1 : PSs X b1 (SS X.K W P mb)) (h2 : PSs X b2 (SS X.K W P mb2)) : PS X (.If c b1 b2 pos) (SS X.K W P (do
    let b ← asB (← mc)
    if b then mb else mb2)) := PS.weak (ps_if hc.pt h1 h2) fun D σ H ⟨g, hv, w, o⟩ => by
  subst hv
  rw [← M.assoc] at o
  refine ⟨g, rfl, w, o.bindE kB (.refl w) fun g1 (b1 : Bool) H1 v1 s1 e1 o1 => ?_⟩
  have e1 : v1 = b1 := e1
  subst e1
  have o1 : OutS X.K W P H g ((if v1 then mb else mb2) g1.d) D := o1
  cases v1 with
  | true => rw [if_pos rfl]; exact ⟨g1, s1.vs, s1.gw w, o1.later s1.gt⟩
  | false => rw [if_neg (by decide)]; exact ⟨g1, s1.vs, s1.gw w, o1.later s1.gt⟩
theorem ss_retN : PS X (.Return none pos) (SS X.K W P (pure (.rt true .non))) := PS.weak ps_retN fun D σ H ⟨g, hv, w, o⟩ => by
  subst hv
  have o : OutS X.K W P H g (some (.ok (.rt true .non) g.d)) D := o
  exact o g H .non (((GSt.refl w).flat (e := (true, .non)) rfl trivial).gt) rfl rfl
/-- a slot's thing goes -/
theorem GT.take {H H1 : Hp} {g g1 : GA} {rs : List En} {k : Nat} {av : AV} (s : GT X.K P H g H1 g1 rs) (q : g1.sl[k]? = some (some (.ow, av))) : GT X.K P H g H1 (g1.put k none) (rs ++ [(true, av)]) := by
  have hk := lt_of_some q
  refine ⟨s.st.perm ?_, fun j hj v h => ?_, fun j x h => ?_, by rw [← s.len]; simp [GA.put]⟩
  · have p := ents_get q
    refine (p.append_right rs).trans ?_
    show ((true, av) :: ents (g1.sl.set k none) ++ rs).Perm (ents (g1.sl.set k none) ++ (rs ++ [(true, av)]))
    rw [← List.append_assoc]
    exact (List.perm_append_singleton _ _).symm
  · refine s.fix j hj v ?_
    rw [GA.put_vs] at h
    by_cases e : k = j
    · subst e
      rw [List.getElem?_set_self (by unfold GA.vs; rw [List.length_map]; exact hk)] at h; cases h
    · rwa [List.getElem?_set_ne e] at h
  · rw [GA.put_get hk] at h
    by_cases e : k = j
    · rw [if_pos e] at h; cases h
    · rw [if_neg e] at h; exact s.gk j x h
/-- a reference's value, where it is still there -/
def RefB.isw (g : GA) : RefB → V → Prop
  | .slot k, v => ∀ x, g.vs[k]? = some (some x) → x = v
  | .tmp e, v => v = e.2.v
def isLw (g : GA) : List RefB → List V → Prop
  | [], vs => vs = []
  | r :: rs, vs => ∃ v vs', vs = v :: vs' ∧ r.isw g v ∧ isLw g rs vs'
theorem RefB.is_w {g : GA} {r : RefB} {v : V} (h : r.is g v) : r.isw g v := by
  cases r with
  | slot k => exact fun x q => by rw [show g.vs[k]? = some (some v) from h] at q; cases q; rfl
  | tmp e => exact h
theorem isL_w {g : GA} : ∀ {rs : List RefB} {vs : List V}, isL g rs vs → isLw g rs vs
  | [], _, h => h
  | _ :: _, _, ⟨v, vs', e, h1, h2⟩ => ⟨v, vs', e, RefB.is_w h1, isL_w h2⟩
theorem isLw_put {g : GA} {k : Nat} : ∀ {rs : List RefB} {vs : List V}, isLw g rs vs → isLw (g.put k none) rs vs
  | [], _, h => h
  | r :: _, _, ⟨v, vs', e, h1, h2⟩ => ⟨v, vs', e, by
      cases r with
      | tmp en => exact h1
      | slot j =>
        intro x hx
        refine h1 x ?_
        rw [GA.put_vs] at hx
        by_cases e : k = j
        · subst e
          by_cases hl : k < g.vs.length
          · rw [List.getElem?_set_self hl] at hx; cases hx
          · rw [List.getElem?_eq_none (by rw [List.length_set]; omega)] at hx; cases hx
        · rwa [List.getElem?_set_ne e] at hx, isLw_put h2⟩
theorem moveR_ok {g : GA} {b : RefB} {v : V} {r : Res (Bool × D)} (h : moveR b.r g.d = some r) (hv : b.isw g v) : (∃ e : En, b = .tmp e ∧ e.2.v = v ∧ r = .ok (e.1, e.2.d) g.d) ∨ (∃ (k : Nat) (av : AV), b = .slot k ∧ g.sl[k]? = some (some (.ow, av)) ∧ av.v = v ∧ r = .ok (true, av.d) (g.put k none).d) := by
  cases b with
  | tmp e =>
    refine .inl ⟨e, rfl, Eq.symm hv, ?_⟩
    have h : some (Res.ok (e.1, e.2.d) g.d) = some r := h
    cases h; rfl
  | slot k =>
    refine .inr ?_
    have h : (match g.d.sl[k]? with
      | some (some (.ow, d)) => some (Res.ok (true, d) { g.d with sl := g.d.sl.set k none })
      | _ => none) = some r := h
    cases q : g.sl[k]? with
    | none =>
      have : g.d.sl[k]? = none := by rw [GA.slD, q]; rfl
      rw [this] at h; cases h
    | some z =>
      cases z with
      | none =>
        have : g.d.sl[k]? = some none := by rw [GA.slD, q]; rfl
        rw [this] at h; cases h
      | some p =>
        obtain ⟨m, av⟩ := p
        rw [GA.slot_d q] at h
        cases m with
        | ow =>
          cases h
          exact ⟨k, av, rfl, q, hv _ (GA.slot_v q), by rw [GA.put_d]; rfl⟩
        | _ => cases h
theorem ss_ret (he : Snd X W e me) : PS X (.Return (some e) pos) (SS X.K W P (do
    let x ← moveR (← stab (← me))
    pure (.rt x.1 x.2))) := PS.weak (ps_ret (se_stab he.pe)) fun D σ H ⟨g, hv, w, o⟩ => by
  subst hv
  rw [← M.assoc] at o
  refine ⟨g, rfl, w, o.bindE kS (.refl w) fun g1 (b1 : RefB) H1 v1 s1 e1 o1 => ?_⟩
  have o1 : OutS X.K W P H g (M.bind (moveR b1.r) (fun x => (pure (.rt x.1 x.2) : M Ctl)) g1.d) D := o1
  unfold M.bind at o1
  cases em : moveR b1.r g1.d with
  | none => rw [em] at o1; exact o1.elim
  | some r =>
    rcases moveR_ok em (RefB.is_w e1) with ⟨en, rfl, ev, rfl⟩ | ⟨k, av, rfl, q, ev, rfl⟩
    · rw [em] at o1
      have o1 : OutS X.K W P H g (some (.ok (.rt en.1 en.2.d) g1.d)) D := o1
      subst ev
      exact o1 g1 H1 en.2 s1.gt rfl rfl
    · rw [em] at o1
      have o1 : OutS X.K W P H g (some (.ok (.rt true av.d) (g1.put k none).d)) D := o1
      subst ev
      exact o1 (g1.put k none) H1 av (GT.take (P := P) (rs := []) s1.gt q) rfl rfl
theorem moveL_ok {K : PySem.W.Frag} {H H1 : Hp} {g : GA} : ∀ {rs : List RefB} {vs : List V} {g1 : GA} {acc : List En} {r : Res (List (Bool × D))}, moveL (rs.map RefB.r) g1.d = some r → GT X.K P H g H1 g1 (acc ++ ensL rs) → isLw g1 rs vs →
    ∃ (g2 : GA) (es : List En), GT X.K P H g H1 g2 (acc ++ es) ∧ es.map (fun e => e.2.v) = vs ∧ r = .ok (es.map fun e => (e.1, e.2.d)) g2.d
  | [], vs, g1, acc, r, h, s, hv => by
    have hv : vs = [] := hv
    subst hv
    have h : some (Res.ok [] g1.d) = some r := h
    cases h
    exact ⟨g1, [], s, rfl, rfl⟩
  | b :: rs, vs, g1, acc, r, h, s, ⟨v, vs', e, h1, h2⟩ => by
    subst e
    have h : M.bind (moveR b.r) (fun e => M.bind (moveL (rs.map RefB.r)) fun es => (pure (e :: es) : M (List (Bool × D)))) g1.d = some r := h
    unfold M.bind at h
    cases em : moveR b.r g1.d with
    | none => rw [em] at h; cases h
    | some q =>
      -- the thing has gone; the others are there still
      have key : ∀ (g2 : GA) (en : En), GT X.K P H g H1 g2 ((acc ++ [en]) ++ ensL rs) → isLw g2 rs vs' → en.2.v = v → q = .ok (en.1, en.2.d) g2.d →
          ∃ (g2 : GA) (es : List En), GT X.K P H g H1 g2 (acc ++ es) ∧ es.map (fun e => e.2.v) = v :: vs' ∧ r = .ok (es.map fun e => (e.1, e.2.d)) g2.d := by
        intro g2 en s2 hv2 ev eq
        rw [em, eq] at h
        dsimp only at h
        cases el : moveL (rs.map RefB.r) g2.d with
        | none => rw [el] at h; cases h
        | some q2 =>
          obtain ⟨g3, es, s3, e3, er⟩ := moveL_ok (K := K) el s2 hv2
          rw [el, er] at h
          have h : some (Res.ok ((en.1, en.2.d) :: es.map fun e => (e.1, e.2.d)) g3.d) = some r := h
          cases h
          exact ⟨g3, en :: es, by rw [List.append_assoc] at s3; exact s3, by rw [List.map_cons, ev, e3], rfl⟩
      rcases moveR_ok em h1 with ⟨en, rfl, ev, eq⟩ | ⟨k, av, rfl, qk, ev, eq⟩
      · refine key g1 en ?_ h2 ev eq
        rw [ensL_cons] at s
        rw [List.append_assoc]; exact s
      · have s' : GT X.K P H g H1 g1 (acc ++ ensL rs) := by rw [ensL_cons] at s; exact s
        have s2 := GT.take s' qk
        have s3 : GT X.K P H g H1 (g1.put k none) ((acc ++ [(true, av)]) ++ ensL rs) := s2.sub ⟨[], by
          rw [List.append_nil, List.append_assoc, List.append_assoc]
          exact List.Perm.append_left _ List.perm_append_comm⟩
        exact key (g1.put k none) (true, av) s3 (isLw_put h2) ev eq
/-- a tuple is handed back -/
theorem ss_retT {es : List Expr} {mA : M (List Ref)} {kk : Nat} {p2 : Pos} (h : PA X es (SM kL X.K W mA)) : PS X (.Return (some (.Tuple es kk p2)) pos) (SS X.K W P (do
    let es ← moveL (← mA)
    if fits es.length then pure (.rt (es.all fresh) (.tup (es.map (·.2)))) else M.fail)) := PS.weak (ps_ret (pe_tup h)) fun Dd σ H ⟨g, hv, w, o⟩ => by
  subst hv
  refine ⟨g, rfl, w, o.bindE kL (.refl w) fun g1 (bs : List RefB) H1 vs s1 e1 o1 => ?_⟩
  have o1 : OutS X.K W P H g (M.bind (moveL (bs.map RefB.r)) (fun es => if fits es.length then (pure (.rt (es.all fresh) (.tup (es.map (·.2)))) : M Ctl) else M.fail) g1.d) Dd := o1
  unfold M.bind at o1
  cases em : moveL (bs.map RefB.r) g1.d with
  | none => rw [em] at o1; exact o1.elim
  | some r =>
    obtain ⟨g2, en, s2, ev, er⟩ := moveL_ok (K := X.K) (P := P) (acc := []) em (GSt.gt s1) (isL_w e1)
    rw [em, er] at o1
    dsimp only at o1
    by_cases hf : fits (en.map fun e => ((e.1, e.2.d) : Bool × D)).length = true
    case neg => rw [if_neg hf] at o1; exact o1.elim
    rw [if_pos hf] at o1
    have o1 : OutS X.K W P H g (some (.ok (.rt ((en.map fun e => ((e.1, e.2.d) : Bool × D)).all fresh) (.tup ((en.map fun e => ((e.1, e.2.d) : Bool × D)).map (·.2)))) g2.d)) Dd := o1
    refine ⟨by rw [← ev]; exact fits_map hf, fun p hp => ?_⟩
    rw [all_fresh] at o1
    have s3 : GT X.K P H g (upd H1 p (.tup (en.map fun e => e.2.v))) g2 [(en.all fresh1, .tup p (en.map (·.2)))] := ⟨(show Stp X.K H (ents g.sl) g.ce H1 (ents g2.sl ++ en) g2.ce from s2.st).tup hp, s2.fix, s2.gk, s2.len⟩
    rw [← ev]
    refine o1 g2 _ (.tup p (en.map (·.2))) s3 ?_ rfl
    rw [AV.d, AV.dL_eq, List.map_map, List.map_map]; rfl
end
end Om

/-! Om27: stores, raise. -/
namespace Om
open PySem PySem.Spec PyProof.Rows L2

mutual
theorem asgA_nolk : ∀ (G : G) (m : Mo) (x : AV) (g : GA) {g' : GA}, m ≠ .lk → asgA G (m, x) g = some g' → ∀ (j : Nat) (y : AV), g'.sl[j]? = some (some (.lk, y)) → g.sl[j]? = some (some (.lk, y))
  | .name k, m, x, g, g', hm, h, j, y, hj => by
    rw [asgA] at h
    by_cases hk : k < g.sl.length
    · rw [if_pos hk] at h
      cases h
      rw [GA.put_get hk] at hj
      by_cases e : k = j
      · rw [if_pos e] at hj
        cases hj; exact absurd rfl hm
      · rw [if_neg e] at hj; exact hj
    · rw [if_neg hk] at h; cases h
  | .tup gs, m, x, g, g', hm, h, j, y, hj => by
    cases x with
    | tup a xs => rw [asgA] at h; exact asgAs_nolk gs m xs g hm h j y hj
    | lst a xs =>
      rw [asgA] at h
      by_cases hn : D.noLL (xs.map AV.d) = true
      · simp only [hn, if_true] at h
        exact asgAs_nolk gs .sh xs g (fun h => nomatch h) h j y hj
      · simp only [hn] at h; cases h
    | _ => simp [asgA] at h
theorem asgAs_nolk : ∀ (gs : Gs) (m : Mo) (xs : List AV) (g : GA) {g' : GA}, m ≠ .lk → asgAs gs m xs g = some g' → ∀ (j : Nat) (y : AV), g'.sl[j]? = some (some (.lk, y)) → g.sl[j]? = some (some (.lk, y))
  | .nil, m, [], g, g', _, h, j, y, hj => by rw [asgAs] at h; cases h; exact hj
  | .nil, m, x :: xs, g, g', _, h, j, y, hj => by rw [asgAs] at h <;> first | cases h | (intros; simp_all)
  | .cons G gs, m, [], g, g', _, h, j, y, hj => by rw [asgAs] at h <;> first | cases h | (intros; simp_all)
  | .cons G gs, m, x :: xs, g, g', hm, h, j, y, hj => by
    rw [asgAs] at h
    cases e : asgA G (m, x) g with
    | none => rw [e] at h; cases h
    | some g1 =>
      rw [e] at h
      exact asgA_nolk G m x g hm e j y (asgAs_nolk gs m xs g1 hm h j y hj)
end
section
variable {K : PySem.W.Frag} {P : List Nat} {W : Str → St → Hp → Prop} {H H' H1 H2 : Hp} {g g' g1 g2 : GA} {rs rs' : List En} {α β γ δ : Type} {k : Kd α γ} {D' : Ends} {G : G}
/-- an expression first -/
theorem OutS.bindS (k1 : Kd β δ) {m : M β} {f : β → M Ctl} {gd : Sg} {Q : δ → Hp → Prop} (h : OutS K W P H g ((m >>= f) gd) D')
    (q : ∀ (g1 : GA) (b : k1.β) (H1 : Hp) (v : δ), GSt K H g H1 g1 (k1.ens b) → k1.val K g1 H1 b v → OutS K W P H g (f (k1.er b) g1.d) D' → Q v H1) : Out k1 K W H g (m gd) Q := by
  have h' : OutS K W P H g (M.bind m f gd) D' := h
  unfold M.bind at h'
  cases e : m gd with
  | none => rw [e] at h'; exact h'
  | some r =>
    cases r with
    | ok a g0 =>
      rw [e] at h'
      intro g' b H' v s' e1 e2 e3
      refine q g' b H' v s' e3 ?_
      rw [e1, e2]; exact h'
    | exc c g0 =>
      rw [e] at h'
      exact fun g' H' s' e => h' g' H' s'.gt e
theorem Out.forceE {b : RefB} {v : V} {Q : VK} (o : Out kEl K W H g (Om.force b.r g1.d) Q) (w : GW K H g) (s : GSt K H g H1 g1 b.ens) (hv : b.is g1 v) : Q v H1 := by
  obtain ⟨y, n, ev⟩ := d_lst_nav hv
  have o1 : Out kEl K W H g ((Om.force b.r >>= (Pure.pure : Bool × D → M (Bool × D))) g1.d) Q := by rw [M.bind_pure]; exact o
  obtain ⟨g2, e, s2, ey, vs2, o2⟩ := Out.forceN o1 w s n
  have o3 : Out kEl K W H g (some (.ok (e.1, e.2.d) g2.d)) Q := o2
  exact o3 g2 e H1 v s2 rfl rfl (by show e.2.v = v; rw [ey]; exact ev)
theorem moB_ne (b : Bool) : moB b ≠ .lk := by cases b <;> exact fun h => nomatch h
/-- a store of an entry -/
theorem asg_fin {e : En} (o : OutS K W P H g ((asgG G (moB e.1, e.2.d) >>= fun _ => (pure .nx : M Ctl)) g1.d) D') (s : GSt K H g H1 g1 [e]) (hP : ∀ j ∈ P, j ∉ G.slots) : tG K G e.2.v g.vs H1 D'.nx := by
  have o' : OutS K W P H g (M.bind (asgG G (moB e.1, e.2.d)) (fun _ => (pure .nx : M Ctl)) g1.d) D' := o
  unfold M.bind at o'
  cases ea : asgG G (moB e.1, e.2.d) g1.d with
  | none => rw [ea] at o'; exact o'.elim
  | some r =>
    obtain ⟨ga, ega, er⟩ := asgA_d G (moB e.1) e.2 g1 ea
    rw [ea, er] at o'
    have o2 : OutS K W P H g (some (.ok .nx ga.d)) D' := o'
    have ok := s.wd.ok e (List.mem_append_right _ List.mem_cons_self)
    obtain ⟨ec, el, es⟩ := asgA_keep G (moB e.1) e.2 g1 ega
    refine ⟨g1, moB e.1, e.2, ga, s.vs, rfl, ok, ega, o2 ga H1 ⟨?_, fun j hj v h => ?_, fun j x h => s.gk j x (asgA_nolk G (moB e.1) e.2 g1 (moB_ne _) ega j x h), by rw [el]; exact vs_len s.vs⟩ rfl⟩
    · refine asgA_own G e.1 e.2 g1 [] (s.st.perm ?_) ega
      rw [List.append_nil]
      exact List.perm_append_singleton _ _
    · rw [GA.slV, es j (hP j hj), ← GA.slV, s.vs] at h
      exact h
/-- a store of a thing with items that hold no lists -/
theorem asg_flat {gs : Gs} {y : AV} (o : OutS K W P H g ((asgG (.tup gs) (.sh, y.d) >>= fun _ => (pure .nx : M Ctl)) g1.d) D') (s : GSt K H g H1 g1 []) (ok : y.ok K H1 g1.ce) (hf : y.d.flatItems = true) (hP : ∀ j ∈ P, j ∉ (Om.G.tup gs).slots) : tG K (.tup gs) y.v g.vs H1 D'.nx := by
  have o' : OutS K W P H g (M.bind (asgG (.tup gs) (.sh, y.d)) (fun _ => (pure .nx : M Ctl)) g1.d) D' := o
  unfold M.bind at o'
  cases ea : asgG (.tup gs) (.sh, y.d) g1.d with
  | none => rw [ea] at o'; exact o'.elim
  | some r =>
    obtain ⟨ga, ega, er⟩ := asgA_d (.tup gs) .sh y g1 ea
    rw [ea, er] at o'
    have o2 : OutS K W P H g (some (.ok .nx ga.d)) D' := o'
    obtain ⟨ec, el, es⟩ := asgA_keep (.tup gs) .sh y g1 ega
    refine ⟨g1, .sh, y, ga, s.vs, rfl, ok, ega, o2 ga H1 ⟨?_, fun j hj v h => ?_, fun j x h => s.gk j x (asgA_nolk (.tup gs) .sh y g1 (fun h => nomatch h) ega j x h), by rw [el]; exact vs_len s.vs⟩ rfl⟩
    · have flats : ∀ xs : List AV, (∀ x ∈ xs, x.ok K H1 g1.ce) → D.noLL (xs.map AV.d) = true → asgAs gs .sh xs g1 = some ga → Stp K H (ents g.sl) g.ce H1 (ents ga.sl ++ []) ga.ce := fun xs okx hn h =>
        asgAs_own gs false xs g1 [] (s.st.flats fun x hx => ⟨okx x hx, AV.as_noL x (D.noLL_iff.mp hn _ (List.mem_map.mpr ⟨x, hx, rfl⟩))⟩) h
      cases y with
      | tup a xs =>
        rw [asgA] at ega
        rw [AV.ok] at ok
        rw [AV.d, AV.dL_eq] at hf
        exact flats xs (AV.okL_iff.mp ok.2) hf ega
      | lst a xs =>
        rw [asgA] at ega
        rw [AV.ok] at ok
        rw [AV.d, AV.dL_eq] at hf
        have hn : D.noLL (xs.map AV.d) = true := hf
        simp only [hn, if_true] at ega
        exact flats xs (AV.okL_iff.mp ok.2) hn ega
      | _ => simp [asgA] at ega
    · rw [GA.slV, es j (hP j hj), ← GA.slV, s.vs] at h
      exact h
/-- what is assigned -/
theorem unpk_out {b : RefA} {v : V} (o : OutS K W P H g ((unpk G b.r >>= fun x => (asgG G (moB x.1, x.2) >>= fun _ => (pure .nx : M Ctl))) g1.d) D') (w : GW K H g) (s : GSt K H g H1 g1 b.ens) (hv : b.is g1 v) (hP : ∀ j ∈ P, j ∉ G.slots) : tG K G v g.vs H1 D'.nx := by
  have viaForce : OutS K W P H g ((Om.stab b.r >>= fun r => (force r >>= fun x => (asgG G (moB x.1, x.2) >>= fun _ => (pure .nx : M Ctl)))) g1.d) D' → tG K G v g.vs H1 D'.nx := fun o => by
    have o1 := OutS.bindS kS (Q := fun v H1 => tG K G v g.vs H1 D'.nx) o fun g2 (b2 : RefB) H2 v2 s2 e2 o2 => by
      have o3 := OutS.bindS kEl (Q := fun v H1 => tG K G v g.vs H1 D'.nx) o2 fun g3 (e : En) H3 v3 s3 e3 o4 => by
        have e3 : e.2.v = v3 := e3
        subst e3
        exact asg_fin o4 s3 hP
      exact Out.forceE o3 w s2 e2
    exact o1.stab w s hv
  cases G with
  | name k =>
    refine viaForce ?_
    have e : (unpk (.name k) b.r >>= fun x => (asgG (.name k) (moB x.1, x.2) >>= fun _ => (pure .nx : M Ctl))) = (Om.stab b.r >>= fun r => (force r >>= fun x => (asgG (.name k) (moB x.1, x.2) >>= fun _ => (pure .nx : M Ctl)))) := by
      show ((Om.stab b.r >>= fun r => force r) >>= _) = _
      rw [M.assoc]
    rw [e] at o; exact o
  | tup gs =>
    have e : (unpk (.tup gs) b.r >>= fun x => (asgG (.tup gs) (moB x.1, x.2) >>= fun _ => (pure .nx : M Ctl))) = (Om.look b.r >>= fun d => if d.flatItems then (asgG (.tup gs) (.sh, d) >>= fun _ => (pure .nx : M Ctl)) else (Om.stab b.r >>= fun r => (force r >>= fun x => (asgG (.tup gs) (moB x.1, x.2) >>= fun _ => (pure .nx : M Ctl))))) := by
      show ((Om.look b.r >>= fun d => if d.flatItems then (pure (false, d) : M (Bool × D)) else (Om.stab b.r >>= fun r => force r)) >>= _) = _
      rw [M.assoc]
      congr 1; funext d
      by_cases hf : d.flatItems = true
      · rw [if_pos hf, if_pos hf]; rfl
      · rw [if_neg hf, if_neg hf, M.assoc]
    rw [e] at o
    obtain ⟨y, n, ev⟩ := RefA.nav_of hv
    have el : Om.look b.r g1.d = some (.ok y.d g1.d) := by unfold Om.look; rw [RefA.nav_get n]
    rw [M.bind_ok el] at o
    by_cases hf : y.d.flatItems = true
    · rw [if_pos hf] at o
      rw [← ev]
      exact asg_flat o s.drop (RefA.nav_ok s.wd (s.gw w) (fun e he => he) n) hf hP
    · rw [if_neg hf] at o
      exact viaForce o
end
section
variable {X : Cx} {W : Str → St → Hp → Prop} {P : List Nat} {e tg : Expr} {me mi : M Ref} {pos : Pos} {G : Om.G}
def mAsg (G : Om.G) (me : M Ref) : M Ctl := do
  let r ← me
  let x ← unpk G r
  asgG G (moB x.1, x.2)
  pure .nx
theorem ss_asg (he : Snd X W e me) (hg : PG X tg (tG X.K G)) (hP : ∀ j ∈ P, j ∉ G.slots) (hs : swapsWithSole [tg] e pos.line X.env = pure false) (hw : swappedStores [tg] e X.env = pure none) (h1 : (assignEach [tg] X.env).map (·.2) = [assign tg X.env]) :
    PS X (.Assign [tg] e pos) (SS X.K W P (mAsg G me)) := PS.weak (ps_asg he.pe hg hs hw h1) fun D σ H ⟨g, hv, w, o⟩ => by
  subst hv
  exact ⟨g, rfl, w, OutS.bindS kRef (f := fun r => (unpk G r >>= fun x => (asgG G (moB x.1, x.2) >>= fun _ => (pure .nx : M Ctl)))) o fun g1 b1 H1 v1 s1 e1 o1 => unpk_out o1 w s1 e1 hP⟩
/-- a comprehension, stored on its own line -/
theorem ss_asgLc {i : Nat} {y : Str} {py : Pos} {elt t2 iter : Expr} {ifs : List Expr} {scope : Scope} {own : List (Str × Nat)} {pos spos : Pos} {mI : M Wk} {g2 : Om.G} {mC : M Bool} {mE : M Ref} (hc : X.calm = true) (hN : X.N.Nodup) (hy : X.N[i]? = some y) (hyl : X.env.scope.names.lookup y = some .local)
    (hsw : swapsWith (.ListComp elt [⟨t2, iter, ifs, 0⟩] scope pos) (some (.Name y py)) spos.line X.env = pure true) (hi : PI X t2 iter (SM kW X.K W mI)) (ok : BlkOk X.N X.env.scope scope own)
    (hg : ∀ (s : Shared) (H : Hp) (C : Addr) (cl : List (Str × Addr)) (fp : List Addr), PG (X.blk s H scope (compEnvC scope cl C X.env) fp) t2 (tG X.K g2)) (ht : ∀ (s : Shared) (H : Hp) (C : Addr) (cl : List (Str × Addr)) (fp : List Addr), PTs (X.blk s H scope (compEnvC scope cl C X.env) fp) ifs (SM kB X.K WF mC))
    (he : ∀ (s : Shared) (H : Hp) (C : Addr) (cl : List (Str × Addr)) (fp : List Addr), PE (X.blk s H scope (compEnvC scope cl C X.env) fp) elt (SM kEl X.K WF (do force (← stab (← mE))))) (hs : ∀ x, foldedSetIterable iter X.env x = pure x)
    (hnd : (own.map (·.2)).Nodup) (hG : ∀ j ∈ g2.slots, j ∈ own.map (·.2)) (hP : i ∉ P) : PS X (.Assign [.Name y py] (.ListComp elt [⟨t2, iter, ifs, 0⟩] scope pos) spos) (SS X.K W P (mAsg (.name i) (do
      let w ← mI
      if fits w.1.length then do
        let es ← lockO w.2.2 (compM (own.map (·.2)) g2 w.2.1 mC mE w.1)
        pure (.tmp (es.all fresh) (.lst (es.map (·.2))))
      else M.fail))) := PS.weak (ps_setLc hc hN hy hyl hsw hi ok hg ht he hs) fun D σ H ⟨g, hv, w, o⟩ => by
  subst hv
  refine comp_ok hnd hG ⟨g, rfl, w, OutS.bindS kRef (f := fun r => (unpk (.name i) r >>= fun x => (asgG (.name i) (moB x.1, x.2) >>= fun _ => (pure .nx : M Ctl)))) o fun g1 b1 H1 v1 s1 e1 o1 => ?_⟩
  obtain ⟨ga, m, z, ga', e1, e2, _, e3, q⟩ := unpk_out (G := .name i) o1 w s1 e1 fun j hj hm => hP (by rw [Om.G.slots] at hm; cases List.mem_singleton.mp hm; exact hj)
  rw [asgA] at e3
  by_cases hk : i < ga.sl.length
  · rw [if_pos hk] at e3
    cases e3
    rw [GA.put_vs, e1, Option.map_some, e2] at q
    exact q
  · rw [if_neg hk] at e3; cases e3
def kEs : Kd (List (Bool × D)) (List V) := ⟨List En, fun es => es.map fun e => (e.1, e.2.d), fun es => es, fun _ _ _ es vs => es.map (fun e => e.2.v) = vs⟩
/-- two things without lists stored into two names -/
theorem ss_par {i j : Nat} {x y : Str} {a b : Expr} {mA : M (List Ref)} {px py pt pos : Pos} {kt k2 pt2} (hc : X.calm = true) (hN : X.N.Nodup) (hi : X.N[i]? = some x) (hj : X.N[j]? = some y)
    (hx : X.env.scope.names.lookup x = some .local) (hy : X.env.scope.names.lookup y = some .local) (ha : PA X [a, b] (SM kL X.K W mA)) (hiP : i ∉ P) (hjP : j ∉ P) (hij : i ≠ j)
    (hw : swappedStores [.Tuple [.Name x px, .Name y py] kt pt] (.Tuple [a, b] k2 pt2) X.env = pure (some [x, y])) (hs : swapsWithSole [.Tuple [.Name x px, .Name y py] kt pt] (.Tuple [a, b] k2 pt2) pos.line X.env = pure false) :
    PS X (.Assign [.Tuple [.Name x px, .Name y py] kt pt] (.Tuple [a, b] k2 pt2) pos) (SS X.K W P (do
    let es ← forceL (← mA)
    par2 i j es)) := PS.weak (ps_par hc hN hi hj hij hx hy ha hw hs) fun D' σ H ⟨g, hv, w, o⟩ => by
  subst hv
  refine ⟨g, rfl, w, OutS.bindS kL (f := fun rs => (forceL rs >>= fun es => par2 i j es)) o fun g1 bs H1 vs s1 e1 o1 => ?_⟩
  have o2 := OutS.bindS kEs (Q := fun vs H1 => ∃ v w, vs = [v, w] ∧ D'.nx ((g.vs.set i (some v)).set j (some w)) H1) o1 fun g2 es H2 vs2 s2 e2 o3 => by
    have e2 : es.map (fun e => e.2.v) = vs2 := e2
    subst e2
    have s2 : GSt X.K H g H2 g2 es := s2
    have o3 : OutS X.K W P H g (par2 i j (es.map fun e => (e.1, e.2.d)) g2.d) D' := o3
    match es, s2, o3 with
    | [], _, o3 => exact o3.elim
    | [_], _, o3 => exact o3.elim
    | _ :: _ :: _ :: _, _, o3 => exact o3.elim
    | [u1, u2], s2, o3 =>
      have e : par2 i j ([u1, u2].map fun e : En => (e.1, e.2.d)) = if u1.2.d.noL && u2.2.d.noL && !decide (i = j) then (asgGs (.cons (.name i) (.cons (.name j) .nil)) .sh ([u1.2, u2.2].map AV.d) >>= fun _ => (pure .nx : M Ctl)) else M.fail := rfl
      rw [e] at o3
      by_cases hn : (u1.2.d.noL && u2.2.d.noL && !decide (i = j)) = true
      case neg => rw [if_neg hn] at o3; exact o3.elim
      rw [if_pos hn] at o3
      simp only [Bool.and_eq_true] at hn
      have o4 : OutS X.K W P H g (M.bind (asgGs (.cons (.name i) (.cons (.name j) .nil)) .sh ([u1.2, u2.2].map AV.d)) (fun _ => (pure .nx : M Ctl)) g2.d) D' := o3
      unfold M.bind at o4
      cases ea : asgGs (.cons (.name i) (.cons (.name j) .nil)) .sh ([u1.2, u2.2].map AV.d) g2.d with
      | none => rw [ea] at o4; exact o4.elim
      | some r =>
        obtain ⟨ga, ega, er⟩ := asgAs_d _ .sh [u1.2, u2.2] g2 ea
        rw [ea, er] at o4
        have o5 : OutS X.K W P H g (some (.ok .nx ga.d)) D' := o4
        obtain ⟨ec, el, es'⟩ := asgAs_keep _ .sh [u1.2, u2.2] g2 ega
        have okx : ∀ x ∈ [u1.2, u2.2], x.ok X.K H2 g2.ce := fun x hx => by
          rcases List.mem_cons.mp hx with rfl | hx
          · exact s2.wd.ok u1 (List.mem_append_right _ List.mem_cons_self)
          · cases List.mem_singleton.mp hx
            exact s2.wd.ok u2 (List.mem_append_right _ (List.mem_cons_of_mem _ List.mem_cons_self))
        have nol : ∀ x ∈ [u1.2, u2.2], x.as = [] := fun x hx => by
          rcases List.mem_cons.mp hx with rfl | hx
          · exact AV.as_noL _ hn.1.1
          · cases List.mem_singleton.mp hx
            exact AV.as_noL _ hn.1.2
        have s3 : GSt X.K H g H2 g2 [] := s2.drop
        have own := asgAs_own _ false [u1.2, u2.2] g2 [] (s3.st.flats fun x hx => ⟨okx x hx, nol x hx⟩) ega
        have vsE : ga.vs = (g2.vs.set i (some u1.2.v)).set j (some u2.2.v) := by
          rw [asgAs, asgA] at ega
          by_cases h1 : i < g2.sl.length
          case neg => rw [if_neg h1] at ega; cases ega
          rw [if_pos h1, Option.bind_some, asgAs, asgA] at ega
          by_cases h2 : j < (g2.put i (some (.sh, u1.2))).sl.length
          case neg => rw [if_neg h2] at ega; cases ega
          rw [if_pos h2, Option.bind_some, asgAs] at ega
          cases ega
          rw [GA.put_vs, GA.put_vs]; rfl
        refine ⟨u1.2.v, u2.2.v, rfl, ?_⟩
        have fin := o5 ga H2 ⟨own, fun k hk v h => ?_, fun k x h => s2.gk k x (asgAs_nolk _ .sh [u1.2, u2.2] g2 (fun h => nomatch h) ega k x h), by rw [el]; exact vs_len s2.vs⟩ rfl
        · rw [vsE, s2.vs] at fin; exact fin
        · rw [vsE, s2.vs] at h
          rw [List.getElem?_set_ne (fun q : j = k => hjP (by rw [q]; exact hk)), List.getElem?_set_ne (fun q : i = k => hiP (by rw [q]; exact hk))] at h
          exact h
  obtain ⟨g2, es, s2, e2, v2, o3⟩ := Out.forceL (k := kEs) (acc := []) (f := pure) (by
    rw [M.bind_pure]; exact o2) w s1 e1
  exact o3 g2 es H1 vs s2 rfl rfl e2
/-- xs[i] = e -/
theorem ss_setix {k : Nat} {x : Str} {i : Expr} {p1 p2 : Pos} (hN : X.N[k]? = some x) (hv : Vis X.env.scope x) (hd : (x == ("__debug__" : Str)) = false) (hcd : (x == ("__classdict__" : Str)) = false) (hi : Snd X W i mi) (he : Snd X W e me)
    (ha : ∀ v, assign (.Subscript (.Name x p1) i p2) X.env v = (do
      let ov ← holding [v] (eval (.Name x p1) X.env)
      let iv ← holding [v, ov] (eval i X.env)
      standAt p2
      holding [v, ov, iv] (setItem ov iv v)
      release [v, ov, iv] [])) (hs : swapsWithSole [.Subscript (.Name x p1) i p2] e pos.line X.env = pure false) (hw : swappedStores [.Subscript (.Name x p1) i p2] e X.env = pure none) :
    PS X (.Assign [.Subscript (.Name x p1) i p2] e pos) (SS X.K W P (do
      let x ← force (← stab (← me))
      hasK k
      let n ← asI (← mi)
      fun s => match s.sl[k]? with
      | some (some (.ow, .lst ds)) => if fresh x then match ixN ds.length n with
          | some j => some (.ok .nx { s with sl := s.sl.set k (some (.ow, .lst (ds.set j x.2))) })
          | none => none
        else none
      | _ => none)) := PS.weak (ps_asg he.pe (pg_sub (pe_var hN hv hd hcd) hi.pe set_list ha) hs hw rfl) fun Dd σ H ⟨g, hv, w, o⟩ => by
  subst hv
  let fin : Bool × D → Int → M Ctl := fun x n s => match s.sl[k]? with
      | some (some (.ow, .lst ds)) => if fresh x then match ixN ds.length n with
          | some j => some (.ok .nx { s with sl := s.sl.set k (some (.ow, .lst (ds.set j x.2))) })
          | none => none
        else none
      | _ => none
  have o : OutS X.K W P H g ((me >>= fun z => (stab z >>= fun r => (force r >>= fun x => (hasK k >>= fun _ => (mi >>= fun zi => (asI zi >>= fun n => fin x n)))))) g.d) Dd := o
  refine ⟨g, rfl, w, OutS.bindS kRef o fun g1 b1 H1 v1 s1 e1 o1 => ?_⟩
  have q0 := OutS.bindS kS (Q := fun v H1 => gSub (tVar k) (SM kRef X.K W mi) rSetL v g.vs H1 Dd.nx) o1 fun g2 (b2 : RefB) H2 v2 s2 e2 o2 => by
    have q1 := OutS.bindS kEl (Q := fun v H1 => gSub (tVar k) (SM kRef X.K W mi) rSetL v g.vs H1 Dd.nx) o2 fun g3 (en : En) H3 v3 s3 e3 o3 => by
      have e3 : en.2.v = v3 := e3
      subst e3
      have s3 : GSt X.K H g H3 g3 [en] := s3
      have o3' : OutS X.K W P H g (M.bind (hasK k) (fun _ => (mi >>= fun zi => (asI zi >>= fun n => fin (en.1, en.2.d) n))) g3.d) Dd := o3
      unfold M.bind at o3'
      cases eh : hasK k g3.d with
      | none => rw [eh] at o3'; exact o3'.elim
      | some r =>
        obtain ⟨rfl, e0, q⟩ := hasK_ok eh
        rw [eh] at o3'
        refine ⟨e0.2.v, by rw [← s3.vs]; exact GA.slot_v q, g3, s3.vs, s3.gw w, OutS.bindE kRef o3' (GSt.gt s3) fun g4 b4 H4 v4 s4 e4 o4 => ?_⟩
        have s34 : GSt X.K H g H4 g4 ([en] ++ RefA.ens b4) := s3.app s4
        -- the int
        have o4' : OutS X.K W P H g (M.bind (asI (RefA.r b4)) (fun n => fin (en.1, en.2.d) n) g4.d) Dd := o4
        obtain ⟨y, n, ev⟩ := RefA.nav_of e4
        have el : Om.look (RefA.r b4) g4.d = some (.ok y.d g4.d) := by unfold Om.look; rw [RefA.nav_get n]
        have ea : asI (RefA.r b4) g4.d = (match y.d with
          | .int b => (pure b : M Int)
          | _ => M.fail) g4.d := by
          show M.bind (Om.look (RefA.r b4)) _ g4.d = _
          unfold M.bind
          rw [el]; try rfl
        unfold M.bind at o4'
        rw [ea] at o4'
        cases ey : y.d with
        | int z =>
          rw [ey] at o4'
          have hy := d_int ey
          subst hy
          have o5 : OutS X.K W P H g (fin (en.1, en.2.d) z g4.d) Dd := o4'
          have s5 : GSt X.K H g H4 g4 [en] := s34.sub ⟨_, .refl _⟩
          have hv0 : ∀ p, g4.sl[k]? = some (some p) → p.2.v = e0.2.v := fun p hp => by
            have h1 := GA.slot_v hp
            rw [s4.vs, GA.slot_v q] at h1
            exact (Option.some.inj (Option.some.inj h1)).symm
          cases qk : g4.sl[k]? with
          | none =>
            have : g4.d.sl[k]? = none := by rw [GA.slD, qk]; rfl
            simp only [fin, this] at o5; exact o5.elim
          | some zz =>
            cases zz with
            | none =>
              have : g4.d.sl[k]? = some none := by rw [GA.slD, qk]; rfl
              simp only [fin, this] at o5; exact o5.elim
            | some p =>
              obtain ⟨m, av⟩ := p
              have hd' := GA.slot_d qk
              simp only [fin, hd'] at o5
              cases m with
              | sh => exact o5.elim
              | lk => exact o5.elim
              | ow =>
                cases av with
                | lst a xs =>
                  have ex : (AV.lst a xs).d = .lst (xs.map AV.d) := by rw [AV.d, AV.dL_eq]
                  rw [ex] at o5
                  dsimp only at o5
                  by_cases hf : fresh (en.1, en.2.d) = true
                  case neg => rw [if_neg hf] at o5; exact o5.elim
                  rw [if_pos hf, List.length_map] at o5
                  cases ej : ixN xs.length z with
                  | none => rw [ej] at o5; exact o5.elim
                  | some j =>
                    rw [ej] at o5
                    dsimp only at o5
                    have okl := (s5.gw w).slot qk
                    have okl : (AV.lst a xs).ok X.K H4 g4.ce := okl
                    rw [AV.ok] at okl
                    refine ⟨a, xs.map AV.v, z, j, (hv0 _ qk).symm, ev.symm, okl.1, by rw [List.length_map]; exact ej, ?_⟩
                    -- the list is written
                    have p0 := perm_get (rs := [en]) qk
                    have wd0 : Wd X.K H4 ((true, .lst a xs) :: (ents (g4.sl.set k none) ++ [en])) g4.ce := s5.st.wd.perm p0
                    have hfr : ∀ e ∈ [en], fresh1 e = true := fun e he => by cases List.mem_singleton.mp he; exact hf
                    obtain ⟨f1, f2⟩ := fresh_own hfr
                    have nd0 := wd0.nd
                    rw [show own ((true, AV.lst a xs) :: (ents (g4.sl.set k none) ++ [en])) = (AV.lst a xs).as ++ own (ents (g4.sl.set k none) ++ [en]) from rfl, List.append_assoc] at nd0
                    obtain ⟨ndav, _, ndis⟩ := List.nodup_append.mp nd0
                    rw [AV.as] at ndav
                    have hjl : j < xs.length := (ixN_seq ej).2.1
                    have oks : ∀ y ∈ xs, y.ok X.K H4 g4.ce := AV.okL_iff.mp okl.2
                    have oke : en.2.ok X.K H4 g4.ce := s5.st.wd.ok en (List.mem_append_right _ List.mem_cons_self)
                    have nea : a ∉ en.2.as := fun h => by
                      have : a ∈ own [en] := by rw [← f1]; exact mem_asL.mpr ⟨en.2, List.mem_singleton.mpr rfl, h⟩
                      exact ndis a (by rw [AV.as]; exact List.mem_cons_self) a (List.mem_append_left _ (by rw [own_app]; exact List.mem_append_right _ this)) rfl
                    have memset : ∀ y ∈ xs.set j en.2, y ∈ xs ∨ y = en.2 := fun y hy => List.mem_or_eq_of_mem_set hy
                    have okys : ∀ y ∈ xs.set j en.2, y.ok X.K (upd H4 a (.lst ((xs.set j en.2).map AV.v))) g4.ce := okL_upd ⟨_, okl.1⟩ (fun y hy => by
                      rcases memset y hy with h | h
                      · exact oks y h
                      · rw [h]; exact oke) (fun y hy hm => by
                      rcases memset y hy with h | h
                      · exact (List.nodup_cons.mp ndav).1 (mem_asL.mpr ⟨y, h, hm⟩)
                      · rw [h] at hm; exact nea hm)
                    obtain ⟨l, r, exs, _, hset⟩ := split_at (List.getElem?_eq_getElem hjl)
                    have hZ : ∃ Z, ((AV.lst a xs).as ++ AV.asL ([en].map (·.2))).Perm ((AV.lst a (xs.set j en.2)).as ++ Z) := by
                      refine ⟨(xs[j]).as, ?_⟩
                      rw [AV.as, AV.as, hset]
                      have e5 : AV.asL xs = AV.asL l ++ ((xs[j]).as ++ AV.asL r) := by
                        conv => lhs; rw [exs]
                        rw [asL_app, AV.asL]
                      have e6 : AV.asL ([en].map (·.2)) = en.2.as := by show en.2.as ++ [] = _; rw [List.append_nil]
                      rw [e5, e6, asL_app, AV.asL]
                      refine List.Perm.cons a ?_
                      show ((AV.asL l ++ ((xs[j]).as ++ AV.asL r)) ++ en.2.as).Perm ((AV.asL l ++ (en.2.as ++ AV.asL r)) ++ (xs[j]).as)
                      rw [List.append_assoc, List.append_assoc (AV.asL l)]
                      refine List.Perm.append_left _ ?_
                      refine List.perm_append_comm.trans ?_
                      rw [List.append_assoc]
                      refine List.Perm.append_left _ ?_
                      exact List.perm_append_comm
                    have okA : (AV.lst a (xs.set j en.2)).ok X.K (upd H4 a (.lst ((xs.set j en.2).map AV.v))) g4.ce := by
                      rw [AV.ok]; exact ⟨upd_same, AV.okL_iff.mpr okys⟩
                    have st1 := Stp.write (R := ents (g4.sl.set k none)) (rs := [en]) (s5.st.perm p0) (by rw [AV.as]; exact List.mem_cons_self) okA hfr hZ
                    have hk := lt_of_some qk
                    have vsp : (g4.put k (some (.ow, .lst a (xs.set j en.2)))).vs = g4.vs := GA.put_same_vs (e := (.ow, .lst a xs)) (e' := (.ow, .lst a (xs.set j en.2))) qk rfl
                    have gt : GT X.K P H g (upd H4 a (.lst ((xs.set j en.2).map AV.v))) (g4.put k (some (.ow, .lst a (xs.set j en.2)))) [] := by
                      refine ⟨?_, fun jj _ v h => by rw [vsp, s5.vs] at h; exact h, fun jj x h => ?_, vs_len (vsp.trans s5.vs)⟩
                      · rw [List.append_nil]
                        exact st1.perm (ents_set (some (.ow, .lst a (xs.set j en.2))) hk).symm
                      · rw [GA.put_get hk] at h
                        by_cases e : k = jj
                        · rw [if_pos e] at h; cases h
                        · rw [if_neg e] at h; exact s5.gk jj x h
                    have o6 : OutS X.K W P H g (some (.ok .nx (g4.put k (some (.ow, .lst a (xs.set j en.2)))).d)) Dd := by
                      have e8 : (AV.lst a (xs.set j en.2)).d = .lst ((xs.map AV.d).set j en.2.d) := by rw [AV.d, AV.dL_eq, List.map_set]
                      rw [GA.put_d]
                      show OutS X.K W P H g (some (.ok .nx { g4.d with sl := g4.d.sl.set k (some (.ow, (AV.lst a (xs.set j en.2)).d)) })) Dd
                      rw [e8]; exact o5
                    have fin2 := o6 _ _ gt rfl
                    rw [vsp, s5.vs, List.map_set] at fin2
                    exact fin2
                | _ => exact (o5 : False).elim
        | _ => rw [ey] at o4'; exact (o4' : False).elim
    exact Out.forceE q1 w s2 e2
  exact q0.stab w s1 e1
/-- raise C(text) -/
theorem ss_raise {c : Str} {CA : Str → Addr} {Wx : WX} {x : Expr} (hc : X.calm = true) (tk : Takes X Wx) (hW : ∀ σ H, W c σ H → Wx (.ref (CA c)) none σ H) (hm : PMk X x (fun _ H Q => Q (.ref (CA c)) none H)) : PS X (.Raise (some x) none pos) (SS X.K W P (excM c)) :=
  PS.weak (ps_raise hc tk hm) fun D σ H ⟨g, hv, w, o⟩ => by
  subst hv
  have o : OutS X.K W P H g (some (.exc c g.d)) D := o
  exact hW _ _ (o g H (.refl w) rfl)
end
end Om

/-! Om28: loops. -/
namespace Om
open PySem PySem.Spec PyProof.Rows L2

/-- between a for's turns -/
structure FInv (K : PySem.W.Frag) (P : List Nat) (H0 : Hp) (g0 gl : GA) (R : List En) (sl : List Nat) (b : WkA) (H : Hp) (gi : GA) : Prop where
  st : Stp K H0 (ents g0.sl) g0.ce H (ents gi.sl ++ R) gi.ce
  gw : GW K H gi
  fix : ∀ k ∈ P, ∀ v, gi.vs[k]? = some (some v) → g0.vs[k]? = some (some v)
  len : gi.sl.length = g0.sl.length
  gk : ∀ (j : Nat) (x : AV), (b.mo = .lk → j ∉ sl) → gi.sl[j]? = some (some (.lk, x)) → gl.sl[j]? = some (some (.lk, x))
  ok : ∀ X ∈ b.Xs, X.ok K H gi.ce
  ap : ∀ X ∈ b.Xs, ∀ a ∈ X.as, a ∉ own (ents gi.sl) ++ ceA gi.ce
  sh : b.mo = .lk ∨ (b.mo = .sh ∧ D.noLL b.ds = true) ∨ (b.mo = .sh ∧ ∀ X ∈ b.Xs, ∀ a ∈ X.as, a ∉ own (ents gi.sl ++ R) ++ ceA gi.ce ∧ (a ∈ own (ents g0.sl) ++ (shr (ents g0.sl) ++ ceA g0.ce) ∨ H0 a = none))
  zs : ∀ z ∈ b.Zs, H z.1 = some (.lst z.2) ∧ z.1 ∉ own (ents gi.sl) ++ ceA gi.ce
section
variable {K : PySem.W.Frag} {P : List Nat} {W : Str → St → Hp → Prop} {H H0 H' H1 H2 : Hp} {g g' g0 gl gi ga : GA} {R rs : List En} {b : WkA} {J : It} {G : G} {D' : Ends}
theorem FInv.laid {sl : List Nat} (c : FInv K P H0 g0 gl R sl b H gi) {q : Addr} {o : HO} (hq : H q = none) : FInv K P H0 g0 gl R sl b (upd H q o) gi :=
  ⟨c.st.laid hq, c.gw.laid hq, c.fix, c.len, c.gk, fun X hX => ok_laid hq (c.ok X hX), c.ap, c.sh, fun z hz => ⟨by rw [upd_ne (ne_of_none (c.zs z hz).1 hq)]; exact (c.zs z hz).1, (c.zs z hz).2⟩⟩
theorem FInv.come {sl : List Nat} (c : FInv K P H0 g0 gl R sl b H gi) (wl : Wlk K J b.ds b.Xs b.Zs) {i : Nat} {x : V} {d : D} (hd : b.ds[i]? = some d) (hy : J.yld i H x H') :
    ∃ av : AV, av.v = x ∧ av.d = d ∧ av.ok K H' gi.ce ∧ FInv K P H0 g0 gl R sl b H' gi ∧ ((b.mo = .lk ∧ ∀ a ∈ av.as, a ∉ own (ents gi.sl) ++ ceA gi.ce) ∨ (b.mo = .sh ∧ Stp K H0 (ents g0.sl) g0.ce H' ((false, av) :: (ents gi.sl ++ R)) gi.ce)) := by
  have okx : OkX K H gi.ce b.Xs b.Zs := ⟨c.ok, fun z hz => (c.zs z hz).1⟩
  have flat : ∀ {H' : Hp} {av : AV}, FInv K P H0 g0 gl R sl b H' gi → av.ok K H' gi.ce → av.as = [] → (b.mo = .lk ∧ ∀ a ∈ av.as, a ∉ own (ents gi.sl) ++ ceA gi.ce) ∨ (b.mo = .sh ∧ Stp K H0 (ents g0.sl) g0.ce H' ((false, av) :: (ents gi.sl ++ R)) gi.ce) := fun {H' av} c ok has => by
    rcases c.sh with h | ⟨h, _⟩ | ⟨h, _⟩
    · exact .inl ⟨h, fun a ha => by rw [has] at ha; cases ha⟩
    · exact .inr ⟨h, c.st.flat (e := (false, av)) has ok⟩
    · exact .inr ⟨h, c.st.flat (e := (false, av)) has ok⟩
  rcases wl.yld H gi.ce i x H' d okx hd hy with ⟨rfl, av, e1, e2, ok, hs⟩ | ⟨q, ys, hq, rfl, rfl, rfl, hys⟩
  · refine ⟨av, e1, e2, ok, c, ?_⟩
    rcases hs with hs | ⟨X, hX, hs⟩
    · exact flat c ok hs
    · rcases c.sh with h | ⟨h, hn⟩ | ⟨h, hsh⟩
      · exact .inl ⟨h, fun a ha => c.ap X hX a (hs a ha)⟩
      · have : av.as = [] := AV.as_noL av (by rw [e2]; exact D.noLL_iff.mp hn d (List.mem_of_getElem? hd))
        exact .inr ⟨h, c.st.flat (e := (false, av)) this ok⟩
      · exact .inr ⟨h, c.st.addShr ok (fun a ha => (hsh X hX a (hs a ha)).1) fun a ha => (hsh X hX a (hs a ha)).2⟩
  · have c' := c.laid (o := .tup (ys.map AV.v)) hq
    have ok : (AV.tup q ys).ok K (upd H q (.tup (ys.map AV.v))) gi.ce := by
      rw [AV.ok]
      exact ⟨SqT.of upd_same, AV.okL_iff.mpr fun y hy => ok_laid hq (hys y hy).1⟩
    have has : (AV.tup q ys).as = [] := by
      rw [AV.as]
      exact List.eq_nil_iff_forall_not_mem.mpr fun a ha => by
        obtain ⟨y, hy, h⟩ := mem_asL.mp ha
        rw [(hys y hy).2] at h; cases h
    exact ⟨.tup q ys, rfl, by rw [AV.d, AV.dL_eq], ok, c', flat c' ok has⟩
theorem FInv.mid (c : FInv K P H0 g0 gl R G.slots b H gi) {av : AV} (ok : av.ok K H gi.ce) (hm : (b.mo = .lk ∧ ∀ a ∈ av.as, a ∉ own (ents gi.sl) ++ ceA gi.ce) ∨ (b.mo = .sh ∧ Stp K H0 (ents g0.sl) g0.ce H ((false, av) :: (ents gi.sl ++ R)) gi.ce))
    (hP : ∀ j ∈ P, j ∉ G.slots) (ha : asgA G (b.mo, av) gi = some ga) : FInv K P H0 g0 gl R G.slots b H ga := by
  obtain ⟨ec, el, es'⟩ := asgA_keep G b.mo av gi ha
  have hmo : b.mo ≠ .ow := by rcases hm with ⟨h, _⟩ | ⟨h, _⟩ <;> rw [h] <;> exact fun h => nomatch h
  have ow := asgA_ownS G b.mo av gi hmo ha
  have st : Stp K H0 (ents g0.sl) g0.ce H (ents ga.sl ++ R) ga.ce := by
    rcases hm with ⟨h, ap⟩ | ⟨h, s⟩
    · rw [h] at ha; exact asgA_lk G av gi R c.st ok ha
    · rw [h] at ha; exact asgA_own G false av gi R s ha
  have sub : ∀ a, a ∈ own (ents ga.sl) ++ ceA ga.ce → a ∈ own (ents gi.sl) ++ ceA gi.ce := fun a h => by
    rcases List.mem_append.mp h with h | h
    · exact List.mem_append_left _ (ow a h)
    · exact List.mem_append_right _ (by rw [← ec]; exact h)
  have gw : GW K H ga := by
    refine ⟨st.left.wd, fun j y hj => ?_⟩
    rcases asgA_gh (H := H) (K := K) G b.mo av gi ok ha j y hj with q | ⟨q1, q2⟩
    · obtain ⟨o1, o2⟩ := c.gw.gh j y q
      exact ⟨by rw [ec]; exact o1, fun a h hm => o2 a h (sub a hm)⟩
    · refine ⟨by rw [ec]; exact q1, fun a h hm' => ?_⟩
      rcases hm with ⟨_, ap⟩ | ⟨_, s⟩
      · exact ap a (q2 a h) (sub a hm')
      · have := s.wd.sh a (show a ∈ av.as ++ _ from List.mem_append_left _ (q2 a h))
        refine this ?_
        rcases List.mem_append.mp (sub a hm') with h | h
        · refine List.mem_append_left _ ?_
          show a ∈ [] ++ own (ents gi.sl ++ R)
          rw [List.nil_append, own_app]
          exact List.mem_append_left _ h
        · exact List.mem_append_right _ h
  refine ⟨st, gw, fun k hk v h => ?_, el.trans c.len, fun j x hj h => ?_, fun X hX => by rw [ec]; exact c.ok X hX, fun X hX a h hm => c.ap X hX a h (sub a hm), ?_, fun z hz => ⟨(c.zs z hz).1, fun hm => (c.zs z hz).2 (sub _ hm)⟩⟩
  · rw [GA.slV, es' k (hP k hk), ← GA.slV] at h
    exact c.fix k hk v h
  · refine c.gk j x hj ?_
    rcases hm with ⟨hmo, _⟩ | ⟨hmo, _⟩
    · rw [es' j (hj hmo)] at h; exact h
    · exact asgA_nolk G b.mo av gi (by rw [hmo]; exact fun h => nomatch h) ha j x h
  · rcases c.sh with h | h | ⟨h, q⟩
    · exact .inl h
    · exact .inr (.inl h)
    · refine .inr (.inr ⟨h, fun X hX a ha => ⟨fun hm => (q X hX a ha).1 ?_, (q X hX a ha).2⟩⟩)
      rcases List.mem_append.mp hm with hm | hm
      · rw [own_app] at hm
        rcases List.mem_append.mp hm with hm | hm
        · exact List.mem_append_left _ (by rw [own_app]; exact List.mem_append_left _ (ow a hm))
        · exact List.mem_append_left _ (by rw [own_app]; exact List.mem_append_right _ hm)
      · exact List.mem_append_right _ (by rw [← ec]; exact hm)
theorem FInv.step {sl : List Nat} (c : FInv K P H0 g0 gl R sl b H gi) (s : GT K P H gi H' g' []) : FInv K P H0 g0 gl R sl b H' g' := by
  have a0 := c.st.app s.st
  have st0 : Stp K H (ents gi.sl) gi.ce H' (ents g'.sl) g'.ce := s.st.left
  refine ⟨by rw [List.append_nil] at a0; exact a0, s.gw c.gw, fun k hk v h => c.fix k hk v (s.fix k hk v h), s.len.trans c.len, fun j x hj h => c.gk j x hj (s.gk j x h), fun X hX => (st0.thing c.gw.wd (c.ok X hX) (c.ap X hX)).1, fun X hX => (st0.thing c.gw.wd (c.ok X hX) (c.ap X hX)).2, ?_, fun z hz => st0.addr (c.zs z hz).1 (c.zs z hz).2⟩
  rcases c.sh with h | h | ⟨h, q⟩
  · exact .inl h
  · exact .inr (.inl h)
  · refine .inr (.inr ⟨h, fun X hX a ha => ⟨fun hm => ?_, (q X hX a ha).2⟩⟩)
    have th := (st0.thing c.gw.wd (c.ok X hX) (c.ap X hX)).2 a ha
    rcases List.mem_append.mp hm with hm | hm
    · rw [own_app] at hm
      rcases List.mem_append.mp hm with hm | hm
      · exact th (List.mem_append_left _ hm)
      · exact (q X hX a ha).1 (List.mem_append_left _ (by rw [own_app]; exact List.mem_append_right _ hm))
    · exact th (List.mem_append_right _ hm)
/-- what is done behind a for -/
def wz (b : WkA) (sl : List Nat) (g : Sg) : Sg := if b.mo = .lk then wipeS sl g else g
def wzA (b : WkA) (sl : List Nat) (g : GA) : GA := if b.mo = .lk then g.wipe sl else g
theorem wzA_d {sl : List Nat} : (wzA b sl g).d = wz b sl g.d := by
  unfold wzA wz
  by_cases h : b.mo = .lk
  · rw [if_pos h, if_pos h, GA.wipe_d]
  · rw [if_neg h, if_neg h]
theorem wzA_w {sl : List Nat} : Wkr (wzA b sl g).vs g.vs := by
  unfold wzA
  by_cases h : b.mo = .lk
  · rw [if_pos h, GA.wipe_vs, ← wipeL_wipe]
    exact ⟨wipeL_len _ _, fun j v h => (wipeL_some h).2⟩
  · rw [if_neg h]; exact .refl _
theorem wzA_ents {sl : List Nat} : ∃ Z, (ents g.sl).Perm (ents (wzA b sl g).sl ++ Z) := by
  unfold wzA
  by_cases h : b.mo = .lk
  · rw [if_pos h]; exact ents_wipe g.sl sl
  · rw [if_neg h]; exact ⟨[], by rw [List.append_nil]⟩
theorem wzA_ce {sl : List Nat} : (wzA b sl g).ce = g.ce := by
  unfold wzA; split <;> rfl
theorem FInv.leave {sl : List Nat} (c : FInv K P H0 g0 gl R sl b H gi) (s : GT K P H gi H' g' rs)
    (fin : ∀ (α : Type) (f : Sg → Res α) (gm : GA) (r : Res α), (∀ (j : Nat) (x : AV), gm.sl[j]? = some (some (.lk, x)) → gl.sl[j]? = some (some (.lk, x))) → pst b.lk f gm.d = some r →
      ∃ gf : GA, r = f gf.d ∧ gf.vs = gm.vs ∧ gf.ce = gm.ce ∧ (∀ rs, (ents gf.sl ++ rs).Perm (ents gm.sl ++ (R ++ rs))) ∧ ∀ (j : Nat) (x : AV), gf.sl[j]? = some (some (.lk, x)) → g0.sl[j]? = some (some (.lk, x)))
    {f : Sg → Res Ctl} {r : Res Ctl} (h : pst b.lk f (wz b sl g'.d) = some r) : ∃ gf : GA, r = f gf.d ∧ GT K P H0 g0 H' gf rs ∧ Wkr gf.vs g'.vs := by
  rw [← wzA_d] at h
  obtain ⟨gf, er, vsf, cef, pf, gkf⟩ := fin _ f (wzA b sl g') r (fun j x hj => by
    unfold wzA at hj
    by_cases hm : b.mo = .lk
    · rw [if_pos hm] at hj
      obtain ⟨h1, h2⟩ := wipeL_some hj
      exact c.gk j x (fun _ => h1) (s.gk j x h2)
    · rw [if_neg hm] at hj
      exact c.gk j x (fun h => absurd h hm) (s.gk j x hj)) h
  have wk : Wkr gf.vs g'.vs := by rw [vsf]; exact wzA_w
  refine ⟨gf, er, ⟨?_, fun k hk v h => c.fix k hk v (s.fix k hk v (wk.2 k v h)), gkf, ?_⟩, wk⟩
  · have a0 := c.st.app s.st
    obtain ⟨Z, pz⟩ := wzA_ents (b := b) (sl := sl) (g := g')
    rw [cef, wzA_ce]
    refine a0.sub ⟨Z, ?_⟩
    refine (pz.append_right _).trans ?_
    refine List.Perm.trans ?_ ((pf rs).symm.append_right Z)
    rw [List.append_assoc, List.append_assoc]
    exact List.Perm.append_left _ List.perm_append_comm
  · have := wk.1
    unfold GA.vs at this
    rw [List.length_map, List.length_map] at this
    rw [this, s.len, c.len]
end
section
variable {X : Cx} {W : Str → St → Hp → Prop} {P : List Nat} {e tg iter : Expr} {body : List Stmt} {mc : M Ref} {mI : M Wk} {mB : M Ctl} {pos : Pos} {G : G}
theorem ss_for (hp : PassesOwn (model X.prog X.w) X.A X.env X.xe) (hc : X.calm = true) (hWk : ∀ c σ σ' H, Wkr σ' σ → W c σ' H → W c σ H) (hi : PI X tg iter (SM kW X.K W mI)) (hg : PG X tg (tG X.K G)) (hb : PSs X body (SS X.K W P mB)) (hs : ∀ x, foldedSetIterable iter X.env x = pure x) (hP : ∀ j ∈ P, j ∉ G.slots) :
    PS X (.For tg iter body [] pos) (SS X.K W P (do
      let w ← mI
      lockO w.2.2 (wiping (decide (w.2.1 = .lk)) G.slots (forL (fun d => do asgG G (w.2.1, d); mB) w.1)))) := PS.weak (ps_weak (ps_for hp hc hi hg hb hs)) fun Dd σ H ⟨g0, hv, w, o⟩ => by
  subst hv
  refine ⟨g0, rfl, w, OutS.bindS kW o fun g1 (b : WkA) H1 J s1 e1 o1 => ?_⟩
  obtain ⟨gl, R, hlock, sl, gwl, vsl, rd, fin⟩ := lock_start s1 w e1
  let f : D → M Ctl := fun d => (asgG G (b.mo, d) >>= fun _ => mB)
  let pw : Option (Res Ctl) → Option (Res Ctl) := fun r => match r with
    | none => none
    | some (.ok a g') => some (.ok a (wz b G.slots g'))
    | some (.exc c g') => some (.exc c (wz b G.slots g'))
  have o1 : OutS X.K W P H g0 (lockO b.lk (wiping (decide (b.mo = .lk)) G.slots (forL f b.ds)) g1.d) Dd := o1
  have o2 : OutS X.K W P H g0 (postL b.lk (pw (forL f b.ds gl.d))) Dd := by
    rw [hlock] at o1
    have : wiping (decide (b.mo = .lk)) G.slots (forL f b.ds) gl.d = pw (forL f b.ds gl.d) := by
      unfold wiping
      by_cases h : b.mo = .lk
      · rw [if_pos (by rw [h]; rfl)]
        show _ = pw (forL f b.ds gl.d)
        cases hq : forL f b.ds gl.d with
        | none => simp only [hq]; rfl
        | some r => cases r <;> (simp only [hq, pw, wz, if_pos h])
      · rw [if_neg (by rw [decide_eq_true_eq]; exact h)]
        cases hq : forL f b.ds gl.d with
        | none => rfl
        | some r => cases r <;> (simp only [pw, wz, if_neg h])
    rw [← this]; exact o1
  have c0 : FInv X.K P H g0 gl R G.slots b H1 gl := ⟨sl, gwl, fun k _ v h => by rw [← vsl]; exact h, vs_len vsl, fun j x _ h => h, rd.ok, rd.ap, rd.sh, rd.zs⟩
  refine ⟨fun i m σ' H' => m = b.ds.length - i ∧ i ≤ b.ds.length ∧ ∃ gi : GA, gi.vs = σ' ∧ FInv X.K P H g0 gl R G.slots b H' gi ∧ OutS X.K W P H g0 (postL b.lk (pw (forL f (b.ds.drop i) gi.d))) Dd, ⟨b.ds.length, rfl, Nat.zero_le _, gl, vsl, c0, by rw [List.drop_zero]; exact o2⟩, ?_⟩
  rintro i m σ' H' ⟨rfl, hi', gi, rfl, c, oi⟩
  have okx : OkX X.K H' gi.ce b.Xs b.Zs := ⟨c.ok, fun z hz => (c.zs z hz).1⟩
  by_cases hlt : i < b.ds.length
  · refine .inr ⟨e1.wlk.go H' gi.ce i okx hlt, fun σ2 H2 => ∃ gi : GA, gi.vs = σ2 ∧ FInv X.K P H g0 gl R G.slots b H2 gi ∧ OutS X.K W P H g0 (postL b.lk (pw (forL f (b.ds.drop (i + 1)) gi.d))) Dd, fun σ2 H2 h2 => ⟨b.ds.length - (i + 1), by omega, rfl, hlt, h2⟩, fun x H2 hy => ?_⟩
    obtain ⟨d, hd⟩ := get_len hlt
    obtain ⟨av, ev, ed, okav, c2, hm⟩ := c.come e1.wlk hd hy
    have edrop : b.ds.drop i = d :: b.ds.drop (i + 1) := by
      obtain ⟨_, e⟩ := List.getElem?_eq_some_iff.mp hd
      rw [List.drop_eq_getElem_cons hlt, e]
    rw [edrop] at oi
    let kk : Ctl → M Ctl := fun c => match c with
      | .nx => forL f (b.ds.drop (i + 1))
      | .rt fl x => pure (.rt fl x)
    have oi : OutS X.K W P H g0 (postL b.lk (pw (((asgG G (b.mo, d) >>= fun _ => mB) >>= kk) gi.d))) Dd := oi
    rw [M.assoc] at oi
    cases ea : asgG G (b.mo, d) gi.d with
    | none =>
      exfalso
      have oi' : OutS X.K W P H g0 (postL b.lk (pw (M.bind (asgG G (b.mo, d)) (fun _ => mB >>= kk) gi.d))) Dd := oi
      unfold M.bind at oi'
      rw [ea] at oi'
      exact oi'
    | some r =>
      have ea' := ea
      rw [← ed] at ea'
      obtain ⟨ga, ega, er⟩ := asgA_d G b.mo av gi ea'
      rw [er] at ea
      rw [M.bind_ok ea] at oi
      have mid := c2.mid okav hm hP ega
      refine ⟨gi, b.mo, av, ga, rfl, ev, okav, ega, ga, rfl, mid.gw, ?_⟩
      have oi : OutS X.K W P H g0 (postL b.lk (pw (M.bind mB kk ga.d))) Dd := oi
      unfold M.bind at oi
      cases em : mB ga.d with
      | none => rw [em] at oi; exact oi
      | some r =>
        rw [em] at oi
        cases r with
        | exc cc gd =>
          intro g' H3 s3 ed3
          subst ed3
          have oi : OutS X.K W P H g0 (pst b.lk (.exc cc) (wz b G.slots g'.d)) Dd := oi
          cases hq : pst b.lk (Res.exc cc : Sg → Res Ctl) (wz b G.slots g'.d) with
          | none => rw [hq] at oi; exact oi.elim
          | some r =>
            obtain ⟨gf, er, gt, wk⟩ := mid.leave s3 fin hq
            rw [hq, er] at oi
            exact hWk cc _ _ _ wk (oi gf H3 gt rfl)
        | ok a gd =>
          cases a with
          | nx =>
            intro g' H3 s3 ed3
            subst ed3
            exact ⟨g', rfl, mid.step s3, oi⟩
          | rt fl d' =>
            intro g' H3 x s3 ex ed3
            subst ed3
            have oi : OutS X.K W P H g0 (pst b.lk (.ok (.rt fl d')) (wz b G.slots g'.d)) Dd := oi
            cases hq : pst b.lk (Res.ok (Ctl.rt fl d')) (wz b G.slots g'.d) with
            | none => rw [hq] at oi; exact oi.elim
            | some r =>
              obtain ⟨gf, er, gt, wk⟩ := mid.leave s3 fin hq
              rw [hq, er] at oi
              exact oi gf H3 x gt ex rfl
  · have e : i = b.ds.length := by omega
    subst e
    refine .inl ⟨e1.wlk.stop H' gi.ce _ okx (Nat.le_refl _), ?_⟩
    rw [List.drop_length] at oi
    have oi : OutS X.K W P H g0 (pst b.lk (.ok .nx) (wz b G.slots gi.d)) Dd := oi
    cases hq : pst b.lk (Res.ok Ctl.nx) (wz b G.slots gi.d) with
    | none => rw [hq] at oi; exact oi.elim
    | some r =>
      obtain ⟨gf, er, gt, wk⟩ := c.leave (GT.refl c.gw) fin hq
      rw [hq, er] at oi
      exact ⟨gf.vs, wk, oi gf H' gt rfl⟩
theorem ss_while {c : Expr} (hp : PassesOwn (model X.prog X.w) X.A X.env X.xe) (hc : Snd X W c mc) (hb : PSs X body (SS X.K W P mB)) (n : Nat) : PS X (.While c body [] pos) (SS X.K W P (whileL (do asB (← mc)) mB n)) := PS.weak (ps_while hp hc.pt hb) fun Dd σ H ⟨g0, hv, w, o⟩ => by
  refine ⟨fun m σ H => ∃ g : GA, g.vs = σ ∧ GW X.K H g ∧ OutS X.K W P H g (whileL (mc >>= asB) mB m g.d) Dd, ⟨n, g0, hv, w, o⟩, ?_⟩
  rintro m σ H ⟨g, rfl, w, o⟩
  cases m with
  | zero => exact ⟨g, rfl, w, (o : False).elim⟩
  | succ m =>
    have o : OutS X.K W P H g (((mc >>= asB) >>= fun t => if t then (mB >>= fun x => match x with
      | .nx => whileL (mc >>= asB) mB m
      | .rt fl x => (pure (.rt fl x) : M Ctl)) else (pure .nx : M Ctl)) g.d) Dd := o
    refine ⟨g, rfl, w, OutS.bindS kB o fun g1 (t : Bool) H1 t' s1 e1 o1 => ?_⟩
    have e1 : t' = t := e1
    subst e1
    have gw1 := s1.gw w
    cases t' with
    | false =>
      rw [if_neg (by decide)]
      have o1 : OutS X.K W P H g (some (.ok .nx g1.d)) Dd := o1
      rw [← s1.vs]
      exact o1 g1 H1 s1.drop.gt rfl
    | true =>
      rw [if_pos rfl]
      have o1 : OutS X.K W P H g (M.bind mB (fun x => match x with
        | .nx => whileL (mc >>= asB) mB m
        | .rt fl x => (pure (.rt fl x) : M Ctl)) g1.d) Dd := o1
      refine ⟨fun σ H => ∃ g : GA, g.vs = σ ∧ GW X.K H g ∧ OutS X.K W P H g (whileL (mc >>= asB) mB m g.d) Dd, fun σ' H' h => ⟨m, Nat.lt_succ_self m, h⟩, g1, s1.vs, gw1, ?_⟩
      unfold M.bind at o1
      have sg : GT X.K P H g H1 g1 [] := s1.gt
      cases em : mB g1.d with
      | none => rw [em] at o1; exact o1
      | some r =>
        rw [em] at o1
        cases r with
        | exc cc gd => exact fun g' H3 s3 e3 => o1 g' H3 (sg.trans s3) e3
        | ok a gd =>
          cases a with
          | nx =>
            intro g' H3 s3 e3
            subst e3
            exact ⟨g', rfl, s3.gw gw1, OutS.later (o := whileL (mc >>= asB) mB m g'.d) o1 (sg.trans s3)⟩
          | rt fl d => exact fun g' H3 x s3 e3 e4 => o1 g' H3 x (sg.trans s3) e3 e4
end
end Om

/-! Om29: which code goes with which statement; statements: the whole. -/
namespace Om
open PySem PySem.Spec PyProof.Rows L2

def isLc : Expr → Bool
  | .ListComp _ _ _ _ => true
  | _ => false
/-- a step of our own, that no statement stands for -/
def S.isShr : S → Bool
  | .shr _ => true
  | _ => false
def isLoc : Option NameKind → Bool
  | some .local => true
  | _ => false
theorem isLoc_eq {o : Option NameKind} (h : isLoc o = true) : o = some .local := by
  unfold isLoc at h
  split at h
  · rfl
  · cases h
/-- a display of two stored into two names of the function, on one line -/
def ckPar (cs : Cs) (i j : Nat) (x y : Str) (px py : Pos) (a b : Expr) : Bool :=
  decide (cs.N[i]? = some x) && decide (cs.N[j]? = some y) && isLoc (cs.sc.names.lookup x) && isLoc (cs.sc.names.lookup y) && decide (py.line = px.line) && decide (x ≠ y) &&
    !(foldedForSure 8 a && foldedForSure 8 b) && !(constantsAlone 8 a && constantsAlone 8 b) && decide (i ∉ cs.P) && decide (j ∉ cs.P) && decide (i ≠ j) && (match cs.sc.kind with
      | .function => true
      | _ => false)
/-- the suite of an except: a name is None -/
def ckH (cs : Cs) : B → List Stmt → Bool
  | .cons (.asg (.name k) .non) .nil, sts => match sts with
    | [.Assign [.Name n p] v _] => ckG cs (.name k) (.Name n p) && ckE cs .non v && (match cs.sc.kind with
      | .function => true
      | _ => false)
    | _ => false
  | _, _ => false
mutual
def ckS (cs : Cs) : S → Stmt → Bool
  | .asg g e, st => match st with
    | .Assign [tg] v _ => ckG cs g tg && ckE cs e v && !(isTup tg && isTup v) && (match cs.sc.kind with
      | .function => true
      | _ => false)
    | _ => false
  | .setix k i e, st => match st with
    | .Assign [.Subscript (.Name n _) ix _] v _ => cs.nm k n && ckE cs i ix && ckE cs e v
    | _ => false
  | .expr e, st => match st with
    | .Expr v _ => ckE cs e v && !isLc v
    | _ => false
  | .ret e, st => match st with
    | .Return (some v) _ => ckE cs e v
    | _ => false
  | .retN, st => match st with
    | .Return none _ => true
    | _ => false
  | .retT as, st => match st with
    | .Return (some (.Tuple es _ _)) _ => ckA cs as es
    | _ => false
  | .cond c b1 b2, st => match st with
    | .If t x y _ => ckE cs c t && ckB cs b1 x && ckB cs b2 y
    | _ => false
  | .for g i b, st => match st with
    | .For tg it body [] _ => ckI cs i tg it && ckG cs g tg && ckB cs b body
    | _ => false
  | .while c b, st => match st with
    | .While t body [] _ => ckE cs c t && ckB cs b body
    | _ => false
  | .raise c, st => match st with
    | .Raise (some (.Call (.Name n _) [.Constant (.str _) _ _] [] _)) none _ => decide (n = c) && decide (n ∈ cs.exs) && cs.gl n
    | _ => false
  | .pass, st => match st with
    | .Pass _ => true
    | _ => false
  | .tryx b c h, st => match st with
    | .Try body [.ExceptHandler (some (.Name n _)) none sts _] [] [] _ => decide (n = c) && decide (n ∈ cs.exs) && cs.gl n && ckB cs b body && ckH cs h sts
    | _ => false
  | .shr _, _ => false
  | .par i j as, st => match st with
    | .Assign [.Tuple [.Name x px, .Name y py] _ _] (.Tuple [a, b] _ _) _ => ckA cs as [a, b] && ckPar cs i j x y px py a b
    | _ => false
def ckB (cs : Cs) : B → List Stmt → Bool
  | .nil, sts => sts.isEmpty
  | .cons s b, sts => if s.isShr = true then ckB cs b sts else match sts with
    | st :: sts => ckS cs s st && ckB cs b sts
    | [] => false
end
structure ExR (X : Cx) (C : Addr) (c : Str) : Prop where
  ok : ∃ (B newId initId : String) (bmB : List Value), PySem.ExcBaseFacts B newId initId bmB ∧ PySem.W.excIn X.K C bmB newId = true ∧ X.mg c = some (.ref C) ∧ PySem.W.keepIn X.K (.ref C) = true ∧ Raises X (.ref C) ∧ (c == ("__debug__" : Str)) = false
  one : PySem.W.exmOne X.K (.ref C) (.ref C) = some true
structure SCtx (X : Cx) (CA : Str → Addr) (T : Tab) (W : Str → St → Hp → Prop) (cs : Cs) : Prop where
  c : Ctx X CA T W cs
  hp : PassesOwn (model X.prog X.w) X.A X.env X.xe
  wk : ∀ c σ σ' H, Wkr σ' σ → W c σ' H → W c σ H
  ex : ∀ c ∈ cs.exs, ExR X (CA c) c
  stk : X.stack = X.env :: X.outer
  fr : X.env.frame = some X.env.locals
mutual
theorem ckG_P : ∀ {g : G} {cs : Cs} {x : Expr}, ckG cs g x = true → ∀ j ∈ cs.P, j ∉ g.slots
  | .name k, cs, x, h, j, hj => fun hm => by
    rw [ckG.eq_def] at h; dsimp only at h
    split at h
    · simp only [Bool.and_eq_true, decide_eq_true_eq] at h
      rw [G.slots] at hm
      cases List.mem_singleton.mp hm
      exact h.2 hj
    · cases h
  | .tup gs, cs, x, h, j, hj => fun hm => by
    rw [ckG.eq_def] at h; dsimp only at h
    split at h
    · rw [G.slots] at hm; exact ckGs_P h j hj hm
    · cases h
theorem ckGs_P : ∀ {gs : Gs} {cs : Cs} {xs : List Expr}, ckGs cs gs xs = true → ∀ j ∈ cs.P, j ∉ gs.slots
  | .nil, cs, xs, _, j, _ => fun hm => by rw [Gs.slots] at hm; cases hm
  | .cons g gs, cs, xs, h, j, hj => fun hm => by
    rw [ckGs.eq_def] at h; dsimp only at h
    split at h
    · rw [Bool.and_eq_true] at h
      rw [Gs.slots] at hm
      rcases List.mem_append.mp hm with hm | hm
      · exact ckG_P h.1 j hj hm
      · exact ckGs_P h.2 j hj hm
    · cases h
end
theorem ss_shr {X : Cx} {W : Str → St → Hp → Prop} {P : List Nat} {sts : List Stmt} {k : Nat} {mb : M Ctl} (h : PSs X sts (SS X.K W P mb)) : PSs X sts (SS X.K W P (do
    freeze k
    mb)) := PSs.weak h fun D σ H ⟨g, hv, w, o⟩ => by
  subst hv
  have o1 : OutS X.K W P H g (M.bind (freeze k) (fun _ => mb) g.d) D := o
  unfold M.bind freeze at o1
  cases q : g.sl[k]? with
  | none =>
    have e : g.d.sl[k]? = none := by rw [GA.slD, q]; rfl
    rw [e] at o1; exact o1.elim
  | some z =>
    cases z with
    | none =>
      have e : g.d.sl[k]? = some none := by rw [GA.slD, q]; rfl
      rw [e] at o1; exact o1.elim
    | some p =>
      obtain ⟨m, av⟩ := p
      rw [GA.slot_d q] at o1
      by_cases hm : m = .lk
      · simp only [hm, if_true] at o1; exact o1.elim
      · simp only [hm, if_false] at o1
        have s1 := (GSt.refl w).share q hm
        refine ⟨g.put k (some (.sh, av)), s1.vs, s1.gw w, ?_⟩
        have o2 : OutS X.K W P H g (mb (g.put k (some (.sh, av))).d) D := by rw [GA.put_d]; exact o1
        exact o2.later s1.gt
theorem sw_nc {cs : Cs} {e : E} {v : Expr} {t : Option Expr} {l : Nat} {env : Env} (h : ckE cs e v = true) (hl : isLc v = false) : swapsWith v t l env = pure false := by
  cases v <;> first | rfl | (cases e <;> simp [ckE] at h; done) | cases hl
theorem sws_no {tg v : Expr} {env : Env} (h : (isTup tg && isTup v) = false) (hn : nst tg = true) (hl : ∀ es p, tg ≠ .List es p) : swappedStores [tg] v env = pure none := by
  cases tg <;> first | rfl | (exact absurd rfl (hl _ _)) | (cases v <;> first | rfl | cases h)
theorem ckG_shape {cs : Cs} {g : G} {x : Expr} (h : ckG cs g x = true) : (∃ n p, x = .Name n p) ∨ ∃ es k p, x = .Tuple es k p := by
  cases x with
  | Name n p => exact .inl ⟨n, p, rfl⟩
  | Tuple es k p => exact .inr ⟨es, k, p, rfl⟩
  | _ => cases g <;> simp [ckG] at h
theorem sws_two {x y : Str} {px py : Pos} {kt pt} {a b : Expr} {k2 pt2} {env : Env} (h1 : env.scope.names.lookup x = some .local) (h2 : env.scope.names.lookup y = some .local) (hk : env.scope.kind = .function)
    (hl : py.line = px.line) (hne : x ≠ y) (hs : nstL [a, b] = true) (hf : (foldedForSure 8 a && foldedForSure 8 b) = false) (hc : (constantsAlone 8 a && constantsAlone 8 b) = false) :
    swappedStores [.Tuple [.Name x px, .Name y py] kt pt] (.Tuple [a, b] k2 pt2) env = pure (some [x, y]) := by
  have e1 : env.kindOf x = some .local := h1
  have e2 : env.kindOf y = some .local := h2
  have e3 : env.blockKind = .function := by unfold Env.blockKind; rw [hk]; rfl
  have e4 : ([x, y] : List Str).eraseDups = [x, y] := by
    simp [List.eraseDups_cons, Ne.symm hne, hne]
  unfold swappedStores
  simp [e1, e2, e3, e4, hl, hf, hc, List.filterMap_cons, Expr.pos]
  rintro (h | h)
  · cases a <;> first | (simp [nstL, nst] at hs; done) | (simp at h)
  · cases b <;> first | (simp [nstL, nst] at hs; done) | (simp at h)
theorem Takes.weak {X : Cx} {W : WX} (t : Takes X W) : Takes X (fun cls d σ H => ∃ σ', Wkr σ' σ ∧ W cls d σ' H) := fun u s' ⟨a, B, sI, pins, σ, H, cls, d, e, I, nb, up, sky, na, os, ag, σ', w, q⟩ =>
  t u s' ⟨a, B, sI, pins, σ', H, cls, d, e, I.weak w.1 w.2, nb, up, sky, na, os, ag, q⟩
/-- try: block, except n: a name is None -/
theorem ss_tryx {CA : Str → Addr} {T : Tab} {X : Cx} {W : Str → St → Hp → Prop} {cs : Cs} {b hb : B} {n : Str} {body sts : List Stmt} {np pos' pos : Pos} (c : SCtx X CA T W cs) (ex : ExR X (CA n) n) (hg : Gl X n)
    (hbd : ∀ (W1 : Str → St → Hp → Prop) (X1 : Cx), SCtx X1 CA T W1 cs → PSs X1 body (SS X1.K W1 cs.P (evB T b))) (hh : ckH cs hb sts = true) :
    PS X (.Try body [.ExceptHandler (some (.Name n np)) none sts pos'] [] [] pos) (SS X.K W cs.P (fun g => match evB T b g with
    | some (.exc c' g') => if c' = n then evB T hb g' else none
    | r => r)) := by
  obtain ⟨Wx, tk, hW⟩ := c.c.tk
  unfold ckH at hh
  split at hh
  case h_2 => cases hh
  rename_i k
  split at hh
  case h_2 => cases hh
  rename_i y p v p2
  simp only [Bool.and_eq_true] at hh
  obtain ⟨⟨h1, h2⟩, h3⟩ := hh
  rw [ckE.eq_def] at h2; dsimp only at h2
  split at h2
  case h_2 => cases h2
  have tr : ∀ (W' : WX) (pn : List (Addr × Obj)) (xe : Value → Shared → Prop), Takes (X.tr pn xe) W' → PassesOwn (model X.prog X.w) X.A X.env xe → SCtx (X.tr pn xe) CA T (fun c σ H => ∃ σ', Wkr σ' σ ∧ W' (.ref (CA c)) none σ' H) cs := fun W' pn xe tk' ps =>
    ⟨⟨c.c.N, c.c.nd, c.c.sc, c.c.cf, c.c.calm, c.c.hu, c.c.bl, fun x d h => ⟨(c.c.gl x d h).gl⟩, fun f hf => ⟨(c.c.fn f hf).ok⟩, _, Takes.weak tk', fun _ _ _ q => q⟩, ps, fun c1 σ σ1 H w ⟨σ2, w2, q⟩ => ⟨σ2, w2.trans w, q⟩, fun c1 h => ⟨(c.ex c1 h).ok, (c.ex c1 h).one⟩, c.stk, c.fr⟩
  refine PS.weak (ps_try_only (Wout := Wx) (tb := fun W' => SS X.K (fun c σ H => ∃ σ', Wkr σ' σ ∧ W' (.ref (CA c)) none σ' H) cs.P (evB T b)) (ts := fun _ _ _ => SS X.K W cs.P (evB T (.cons (.asg (.name k) .non) .nil))) c.stk c.fr (show Names X n (.ref (CA n)) from ?_) tk (fun W' pn xe tk' ps => hbd _ _ (tr W' pn xe tk' ps)) fun a oe cls d pn hz hv => ?_) fun D σ H ⟨g, hv, w, o⟩ => ?_
  · obtain ⟨B, ni, ii, bm, F, q, gC, kC, r, hd⟩ := ex.ok
    exact ⟨hg, hd, .inl gC⟩
  · rw [evB]
    refine ss_cons ?_ (by rw [evB]; exact ss_nil)
    rw [evS, evR]
    have h1' := h1
    rw [ckG.eq_def] at h1'; dsimp only at h1'
    simp only [Bool.and_eq_true, decide_eq_true_eq] at h1'
    obtain ⟨hx, hf⟩ := c.c.l h1'.1.2
    exact ss_asg snd_non (tg_name c.c.nd (by rw [c.c.N]; exact h1'.1.1) hx hf) (ckG_P h1) rfl rfl rfl
  · refine ⟨g, hv, w, ?_⟩
    dsimp only at o
    cases e : evB T b g.d with
    | none => rw [e] at o; exact o.elim
    | some r =>
      cases r with
      | ok a gd =>
        rw [e] at o
        cases a <;> exact o
      | exc c' gd =>
        rw [e] at o
        dsimp only at o
        intro g' H' gt eg
        by_cases hc : c' = n
        case neg => rw [if_neg hc] at o; exact o.elim
        subst hc
        rw [if_pos rfl] at o
        subst eg
        exact ⟨g'.vs, Wkr.refl _, true, ex.one, fun _ a ha => ⟨g', rfl, gt.gw w, OutS.later o gt⟩, fun q => nomatch q⟩
section
variable {CA : Str → Addr} {T : Tab}
mutual
theorem sndS : ∀ (s : S) {cs : Cs} {X : Cx} {W : Str → St → Hp → Prop} {st : Stmt}, SCtx X CA T W cs → ckS cs s st = true → PS X st (SS X.K W cs.P (evS T s))
  | .asg g e, cs, X, W, st, c, h => by
    rw [ckS.eq_def] at h; dsimp only at h
    split at h
    · rename_i st0 tg v pos
      simp only [Bool.and_eq_true, Bool.not_eq_true'] at h
      obtain ⟨⟨⟨h1, h2⟩, h3⟩, h4⟩ := h
      rw [evS]
      have hg := tgs g c.c h1
      have hP := ckG_P h1
      have plain : swapsWithSole [tg] v pos.line X.env = pure false → PS X (.Assign [tg] v pos) (SS X.K W cs.P (mAsg g (evR T e))) := fun hs => by
        refine ss_asg (sndE e c.c h2) hg hP hs ?_ ?_
        · refine sws_no h3 (ckG_nst h1) fun es p hq => ?_
          rcases ckG_shape h1 with ⟨n, p', hx⟩ | ⟨es', k, p', hx⟩ <;> rw [hx] at hq <;> cases hq
        · rcases ckG_shape h1 with ⟨n, p', hx⟩ | ⟨es', k, p', hx⟩ <;> rw [hx] <;> rfl
      by_cases hl : isLc v = true
      · -- a comprehension
        rcases ckG_shape h1 with ⟨n, p', rfl⟩ | ⟨es', k, p', rfl⟩
        · cases v with
          | ListComp elt gens scope p2 =>
            cases e with
            | comp i g2 ct e2 own =>
              have h2' := h2
              rw [ckE.eq_def] at h2'; dsimp only at h2'
              split at h2'
              · rename_i elt' tg' iter ifs scope' pos' heq
                cases heq
                have esw : swapsWithSole [.Name n p'] (.ListComp elt [⟨tg', iter, ifs, 0⟩] scope p2) pos.line X.env = pure (X.env.blockKind == .function && X.env.kindOf n == some .local && p'.line == p2.line && !(scope.names.any fun (m, k) => m == n && (k == .local || k == .cell))) := rfl
                cases hb : (X.env.blockKind == .function && X.env.kindOf n == some .local && p'.line == p2.line && !(scope.names.any fun (m, k) => m == n && (k == .local || k == .cell))) with
                | false => exact plain (by rw [esw, hb])
                | true =>
                  simp only [Bool.and_eq_true] at h2'
                  obtain ⟨⟨⟨⟨⟨⟨k1, k2⟩, k3⟩, k4⟩, k5⟩, k6⟩, k7⟩ := h2'
                  obtain ⟨hi, hns⟩ := sndI i c.c k1
                  have blk := blkOk_by (N := X.N) (sc := X.env.scope) (by rw [c.c.N, c.c.sc]; exact k4)
                  cases g with
                  | tup gs => simp [ckG] at h1
                  | name k =>
                    have h1' := h1
                    rw [ckG.eq_def] at h1'; dsimp only at h1'
                    simp only [Bool.and_eq_true, decide_eq_true_eq] at h1'
                    have hloc : X.env.scope.names.lookup n = some .local := by
                      simp only [Bool.and_eq_true] at hb
                      have := hb.1.1.2
                      exact eq_of_beq this
                    have fin := ss_asgLc (W := W) (P := cs.P) (X := X) (pos := p2) (spos := pos) (py := p') (own := cs.own own) (i := k) (y := n) (mE := evR T e2) (mC := evC T ct) (g2 := g2) c.c.calm c.c.nd (by rw [c.c.N]; exact h1'.1.1) hloc (by rw [← hb]; rfl) hi blk (fun s H C cl fp => tgs g2 (c.c.blk scope s H C cl fp) k5) (fun s H C cl fp => sndC ct (c.c.blk scope s H C cl fp) k6) (fun s H C cl fp => pe_el (sndE e2 (c.c.blk scope s H C cl fp) k7).pe) (noFold hns)
                      (by rw [own_ix]; exact of_decide_eq_true k2) (fun j hj => by rw [own_ix]; exact of_decide_eq_true (List.all_eq_true.mp k3 j hj)) h1'.2
                    rw [own_ix] at fin
                    have e0 : evR T (.comp i g2 ct e2 own) = (do
                      let w ← evI T i
                      if fits w.1.length then do
                        let es ← lockO w.2.2 (compM own g2 w.2.1 (evC T ct) (evR T e2) w.1)
                        pure (.tmp (es.all fresh) (.lst (es.map (·.2))))
                      else M.fail) := by rw [evR]
                    show PS X _ (SS X.K W cs.P (mAsg (.name k) (evR T (.comp i g2 ct e2 own))))
                    rw [e0]; exact fin
              · cases h2'
            | _ => simp [ckE] at h2
          | _ => cases hl
        · exact plain (by cases v <;> rfl)
      · have hl : isLc v = false := by simpa using hl
        exact plain (sw_nc h2 hl)
    · cases h
  | .setix k i e, cs, X, W, st, c, h => by
    rw [ckS.eq_def] at h; dsimp only at h
    split at h
    · rename_i st0 n p1 ix p2 v pos
      simp only [Bool.and_eq_true] at h
      obtain ⟨⟨h1, h2⟩, h3⟩ := h
      obtain ⟨n1, n2, n3, n4⟩ := c.c.nm h1
      rw [evS]
      refine ss_setix n1 n2 n3 n4 (sndE i c.c h2) (sndE e c.c h3) (fun w => ?_) ?_ ?_
      · have := ck_nslc h2
        cases ix <;> first | rfl | cases this
      · cases v <;> rfl
      · cases v <;> rfl
    · cases h
  | .expr e, cs, X, W, st, c, h => by
    rw [ckS.eq_def] at h; dsimp only at h
    split at h
    · simp only [Bool.and_eq_true, Bool.not_eq_true'] at h
      rw [evS]; exact ss_expr (sndE e c.c h.1) (sw_nc h.1 h.2)
    · cases h
  | .ret e, cs, X, W, st, c, h => by
    rw [ckS.eq_def] at h; dsimp only at h
    split at h
    · rw [evS]; exact ss_ret (sndE e c.c h)
    · cases h
  | .retN, cs, X, W, st, c, h => by
    rw [ckS.eq_def] at h; dsimp only at h
    split at h
    · rw [evS]; exact ss_retN
    · cases h
  | .retT as, cs, X, W, st, c, h => by
    rw [ckS.eq_def] at h; dsimp only at h
    split at h
    · rw [evS]; exact ss_retT (sndA as c.c h)
    · cases h
  | .cond t b1 b2, cs, X, W, st, c, h => by
    rw [ckS.eq_def] at h; dsimp only at h
    split at h
    · simp only [Bool.and_eq_true] at h
      rw [evS]; exact ss_cond (sndE t c.c h.1.1) (sndB b1 c h.1.2) (sndB b2 c h.2)
    · cases h
  | .for g i b, cs, X, W, st, c, h => by
    rw [ckS.eq_def] at h; dsimp only at h
    split at h
    · simp only [Bool.and_eq_true] at h
      obtain ⟨hi, hns⟩ := sndI i c.c h.1.1
      rw [evS]; exact ss_for c.hp c.c.calm c.wk hi (tgs g c.c h.1.2) (sndB b c h.2) (noFold hns) (ckG_P h.1.2)
    · cases h
  | .while t b, cs, X, W, st, c, h => by
    rw [ckS.eq_def] at h; dsimp only at h
    split at h
    · simp only [Bool.and_eq_true] at h
      rw [evS]; exact ss_while c.hp (sndE t c.c h.1) (sndB b c h.2) turns
    · cases h
  | .raise n, cs, X, W, st, c, h => by
    rw [ckS.eq_def] at h; dsimp only at h
    split at h
    · simp only [Bool.and_eq_true, decide_eq_true_eq] at h
      obtain ⟨⟨rfl, h2⟩, h3⟩ := h
      obtain ⟨B, ni, ii, bm, F, q, gC, kC, r, hd⟩ := (c.ex _ h2).ok
      obtain ⟨Wx, tk, hW⟩ := c.c.tk
      rw [evS]; exact ss_raise c.c.calm tk (hW _) (pmk_own F q gC kC r (c.c.g h3) hd)
    · cases h
  | .pass, cs, X, W, st, c, h => by
    rw [ckS.eq_def] at h; dsimp only at h
    split at h
    · rw [evS]
      exact PS.weak ps_pass fun D σ H ⟨g, hv, w, o⟩ => by
        subst hv
        have o : OutS X.K W cs.P H g (some (.ok .nx g.d)) D := o
        exact o g H (.refl w) rfl
    · cases h
  | .tryx b n hb, cs, X, W, st, c, h => by
    rw [ckS.eq_def] at h; dsimp only at h
    split at h
    · simp only [Bool.and_eq_true, decide_eq_true_eq] at h
      obtain ⟨⟨⟨⟨rfl, h2⟩, h3⟩, h4⟩, h5⟩ := h
      rw [evS]
      exact ss_tryx c (c.ex _ h2) (c.c.g h3) (fun W1 X1 c1 => sndB b c1 h4) h5
    · cases h
  | .shr _, cs, X, W, st, c, h => by
    rw [ckS.eq_def] at h; cases h
  | .par i j as, cs, X, W, st, c, h => by
    rw [ckS.eq_def] at h; dsimp only at h
    split at h
    · rw [Bool.and_eq_true] at h
      have ns := ckA_nst h.1
      have h2 := h.2
      simp only [ckPar, Bool.and_eq_true, decide_eq_true_eq, Bool.not_eq_true'] at h2
      obtain ⟨⟨⟨⟨⟨⟨⟨⟨⟨⟨⟨a1, a2⟩, a3⟩, a4⟩, a5⟩, a6⟩, a7⟩, a8⟩, a9⟩, a10⟩, a11⟩, a12⟩ := h2
      have x1 := isLoc_eq a3
      have y1 := isLoc_eq a4
      rw [evS]
      refine ss_par c.c.calm c.c.nd (by rw [c.c.N]; exact a1) (by rw [c.c.N]; exact a2) (by rw [c.c.sc]; exact x1) (by rw [c.c.sc]; exact y1) (sndA as c.c h.1) a9 a10 a11 (sws_two (by rw [c.c.sc]; exact x1) (by rw [c.c.sc]; exact y1) (by
        rw [c.c.sc]
        split at a12
        · assumption
        · cases a12) a5 a6 ns a7 a8) rfl
    · cases h
theorem sndB : ∀ (b : B) {cs : Cs} {X : Cx} {W : Str → St → Hp → Prop} {sts : List Stmt}, SCtx X CA T W cs → ckB cs b sts = true → PSs X sts (SS X.K W cs.P (evB T b))
  | .nil, cs, X, W, sts, c, h => by
    rw [ckB.eq_def] at h
    have h := List.isEmpty_iff.mp h
    subst h
    rw [evB]; exact ss_nil
  | .cons s b, cs, X, W, sts, c, h => by
    rw [ckB.eq_def] at h; dsimp only at h
    by_cases hsh : s.isShr = true
    · rw [if_pos hsh] at h
      cases s with
      | shr k =>
        have e : evB T (.cons (.shr k) b) = (do
            freeze k
            evB T b) := by
          rw [evB, evS]
          funext g
          show M.bind (M.bind (freeze k) fun _ => M.pure Ctl.nx) (fun c => match c with
            | .nx => evB T b
            | x => M.pure x) g = M.bind (freeze k) (fun _ => evB T b) g
          unfold M.bind
          cases freeze k g with
          | none => rfl
          | some r => cases r <;> rfl
        rw [e]
        exact ss_shr (sndB b c h)
      | _ => cases hsh
    rw [if_neg hsh] at h
    split at h
    · rw [Bool.and_eq_true] at h
      rw [evB]; exact ss_cons (sndS s c h.1) (sndB b c h.2)
    · cases h
end
end
end Om

/-! Om30: functions. -/
namespace Om
open PySem PySem.Spec PyProof.Rows L2

section
variable {K : PySem.W.Frag} {P : List Nat} {W : Str → St → Hp → Prop} {H H' : Hp} {L L' : List En} {C' : Ce}
/-- the cells of a body are forgotten at its end -/
theorem Stp.noCells (s : Stp K H L [] H' L' C') (h : ∀ e ∈ L', e.2.d.noC = true) : Stp K H L [] H' L' [] := by
  refine ⟨⟨fun e he => AV.ok_noC (s.wd.ok e he) (h e he), ?_, fun a ha hm => s.wd.sh a ha ?_, fun p hp => nomatch hp⟩, s.keep, s.dom, fun a ha => s.all a ?_, fun a ha => s.own a ?_, .refl⟩
  · have nd := s.wd.nd
    show (Om.own L' ++ []).Nodup
    rw [List.append_nil]
    exact (List.nodup_append.mp nd).1
  · have hm : a ∈ Om.own L' ++ [] := hm
    rw [List.append_nil] at hm
    exact List.mem_append_left _ hm
  · have ha : a ∈ Om.own L' ++ (Om.shr L' ++ []) := ha
    rw [List.append_nil] at ha
    rcases List.mem_append.mp ha with h | h
    · exact List.mem_append_left _ h
    · exact List.mem_append_right _ (List.mem_append_left _ h)
  · have ha : a ∈ Om.own L' ++ [] := ha
    rw [List.append_nil] at ha
    exact List.mem_append_left _ ha
/-- what the changed parameters are at the end -/
theorem finOf_av {S : SlA} : ∀ {mask : List Bool} {as : List AV} {k : Nat} {fin : List D}, mask.length = as.length → (∀ (i : Nat) (x : AV), (mask.zip as)[i]? = some (true, x) → ∀ e, S[k + i]? = some (some e) → e.2.v = x.v) →
    finOf (S.map (Option.map enD)) mask k = some fin → ∃ fs : List AV, fs.map AV.d = fin ∧ fs.map AV.v = (lentA mask as).map AV.v ∧ ∃ Z, (ents (S.drop k)).Perm (fs.map tr ++ Z)
  | [], [], k, fin, _, _, h => by
    rw [finOf] at h; cases h
    exact ⟨[], rfl, rfl, ents (S.drop k), .refl _⟩
  | [], _ :: _, k, fin, hl, _, _ => by cases hl
  | _ :: _, [], k, fin, hl, _, _ => by cases hl
  | b :: ms, a :: as, k, fin, hl, hv, h => by
    have hl' : ms.length = as.length := by simpa using hl
    have hv' : ∀ (i : Nat) (x : AV), (ms.zip as)[i]? = some (true, x) → ∀ e, S[k + 1 + i]? = some (some e) → e.2.v = x.v := fun i x hx e he => hv (i + 1) x (by rw [List.zip_cons_cons, List.getElem?_cons_succ]; exact hx) e (by rw [show k + (i + 1) = k + 1 + i by omega]; exact he)
    have hd : ∃ Z0, (ents (S.drop k)).Perm (Z0 ++ ents (S.drop (k + 1))) ∧ ∀ e, S[k]? = some (some e) → Z0 = entL (some e) := by
      by_cases hk : k < S.length
      · refine ⟨entL S[k], ?_, fun e he => ?_⟩
        · rw [List.drop_eq_getElem_cons hk, ents_cons]
        · rw [List.getElem?_eq_getElem hk] at he
          rw [Option.some.inj he]
      · refine ⟨[], ?_, fun e he => ?_⟩
        · rw [List.drop_eq_nil_of_le (by omega), List.drop_eq_nil_of_le (by omega)]; exact .refl _
        · rw [List.getElem?_eq_none (by omega)] at he; cases he
    obtain ⟨Z0, p0, q0⟩ := hd
    cases b with
    | false =>
      rw [finOf] at h
      obtain ⟨fs, e1, e2, Z, p⟩ := finOf_av hl' hv' h
      refine ⟨fs, e1, e2, Z0 ++ Z, p0.trans ((p.append_left Z0).trans ?_)⟩
      exact List.perm_append_comm_assoc _ _ _
    | true =>
      rw [finOf, List.getElem?_map] at h
      cases e : S[k]? with
      | none => rw [e] at h; cases h
      | some o =>
        rw [e] at h
        cases o with
        | none => cases h
        | some en =>
          obtain ⟨m, av⟩ := en
          cases m with
          | ow =>
            have h : (finOf (S.map (Option.map enD)) ms (k + 1)).map (av.d :: ·) = some fin := h
            cases e3 : finOf (S.map (Option.map enD)) ms (k + 1) with
            | none => rw [e3] at h; cases h
            | some fin' =>
              rw [e3] at h
              cases h
              obtain ⟨fs, e1, e2, Z, p⟩ := finOf_av hl' hv' e3
              refine ⟨av :: fs, by rw [List.map_cons, e1], ?_, Z, ?_⟩
              · show av.v :: fs.map AV.v = (a :: lentA ms as).map AV.v
                rw [List.map_cons, e2]
                congr 1
                exact hv 0 a rfl (.ow, av) (by rw [Nat.add_zero]; exact e)
              · rw [q0 _ e] at p0
                refine p0.trans ?_
                show ((true, av) :: ents (S.drop (k + 1))).Perm (tr av :: fs.map tr ++ Z)
                exact p.cons _
          | sh => cases h
          | lk => cases h
end
/-! ### a body's start -/
def startA (mask : List Bool) (as : List AV) (n : Nat) : GA := ⟨(mask.zip as).map (fun p => some (moB p.1, p.2)) ++ List.replicate n none, []⟩
theorem startA_ents (mask : List Bool) (as : List AV) (n : Nat) : ents (startA mask as n).sl = mask.zip as := by
  unfold startA ents
  rw [List.filterMap_append]
  have h1 : (List.replicate n (none : Option (Mo × AV))).filterMap entO = [] := by
    rw [List.filterMap_eq_nil_iff]
    intro a ha
    rw [(List.mem_replicate.mp ha).2]; rfl
  rw [h1, List.append_nil, List.filterMap_map]
  have h2 : (entO ∘ fun p : Bool × AV => some (moB p.1, p.2)) = some := by
    funext p
    obtain ⟨b, x⟩ := p
    cases b <;> rfl
  rw [h2, List.filterMap_some]
theorem zip_dL : ∀ {mask : List Bool} {as : List AV}, (mask.zip as).map (fun p => ((p.1, p.2.d) : Bool × D)) = mask.zip (as.map AV.d)
  | [], _ => rfl
  | _ :: _, [] => rfl
  | b :: ms, a :: as => by rw [List.zip_cons_cons, List.map_cons, List.map_cons, List.zip_cons_cons, zip_dL]
theorem zip_vL : ∀ {mask : List Bool} {as : List AV}, mask.length = as.length → (mask.zip as).map (fun p => p.2.v) = as.map AV.v
  | [], [], _ => rfl
  | [], _ :: _, h => by cases h
  | _ :: _, [], h => by cases h
  | b :: ms, a :: as, h => by rw [List.zip_cons_cons, List.map_cons, List.map_cons, zip_vL (by simpa using h)]
/-- the places of the changed parameters -/
def maskIx : List Bool → Nat → List Nat
  | [], _ => []
  | true :: ms, k => k :: maskIx ms (k + 1)
  | false :: ms, k => maskIx ms (k + 1)
theorem maskIx_mem : ∀ {mask : List Bool} {k i : Nat}, mask[i]? = some true → k + i ∈ maskIx mask k
  | [], k, i, h => by simp at h
  | true :: ms, k, 0, h => List.mem_cons_self
  | true :: ms, k, i + 1, h => by
    rw [maskIx, show k + (i + 1) = k + 1 + i by omega]
    exact List.mem_cons_of_mem _ (maskIx_mem (by simpa using h))
  | false :: ms, k, 0, h => by cases h
  | false :: ms, k, i + 1, h => by
    rw [maskIx, show k + (i + 1) = k + 1 + i by omega]
    exact maskIx_mem (by simpa using h)
/-- a body: a docstring first, perhaps -/
def ckBody (cs : Cs) (b : B) : List Stmt → Bool
  | .Expr (.Constant (.str _) _ _) _ :: rest => ckB cs b rest
  | sts => ckB cs b sts
section
variable {CA : Str → Addr} {T : Tab} {cs : Cs} {X : Cx} {W : Str → St → Hp → Prop} {b : B} {sts : List Stmt}
theorem snd_body (c : SCtx X CA T W cs) (h : ckBody cs b sts = true) : PSs X sts (SS X.K W cs.P (evB T b)) := by
  unfold ckBody at h
  split at h
  · exact PSs.weak (pss_cons ps_doc (sndB b c h)) fun _ _ _ q => q
  · exact sndB b c h
end
/-- a def of the text, and its code -/
structure DefOk (K : PySem.W.Frag) (mg : Str → Option Value) (Pg : Pg) (bl fns exs : List Str) (f : Str) (df : Df) : Prop where
  at' : ∃ (x qual : Str) (st : Stmt) (fa : Addr) (fd : FuncData) (N ps : List Str), Fun K x qual st fa fd ∧ FnScope N ps (defScope st) ∧ Binds K fd ps [] ∧ mg f = some (.ref fa) ∧ ps.length = df.np ∧ N.length = df.ns ∧
    ckBody ⟨N, defScope st, fun _ => true, maskIx df.mask 0, bl, fns, exs⟩ df.body (defBody st) = true
section
variable {P : Program} {w : World} {K : PySem.W.Frag} {mg : Str → Option Value} {base : Heap} {CA : Str → Addr} {Pg : Pg} {bl fns exs : List Str}
/-- a def, one level up -/
theorem fn_up {n : Nat} {f : Str} {df : Df} {x qual : Str} {st : Stmt} {fa : Addr} {fd : FuncData} {N ps : List Str} (F : Fun K x qual st fa fd) (S : FnScope N ps (defScope st)) (hnp : ps.length = df.np) (hns : N.length = df.ns)
    (hck : ckBody ⟨N, defScope st, fun _ => true, maskIx df.mask 0, bl, fns, exs⟩ df.body (defBody st) = true) (hbl : ∀ x ∈ bl, mg x = none) (hgl : ∀ x d, (Pg.tab n).glob x = some d → ∃ (av : AV) (u : Value), mg x = some u ∧ RelV av.v u ∧ av.d = d ∧ ∀ H C, av.ok K H C)
    (hfn : ∀ g ∈ fns, ∃ (ga : Addr) (gd : FuncData) (qs : List Str), FnOk P w K mg base (L2.CX P w) n ga gd qs (spT K CA ((Pg.tab n).run g) ((Pg.tab n).mask g)) ∧ mg g = some (.ref ga) ∧ PySem.W.keepIn K (.ref ga) = true ∧ Binds K gd qs [])
    (hex : ∀ (X : Cx), X.K = K → X.mg = mg → ∀ c ∈ exs, ExR X (CA c) c) (hf : Pg.defs.lookup f = some df) : FnOk P w K mg base (L2.CX P w) (n + 1) fa fd ps (spT K CA ((Pg.tab (n + 1)).run f) ((Pg.tab (n + 1)).mask f)) := by
  have erun : (Pg.tab (n + 1)).run f = runF (Pg.tab n) df := by
    funext ds
    show (match Pg.defs.lookup f with
      | some d => runF (Pg.tab n) d ds
      | none => none) = _
    rw [hf]
  have emask : (Pg.tab (n + 1)).mask f = df.mask := by
    show (match Pg.defs.lookup f with
      | some d => d.mask
      | none => []) = _
    rw [hf]
  rw [erun, emask]
  have shape : ∀ {as : List AV} {r : FR}, runF (Pg.tab n) df (as.map AV.d) = some r → as.length = df.np ∧ df.mask.length = df.np ∧ df.np ≤ df.ns := fun {as r} h => by
    unfold runF at h
    split at h
    · rename_i hc
      simp only [Bool.and_eq_true, decide_eq_true_eq, List.length_map] at hc
      exact ⟨hc.1.1.1, hc.1.1.2, hc.1.2⟩
    · cases h
  refine F.okX S (fun vs H Q E h => ?_) fun cdv A outer s H vs Q E hr h => ?_
  · obtain ⟨as, rfl, hl, hw, h⟩ := h
    cases hq : runF (Pg.tab n) df (as.map AV.d) with
    | none => rw [hq] at h; exact h.elim
    | some r => rw [List.length_map, (shape hq).1, hnp]
  · obtain ⟨as, rfl, hl, hw, h⟩ := h
    have W0 : ∀ (c : Str) (σ : St) (H' : Hp), True := fun _ _ _ => trivial
    let W : Str → St → Hp → Prop := fun c _ H' => E (.ref (CA c)) none H'
    have cx : Ctx (cxOf (L2.CX P w) P w K mg base N qual (defScope st) fa cdv A outer s H E) CA (Pg.tab n) W ⟨N, defScope st, fun _ => true, maskIx df.mask 0, bl, fns, exs⟩ := by
      refine ⟨rfl, S.nd, rfl, fun _ _ => rfl, rfl, ?_, hbl, fun x d hd => ⟨hgl x d hd⟩, fun g hg => ?_, fun cls d _ H => E cls d H, takes_of rfl rfl rfl rfl, fun _ _ _ h => h⟩
      · have := hr.un
        show (A.deeper (envOfC qual (defScope st) s.heap.objs.size fa cdv)).units + 65 < cLine
        omega
      · obtain ⟨ga, gd, qs, h1, h2, h3, h4⟩ := hfn g hg
        exact ⟨n, ga, gd, qs, h1, hr, h2, h3, h4⟩
    have sc : SCtx (cxOf (L2.CX P w) P w K mg base N qual (defScope st) fa cdv A outer s H E) CA (Pg.tab n) W ⟨N, defScope st, fun _ => true, maskIx df.mask 0, bl, fns, exs⟩ := ⟨cx, passes_of rfl, fun _ _ _ _ _ h => h, hex _ rfl rfl, rfl, rfl⟩
    refine ⟨_, snd_body sc hck, ?_⟩
    cases hq : runF (Pg.tab n) df (as.map AV.d) with
    | none => rw [hq] at h; exact h.elim
    | some fr =>
      obtain ⟨s1, s2, s3⟩ := shape hq
      rw [hq] at h
      have egd : (startA df.mask as (N.length - as.length)).d = start0 df (as.map AV.d) := by
        unfold startA GA.d start0
        rw [List.map_append, List.map_map, List.map_replicate, ← zip_dL, List.map_map, hns, s1]
        rfl
      have egv : (startA df.mask as (N.length - as.length)).vs = L2.start N (as.map AV.v) := by
        unfold startA GA.vs L2.start
        rw [List.map_append, List.map_map, List.map_replicate, ← zip_vL (by rw [s2, s1] : df.mask.length = as.length), List.map_map, List.length_map, List.length_zip, s2, s1, Nat.min_self]
        rfl
      have een := startA_ents df.mask as (N.length - as.length)
      have gw : GW K H (startA df.mask as (N.length - as.length)) := by
        refine ⟨by rw [een]; exact hw, fun k x hk => ?_⟩
        have hm := List.mem_of_getElem? hk
        unfold startA at hm
        rcases List.mem_append.mp hm with hm | hm
        · obtain ⟨p, _, e⟩ := List.mem_map.mp hm
          cases hb : p.1 <;> (rw [hb] at e; cases e)
        · have := (List.mem_replicate.mp hm).2
          cases this
      -- what the changed parameters are at the end
      have back : ∀ {g' : GA} {H' : Hp} {rs : List En} {fin : List D}, GT K (maskIx df.mask 0) H (startA df.mask as (N.length - as.length)) H' g' rs → finC g'.d.sl df.mask = some fin →
          ∃ fs : List AV, fs.map AV.d = fin ∧ fs.map AV.v = (lentA df.mask as).map AV.v ∧ D.noCL fin = true ∧ ∃ Z, (ents g'.sl).Perm (fs.map tr ++ Z) := by
        intro g' H' rs fin gt hfin
        unfold finC at hfin
        cases e : finOf g'.d.sl df.mask 0 with
        | none => rw [e] at hfin; cases hfin
        | some fin' =>
          rw [e] at hfin
          dsimp only at hfin
          by_cases hn : D.noCL fin' = true
          case neg => rw [if_neg hn] at hfin; cases hfin
          rw [if_pos hn] at hfin
          cases hfin
          obtain ⟨fs, e1, e2, Z, pz⟩ := finOf_av (S := g'.sl) (mask := df.mask) (as := as) (k := 0) (by rw [s2, s1]) (fun i x hx en hen => by
            rw [Nat.zero_add] at hen
            have hz : (startA df.mask as (N.length - as.length)).sl[i]? = some (some (.ow, x)) := by
              unfold startA
              have hi := lt_of_some hx
              rw [List.getElem?_append_left (by rw [List.length_map]; exact hi), List.getElem?_map, hx]; rfl
            have hmi : df.mask[i]? = some true := by
              have := List.getElem?_zip_eq_some.mp hx
              exact this.1
            have hin := maskIx_mem (mask := df.mask) (k := 0) hmi
            rw [Nat.zero_add] at hin
            have h1 := gt.fix i hin en.2.v (GA.slot_v hen)
            rw [GA.slot_v hz] at h1
            exact (Option.some.inj (Option.some.inj h1)).symm) e
          rw [List.drop_zero] at pz
          exact ⟨fs, e1, e2, hn, Z, pz⟩
      refine ⟨startA df.mask as (N.length - as.length), egv, gw, ?_⟩
      rw [egd]
      unfold runF at hq
      split at hq
      case isFalse => cases hq
      case isTrue hc =>
        cases he : evB (Pg.tab n) df.body (start0 df (as.map AV.d)) with
        | none => rw [he] at hq; cases hq
        | some r =>
          rw [he] at hq
          have noc : ∀ {fs : List AV} {fin : List D}, fs.map AV.d = fin → D.noCL fin = true → ∀ e ∈ fs.map tr, e.2.d.noC = true := fun {fs fin} e hn en hen => by
            obtain ⟨x, hx, rfl⟩ := List.mem_map.mp hen
            subst e
            exact D.noCL_iff.mp hn _ (List.mem_map.mpr ⟨x, hx, rfl⟩)
          cases r with
          | exc c gd =>
            dsimp only at hq
            intro g' H' gt ed
            subst ed
            cases hfin : finC g'.d.sl df.mask with
            | none => rw [hfin] at hq; cases hq
            | some fin =>
              rw [hfin] at hq
              cases hq
              dsimp only at h
              obtain ⟨fs, e1, e2, hn, Z, pz⟩ := back gt hfin
              have st := gt.st
              rw [een] at st
              have st2 : Stp K H (df.mask.zip as) [] H' (fs.map tr) g'.ce := st.sub ⟨Z, by rw [List.append_nil]; exact pz⟩
              exact h fs H' (st2.noCells (noc e1 hn)) e1 e2
          | ok a gd =>
            cases a with
            | nx =>
              dsimp only at hq
              intro g' H' gt ed
              subst ed
              cases hfin : finC g'.d.sl df.mask with
              | none => rw [hfin] at hq; cases hq
              | some fin =>
                rw [hfin] at hq
                cases hq
                dsimp only at h
                obtain ⟨fs, e1, e2, hn, Z, pz⟩ := back gt hfin
                have st := gt.st
                rw [een] at st
                have st2 : Stp K H (df.mask.zip as) [] H' (fs.map tr) g'.ce := st.sub ⟨Z, by rw [List.append_nil]; exact pz⟩
                have st3 := (st2.noCells (noc e1 hn)).flat (e := (true, .non)) rfl trivial
                exact h .non fs H' st3 rfl e1 e2
            | rt fl d =>
              dsimp only at hq
              intro g' H' x gt ex ed
              subst ed
              by_cases hdn : d.noC = true
              case neg => rw [if_neg hdn] at hq; cases hq
              rw [if_pos hdn] at hq
              cases hfin : finC g'.d.sl df.mask with
              | none => rw [hfin] at hq; cases hq
              | some fin =>
                rw [hfin] at hq
                cases hq
                dsimp only at h
                obtain ⟨fs, e1, e2, hn, Z, pz⟩ := back gt hfin
                have st := gt.st
                rw [een] at st
                have st2 : Stp K H (df.mask.zip as) [] H' ((fl, x) :: fs.map tr) g'.ce := st.sub ⟨Z, by
                  refine (pz.append_right _).trans ?_
                  show (fs.map tr ++ Z ++ [(fl, x)]).Perm ((fl, x) :: (fs.map tr ++ Z))
                  exact List.perm_append_singleton _ _⟩
                have st3 := st2.noCells fun e he => by
                  rcases List.mem_cons.mp he with rfl | he
                  · rw [ex]; exact hdn
                  · exact noc e1 hn e he
                exact h x fs H' st3 ex e1 e2
end
end Om

/-! Om31: all levels; the law's end. -/
namespace Om
open PySem PySem.Spec PyProof.Rows L2

/-- the class's address, as the names say -/
def caOf (K : PySem.W.Frag) (c : Str) : Addr := match PySem.W.nsIn K mainGlobals c with
  | some (some (.ref a)) => a
  | _ => 0
/-- a def of the program, with its code -/
structure DefF (K : PySem.W.Frag) (mg : Str → Option Value) (Pg : Pg) (bl fns exs : List Str) (f : Str) : Prop where
  ex : ∃ (df : Df) (x qual : Str) (st : Stmt) (fa : Addr) (fd : FuncData) (N ps : List Str), Fun K x qual st fa fd ∧ FnScope N ps (defScope st) ∧ Binds K fd ps [] ∧ mg f = some (.ref fa) ∧ ps.length = df.np ∧ N.length = df.ns ∧
    ckBody ⟨N, defScope st, fun _ => true, maskIx df.mask 0, bl, fns, exs⟩ df.body (defBody st) = true ∧ Pg.defs.lookup f = some df
section
variable {P : Program} {w : World} {K : PySem.W.Frag} {mg : Str → Option Value} {base : Heap} {CA : Str → Addr} {Pg : Pg} {bl fns exs : List Str}
theorem tab_glob (n : Nat) : (Pg.tab n).glob = fun x => Pg.glob.lookup x := by cases n <;> rfl
theorem levels (hd : ∀ f ∈ fns, DefF K mg Pg bl fns exs f) (hbl : ∀ x ∈ bl, mg x = none) (hgl : ∀ x d, Pg.glob.lookup x = some d → ∃ (av : AV) (u : Value), mg x = some u ∧ RelV av.v u ∧ av.d = d ∧ ∀ H C, av.ok K H C)
    (hex : ∀ (X : Cx), X.K = K → X.mg = mg → ∀ c ∈ exs, ExR X (CA c) c) : ∀ (n : Nat) (f : Str), f ∈ fns → ∃ (ga : Addr) (gd : FuncData) (qs : List Str), FnOk P w K mg base (L2.CX P w) n ga gd qs (spT K CA ((Pg.tab n).run f) ((Pg.tab n).mask f)) ∧ mg f = some (.ref ga) ∧ PySem.W.keepIn K (.ref ga) = true ∧ Binds K gd qs []
  | 0, f, hf => by
    obtain ⟨df, x, qual, st, fa, fd, N, ps, F, S, B, m, _⟩ := (hd f hf).ex
    have no : ∀ vs H Q E, ¬ spT K CA ((Pg.tab 0).run f) ((Pg.tab 0).mask f) vs H Q E := fun vs H Q E ⟨as, _, _, _, h⟩ => h
    exact ⟨fa, fd, ps, ⟨fun vs H Q E h => absurd h (no vs H Q E), fun A outer s H args us vs Q E _ _ _ _ h => absurd h (no vs H Q E)⟩, m, F.kp, B⟩
  | n + 1, f, hf => by
    obtain ⟨df, x, qual, st, fa, fd, N, ps, F, S, B, m, h1, h2, h3, h4⟩ := (hd f hf).ex
    exact ⟨fa, fd, ps, fn_up F S h1 h2 h3 hbl (fun x d h => hgl x d (by rw [tab_glob] at h; exact h)) (fun g hg => levels hd hbl hgl hex n g hg) hex h4, m, F.kp, B⟩
/-- the law's def -/
theorem law_level {df : Df} {x qual : Str} {st : Stmt} {fa : Addr} {fd : FuncData} {N ps : List Str} (n : Nat) (F : Fun K x qual st fa fd) (S : FnScope N ps (defScope st)) (h1 : ps.length = df.np) (h2 : N.length = df.ns)
    (h3 : ckBody ⟨N, defScope st, fun _ => true, maskIx df.mask 0, bl, fns, exs⟩ df.body (defBody st) = true) {f : Str} (h4 : Pg.defs.lookup f = some df) (hd : ∀ f ∈ fns, DefF K mg Pg bl fns exs f) (hbl : ∀ x ∈ bl, mg x = none) (hgl : ∀ x d, Pg.glob.lookup x = some d → ∃ (av : AV) (u : Value), mg x = some u ∧ RelV av.v u ∧ av.d = d ∧ ∀ H C, av.ok K H C)
    (hex : ∀ (X : Cx), X.K = K → X.mg = mg → ∀ c ∈ exs, ExR X (CA c) c) : FnOk P w K mg base (L2.CX P w) (n + 1) fa fd ps (spT K CA ((Pg.tab (n + 1)).run f) ((Pg.tab (n + 1)).mask f)) :=
  fn_up F S h1 h2 h3 hbl (fun x d h => hgl x d (by rw [tab_glob] at h; exact h)) (fun g hg => levels hd hbl hgl hex n g hg) hex h4
/-- the script, to the law -/
theorem script_ok {sem : List D → Option FR} {H : Hp} {a : Addr} {ns : List Int} {fl : Bool} {fin : List D} (hO : Only H) (hS : SqL K H a (ns.map V.int)) (h : sem [.scr ns] = some (.ret fl (.bl true) fin)) : spT K CA sem [false] [.ref a] H (fun v _ => v = .bl true) fun _ _ _ => False := by
  refine ⟨[.scr a ns], rfl, rfl, ⟨fun e he => ?_, ?_, fun b hb => ?_, fun p hp => nomatch hp⟩, ?_⟩
  · cases List.mem_singleton.mp he
    show (AV.scr a ns).ok K H []
    rw [AV.ok]
    rcases hS with (hS | hS) | hS
    · rcases hO a with z | ⟨o, xs, z⟩
      · rw [z] at hS; cases hS
      · rw [z] at hS; cases hS
    · exact .inl hS
    · exact .inr hS
  · show ([] ++ [] ++ [] : List Addr).Nodup
    simp
  · have hb : b ∈ ([] ++ [] : List Addr) := hb
    simp at hb
  · have e : [AV.scr a ns].map AV.d = [D.scr ns] := rfl
    rw [e, h]
    intro r fs H' _ er _ _
    cases r <;> first | (rw [AV.d] at er; cases er; rfl) | (rw [AV.d] at er; cases er)
end
/-- the whole of a law: what is left is the run upon plain data -/
theorem walk_law {l : PySem.W.OpenLaw} {q : Program} {loose : List Str} {XP : (Str → Option Value) → Heap → Prop} {YP : World → Heap → Prop} {d : DefRec} {K : Params → PySem.W.Frag} {Pg : Pg} {m k : Nat} {f x : Str} (hn : l.most = some m) (hn2 : m ≤ sizeLine) (hdf : d.params.defaults = []) (hr : Room k callerA)
    (hY : ∀ (w : World) (h : Heap), YP w h → (K w.params).In h) (hmask : (Pg.tab k).mask f = [false])
    (F : ∀ (w : World) (mg : Str → Option Value) (fa : Addr) (h : Heap), (K w.params).In h → h.Ns mainGlobals mg → mg d.name = some (.ref fa) →
      ∃ fd : FuncData, (∀ (s : Shared) (u : Value), BindsTo s fd ⟨[u], []⟩ [(x, u)]) ∧ ∀ base : Heap, (K w.params).In base → base.Ns mainGlobals mg → FnOk l.prog w (K w.params) mg base (L2.CX l.prog w) k fa fd [x] (spT (K w.params) (caOf (K w.params)) ((Pg.tab k).run f) ((Pg.tab k).mask f)))
    (hrun : ∀ ns : List Int, ns.length ≤ m → ∃ fl fin, (Pg.tab k).run f [.scr ns] = some (.ret fl (.bl true) fin)) : PySem.W.WalkO q loose XP YP l.row.toRowW d [] (fun f vs => PySem.call f vs) :=
  L2.walk_of (n := m) (k := k) (x := x) (CX := fun w => L2.CX l.prog w) (sp := fun w => spT (K w.params) (caOf (K w.params)) ((Pg.tab k).run f) ((Pg.tab k).mask f)) hn hn2 hdf hr hY F (fun w H a ns hl hO hS => by
    obtain ⟨fl, fin, h⟩ := hrun ns hl
    rw [hmask]
    exact script_ok hO hS h) fun w H s e s' ⟨_, _, _, _, _, _, _, _, _, _, _, _, z⟩ => z
end Om

/-! Om32: the interpreter's loops, by invariants. -/
namespace Om
open PySem PySem.Spec PyProof.Rows L2

theorem M.run_bind {α β : Type} {m : M α} {f : α → M β} {g g1 : Sg} {a : α} (h : m g = some (.ok a g1)) : M.bind m f g = f a g1 := by unfold M.bind; rw [h]
theorem noX_ok {α : Type} {m : M α} {g g1 : Sg} {a : α} (h : m g = some (.ok a g1)) : noX m g = some (.ok a g1) := by unfold noX; rw [h]
/-- a comprehension's turns: p, the test; f, the element -/
theorem compL_run {own : List Nat} {G : G} {mo : Mo} {mC : M Bool} {mE : M Ref} (I : Sg → Prop) (p : D → Bool) (f : D → Bool × D) : ∀ (ds : List D) (g : Sg), (∀ d ∈ ds, ∀ g, I g → ∃ g1 g2, asgG G (mo, d) (wipeS own g) = some (.ok () g1) ∧ mC g1 = some (.ok (p d) g2) ∧ (p d = false → I g2) ∧
      (p d = true → ∃ g3, (do force (← stab (← mE)) : M (Bool × D)) g2 = some (.ok (f d) g3) ∧ I g3)) → I g → ∃ g', compL own G mo mC mE ds g = some (.ok ((ds.filter p).map f) g') ∧ I g'
  | [], g, _, h => ⟨g, rfl, h⟩
  | d :: ds, g, ht, h => by
    obtain ⟨g1, g2, h1, h2, h3, h4⟩ := ht d List.mem_cons_self g h
    have ht' := fun d' hd' => ht d' (List.mem_cons_of_mem _ hd')
    show ∃ g', M.bind (asgG G (mo, d)) _ (wipeS own g) = _ ∧ I g'
    rw [M.run_bind h1]
    show ∃ g', M.bind (noX mC) _ g1 = _ ∧ I g'
    rw [M.run_bind (noX_ok h2)]
    cases hp : p d with
    | false =>
      obtain ⟨g', e, i⟩ := compL_run I p f ds g2 ht' (h3 hp)
      refine ⟨g', ?_, i⟩
      rw [List.filter_cons_of_neg (by rw [hp]; decide)]
      exact e
    | true =>
      obtain ⟨g3, e3, i3⟩ := h4 hp
      obtain ⟨g', e, i⟩ := compL_run I p f ds g3 ht' i3
      refine ⟨g', ?_, i⟩
      rw [List.filter_cons_of_pos hp, List.map_cons]
      show M.bind (noX (do force (← stab (← mE)) : M (Bool × D))) _ g2 = _
      rw [M.run_bind (noX_ok e3)]
      show M.bind (compL own G mo mC mE ds) _ g3 = _
      rw [M.run_bind e]
      rfl
/-- a for's turns, none of which leaves; I by the turn -/
theorem forL_run {f : D → M Ctl} (I : Nat → Sg → Prop) : ∀ (ds : List D) (i : Nat) (g : Sg), (∀ (j : Nat) (d : D) (g : Sg), ds[j]? = some d → I (i + j) g → ∃ g', f d g = some (.ok .nx g') ∧ I (i + j + 1) g') → I i g → ∃ g', forL f ds g = some (.ok .nx g') ∧ I (i + ds.length) g'
  | [], i, g, _, h => ⟨g, rfl, h⟩
  | d :: ds, i, g, ht, h => by
    obtain ⟨g1, h1, h2⟩ := ht 0 d g rfl h
    obtain ⟨g', e, i'⟩ := forL_run I ds (i + 1) g1 (fun j d' g hd hg => by
      have := ht (j + 1) d' g (by rw [List.getElem?_cons_succ]; exact hd) (by rw [show i + (j + 1) = i + 1 + j by omega]; exact hg)
      rw [show i + (j + 1) + 1 = i + 1 + j + 1 by omega] at this
      exact this) h2
    refine ⟨g', ?_, by rw [List.length_cons, show i + (ds.length + 1) = i + 1 + ds.length by omega]; exact i'⟩
    show M.bind (f d) _ g = _
    rw [M.run_bind h1]
    exact e
/-- the same, one invariant -/
theorem forL_inv {f : D → M Ctl} (I : Sg → Prop) (ds : List D) (g : Sg) (ht : ∀ d ∈ ds, ∀ g, I g → ∃ g', f d g = some (.ok .nx g') ∧ I g') (h : I g) : ∃ g', forL f ds g = some (.ok .nx g') ∧ I g' :=
  forL_run (fun _ => I) ds 0 g (fun j d g hd hg => ht d (List.mem_of_getElem? hd) g hg) h
/-- a while, by a measure -/
theorem whileL_run {c : M Bool} {b : M Ctl} (I : Nat → Sg → Prop) (J : Sg → Prop) (hs : ∀ (m : Nat) (g : Sg), I m g → ∃ t g1, c g = some (.ok t g1) ∧ (t = false → J g1) ∧ (t = true → ∃ g2 m', b g1 = some (.ok .nx g2) ∧ m' < m ∧ I m' g2)) : ∀ (n m : Nat) (g : Sg), m < n → I m g → ∃ g', whileL c b n g = some (.ok .nx g') ∧ J g'
  | 0, m, g, hn, _ => absurd hn (Nat.not_lt_zero _)
  | n + 1, m, g, hn, h => by
    obtain ⟨t, g1, h1, h2, h3⟩ := hs m g h
    show ∃ g', M.bind c _ g = _ ∧ J g'
    rw [M.run_bind h1]
    cases t with
    | false => exact ⟨g1, rfl, h2 rfl⟩
    | true =>
      obtain ⟨g2, m', e2, hm, i2⟩ := h3 rfl
      obtain ⟨g', e, j⟩ := whileL_run I J hs n m' g2 (by omega) i2
      refine ⟨g', ?_, j⟩
      show M.bind b _ g1 = _
      rw [M.run_bind e2]
      exact e
/-- a block: statement by statement -/
theorem evB_cons {T : Tab} {s : S} {b : B} {g g1 : Sg} (h : evS T s g = some (.ok .nx g1)) : evB T (.cons s b) g = evB T b g1 := by
  rw [evB]
  show M.bind (evS T s) _ g = _
  rw [M.run_bind h]
end Om

/-! Sy1: the interpreter is monotone: a state that says less, a run that says less. -/
namespace Om
open PySem PySem.Spec PyProof.Rows L2

/-- no list and no cell within -/
def D.pla (d : D) : Prop := d.noL = true ∧ d.noC = true
def MoR (d : D) (m m' : Mo) : Prop := m = m' ∨ (d.pla ∧ m = .sh ∧ m' = .ow)
def FlR (d : D) (f f' : Bool) : Prop := f = f' ∨ (d.pla ∧ f = false ∧ f' = true)
def SlR : Slot → Slot → Prop
  | none, _ => True
  | some (m, d), some (m', d') => d = d' ∧ MoR d m m'
  | some _, none => False
/-- the one state says less than the other -/
structure SgR (p g : Sg) : Prop where
  len : p.sl.length = g.sl.length
  at_ : ∀ (k : Nat) (s : Slot), p.sl[k]? = some s → ∃ s', g.sl[k]? = some s' ∧ SlR s s'
  ce : p.ce = g.ce
def RefR : Ref → Ref → Prop
  | .tmp f d, .tmp f' d' => d = d' ∧ FlR d f f'
  | .slot k, .slot k' => k = k'
  | .path k is, .path k' is' => k = k' ∧ is = is'
  | _, _ => False
def EnR (x y : Bool × D) : Prop := x.2 = y.2 ∧ FlR x.2 x.1 y.1
def CtlR : Ctl → Ctl → Prop
  | .nx, .nx => True
  | .rt f d, .rt f' d' => d = d' ∧ FlR d f f'
  | _, _ => False
def FRR : FR → FR → Prop
  | .ret f d fin, .ret f' d' fin' => d = d' ∧ FlR d f f' ∧ fin = fin'
  | .exc c fin, .exc c' fin' => c = c' ∧ fin = fin'
  | _, _ => False
inductive All2 {α β : Type} (R : α → β → Prop) : List α → List β → Prop
  | nil : All2 R [] []
  | cons {a b as bs} : R a b → All2 R as bs → All2 R (a :: as) (b :: bs)
def ResR {α : Type} (R : α → α → Prop) : Res α → Res α → Prop
  | .ok a p, .ok a' g => R a a' ∧ SgR p g
  | .exc c p, .exc c' g => c = c' ∧ SgR p g
  | _, _ => False
def MR {α : Type} (R : α → α → Prop) (m m' : M α) : Prop := ∀ p g, SgR p g → ∀ r, m p = some r → ∃ r', m' g = some r' ∧ ResR R r r'
structure TabR (T T' : Tab) : Prop where
  run : ∀ f ds r, T.run f ds = some r → ∃ r', T'.run f ds = some r' ∧ FRR r r'
  mask : T.mask = T'.mask
  glob : T.glob = T'.glob

theorem MoR.refl {d m} : MoR d m m := .inl rfl
theorem FlR.refl {d m} : FlR d m m := .inl rfl
theorem SlR.refl : ∀ s, SlR s s
  | none => trivial
  | some (_, _) => ⟨rfl, .inl rfl⟩
theorem SgR.refl (g : Sg) : SgR g g := ⟨rfl, fun _ s h => ⟨s, h, SlR.refl s⟩, rfl⟩
theorem RefR.refl : ∀ r, RefR r r
  | .tmp _ _ => ⟨rfl, .inl rfl⟩
  | .slot _ => rfl
  | .path _ _ => ⟨rfl, rfl⟩
theorem EnR.refl (x : Bool × D) : EnR x x := ⟨rfl, .inl rfl⟩
theorem CtlR.refl : ∀ c, CtlR c c
  | .nx => trivial
  | .rt _ _ => ⟨rfl, .inl rfl⟩
theorem FRR.refl : ∀ r, FRR r r
  | .ret _ _ _ => ⟨rfl, .inl rfl, rfl⟩
  | .exc _ _ => ⟨rfl, rfl⟩
theorem MoR.trans {d a b c} : MoR d a b → MoR d b c → MoR d a c := by
  rintro (rfl | ⟨h1, rfl, rfl⟩) (rfl | ⟨h3, h4, h5⟩)
  · exact .inl rfl
  · exact .inr ⟨h3, h4, h5⟩
  · exact .inr ⟨h1, rfl, rfl⟩
  · cases h4
theorem FlR.trans {d a b c} : FlR d a b → FlR d b c → FlR d a c := by
  rintro (rfl | ⟨h1, rfl, rfl⟩) (rfl | ⟨h3, h4, h5⟩)
  · exact .inl rfl
  · exact .inr ⟨h3, h4, h5⟩
  · exact .inr ⟨h1, rfl, rfl⟩
  · cases h4
theorem SlR.trans : ∀ {a b c}, SlR a b → SlR b c → SlR a c
  | none, _, _, _, _ => trivial
  | some (_, _), some (_, _), some (_, _), ⟨e1, h1⟩, ⟨e2, h2⟩ => by subst e1; subst e2; exact ⟨rfl, h1.trans h2⟩
theorem SgR.trans {a b c : Sg} (h : SgR a b) (h' : SgR b c) : SgR a c := ⟨h.len.trans h'.len, fun k s q => by
  obtain ⟨s1, q1, r1⟩ := h.at_ k s q
  obtain ⟨s2, q2, r2⟩ := h'.at_ k s1 q1
  exact ⟨s2, q2, r1.trans r2⟩, h.ce.trans h'.ce⟩
theorem CtlR.trans : ∀ {a b c}, CtlR a b → CtlR b c → CtlR a c
  | .nx, .nx, .nx, _, _ => trivial
  | .rt _ _, .rt _ _, .rt _ _, ⟨e1, h1⟩, ⟨e2, h2⟩ => by subst e1; subst e2; exact ⟨rfl, h1.trans h2⟩
theorem FRR.trans : ∀ {a b c}, FRR a b → FRR b c → FRR a c
  | .ret _ _ _, .ret _ _ _, .ret _ _ _, ⟨e1, h1, f1⟩, ⟨e2, h2, f2⟩ => by subst e1; subst e2; exact ⟨rfl, h1.trans h2, f1.trans f2⟩
  | .exc _ _, .exc _ _, .exc _ _, ⟨e1, h1⟩, ⟨e2, h2⟩ => ⟨e1.trans e2, h1.trans h2⟩

section
variable {α β : Type} {R : α → α → Prop} {Q : β → β → Prop} {p g : Sg}
theorem MR.pure {a a' : α} (h : R a a') : MR R (M.pure a) (M.pure a') := fun p g hs r e => by
  cases e
  exact ⟨_, rfl, h, hs⟩
theorem MR.bind {m m' : M α} {k k' : α → M β} (h : MR R m m') (hk : ∀ a a', R a a' → MR Q (k a) (k' a')) : MR Q (M.bind m k) (M.bind m' k') := fun p g hs r e => by
  unfold M.bind at e
  cases hm : m p with
  | none => rw [hm] at e; cases e
  | some x =>
    obtain ⟨x', e', rr⟩ := h p g hs x hm
    rw [hm] at e
    cases x with
    | ok a p1 =>
      cases x' with
      | ok a' g1 =>
        obtain ⟨r', e2, rr2⟩ := hk a a' rr.1 p1 g1 rr.2 r e
        refine ⟨r', ?_, rr2⟩
        unfold M.bind; rw [e']; exact e2
      | exc c g1 => exact rr.elim
    | exc c p1 =>
      cases e
      cases x' with
      | ok a' g1 => exact rr.elim
      | exc c' g1 =>
        refine ⟨.exc c' g1, ?_, rr⟩
        unfold M.bind; rw [e']
theorem MR.fail {m' : M α} : MR R M.fail m' := fun _ _ _ _ e => nomatch e
theorem MR.of {o o' : Option α} (h : ∀ a, o = some a → ∃ a', o' = some a' ∧ R a a') : MR R (M.of o) (M.of o') := fun p g hs r e => by
  unfold M.of at e
  cases o with
  | none => cases e
  | some a =>
    cases e
    obtain ⟨a', rfl, q⟩ := h a rfl
    exact ⟨_, rfl, q, hs⟩
theorem MR.ofE (o : Option α) : MR Eq (M.of o) (M.of o) := .of fun a h => ⟨a, h, rfl⟩
theorem MR.ite {c : Prop} [Decidable c] {a b a' b' : M α} (h1 : c → MR R a a') (h2 : ¬c → MR R b b') : MR R (if c then a else b) (if c then a' else b') := by
  split
  · exact h1 ‹_›
  · exact h2 ‹_›
end
theorem SgR.get {p g : Sg} (h : SgR p g) {k : Nat} {m : Mo} {d : D} (e : p.sl[k]? = some (some (m, d))) : ∃ m', g.sl[k]? = some (some (m', d)) ∧ MoR d m m' := by
  obtain ⟨s', e', r⟩ := h.at_ _ _ e
  cases s' with
  | none => exact r.elim
  | some md =>
    obtain ⟨m', d'⟩ := md
    obtain ⟨q1, q⟩ := r
    cases q1
    exact ⟨m', e', q⟩
theorem SgR.set {p g : Sg} (h : SgR p g) (k : Nat) {s s' : Slot} (hs : SlR s s') : SgR { p with sl := p.sl.set k s } { g with sl := g.sl.set k s' } := by
  refine ⟨by rw [List.length_set, List.length_set]; exact h.len, fun j t e => ?_, h.ce⟩
  show ∃ s'', (g.sl.set k s')[j]? = _ ∧ _
  have e : (p.sl.set k s)[j]? = some t := e
  rw [List.getElem?_set] at e ⊢
  split
  · rename_i hk
    rw [if_pos hk] at e
    split at e
    · rename_i hl
      cases e
      exact ⟨s', by rw [if_pos (by rw [← h.len]; exact hl)], hs⟩
    · cases e
  · rename_i hk
    rw [if_neg hk] at e
    exact h.at_ _ _ e
theorem SgR.ces {p g : Sg} (h : SgR p g) (f : List (List D)) : SgR { p with ce := f } { g with ce := f } := ⟨h.len, h.at_, rfl⟩
theorem Ref.getR {r r' : Ref} (hr : RefR r r') {p g : Sg} (h : SgR p g) {d : D} (e : r.get p = some d) : r'.get g = some d := by
  match r, r', hr with
  | .slot k, .slot _, rfl =>
    unfold Ref.get at e ⊢
    dsimp only at e ⊢
    cases q : p.sl[k]? with
    | none => rw [q] at e; cases e
    | some s =>
      cases s with
      | none => rw [q] at e; cases e
      | some md =>
        rw [q] at e
        obtain ⟨m', q', _⟩ := h.get q
        rw [q']; exact e
  | .path k is, .path _ _, ⟨rfl, rfl⟩ =>
    unfold Ref.get at e ⊢
    dsimp only at e ⊢
    cases q : p.sl[k]? with
    | none => rw [q] at e; cases e
    | some s =>
      cases s with
      | none => rw [q] at e; cases e
      | some md =>
        rw [q] at e
        obtain ⟨m', q', _⟩ := h.get q
        rw [q']; exact e
  | .tmp _ _, .tmp _ _, ⟨rfl, _⟩ => exact e
theorem moLook {r r' : Ref} (hr : RefR r r') : MR Eq (look r) (look r') := fun p g hs x e => by
  unfold look at e ⊢
  cases q : r.get p with
  | none => rw [q] at e; cases e
  | some d =>
    rw [q] at e; cases e
    rw [Ref.getR hr hs q]
    exact ⟨_, rfl, rfl, hs⟩
theorem moForce {r r' : Ref} (hr : RefR r r') : MR EnR (force r) (force r') := fun p g hs x e => by
  cases r <;> cases r' <;> try (exact hr.elim)
  · cases hr
    rename_i k
    unfold force at e ⊢
    dsimp only at e ⊢
    cases q : p.sl[k]? with
    | none => rw [q] at e; cases e
    | some s =>
      cases s with
      | none => rw [q] at e; cases e
      | some md =>
        obtain ⟨m, d⟩ := md
        rw [q] at e
        obtain ⟨m', q', hm⟩ := hs.get q
        rw [q']
        dsimp only at e ⊢
        split at e
        · rename_i hn
          cases e
          rw [if_pos hn]
          exact ⟨_, rfl, ⟨rfl, .inl rfl⟩, hs⟩
        · rename_i hn
          rw [if_neg hn]
          rcases hm with rfl | ⟨h1, _⟩
          · split at e
            · cases e
            · rename_i h2
              cases e
              rw [if_neg h2]
              exact ⟨_, rfl, ⟨rfl, .inl rfl⟩, hs.set k (SlR.refl _)⟩
          · exact absurd h1.1 hn
  · cases e
  · obtain ⟨rfl, hf⟩ := hr
    cases e
    exact ⟨_, rfl, ⟨rfl, hf⟩, hs⟩
theorem MR.bindE {α β : Type} {Q : β → β → Prop} {m m' : M α} {k k' : α → M β} (h : MR Eq m m') (hk : ∀ a, MR Q (k a) (k' a)) : MR Q (M.bind m k) (M.bind m' k') := h.bind fun a a' e => by cases e; exact hk a
theorem moForceL : ∀ {rs rs' : List Ref}, All2 RefR rs rs' → MR (All2 EnR) (forceL rs) (forceL rs')
  | _, _, .nil => MR.pure .nil
  | _, _, .cons h hs => (moForce h).bind fun _ _ hx => (moForceL hs).bind fun _ _ hy => MR.pure (.cons hx hy)
theorem moDecell (d : D) : MR Eq (decell d) (decell d) := fun p g hs x e => by
  cases d
  case cell n =>
    unfold decell at e ⊢
    dsimp only at e ⊢
    rw [← hs.ce]
    cases q : p.ce[n]? with
    | none => rw [q] at e; cases e
    | some ds => rw [q] at e; cases e; exact ⟨_, rfl, rfl, hs⟩
  all_goals (cases e; exact ⟨_, rfl, rfl, hs⟩)
theorem moPeek {r r' : Ref} (hr : RefR r r') : MR Eq (peek r) (peek r') := (moLook hr).bindE moDecell
theorem moDeep (d : D) : MR Eq (deep d) (deep d) := fun p g hs x e => by
  cases e
  refine ⟨_, rfl, ?_, hs⟩
  rw [hs.ce]
theorem moPeekD {r r' : Ref} (hr : RefR r r') : MR Eq (peekD r) (peekD r') := (moLook hr).bindE moDeep
theorem moPeekL : ∀ {rs rs' : List Ref}, All2 RefR rs rs' → MR Eq (peekL rs) (peekL rs')
  | _, _, .nil => MR.pure rfl
  | _, _, .cons h hs => (moPeek h).bindE fun d => (moPeekL hs).bindE fun _ => MR.pure rfl
theorem moAsB {r r' : Ref} (hr : RefR r r') : MR Eq (asB r) (asB r') := (moLook hr).bindE fun d => by
  cases d <;> first | exact MR.pure rfl | exact MR.fail
theorem moAsI {r r' : Ref} (hr : RefR r r') : MR Eq (asI r) (asI r') := (moLook hr).bindE fun d => by
  cases d <;> first | exact MR.pure rfl | exact MR.fail
theorem moSetSlot (k : Nat) {s s' : Slot} (h : SlR s s') : MR Eq (setSlot k s) (setSlot k s') := fun p g hs x e => by
  unfold setSlot at e ⊢
  split at e
  · rename_i hk
    cases e
    rw [if_pos (by rw [← hs.len]; exact hk)]
    exact ⟨_, rfl, rfl, hs.set k h⟩
  · cases e
theorem moFreeze (k : Nat) : MR Eq (freeze k) (freeze k) := fun p g hs x e => by
  unfold freeze at e ⊢
  cases q : p.sl[k]? with
  | none => rw [q] at e; cases e
  | some s =>
    cases s with
    | none => rw [q] at e; cases e
    | some md =>
      obtain ⟨m, d⟩ := md
      rw [q] at e
      obtain ⟨m', q', hm⟩ := hs.get q
      rw [q']
      dsimp only at e ⊢
      split at e
      · cases e
      · rename_i hn
        cases e
        have hn' : ¬ m' = .lk := by
          rcases hm with rfl | ⟨_, _, rfl⟩
          · exact hn
          · exact nofun
        rw [if_neg hn']
        exact ⟨_, rfl, rfl, hs.set k (SlR.refl _)⟩
theorem moFreezeL : ∀ {rs rs' : List Ref}, All2 RefR rs rs' → MR Eq (freezeL rs) (freezeL rs')
  | _, _, .nil => MR.pure rfl
  | r :: _, r' :: _, .cons h hs => by
    cases r <;> cases r' <;> try (exact h.elim)
    · cases h
      exact (moFreeze _).bindE fun _ => moFreezeL hs
    · exact MR.fail
    · rw [freezeL, freezeL]
      exact moFreezeL hs
theorem moReadVar (k : Nat) : MR RefR (readVar k) (readVar k) := fun p g hs x e => by
  unfold readVar at e ⊢
  cases q : p.sl[k]? with
  | none => rw [q] at e; cases e
  | some s =>
    cases s with
    | none => rw [q] at e; cases e
    | some md =>
      obtain ⟨m, d⟩ := md
      rw [q] at e
      obtain ⟨m', q', hm⟩ := hs.get q
      rw [q']
      dsimp only at e ⊢
      cases e
      refine ⟨_, rfl, ?_, hs⟩
      rcases hm with rfl | ⟨h1, _, _⟩
      · exact RefR.refl _
      · rw [h1.1]; exact RefR.refl _
theorem moItemOf {r r' : Ref} (hr : RefR r r') (i : Int) (v : D) (hv : ∀ fl d, r = .tmp fl d → d.pla → v.noL = true) : MR RefR (itemOf r i v) (itemOf r' i v) := by
  unfold itemOf
  refine .ite (fun _ => MR.pure (RefR.refl _)) fun hn => ?_
  cases r <;> cases r' <;> try (exact hr.elim)
  · cases hr; exact MR.pure (RefR.refl _)
  · obtain ⟨rfl, rfl⟩ := hr; exact MR.pure (RefR.refl _)
  · obtain ⟨rfl, hf⟩ := hr
    rcases hf with rfl | ⟨h1, _, _⟩
    · exact MR.pure (RefR.refl _)
    · exact absurd (hv _ _ rfl h1) hn
theorem moStab {r r' : Ref} (hr : RefR r r') : MR RefR (stab r) (stab r') := by
  cases r <;> cases r' <;> try (exact hr.elim)
  · cases hr; exact MR.pure (RefR.refl _)
  · obtain ⟨rfl, rfl⟩ := hr
    exact (moLook (RefR.refl _)).bindE fun d => (moFreeze _).bindE fun _ => MR.pure (RefR.refl _)
  · exact MR.pure hr
theorem moLookL : ∀ {rs rs' : List Ref}, All2 RefR rs rs' → MR Eq (lookL rs) (lookL rs')
  | _, _, .nil => MR.pure rfl
  | _, _, .cons h hs => (moLook h).bindE fun d => (moLookL hs).bindE fun _ => MR.pure rfl
theorem moPutBack : ∀ (ks : List Nat) (ds : List D), MR Eq (putBack ks ds) (putBack ks ds)
  | [], [] => MR.pure rfl
  | k :: ks, d :: ds => (moSetSlot k (SlR.refl _)).bindE fun _ => moPutBack ks ds
  | [], _ :: _ => MR.fail
  | _ :: _, [] => MR.fail
theorem moOwnedL : ∀ (ks : List Nat), MR Eq (ownedL ks) (ownedL ks)
  | [] => MR.pure rfl
  | k :: ks => fun p g hs x e => by
    unfold ownedL at e ⊢
    cases q : p.sl[k]? with
    | none => rw [q] at e; cases e
    | some s =>
      cases s with
      | none => rw [q] at e; cases e
      | some md =>
        obtain ⟨m, d⟩ := md
        rw [q] at e
        obtain ⟨m', q', hm⟩ := hs.get q
        rw [q']
        cases m <;> first | (cases e; done) | skip
        have : m' = .ow := by
          rcases hm with rfl | ⟨_, h, _⟩
          · rfl
          · cases h
        subst this
        exact moOwnedL ks p g hs x e
theorem moExcM {α : Type} {R : α → α → Prop} (c : Str) : MR R (excM c) (excM c) := fun p g hs x e => by
  cases e; exact ⟨_, rfl, rfl, hs⟩
theorem lentOfR : ∀ {rs rs' : List Ref} (ms : List Bool), All2 RefR rs rs' → lentOf rs ms = lentOf rs' ms
  | _, _, ms, .nil => rfl
  | r :: rs, r' :: rs', ms, .cons h hs => by
    cases ms with
    | nil => cases r <;> cases r' <;> rfl
    | cons m ms =>
      have ih := lentOfR ms hs
      cases r <;> cases r' <;> try (exact h.elim)
      · cases h; cases m
        · simp only [lentOf, ih]
        · simp only [lentOf, ih]
      · cases m
        · simp only [lentOf, ih]
        · rfl
      · cases m
        · simp only [lentOf, ih]
        · rfl
theorem keptOfR : ∀ {rs rs' : List Ref} (ms : List Bool), All2 RefR rs rs' → All2 RefR (keptOf rs ms) (keptOf rs' ms)
  | _, _, ms, .nil => by cases ms <;> exact .nil
  | r :: rs, r' :: rs', ms, .cons h hs => by
    cases ms with
    | nil => exact .nil
    | cons m ms =>
      cases m
      · exact .cons h (keptOfR ms hs)
      · exact keptOfR ms hs
theorem isSlotR {r r' : Ref} (h : RefR r r') (k : Nat) : r.isSlot k = r'.isSlot k := by
  cases r <;> cases r' <;> try (exact h.elim)
  · cases h; rfl
  · rfl
  · rfl
theorem allSlotR (ks : List Nat) : ∀ {rs rs' : List Ref}, All2 RefR rs rs' → rs.all (fun r => ks.all fun k => !r.isSlot k) = rs'.all (fun r => ks.all fun k => !r.isSlot k)
  | _, _, .nil => rfl
  | _, _, .cons h hs => by
    rw [List.all_cons, List.all_cons, allSlotR ks hs]
    simp only [isSlotR h]
theorem moCallF {T T' : Tab} (hT : TabR T T') (f : Str) {rs rs' : List Ref} (h : All2 RefR rs rs') : MR RefR (callF T f rs) (callF T' f rs') := by
  unfold callF
  rw [← hT.mask, ← lentOfR _ h]
  refine (MR.ofE _).bindE fun ks => ?_
  have hk := keptOfR (T.mask f) h
  show MR RefR (if (decide (ks.length ≤ 1) && (keptOf rs (T.mask f)).all fun r => ks.all fun k => !r.isSlot k) = true then _ else _) (if (decide (ks.length ≤ 1) && (keptOf rs' (T.mask f)).all fun r => ks.all fun k => !r.isSlot k) = true then _ else _)
  rw [← allSlotR ks hk]
  refine .ite (fun _ => ?_) fun _ => .fail
  refine (moOwnedL ks).bindE fun _ => (moLookL h).bindE fun ds => ?_
  refine .ite (fun _ => ?_) fun _ => .fail
  cases q : T.run f ds with
  | none => exact .fail
  | some r =>
    obtain ⟨r', q', hr⟩ := hT.run f ds r q
    rw [q']
    cases r with
    | ret fl d fin =>
      cases r' with
      | exc _ _ => exact hr.elim
      | ret fl' d' fin' =>
        obtain ⟨rfl, hf, rfl⟩ := hr
        dsimp only
        refine .ite (fun _ => ?_) fun _ => .fail
        refine (moPutBack ks fin).bindE fun _ => ?_
        rcases hf with rfl | ⟨h1, rfl, rfl⟩
        · refine .ite (fun _ => MR.pure (RefR.refl _)) fun _ => (moFreezeL hk).bindE fun _ => MR.pure (RefR.refl _)
        · rw [h1.1]
          exact MR.pure ⟨rfl, .inr ⟨h1, rfl, rfl⟩⟩
    | exc c fin =>
      cases r' with
      | ret _ _ _ => exact hr.elim
      | exc c' fin' =>
        obtain ⟨rfl, rfl⟩ := hr
        dsimp only
        exact .ite (fun _ => (moPutBack ks fin).bindE fun _ => moExcM c) fun _ => .fail
end Om

/-! Sy2: monotone: statements, functions, tables. -/
namespace Om
open PySem PySem.Spec PyProof.Rows L2

theorem moHasK (k : Nat) : MR Eq (hasK k) (hasK k) := fun p g hs x e => by
  unfold hasK at e ⊢
  cases q : p.sl[k]? with
  | none => rw [q] at e; cases e
  | some s =>
    cases s with
    | none => rw [q] at e; cases e
    | some md =>
      rw [q] at e
      obtain ⟨m', q', _⟩ := hs.get q
      rw [q']; cases e; exact ⟨_, rfl, rfl, hs⟩
theorem moChkP (k : Nat) (is : List Int) : MR Eq (chkP k is) (chkP k is) := fun p g hs x e => by
  unfold chkP at e ⊢
  cases q : p.sl[k]? with
  | none => rw [q] at e; cases e
  | some s =>
    cases s with
    | none => rw [q] at e; cases e
    | some md =>
      obtain ⟨m, d⟩ := md
      rw [q] at e
      obtain ⟨m', q', _⟩ := hs.get q
      rw [q']
      dsimp only at e ⊢
      split at e
      · cases e; exact ⟨_, rfl, rfl, hs⟩
      · cases e; exact ⟨_, rfl, rfl, hs⟩
      · cases e
theorem enL {es es' : List (Bool × D)} (h : All2 EnR es es') : es.map (·.2) = es'.map (·.2) ∧ es.all fresh = es'.all fresh ∧ es.length = es'.length ∧ es.all (fun e => e.2.noL && e.2.noC) = es'.all (fun e => e.2.noL && e.2.noC) := by
  induction h with
  | nil => exact ⟨rfl, rfl, rfl, rfl⟩
  | @cons a b as bs hab _ ih =>
    obtain ⟨h1, h2⟩ := hab
    obtain ⟨i1, i2, i3, i4⟩ := ih
    refine ⟨by rw [List.map_cons, List.map_cons, i1, h1], ?_, by rw [List.length_cons, List.length_cons, i3], by rw [List.all_cons, List.all_cons, i4, h1]⟩
    rw [List.all_cons, List.all_cons, i2]
    congr 1
    unfold fresh
    rcases h2 with h2 | ⟨⟨h2, _⟩, _, _⟩
    · rw [h2, h1]
    · rw [← h1, h2, Bool.or_true, Bool.or_true]
theorem moMutSlot (m : Mu) (k : Nat) (is : List Int) {es es' : List (Bool × D)} (h : All2 EnR es es') : MR RefR (mutSlot m k is es) (mutSlot m k is es') := fun p g hs x e => by
  obtain ⟨h1, h2, _, h4⟩ := enL h
  obtain ⟨gsl, gce⟩ := g
  have hce : p.ce = gce := hs.ce
  subst hce
  unfold mutSlot at e ⊢
  rw [← h1, ← h2, ← h4]
  cases q : p.sl[k]? with
  | none => rw [q] at e; cases e
  | some s =>
    cases s with
    | none => rw [q] at e; cases e
    | some md =>
      obtain ⟨mo, d⟩ := md
      rw [q] at e
      obtain ⟨mo', q', hm⟩ := hs.get q
      rw [q']
      dsimp only at e ⊢
      split at e
      · rename_i ds qa
        split at e
        · rename_i hc
          have ho : mo = .ow := by
            have := (Bool.and_eq_true _ _ ▸ hc).1
            exact of_decide_eq_true this
          subst ho
          have : mo' = .ow := by
            rcases hm with rfl | ⟨_, h, _⟩
            · rfl
            · cases h
          subst this
          rw [if_pos hc]
          split at e
          · split at e
            · cases e
              exact ⟨_, rfl, RefR.refl _, hs.set k (SlR.refl _)⟩
            · cases e
          · cases e
        · cases e
      · rename_i n qa
        split at e
        · rename_i ds qc
          split at e
          · rename_i hc
            rw [if_pos hc]
            split at e
            · cases e
              exact ⟨_, rfl, RefR.refl _, hs.ces _⟩
            · cases e
          · cases e
        · cases e
      · cases e
theorem moLockIn {α : Type} {R : α → α → Prop} (k : Nat) {m m' : M α} (h : MR R m m') : MR R (lockIn k m) (lockIn k m') := fun p g hs x e => by
  unfold lockIn at e ⊢
  cases q : p.sl[k]? with
  | none => rw [q] at e; cases e
  | some s =>
    cases s with
    | none => rw [q] at e; cases e
    | some md =>
      obtain ⟨mo, d⟩ := md
      rw [q] at e
      obtain ⟨mo', q', hm⟩ := hs.get q
      rw [q']
      cases mo <;> try (cases e; done)
      have : mo' = .ow := by
        rcases hm with rfl | ⟨_, h, _⟩
        · rfl
        · cases h
      subst this
      dsimp only at e ⊢
      have hs2 : SgR { p with sl := p.sl.set k (some (.lk, d)) } { g with sl := g.sl.set k (some (.lk, d)) } := hs.set k (SlR.refl _)
      have un : ∀ (f f' : Sg → Res α) (p2 g2 : Sg), SgR p2 g2 → (∀ a b, SgR a b → ResR R (f a) (f' b)) → ∀ r, unl k f p2 = some r → ∃ r', unl k f' g2 = some r' ∧ ResR R r r' := fun f f' p2 g2 h2 hf r er => by
        unfold unl at er ⊢
        cases z : p2.sl[k]? with
        | none => rw [z] at er; cases er
        | some s =>
          cases s with
          | none => rw [z] at er; cases er
          | some md =>
            obtain ⟨mo, d⟩ := md
            rw [z] at er
            obtain ⟨mo', z', hm⟩ := h2.get z
            rw [z']
            cases mo <;> try (cases er; done)
            have : mo' = .lk := by
              rcases hm with rfl | ⟨_, h, _⟩
              · rfl
              · cases h
            subst this
            cases er
            exact ⟨_, rfl, hf _ _ (h2.set k (SlR.refl _))⟩
      cases z : m { p with sl := p.sl.set k (some (.lk, d)) } with
      | none => rw [z] at e; cases e
      | some y =>
        obtain ⟨y', z', hy⟩ := h _ _ hs2 y z
        rw [z'] ; rw [z] at e
        cases y with
        | ok a p2 =>
          cases y' with
          | exc _ _ => exact hy.elim
          | ok a' g2 => exact un (.ok a) (.ok a') p2 g2 hy.2 (fun u v huv => ⟨hy.1, huv⟩) x e
        | exc c p2 =>
          cases y' with
          | ok _ _ => exact hy.elim
          | exc c' g2 => exact un (.exc c) (.exc c') p2 g2 hy.2 (fun u v huv => ⟨hy.1, huv⟩) x e
theorem moLockO {α : Type} {R : α → α → Prop} (k : Option Nat) {m m' : M α} (h : MR R m m') : MR R (lockO k m) (lockO k m') := by
  cases k with
  | none => exact h
  | some k => exact moLockIn k h
theorem moWipeS (ks : List Nat) : ∀ {p g : Sg}, SgR p g → SgR (wipeS ks p) (wipeS ks g) := by
  induction ks with
  | nil => exact fun h => h
  | cons k ks ih =>
    intro p g h
    exact (ih h).set k (s := none) (s' := none) trivial
theorem getD_R {p g : Sg} (h : SgR p g) (k : Nat) : SlR ((p.sl[k]?).getD none) ((g.sl[k]?).getD none) := by
  cases q : p.sl[k]? with
  | none => trivial
  | some s =>
    obtain ⟨s', q', r⟩ := h.at_ k s q
    rw [q']; exact r
theorem moMerge (ks : List Nat) {p0 g0 : Sg} (h0 : SgR p0 g0) : ∀ {p g : Sg}, SgR p g → SgR { p with sl := mergeL p0.sl p.sl ks } { g with sl := mergeL g0.sl g.sl ks } := by
  induction ks with
  | nil => exact fun h => h
  | cons k ks ih =>
    intro p g h
    exact (ih h).set k (getD_R h0 k)
theorem moWiping {α : Type} {R : α → α → Prop} (b : Bool) (ks : List Nat) {m m' : M α} (h : MR R m m') : MR R (wiping b ks m) (wiping b ks m') := by
  cases b with
  | false => exact h
  | true =>
    intro p g hs x e
    unfold wiping at e ⊢
    rw [if_pos rfl] at e ⊢
    cases z : m p with
    | none => rw [z] at e; cases e
    | some y =>
      obtain ⟨y', z', hy⟩ := h p g hs y z
      rw [z']; rw [z] at e
      cases y <;> cases y' <;> try (exact hy.elim)
      · cases e; exact ⟨_, rfl, hy.1, moWipeS ks hy.2⟩
      · cases e; exact ⟨_, rfl, hy.1, moWipeS ks hy.2⟩
theorem moSimM (e : E) : MR Eq (simM e) (simM e) := fun p g hs x er => by
  unfold simM at er ⊢
  cases q : simD e p with
  | none => rw [q] at er; cases er
  | some d =>
    have q' : simD e g = some d := by
      unfold simD at q ⊢
      split at q <;> try (exact q)
      rename_i k
      cases z : p.sl[k]? with
      | none => rw [z] at q; cases q
      | some s =>
        cases s with
        | none => rw [z] at q; cases q
        | some md =>
          rw [z] at q
          obtain ⟨_, z', _⟩ := hs.get z
          rw [z']; exact q
    rw [q'] ; rw [q] at er
    cases er
    exact ⟨_, rfl, rfl, hs⟩
theorem pla_tup {ds : List D} (h : (D.tup ds).pla) : ∀ d ∈ ds, d.pla := fun d hd => ⟨D.noLL_iff.mp h.1 d hd, D.noCL_iff.mp h.2 d hd⟩
mutual
theorem moAsgG : ∀ (G : G) (m m' : Mo) (d : D), MoR d m m' → MR Eq (asgG G (m, d)) (asgG G (m', d))
  | .name k, m, m', d, h => moSetSlot k ⟨rfl, h⟩
  | .tup gs, m, m', .tup ds, h => moAsgGs gs m m' ds fun d hd => by
    rcases h with rfl | ⟨h1, h2, h3⟩
    · exact .inl rfl
    · exact .inr ⟨pla_tup h1 d hd, h2, h3⟩
  | .tup gs, m, m', .lst ds, h => by
    unfold asgG
    exact .ite (fun _ => moAsgGs gs .sh .sh ds fun _ _ => .inl rfl) fun _ => .fail
  | .tup _, _, _, .non, _ | .tup _, _, _, .bl _, _ | .tup _, _, _, .int _, _ | .tup _, _, _, .str _, _ | .tup _, _, _, .scr _, _ | .tup _, _, _, .cell _, _ => .fail
theorem moAsgGs : ∀ (gs : Gs) (m m' : Mo) (ds : List D), (∀ d ∈ ds, MoR d m m') → MR Eq (asgGs gs m ds) (asgGs gs m' ds)
  | .nil, _, _, [], _ => MR.pure rfl
  | .nil, _, _, _ :: _, _ => .fail
  | .cons _ _, _, _, [], _ => .fail
  | .cons g gs, m, m', d :: ds, h => (moAsgG g m m' d (h d List.mem_cons_self)).bindE fun _ => moAsgGs gs m m' ds fun d' hd' => h d' (List.mem_cons_of_mem _ hd')
end
theorem moNoX {α : Type} {R : α → α → Prop} {m m' : M α} (h : MR R m m') : MR R (noX m) (noX m') := fun p g hs x e => by
  unfold noX at e ⊢
  cases z : m p with
  | none => rw [z] at e; cases e
  | some y =>
    obtain ⟨y', z', hy⟩ := h p g hs y z
    rw [z']; rw [z] at e
    cases y <;> cases y' <;> try (exact hy.elim)
    · cases e; exact ⟨_, rfl, hy⟩
    · cases e
theorem moCompL (own : List Nat) (G : G) (mo : Mo) {c c' : M Bool} {e e' : M Ref} (hc : MR Eq c c') (he : MR RefR e e') : ∀ ds : List D, MR (All2 EnR) (compL own G mo c e ds) (compL own G mo c' e' ds)
  | [] => MR.pure .nil
  | d :: ds => fun p g hs => by
    have key : MR (All2 EnR) (M.bind (asgG G (mo, d)) fun _ => M.bind (noX c) fun b => if b then M.bind (noX (M.bind e fun r => M.bind (stab r) force)) fun x => M.bind (compL own G mo c e ds) fun xs => M.pure (x :: xs) else compL own G mo c e ds)
        (M.bind (asgG G (mo, d)) fun _ => M.bind (noX c') fun b => if b then M.bind (noX (M.bind e' fun r => M.bind (stab r) force)) fun x => M.bind (compL own G mo c' e' ds) fun xs => M.pure (x :: xs) else compL own G mo c' e' ds) := by
      refine (moAsgG G mo mo d (.inl rfl)).bindE fun _ => (moNoX hc).bindE fun b => .ite (fun _ => ?_) fun _ => moCompL own G mo hc he ds
      exact (moNoX (he.bind fun _ _ h => (moStab h).bind fun _ _ h => moForce h)).bind fun _ _ hx => (moCompL own G mo hc he ds).bind fun _ _ hxs => MR.pure (.cons hx hxs)
    have e1 : ∀ (c : M Bool) (e : M Ref) (g : Sg), compL own G mo c e (d :: ds) g = (M.bind (asgG G (mo, d)) fun _ => M.bind (noX c) fun b => if b then M.bind (noX (M.bind e fun r => M.bind (stab r) force)) fun x => M.bind (compL own G mo c e ds) fun xs => M.pure (x :: xs) else compL own G mo c e ds) (wipeS own g) := by
      intro c e g
      rw [compL]
      rfl
    rw [e1, e1]
    exact key _ _ (moWipeS own hs)
theorem moCompM (own : List Nat) (G : G) (mo : Mo) {c c' : M Bool} {e e' : M Ref} (hc : MR Eq c c') (he : MR RefR e e') (ds : List D) : MR (All2 EnR) (compM own G mo c e ds) (compM own G mo c' e' ds) := fun p g hs x er => by
  unfold compM at er ⊢
  cases z : compL own G mo c e ds p with
  | none => rw [z] at er; cases er
  | some y =>
    obtain ⟨y', z', hy⟩ := moCompL own G mo hc he ds p g hs y z
    rw [z']; rw [z] at er
    cases y <;> cases y' <;> try (exact hy.elim)
    · cases er; exact ⟨_, rfl, hy.1, moMerge own hs hy.2⟩
    · cases er
theorem moWalkK (k : Nat) (is : List Int) : MR Eq (walkK k is) (walkK k is) := fun p g hs x e => by
  unfold walkK at e ⊢
  cases q : p.sl[k]? with
  | none => rw [q] at e; cases e
  | some s =>
    cases s with
    | none => rw [q] at e; cases e
    | some md =>
      obtain ⟨m, d⟩ := md
      rw [q] at e
      obtain ⟨m', q', hm⟩ := hs.get q
      rw [q']
      dsimp only at e ⊢
      split at e
      · cases e
        refine ⟨_, rfl, ?_, hs⟩
        rcases hm with rfl | ⟨h1, _, _⟩
        · rfl
        · rw [h1.1]; rfl
      · cases e
theorem moTakeOut {r r' : Ref} (hr : RefR r r') : MR Eq (takeOut r) (takeOut r') := by
  cases r <;> cases r' <;> try (exact hr.elim)
  · cases hr; exact moWalkK _ _
  · obtain ⟨rfl, rfl⟩ := hr; exact moWalkK _ _
  · obtain ⟨rfl, _⟩ := hr; exact (MR.ofE _).bindE fun ds => MR.pure rfl
theorem moAsPlace (i : Int) (d : D) : MR Eq (d.asPlace i) (d.asPlace i) := by
  cases d <;> first | exact MR.pure rfl | exact MR.fail
theorem moPlace2 (i : Int) (as : A) : MR Eq (as.place2 i) (as.place2 i) := by
  unfold A.place2
  split
  · exact MR.pure rfl
  · exact .ite (fun _ => (moSimM _).bindE fun d => moAsPlace i d) fun _ => .fail
  · exact .fail
theorem moForL {f f' : D → M Ctl} (h : ∀ d, MR CtlR (f d) (f' d)) : ∀ ds : List D, MR CtlR (forL f ds) (forL f' ds)
  | [] => MR.pure trivial
  | d :: ds => (h d).bind fun a a' ha => by
    cases a <;> cases a' <;> try (exact ha.elim)
    · exact moForL h ds
    · exact MR.pure ha
theorem moWhileL {c c' : M Bool} {b b' : M Ctl} (hc : MR Eq c c') (hb : MR CtlR b b') : ∀ n : Nat, MR CtlR (whileL c b n) (whileL c' b' n)
  | 0 => .fail
  | n + 1 => hc.bindE fun t => .ite (fun _ => hb.bind fun a a' ha => by
    cases a <;> cases a' <;> try (exact ha.elim)
    · exact moWhileL hc hb n
    · exact MR.pure ha) fun _ => MR.pure trivial
theorem moMoveR {r r' : Ref} (hr : RefR r r') : MR EnR (moveR r) (moveR r') := fun p g hs x e => by
  match r, r', hr with
  | .slot k, .slot _, rfl =>
    unfold moveR at e ⊢
    dsimp only at e ⊢
    cases q : p.sl[k]? with
    | none => rw [q] at e; cases e
    | some s =>
      cases s with
      | none => rw [q] at e; cases e
      | some md =>
        obtain ⟨m, d⟩ := md
        rw [q] at e
        obtain ⟨m', q', hm⟩ := hs.get q
        rw [q']
        cases m <;> try (cases e; done)
        have : m' = .ow := by
          rcases hm with rfl | ⟨_, h, _⟩
          · rfl
          · cases h
        subst this
        cases e
        exact ⟨_, rfl, EnR.refl _, hs.set k (SlR.refl _)⟩
  | .path _ _, .path _ _, ⟨rfl, rfl⟩ => cases e
  | .tmp _ _, .tmp _ _, ⟨rfl, hf⟩ => cases e; exact ⟨_, rfl, ⟨rfl, hf⟩, hs⟩
theorem moMoveL : ∀ {rs rs' : List Ref}, All2 RefR rs rs' → MR (All2 EnR) (moveL rs) (moveL rs')
  | _, _, .nil => MR.pure .nil
  | _, _, .cons h hs => (moMoveR h).bind fun _ _ hx => (moMoveL hs).bind fun _ _ hy => MR.pure (.cons hx hy)
theorem moUnpk (G : G) {r r' : Ref} (hr : RefR r r') : MR EnR (unpk G r) (unpk G r') := by
  cases G with
  | name k => exact (moStab hr).bind fun _ _ h => moForce h
  | tup gs =>
    exact (moLook hr).bindE fun d => .ite (fun _ => MR.pure (EnR.refl _)) fun _ => (moStab hr).bind fun _ _ h => moForce h
theorem atI_memS {α : Type} {ds : List α} {i : Int} {v : α} (h : atI ds i = some v) : v ∈ ds := by
  unfold atI at h
  revert h
  cases ixN ds.length i with
  | none => intro h; cases h
  | some j => intro h; exact List.mem_of_getElem? h
theorem pla_items {d v : D} {ds : List D} {i : Int} (hd : d.pla) (hi : d.items = some ds) (hv : atI ds i = some v) : v.noL = true := by
  cases d <;> try (cases hi; done)
  · cases hi
    obtain ⟨z, _, rfl⟩ := List.mem_map.mp (atI_memS hv)
    rfl
  · cases hi; exact (pla_tup hd v (atI_memS hv)).1
  · exact absurd hd.1 (by rw [D.noL]; decide)
end Om

/-! Sy3: monotone: the whole language. -/
namespace Om
open PySem PySem.Spec PyProof.Rows L2

section
variable {T T' : Tab}
theorem moDecellI (d : D) {α : Type} {Q : α → α → Prop} {k k' : D → M α} (hk : ∀ x, (∀ ds, d.noC = true → x.items = some ds → d.items = some ds) → MR Q (k x) (k' x)) : MR Q (M.bind (decell d) k) (M.bind (decell d) k') := by
  by_cases hd : d.noC = true
  · have e : decell d = M.pure d := by
      cases d <;> first | rfl | (rw [D.noC] at hd; cases hd)
    rw [e]
    exact hk d fun ds _ h => h
  · exact (moDecell d).bindE fun x => hk x fun ds h => absurd h hd
theorem moIx {r r' : Ref} (hr : RefR r r') {k : Int} {d0 : D} (h0 : ∀ fl d, r = .tmp fl d → d = d0) {α : Type} : MR RefR (M.bind (decell d0) fun d => M.bind (M.of d.items) fun ds => M.bind (M.of (atI ds k)) fun v => itemOf r k v) (M.bind (decell d0) fun d => M.bind (M.of d.items) fun ds => M.bind (M.of (atI ds k)) fun v => itemOf r' k v) := by
  refine moDecellI d0 fun x hx => ?_
  refine MR.bind (R := fun a b => a = b ∧ x.items = some a) (.of fun a h => ⟨a, h, rfl, h⟩) fun ds ds' hds => ?_
  obtain ⟨rfl, hi⟩ := hds
  refine MR.bind (R := fun a b => a = b ∧ atI ds k = some a) (.of fun a h => ⟨a, h, rfl, h⟩) fun v v' hv => ?_
  obtain ⟨rfl, hv⟩ := hv
  refine moItemOf hr k v fun fl d e hd => ?_
  have := h0 fl d e
  subst this
  exact pla_items hd (hx ds hd.2 hi) hv
mutual
theorem moR (hT : TabR T T') : ∀ e : E, MR RefR (evR T e) (evR T' e)
  | .var k => by rw [evR, evR]; exact moReadVar k
  | .non => by rw [evR, evR]; exact MR.pure (RefR.refl _)
  | .bl b => by rw [evR, evR]; exact MR.pure (RefR.refl _)
  | .int i => by rw [evR, evR]; exact MR.pure (RefR.refl _)
  | .str s => by rw [evR, evR]; exact MR.pure (RefR.refl _)
  | .glob x => by
    rw [evR, evR, ← hT.glob]
    exact (MR.ofE _).bindE fun d => .ite (fun _ => MR.pure (RefR.refl _)) fun _ => .fail
  | .bop op a b => by
    rw [evR, evR]
    exact (moR hT a).bind fun _ _ ha => (moStab ha).bind fun _ _ h1 => (moR hT b).bind fun _ _ h2 => (moPeek h1).bindE fun x => (moPeek h2).bindE fun y => (MR.ofE _).bindE fun d => MR.pure (RefR.refl _)
  | .neg a => by
    rw [evR, evR]
    exact (moR hT a).bind fun _ _ ha => (moAsI ha).bindE fun i => MR.pure (RefR.refl _)
  | .not a => by
    rw [evR, evR]
    exact (moR hT a).bind fun _ _ ha => (moAsB ha).bindE fun i => MR.pure (RefR.refl _)
  | .and a b => by
    rw [evR, evR]
    exact (moR hT a).bind fun _ _ ha => (moAsB ha).bindE fun c => .ite (fun _ => moR hT b) fun _ => MR.pure (RefR.refl _)
  | .or a b => by
    rw [evR, evR]
    exact (moR hT a).bind fun _ _ ha => (moAsB ha).bindE fun c => .ite (fun _ => MR.pure (RefR.refl _)) fun _ => moR hT b
  | .cmp op a b => by
    rw [evR, evR]
    refine .ite (fun _ => ?_) fun _ => ?_
    · exact (moR hT a).bind fun _ _ ha => (moPeekD ha).bindE fun x => (moSimM b).bindE fun y => (moDeep y).bindE fun z => (MR.ofE _).bindE fun d => MR.pure (RefR.refl _)
    · exact (moR hT a).bind fun _ _ ha => (moStab ha).bind fun _ _ h1 => (moR hT b).bind fun _ _ h2 => (moPeekD h1).bindE fun x => (moPeekD h2).bindE fun y => (MR.ofE _).bindE fun d => MR.pure (RefR.refl _)
  | .chain o1 o2 a b c => by
    rw [evR, evR]
    exact (moR hT a).bind fun _ _ ha => (moAsI ha).bindE fun i => (moR hT b).bind fun _ _ hb => (moAsI hb).bindE fun j => (MR.ofE _).bindE fun d => .ite (fun _ => (moR hT c).bind fun _ _ hc => (moAsI hc).bindE fun k => (MR.ofE _).bindE fun d => MR.pure (RefR.refl _)) fun _ => MR.pure (RefR.refl _)
  | .isN pos a => by
    rw [evR, evR]
    exact (moR hT a).bind fun _ _ ha => (moLook ha).bindE fun d => MR.pure (RefR.refl _)
  | .isB pos b a => by
    rw [evR, evR]
    exact (moR hT a).bind fun _ _ ha => (moAsB ha).bindE fun c => MR.pure (RefR.refl _)
  | .tup as => by
    rw [evR, evR]
    refine (moA hT as).bind fun _ _ ha => (moForceL ha).bind fun es es' he => ?_
    obtain ⟨h1, h2, h3, _⟩ := enL he
    rw [← h1, ← h2, ← h3]
    exact .ite (fun _ => MR.pure (RefR.refl _)) fun _ => .fail
  | .lst as => by
    rw [evR, evR]
    refine (moA hT as).bind fun _ _ ha => (moForceL ha).bind fun es es' he => ?_
    obtain ⟨h1, h2, h3, _⟩ := enL he
    rw [← h1, ← h2, ← h3]
    exact .ite (fun _ => MR.pure (RefR.refl _)) fun _ => .fail
  | .newc as => by
    rw [evR, evR]
    refine (moA hT as).bind fun _ _ ha => (moForceL ha).bind fun es es' he => ?_
    obtain ⟨h1, h2, h3, h4⟩ := enL he
    rw [← h1, ← h3, ← h4]
    refine .ite (fun _ => ?_) fun _ => .fail
    intro p g hs x e
    cases e
    rw [hs.ce]
    exact ⟨_, rfl, RefR.refl _, hs.ces _⟩
  | .ix a i => by
    rw [evR, evR]
    refine .ite (fun _ => ?_) fun _ => ?_
    · refine (moR hT a).bind fun r r' hr => ?_
      show MR RefR (M.bind (M.bind (look r) decell) _) (M.bind (M.bind (look r') decell) _)
      have as : ∀ {α β γ : Type} (m : M α) (k : α → M β) (l : β → M γ), M.bind (M.bind m k) l = M.bind m fun a => M.bind (k a) l := by
        intro α β γ m k l
        funext g
        unfold M.bind
        cases m g with
        | none => rfl
        | some x => cases x <;> rfl
      rw [as, as]
      intro p g hs x e
      have key : ∀ d0, (∀ fl d, r = .tmp fl d → d = d0) → MR RefR (M.bind (decell d0) fun d => M.bind (simM i) fun q => match q with
          | .int k => M.bind (M.of d.items) fun ds => M.bind (M.of (atI ds k)) fun v => itemOf r k v
          | _ => M.fail) (M.bind (decell d0) fun d => M.bind (simM i) fun q => match q with
          | .int k => M.bind (M.of d.items) fun ds => M.bind (M.of (atI ds k)) fun v => itemOf r' k v
          | _ => M.fail) := fun d0 h0 => by
        refine moDecellI d0 fun x hx => (moSimM i).bindE fun q => ?_
        cases q <;> try (exact MR.fail)
        rename_i k
        refine MR.bind (R := fun a b => a = b ∧ x.items = some a) (.of fun a h => ⟨a, h, rfl, h⟩) fun ds ds' hds => ?_
        obtain ⟨rfl, hi⟩ := hds
        refine MR.bind (R := fun a b => a = b ∧ atI ds k = some a) (.of fun a h => ⟨a, h, rfl, h⟩) fun v v' hv => ?_
        obtain ⟨rfl, hv⟩ := hv
        refine moItemOf hr k v fun fl d e hd => ?_
        have := h0 fl d e
        subst this
        exact pla_items hd (hx ds hd.2 hi) hv
      unfold look at e
      unfold M.bind at e
      dsimp only at e
      cases z : r.get p with
      | none => rw [z] at e; cases e
      | some d0 =>
        rw [z] at e
        obtain ⟨x', e', hx'⟩ := key d0 (fun fl d hr0 => by subst hr0; cases z; rfl) p g hs x e
        refine ⟨x', ?_, hx'⟩
        have z' := Ref.getR hr hs z
        show M.bind (look r') _ g = _
        have : look r' g = some (.ok d0 g) := by unfold look; rw [z']
        rw [M.run_bind this]
        exact e'
    · refine (moR hT a).bind fun r0 r0' hr0 => (moStab hr0).bind fun r r' hr => (moR hT i).bind fun _ _ hi => (moAsI hi).bindE fun k => ?_
      show MR RefR (M.bind (M.bind (look r) decell) _) (M.bind (M.bind (look r') decell) _)
      have as : ∀ {α β γ : Type} (m : M α) (k : α → M β) (l : β → M γ), M.bind (M.bind m k) l = M.bind m fun a => M.bind (k a) l := by
        intro α β γ m k l
        funext g
        unfold M.bind
        cases m g with
        | none => rfl
        | some x => cases x <;> rfl
      rw [as, as]
      intro p g hs x e
      unfold look at e
      unfold M.bind at e
      dsimp only at e
      cases z : r.get p with
      | none => rw [z] at e; cases e
      | some d0 =>
        rw [z] at e
        obtain ⟨x', e', hx'⟩ := moIx (α := Unit) hr (k := k) (d0 := d0) (fun fl d hr0 => by subst hr0; cases z; rfl) p g hs x e
        refine ⟨x', ?_, hx'⟩
        have z' := Ref.getR hr hs z
        show M.bind (look r') _ g = _
        have : look r' g = some (.ok d0 g) := by unfold look; rw [z']
        rw [M.run_bind this]
        exact e'
  | .sl a lo hi => by
    rw [evR, evR]
    exact (moR hT a).bind fun _ _ ha => (moStab ha).bind fun _ _ h1 => (moO hT lo).bindE fun l => (moO hT hi).bindE fun h => (moPeek h1).bindE fun d => (MR.ofE _).bindE fun x => .ite (fun _ => MR.pure (RefR.refl _)) fun _ => (moForce h1).bind fun _ _ _ => MR.pure (RefR.refl _)
  | .call f as => by
    rw [evR, evR]
    exact (moA hT as).bind fun _ _ ha => moCallF hT f ha
  | .bcall b as => by
    rw [evR, evR]
    exact (moA hT as).bind fun _ _ ha => (moPeekL ha).bindE fun ds => (MR.ofE _).bindE fun x => MR.pure (RefR.refl _)
  | .lrng1 a => by
    rw [evR, evR]
    exact (moR hT a).bind fun _ _ ha => (moAsI ha).bindE fun n => .ite (fun _ => MR.pure (RefR.refl _)) fun _ => .fail
  | .lrng2 a b => by
    rw [evR, evR]
    exact (moR hT a).bind fun _ _ ha => (moAsI ha).bindE fun n => (moR hT b).bind fun _ _ hb => (moAsI hb).bindE fun m => .ite (fun _ => MR.pure (RefR.refl _)) fun _ => .fail
  | .isi a t => by
    rw [evR, evR]
    exact (moR hT a).bind fun _ _ ha => (moLook ha).bindE fun d => (MR.ofE _).bindE fun b => MR.pure (RefR.refl _)
  | .meth m o as => by
    rw [evR, evR]
    exact (moR hT o).bind fun _ _ ho => (moStab ho).bind fun _ _ h1 => (moLook h1).bindE fun d0 => .ite (fun _ => (moA hT as).bind fun _ _ ha => (moPeek h1).bindE fun d => (moPeekL ha).bindE fun ds => (MR.ofE _).bindE fun x => MR.pure (RefR.refl _)) fun _ => .fail
  | .mut m k path as => by
    rw [evR, evR]
    exact (moHasK k).bindE fun _ => (moP hT path).bindE fun is => (moChkP k is).bindE fun _ => (moLockIn k ((moA hT as).bind fun _ _ ha => moForceL ha)).bind fun es es' he => moMutSlot m k is he
  | .comp i g c e own => by
    rw [evR, evR]
    refine (moI hT i).bindE fun w => .ite (fun _ => (moLockO _ (moCompM own g _ (moC hT c) (moR hT e) _)).bind fun es es' he => ?_) fun _ => .fail
    obtain ⟨h1, h2, _, _⟩ := enL he
    rw [← h1, ← h2]
    exact MR.pure (RefR.refl _)
theorem moA (hT : TabR T T') : ∀ as : A, MR (All2 RefR) (evA T as) (evA T' as)
  | .nil => by rw [evA, evA]; exact MR.pure .nil
  | .cons e as => by
    rw [evA, evA]
    exact (moR hT e).bind fun _ _ he => (moStab he).bind fun _ _ h1 => (moA hT as).bind fun _ _ hs => MR.pure (.cons h1 hs)
theorem moP (hT : TabR T T') : ∀ as : A, MR Eq (evP T as) (evP T' as)
  | .nil => by rw [evP, evP]; exact MR.pure rfl
  | .cons e as => by
    rw [evP, evP]
    exact (moR hT e).bind fun _ _ he => (moAsI he).bindE fun i => moPlace2 i as
theorem moO (hT : TabR T T') : ∀ o : O, MR Eq (evO T o) (evO T' o)
  | .none => by rw [evO, evO]; exact MR.pure rfl
  | .some e => by
    rw [evO, evO]
    exact (moR hT e).bind fun _ _ he => (moAsI he).bindE fun i => MR.pure rfl
theorem moC (hT : TabR T T') : ∀ c : C, MR Eq (evC T c) (evC T' c)
  | .yes => by rw [evC, evC]; exact MR.pure rfl
  | .test e => by
    rw [evC, evC]
    exact (moR hT e).bind fun _ _ he => moAsB he
theorem moI (hT : TabR T T') : ∀ i : I, MR Eq (evI T i) (evI T' i)
  | .seq e => by
    rw [evI, evI]
    exact (moR hT e).bind fun _ _ he => moTakeOut he
  | .seqSl a lo hi => by
    rw [evI, evI]
    refine (moR hT a).bind fun _ _ ha => (moStab ha).bind fun _ _ h1 => (moO hT lo).bindE fun l => (moO hT hi).bindE fun h => (moLook h1).bindE fun d => .ite (fun _ => (moTakeOut h1).bindE fun w => MR.pure rfl) fun _ => (MR.ofE _).bindE fun x => (MR.ofE _).bindE fun ds => MR.pure rfl
  | .rng1 a => by
    rw [evI, evI]
    exact (moR hT a).bind fun _ _ ha => (moAsI ha).bindE fun n => .ite (fun _ => MR.pure rfl) fun _ => .fail
  | .rng2 a b => by
    rw [evI, evI]
    exact (moR hT a).bind fun _ _ ha => (moAsI ha).bindE fun n => (moR hT b).bind fun _ _ hb => (moAsI hb).bindE fun m => .ite (fun _ => MR.pure rfl) fun _ => .fail
  | .rng3 a b c => by
    rw [evI, evI]
    exact (moR hT a).bind fun _ _ ha => (moAsI ha).bindE fun n => (moR hT b).bind fun _ _ hb => (moAsI hb).bindE fun m => (moR hT c).bind fun _ _ hc => (moAsI hc).bindE fun k => .ite (fun _ => MR.pure rfl) fun _ => .fail
  | .enum e => by
    rw [evI, evI]
    refine (moR hT e).bind fun _ _ he => (moStab he).bind fun _ _ h1 => (moForce h1).bind fun x x' hx => ?_
    obtain ⟨x1, x2⟩ := x
    obtain ⟨y1, y2⟩ := x'
    have : x2 = y2 := hx.1
    subst this
    cases x2 <;> first | exact MR.fail | exact .ite (fun _ => MR.pure rfl) fun _ => .fail
  | .zip a b => by
    rw [evI, evI]
    refine (moR hT a).bind fun _ _ ha => (moStab ha).bind fun _ _ h1 => (moForce h1).bind fun x x' hx => (moR hT b).bind fun _ _ hb => (moStab hb).bind fun _ _ h2 => (moForce h2).bind fun y y' hy => ?_
    obtain ⟨x1, x2⟩ := x
    obtain ⟨_, _⟩ := x'
    obtain ⟨y1, y2⟩ := y
    obtain ⟨_, _⟩ := y'
    have e1 := hx.1
    have e2 := hy.1
    dsimp only at e1 e2
    subst e1; subst e2
    cases x2 <;> cases y2 <;> first | exact MR.fail | exact .ite (fun _ => MR.pure rfl) fun _ => .fail
end
theorem moPar2 (i j : Nat) {es es' : List (Bool × D)} (h : All2 EnR es es') : MR CtlR (par2 i j es) (par2 i j es') := by
  cases h with
  | nil => exact .fail
  | cons h1 t =>
    cases t with
    | nil => exact .fail
    | cons h2 t2 =>
      cases t2 with
      | cons _ _ => exact .fail
      | nil =>
        obtain ⟨e1, _⟩ := h1
        obtain ⟨e2, _⟩ := h2
        unfold par2
        dsimp only
        rw [← e1, ← e2]
        exact .ite (fun _ => (moAsgGs _ .sh .sh _ fun _ _ => .inl rfl).bindE fun _ => MR.pure trivial) fun _ => .fail
mutual
theorem moS (hT : TabR T T') : ∀ s : S, MR CtlR (evS T s) (evS T' s)
  | .asg g e => by
    rw [evS, evS]
    refine (moR hT e).bind fun _ _ he => (moUnpk g he).bind fun x x' hx => ?_
    refine MR.bindE ?_ fun _ => MR.pure trivial
    obtain ⟨h1, h2⟩ := hx
    rw [← h1]
    refine moAsgG g _ _ _ ?_
    rcases h2 with h2 | ⟨h2, h3, h4⟩
    · rw [h2]; exact .inl rfl
    · rw [h3, h4]; exact .inr ⟨h2, rfl, rfl⟩
  | .setix k i e => by
    rw [evS, evS]
    refine (moR hT e).bind fun _ _ he => (moStab he).bind fun _ _ h1 => (moForce h1).bind fun x x' hx => (moHasK k).bindE fun _ => (moR hT i).bind fun _ _ hi => (moAsI hi).bindE fun n => ?_
    intro p g hs y ey
    have hf : fresh x = fresh x' := by
      obtain ⟨h1, h2⟩ := hx
      unfold fresh
      rcases h2 with h2 | ⟨⟨h2, _⟩, _, _⟩
      · rw [h2, h1]
      · rw [← h1, h2, Bool.or_true, Bool.or_true]
    dsimp only at ey ⊢
    rw [← hf, ← hx.1]
    cases q : p.sl[k]? with
    | none => rw [q] at ey; cases ey
    | some s =>
      cases s with
      | none => rw [q] at ey; cases ey
      | some md =>
        obtain ⟨m, d⟩ := md
        rw [q] at ey
        obtain ⟨m', q', hm⟩ := hs.get q
        rw [q']
        cases m <;> try (cases ey; done)
        have : m' = .ow := by
          rcases hm with rfl | ⟨_, h, _⟩
          · rfl
          · cases h
        subst this
        cases d <;> try (cases ey; done)
        dsimp only at ey ⊢
        split at ey
        · rename_i hfr
          rw [if_pos hfr]
          split at ey
          · cases ey
            exact ⟨_, rfl, CtlR.refl _, hs.set k (SlR.refl _)⟩
          · cases ey
        · cases ey
  | .expr e => by
    rw [evS, evS]
    exact (moR hT e).bind fun _ _ _ => MR.pure trivial
  | .ret e => by
    rw [evS, evS]
    exact (moR hT e).bind fun _ _ he => (moStab he).bind fun _ _ h1 => (moMoveR h1).bind fun x x' hx => MR.pure ⟨hx.1, hx.2⟩
  | .retN => by rw [evS, evS]; exact MR.pure (CtlR.refl _)
  | .retT as => by
    rw [evS, evS]
    refine (moA hT as).bind fun _ _ ha => (moMoveL ha).bind fun es es' he => ?_
    obtain ⟨h1, h2, h3, _⟩ := enL he
    rw [← h1, ← h2, ← h3]
    exact .ite (fun _ => MR.pure (CtlR.refl _)) fun _ => .fail
  | .cond c b1 b2 => by
    rw [evS, evS]
    exact (moR hT c).bind fun _ _ hc => (moAsB hc).bindE fun b => .ite (fun _ => moBk hT b1) fun _ => moBk hT b2
  | .for g i b => by
    rw [evS, evS]
    exact (moI hT i).bindE fun w => moLockO _ (moWiping _ _ (moForL (fun d => (moAsgG g _ _ d (.inl rfl)).bindE fun _ => moBk hT b) _))
  | .while c b => by
    rw [evS, evS]
    exact moWhileL ((moR hT c).bind fun _ _ hc => moAsB hc) (moBk hT b) _
  | .raise c => by rw [evS, evS]; exact moExcM c
  | .pass => by rw [evS, evS]; exact MR.pure trivial
  | .shr k => by
    rw [evS, evS]
    exact (moFreeze k).bindE fun _ => MR.pure trivial
  | .tryx b c h => fun p g hs x e => by
    rw [evS] at e ⊢
    dsimp only at e ⊢
    cases z : evB T b p with
    | none => rw [z] at e; cases e
    | some y =>
      obtain ⟨y', z', hy⟩ := moBk hT b p g hs y z
      rw [z']; rw [z] at e
      cases y with
      | ok a p1 =>
        cases y' with
        | exc _ _ => exact hy.elim
        | ok a' g1 => cases e; exact ⟨_, rfl, hy⟩
      | exc c1 p1 =>
        cases y' with
        | ok _ _ => exact hy.elim
        | exc c2 g1 =>
          obtain ⟨rfl, h1⟩ := hy
          dsimp only at e ⊢
          split at e
          · rename_i hc
            rw [if_pos hc]
            exact moBk hT h p1 g1 h1 x e
          · cases e
  | .par i j as => by
    rw [evS, evS]
    exact (moA hT as).bind fun _ _ ha => (moForceL ha).bind fun es es' he => moPar2 i j he
theorem moBk (hT : TabR T T') : ∀ b : B, MR CtlR (evB T b) (evB T' b)
  | .nil => by rw [evB, evB]; exact MR.pure trivial
  | .cons s b => by
    rw [evB, evB]
    refine (moS hT s).bind fun a a' ha => ?_
    cases a <;> cases a' <;> try (exact ha.elim)
    · exact moBk hT b
    · exact MR.pure ha
end
end
end Om

/-! Sy4: functions, tables; what a block does. -/
namespace Om
open PySem PySem.Spec PyProof.Rows L2

theorem finOfR {p g : Sg} (h : SgR p g) : ∀ (ms : List Bool) (k : Nat) (fin : List D), finOf p.sl ms k = some fin → finOf g.sl ms k = some fin
  | [], _, _, e => e
  | false :: ms, k, fin, e => finOfR h ms (k + 1) fin e
  | true :: ms, k, fin, e => by
    rw [finOf.eq_def] at e ⊢
    dsimp only at e ⊢
    cases q : p.sl[k]? with
    | none => rw [q] at e; cases e
    | some s =>
      cases s with
      | none => rw [q] at e; cases e
      | some md =>
        obtain ⟨m, d⟩ := md
        rw [q] at e
        obtain ⟨m', q', hm⟩ := h.get q
        rw [q']
        cases m <;> try (cases e; done)
        have : m' = .ow := by
          rcases hm with rfl | ⟨_, h, _⟩
          · rfl
          · cases h
        subst this
        dsimp only at e ⊢
        cases z : finOf p.sl ms (k + 1) with
        | none => rw [z] at e; cases e
        | some f => rw [z] at e; rw [finOfR h ms (k + 1) f z]; exact e
theorem finCR {p g : Sg} (h : SgR p g) {ms : List Bool} {fin : List D} (e : finC p.sl ms = some fin) : finC g.sl ms = some fin := by
  unfold finC at e ⊢
  cases z : finOf p.sl ms 0 with
  | none => rw [z] at e; cases e
  | some f => rw [z] at e; rw [finOfR h ms 0 f z]; exact e
/-- a function's run, as what its body does tells it -/
theorem runF_R {T T' : Tab} (hT : TabR T T') (f : Df) (ds : List D) (r : FR) (e : runF T f ds = some r) : ∃ r', runF T' f ds = some r' ∧ FRR r r' := by
  unfold runF at e ⊢
  split at e
  · rename_i hc
    rw [if_pos hc]
    cases z : evB T f.body (start0 f ds) with
    | none => rw [z] at e; cases e
    | some y =>
      obtain ⟨y', z', hy⟩ := moBk hT f.body _ _ (SgR.refl _) y z
      rw [z']; rw [z] at e
      cases y with
      | ok a p =>
        cases y' with
        | exc _ _ => exact hy.elim
        | ok a' g =>
          obtain ⟨ha, hg⟩ := hy
          cases a with
          | nx =>
            cases a' with
            | rt _ _ => exact ha.elim
            | nx =>
              dsimp only at e ⊢
              cases w : finC p.sl f.mask with
              | none => rw [w] at e; cases e
              | some fin =>
                rw [w] at e; rw [finCR hg w]
                cases e
                exact ⟨_, rfl, FRR.refl _⟩
          | rt fl d =>
            cases a' with
            | nx => exact ha.elim
            | rt fl' d' =>
              obtain ⟨rfl, hf⟩ := ha
              dsimp only at e ⊢
              split at e
              · rename_i hn
                rw [if_pos hn]
                cases w : finC p.sl f.mask with
                | none => rw [w] at e; cases e
                | some fin =>
                  rw [w] at e; rw [finCR hg w]
                  cases e
                  exact ⟨_, rfl, rfl, hf, rfl⟩
              · cases e
      | exc c p =>
        cases y' with
        | ok _ _ => exact hy.elim
        | exc c' g =>
          obtain ⟨rfl, hg⟩ := hy
          dsimp only at e ⊢
          cases w : finC p.sl f.mask with
          | none => rw [w] at e; cases e
          | some fin =>
            rw [w] at e; rw [finCR hg w]
            cases e
            exact ⟨_, rfl, FRR.refl _⟩
  · cases e
/-- the told flag: a plain thing is told as shared -/
def FR.nrm : FR → FR
  | .ret fl d fin => .ret (fl && !(d.noL && d.noC)) d fin
  | .exc c fin => .exc c fin
theorem FR.nrm_R (r : FR) : FRR r.nrm r := by
  cases r with
  | exc _ _ => exact ⟨rfl, rfl⟩
  | ret fl d fin =>
    refine ⟨rfl, ?_, rfl⟩
    cases h : (d.noL && d.noC) with
    | false => left; simp
    | true =>
      cases fl
      · left; rfl
      · right; exact ⟨by rw [Bool.and_eq_true] at h; exact h, by simp, rfl⟩
theorem FR.nrm_eq {r r' : FR} (h : FRR r r') : r.nrm = r'.nrm := by
  cases r <;> cases r' <;> try (exact h.elim)
  · obtain ⟨rfl, h, rfl⟩ := h
    rcases h with rfl | ⟨⟨h1, h2⟩, rfl, rfl⟩
    · rfl
    · simp [FR.nrm, h1, h2]
  · obtain ⟨rfl, rfl⟩ := h; rfl
/-- the table, its flags as told -/
noncomputable def Pg.nt (P : Pg) (n : Nat) : Tab := ⟨fun f ds => ((P.tab n).run f ds).map FR.nrm, (P.tab n).mask, (P.tab n).glob⟩
theorem nt_R (P : Pg) (n : Nat) : TabR (P.nt n) (P.tab n) := ⟨fun f ds r e => by
  have e : ((P.tab n).run f ds).map FR.nrm = some r := e
  cases z : (P.tab n).run f ds with
  | none => rw [z] at e; cases e
  | some y => rw [z] at e; cases e; exact ⟨y, rfl, FR.nrm_R y⟩, rfl, rfl⟩
theorem tab_mask (P : Pg) (n : Nat) (f : Str) : (P.tab n).mask f = match P.defs.lookup f with
    | some d => d.mask
    | none => [] := by cases n <;> rfl
theorem nt_mask {P : Pg} {f : Str} {df : Df} (h : P.defs.lookup f = some df) (n : Nat) : (P.nt n).mask f = df.mask := by
  show (P.tab n).mask f = _
  rw [tab_mask, h]
theorem nt_glob (P : Pg) (n : Nat) (x : Str) : (P.nt n).glob x = P.glob.lookup x := by
  show (P.tab n).glob x = _
  rw [tab_glob]
/-- a function of the table, one level up -/
theorem nt_run {P : Pg} {f : Str} {df : Df} (h : P.defs.lookup f = some df) {n : Nat} {ds : List D} {r : FR} (e : runF (P.nt n) df ds = some r) : (P.nt (n + 1)).run f ds = some r.nrm := by
  obtain ⟨r', e', hr⟩ := runF_R (nt_R P n) df ds r e
  show ((P.tab (n + 1)).run f ds).map FR.nrm = _
  have : (P.tab (n + 1)).run f ds = runF (P.tab n) df ds := by
    show (match P.defs.lookup f with
    | some d => runF (P.tab n) d ds
    | none => none) = _
    rw [h]
  rw [this, e', FR.nrm_eq hr]; rfl
theorem tab_up (P : Pg) : ∀ n, TabR (P.tab n) (P.tab (n + 1))
  | 0 => ⟨fun f ds r e => (by cases e), (by funext f; rw [tab_mask, tab_mask]), (by rw [tab_glob, tab_glob])⟩
  | n + 1 => ⟨fun f ds r e => (by
      have e : (match P.defs.lookup f with
        | some d => runF (P.tab n) d ds
        | none => none) = some r := e
      show ∃ r', (match P.defs.lookup f with
        | some d => runF (P.tab (n + 1)) d ds
        | none => none) = some r' ∧ _
      cases z : P.defs.lookup f with
      | none => rw [z] at e; cases e
      | some df => rw [z] at e; exact runF_R (tab_up P n) df ds r e), (by funext f; rw [tab_mask, tab_mask]), (by rw [tab_glob, tab_glob])⟩
theorem nt_up {P : Pg} {f : Str} {ds : List D} {r : FR} : ∀ {n m : Nat}, n ≤ m → (P.nt n).run f ds = some r → (P.nt m).run f ds = some r := by
  intro n m h
  induction h with
  | refl => exact fun h => h
  | @step m _ ih =>
    intro h
    have e : ((P.tab m).run f ds).map FR.nrm = some r := ih h
    show ((P.tab (m + 1)).run f ds).map FR.nrm = some r
    cases z : (P.tab m).run f ds with
    | none => rw [z] at e; cases e
    | some y =>
      obtain ⟨y', z', hy⟩ := (tab_up P m).run f ds y z
      rw [z']; rw [z] at e
      cases e
      show some y'.nrm = some y.nrm
      rw [FR.nrm_eq hy]
/-- the law's end: from the table with told flags to the table -/
theorem nt_law {P : Pg} {f : Str} {ds : List D} {fl : Bool} {d : D} {fin : List D} {n : Nat} (h : (P.nt n).run f ds = some (.ret fl d fin)) : ∃ fl fin, (P.tab n).run f ds = some (.ret fl d fin) := by
  obtain ⟨r', e, hr⟩ := (nt_R P n).run f ds _ h
  cases r' with
  | exc _ _ => exact hr.elim
  | ret fl' d' fin' => obtain ⟨rfl, _, rfl⟩ := hr; exact ⟨_, _, e⟩

/-! ### what a block does -/
/-- from p the block goes on, or leaves with c; then the state says at least p' -/
def Do (T : Tab) (b : B) (p : Sg) (c : Ctl) (p' : Sg) : Prop := ∃ c' g', evB T b p = some (.ok c' g') ∧ CtlR c c' ∧ SgR p' g'
def DoS (T : Tab) (s : S) (p : Sg) (c : Ctl) (p' : Sg) : Prop := ∃ c' g', evS T s p = some (.ok c' g') ∧ CtlR c c' ∧ SgR p' g'
theorem TabR.refl (T : Tab) : TabR T T := ⟨fun _ _ r h => ⟨r, h, FRR.refl r⟩, rfl, rfl⟩
section
variable {T : Tab} {s : S} {b : B} {p p1 p' q : Sg} {c : Ctl}
theorem DoS.of (h : evS T s p = some (.ok c p')) : DoS T s p c p' := ⟨_, _, h, CtlR.refl _, SgR.refl _⟩
theorem Do.of (h : evB T b p = some (.ok c p')) : Do T b p c p' := ⟨_, _, h, CtlR.refl _, SgR.refl _⟩
theorem DoS.weak (h : DoS T s p c p1) (w : SgR p' p1) : DoS T s p c p' := by
  obtain ⟨c', g', e, h1, h2⟩ := h
  exact ⟨c', g', e, h1, w.trans h2⟩
theorem Do.weak (h : Do T b p c p1) (w : SgR p' p1) : Do T b p c p' := by
  obtain ⟨c', g', e, h1, h2⟩ := h
  exact ⟨c', g', e, h1, w.trans h2⟩
theorem Do.pre (h : Do T b p c p') (w : SgR p q) : Do T b q c p' := by
  obtain ⟨c', g', e, h1, h2⟩ := h
  obtain ⟨y, e2, hy⟩ := moBk (TabR.refl T) b p q w _ e
  cases y with
  | exc _ _ => exact hy.elim
  | ok c2 g2 => exact ⟨c2, g2, e2, h1.trans hy.1, h2.trans hy.2⟩
theorem DoS.pre (h : DoS T s p c p') (w : SgR p q) : DoS T s q c p' := by
  obtain ⟨c', g', e, h1, h2⟩ := h
  obtain ⟨y, e2, hy⟩ := moS (TabR.refl T) s p q w _ e
  cases y with
  | exc _ _ => exact hy.elim
  | ok c2 g2 => exact ⟨c2, g2, e2, h1.trans hy.1, h2.trans hy.2⟩
theorem Do.nil : Do T .nil p .nx p := .of (by rw [evB]; rfl)
/-- a statement that goes on, then the rest -/
theorem Do.cons (h : DoS T s p .nx p1) (hb : Do T b p1 c p') : Do T (.cons s b) p c p' := by
  obtain ⟨c', g', e, h1, h2⟩ := h
  cases c' with
  | rt _ _ => exact h1.elim
  | nx =>
    obtain ⟨c2, g2, e2, h3, h4⟩ := hb.pre h2
    exact ⟨c2, g2, by rw [evB_cons e]; exact e2, h3, h4⟩
/-- a statement that leaves -/
theorem Do.leave {fl : Bool} {d : D} (h : DoS T s p (.rt fl d) p') : Do T (.cons s b) p (.rt fl d) p' := by
  obtain ⟨c', g', e, h1, h2⟩ := h
  cases c' with
  | nx => exact h1.elim
  | rt fl' d' =>
    refine ⟨_, g', ?_, h1, h2⟩
    rw [evB]
    show M.bind (evS T s) _ p = _
    rw [M.run_bind e]; rfl
theorem Do.one (h : DoS T s p .nx p') : Do T (.cons s .nil) p .nx p' := .cons h .nil
end
/-- a function's run by what its body does -/
theorem runF_of {T : Tab} {f : Df} {ds : List D} {fl : Bool} {d : D} {p' : Sg} {fin : List D} (h0 : (decide (ds.length = f.np) && decide (f.mask.length = f.np) && decide (f.np ≤ f.ns) && D.noCL ds) = true) (h : Do T f.body (start0 f ds) (.rt fl d) p') (hn : d.noC = true) (hf : finC p'.sl f.mask = some fin) : ∃ fl', runF T f ds = some (.ret fl' d fin) ∧ FlR d fl fl' := by
  obtain ⟨c', g', e, h1, h2⟩ := h
  cases c' with
  | nx => exact h1.elim
  | rt fl' d' =>
    obtain ⟨rfl, h1⟩ := h1
    refine ⟨fl', ?_, h1⟩
    unfold runF
    rw [if_pos h0, e]
    dsimp only
    rw [if_pos hn, finCR h2 hf]; rfl
theorem runF_nx {T : Tab} {f : Df} {ds : List D} {p' : Sg} {fin : List D} (h0 : (decide (ds.length = f.np) && decide (f.mask.length = f.np) && decide (f.np ≤ f.ns) && D.noCL ds) = true) (h : Do T f.body (start0 f ds) .nx p') (hf : finC p'.sl f.mask = some fin) : runF T f ds = some (.ret true .non fin) := by
  obtain ⟨c', g', e, h1, h2⟩ := h
  cases c' with
  | rt _ _ => exact h1.elim
  | nx =>
    unfold runF
    rw [if_pos h0, e]
    dsimp only
    rw [finCR h2 hf]; rfl
/-- what a function gives, its flag as told -/
def Gives (T : Tab) (f : Df) (ds : List D) (fl : Bool) (d : D) (fin : List D) : Prop := ∃ r, runF T f ds = some r ∧ r.nrm = .ret fl d fin
theorem gives_of {T : Tab} {f : Df} {ds : List D} {fl fl' : Bool} {d : D} {p' : Sg} {fin : List D} (h : Do T f.body (start0 f ds) (.rt fl' d) p') (h0 : (decide (ds.length = f.np) && decide (f.mask.length = f.np) && decide (f.np ≤ f.ns) && D.noCL ds) = true) (hn : d.noC = true) (hf : finC p'.sl f.mask = some fin) (hfl : (fl' && !(d.noL && d.noC)) = fl) : Gives T f ds fl d fin := by
  obtain ⟨fl2, e, h2⟩ := runF_of h0 h hn hf
  refine ⟨_, e, ?_⟩
  rw [← FR.nrm_eq (r := .ret fl' d fin) (r' := .ret fl2 d fin) ⟨rfl, h2, rfl⟩, ← hfl]; rfl
theorem gives_nx {T : Tab} {f : Df} {ds : List D} {p' : Sg} {fin : List D} (h : Do T f.body (start0 f ds) .nx p') (h0 : (decide (ds.length = f.np) && decide (f.mask.length = f.np) && decide (f.np ≤ f.ns) && D.noCL ds) = true) (hf : finC p'.sl f.mask = some fin) : Gives T f ds false .non fin := ⟨_, runF_nx h0 h hf, rfl⟩
theorem Gives.up {P : Pg} {f : Str} {df : Df} (h : P.defs.lookup f = some df) {n : Nat} {ds : List D} {fl : Bool} {d : D} {fin : List D} (g : Gives (P.nt n) df ds fl d fin) : (P.nt (n + 1)).run f ds = some (.ret fl d fin) := by
  obtain ⟨r, e, hr⟩ := g
  rw [nt_run h e, hr]
end Om

/-! Wk1: expressions that change nothing: a value told by a plain function (pv), and that the interpreter tells the same. -/
namespace Om
open PySem PySem.Spec PyProof.Rows L2

/-- how a value is held: of its own, shared, in an owned slot -/
inductive Rk where
  | fr | sh | sl (k : Nat) (m : Mo)
def Rk.slot : Rk → Bool
  | .sl _ _ => true
  | _ => false
def Rk.isFr : Rk → Bool
  | .fr => true
  | _ => false
def Rk.of (b : Bool) : Rk := if b then .fr else .sh
def Rk.ref : Rk → D → Ref
  | .fr, d => .tmp true d
  | .sh, d => .tmp false d
  | .sl k _, _ => .slot k
def forceV : List (Rk × D) → Option (List (Bool × D))
  | [] => some []
  | (.fr, d) :: xs => (forceV xs).map ((true, d) :: ·)
  | (.sh, d) :: xs => (forceV xs).map ((false, d) :: ·)
  | (.sl _ _, _) :: _ => none
def D.bl? : D → Option Bool
  | .bl b => some b
  | _ => none
def D.int? : D → Option Int
  | .int b => some b
  | _ => none
/-- an item's holding -/
def Rk.item (v : D) : Rk → Option (Rk × D)
  | .fr => some (.fr, v)
  | .sh => some (if v.noL then .fr else .sh, v)
  | .sl _ _ => if v.noL then some (.fr, v) else none
/-- a thing read for an operation: a cell as its list -/
def rdV (g : Sg) : D → Option D
  | .cell n => (g.ce[n]?).map D.lst
  | d => some d
def rdL (g : Sg) : List (Rk × D) → Option (List D)
  | [] => some []
  | x :: xs => match rdV g x.2, rdL g xs with
    | some d, some ds => some (d :: ds)
    | _, _ => none
/-- a slot that is walked, locked -/
def lockV (o : Option Nat) (g : Sg) : Sg := match o with
  | none => g
  | some k => match g.sl[k]? with
    | some (some (_, d)) => { g with sl := g.sl.set k (some (.lk, d)) }
    | _ => g
/-- a comprehension's turns, of plain things -/
def compV (own : List Nat) (G : G) (mo : Mo) (g : Sg) (c : Sg → Option Bool) (e : Sg → Option (Rk × D)) : List D → Option (List D)
  | [] => some []
  | d :: ds => match asgG G (mo, d) (wipeS own g) with
    | some (.ok _ g1) => match c g1 with
      | some true => match e g1 with
        | some (k, x) => if x.noL || k.isFr then (compV own G mo g c e ds).map (x :: ·) else none
        | none => none
      | some false => compV own G mo g c e ds
      | none => none
    | _ => none
def walkV (k : Rk) (d : D) : Option Wk := match k with
  | .sl j m => d.items.map fun ds => (ds, if D.noLL ds then .sh else .lk, if m = .ow then some j else none)
  | _ => d.items.map fun ds => (ds, .sh, none)
def seqOf : D → Option (List D)
  | .lst ds => some ds
  | .tup ds => some ds
  | _ => none
/-- a plain item of an item of a slot's thing -/
def ixx (a i : E) (g : Sg) : Option (Rk × D) := match a with
  | .ix (.var k) e1 => match g.sl[k]?, simD e1 g, simD i g with
    | some (some (m, d0)), some (.int p), some (.int q) => if (e1.simple && i.simple && decide (m ≠ .sh) && !d0.noL) = true then match (seqOf d0).bind fun ds => atI ds p with
        | some v1 => if v1.noL = true then none else match (seqOf v1).bind fun xs => atI xs q with
          | some v => if v.noL = true then some (.fr, v) else none
          | none => none
        | none => none
      else none
    | _, _, _ => none
  | _ => none
mutual
noncomputable def pv (T : Tab) : E → Sg → Option (Rk × D)
  | .var k, g => match g.sl[k]? with
    | some (some (m, d)) => some (if d.noL || decide (m = .sh) then .sh else .sl k m, d)
    | _ => none
  | .non, _ => some (.fr, .non)
  | .bl b, _ => some (.fr, .bl b)
  | .int i, _ => some (.fr, .int i)
  | .str s, _ => some (.fr, .str s)
  | .glob x, _ => match T.glob x with
    | some d => if d.noL && d.noC then some (.fr, d) else none
    | none => none
  | .bop op a b, g => match pv T a g, pv T b g with
    | some (_, x), some (_, y) => match rdV g x, rdV g y with
      | some x, some y => (bopD op x y).map (Rk.fr, ·)
      | _, _ => none
    | _, _ => none
  | .neg a, g => match pv T a g with
    | some (_, .int i) => some (.fr, .int (-i))
    | _ => none
  | .not a, g => match pv T a g with
    | some (_, .bl i) => some (.fr, .bl (!i))
    | _ => none
  | .and a b, g => match pv T a g with
    | some (_, .bl i) => if i then pv T b g else some (.fr, .bl false)
    | _ => none
  | .or a b, g => match pv T a g with
    | some (_, .bl i) => if i then some (.fr, .bl true) else pv T b g
    | _ => none
  | .cmp op a b, g => match pv T a g, pv T b g with
    | some (_, x), some (_, y) => if x.noC && y.noC then (cmpD op x y).map fun t => (.fr, .bl t) else none
    | _, _ => none
  | .chain o1 o2 a b c, g => match pv T a g, pv T b g with
    | some (_, .int i), some (_, .int j) => match cmpD o1 (.int i) (.int j) with
      | some true => match pv T c g with
        | some (_, .int k) => (cmpD o2 (.int j) (.int k)).map fun t => (.fr, .bl t)
        | _ => none
      | some false => some (.fr, .bl false)
      | none => none
    | _, _ => none
  | .isN pos a, g => match pv T a g with
    | some (_, d) => some (.fr, .bl (d.isN pos))
    | _ => none
  | .isB pos b a, g => match pv T a g with
    | some (_, .bl c) => some (.fr, .bl (if pos then decide (c = b) else !decide (c = b)))
    | _ => none
  | .tup as, g => match (pvA T as g).bind forceV with
    | some es => if fits es.length then some (Rk.of (es.all fresh), .tup (es.map (·.2))) else none
    | none => none
  | .lst as, g => match (pvA T as g).bind forceV with
    | some es => if fits es.length then some (Rk.of (es.all fresh), .lst (es.map (·.2))) else none
    | none => none
  | .newc _, _ => none
  | .ix a i, g => match pv T a g, pv T i g with
    | some (ka, d), some (_, .int k) => match (rdV g d).bind fun d => d.items.bind fun ds => atI ds k with
      | some v => ka.item v
      | none => none
    | _, _ => ixx a i g
  | .sl a lo hi, g => match pv T a g, pvO T lo g, pvO T hi g with
    | some (ka, d), some l, some h => match (rdV g d).bind fun d => slD d l h with
      | some x => if x.flatItems then some (.fr, x) else if ka.slot then none else some (.sh, x)
      | none => none
    | _, _, _ => none
  | .call f as, g => match pvA T as g with
    | some xs => if decide (T.mask f = List.replicate xs.length false) && D.noCL (xs.map (·.2)) then match T.run f (xs.map (·.2)) with
        | some (.ret fl d []) => if d.noC && (fl || d.noL || xs.all (fun x => !x.1.slot)) then some (Rk.of fl, d) else none
        | _ => none
      else none
    | none => none
  | .bcall b as, g => match pvA T as g with
    | some xs => ((rdL g xs).bind fun ds => bcallD b ds).map (Rk.fr, ·)
    | none => none
  | .lrng1 a, g => match pv T a g with
    | some (_, .int n) => if range62 n && decide (n.toNat ≤ 2 ^ 24) then some (.fr, .lst (rngD 0 n)) else none
    | _ => none
  | .lrng2 a b, g => match pv T a g, pv T b g with
    | some (_, .int l), some (_, .int h) => if range62 l && range62 h && decide ((h - l).toNat ≤ 2 ^ 24) then some (.fr, .lst (rngD l h)) else none
    | _, _ => none
  | .isi a t, g => match pv T a g with
    | some (_, d) => (isiD t d).map fun b => (.fr, .bl b)
    | _ => none
  | .meth m o as, g => match pv T o g, pvA T as g with
    | some (_, d), some xs => if m.fit d then ((rdV g d).bind fun d => (rdL g xs).bind fun ds => methD m d ds).map (Rk.fr, ·) else none
    | _, _ => none
  | .mut _ _ _ _, _ => none
  | .comp i G c e own, g => match pvI T i g with
    | some w => if fits w.1.length && G.slots.all (own.contains ·) then
        (compV own G w.2.1 (lockV w.2.2 g) (pvC T c) (pv T e) w.1).map fun ds => (.fr, .lst ds)
      else none
    | none => none
noncomputable def pvA (T : Tab) : A → Sg → Option (List (Rk × D))
  | .nil, _ => some []
  | .cons e as, g => match pv T e g, pvA T as g with
    | some x, some xs => some (x :: xs)
    | _, _ => none
noncomputable def pvO (T : Tab) : O → Sg → Option (Option Int)
  | .none, _ => some none
  | .some e, g => match pv T e g with
    | some (_, .int i) => some (some i)
    | _ => none
noncomputable def pvC (T : Tab) : C → Sg → Option Bool
  | .yes, _ => some true
  | .test e, g => match pv T e g with
    | some (_, .bl i) => some i
    | _ => none
noncomputable def pvI (T : Tab) : I → Sg → Option Wk
  | .seq e, g => match pv T e g with
    | some (k, d) => walkV k d
    | none => none
  | .seqSl a lo hi, g => match pv T a g, pvO T lo g, pvO T hi g with
    | some (k, d), some l, some h => if d.isLst then (walkV k d).map fun w => (cutD w.1 l h, w.2.1, w.2.2) else
        ((slD d l h).bind D.items).map fun ds => (ds, .sh, none)
    | _, _, _ => none
  | .rng1 a, g => match pv T a g with
    | some (_, .int i) => if range62 i then some (rngD 0 i, .sh, none) else none
    | _ => none
  | .rng2 a b, g => match pv T a g, pv T b g with
    | some (_, .int i), some (_, .int j) => if range62 i && range62 j then some (rngD i j, .sh, none) else none
    | _, _ => none
  | .rng3 a b c, g => match pv T a g, pv T b g, pv T c g with
    | some (_, .int i), some (_, .int j), some (_, .int k) => if rng3Ok i j k then some (rng3D i j k, .sh, none) else none
    | _, _, _ => none
  | .enum e, g => match pv T e g with
    | some (k, .lst ds) => if !k.slot && D.noLL ds then some (enumD 0 ds, .sh, none) else none
    | _ => none
  | .zip a b, g => match pv T a g, pv T b g with
    | some (k, .lst xs), some (l, .lst ys) => if !k.slot && !l.slot && (D.noLL xs && D.noLL ys) then some (zipD xs ys, .sh, none) else none
    | some (k, .tup xs), some (l, .tup ys) => if !k.slot && !l.slot && (D.noLL xs && D.noLL ys) then some (zipD xs ys, .sh, none) else none
    | _, _ => none
end
/-- what a value's holding says -/
structure Held (k : Rk) (d : D) (g : Sg) : Prop where
  slot : ∀ j m, k = .sl j m → g.sl[j]? = some (some (m, d)) ∧ m ≠ .sh ∧ d.noL = false
section
variable {T : Tab} {g : Sg} {k : Rk} {d : D}
theorem Held.get (h : Held k d g) : (k.ref d).get g = some d := by
  cases k with
  | fr => rfl
  | sh => rfl
  | sl j m => show (match g.sl[j]? with
    | some (some (_, d)) => some d
    | _ => none) = _
              rw [(h.slot j m rfl).1]
theorem Held.look (h : Held k d g) : Om.look (k.ref d) g = some (.ok d g) := by unfold Om.look; rw [h.get]
theorem Held.stab (h : Held k d g) : Om.stab (k.ref d) g = some (.ok (k.ref d) g) := by cases k <;> rfl
theorem Held.tmp {k : Rk} {d : D} {g : Sg} (hk : k.slot = false) : Held k d g := ⟨fun j m e => by subst e; cases hk⟩
theorem decell_rd {d' : D} (h : rdV g d = some d') : decell d g = some (.ok d' g) := by
  cases d <;> try (cases h; rfl)
  rename_i n
  unfold rdV at h
  dsimp only at h
  unfold decell
  cases q : g.ce[n]? with
  | none => rw [q] at h; cases h
  | some ds => rw [q] at h; cases h; dsimp only; rw [q]
theorem Held.peek {d' : D} (h : Held k d g) (hr : rdV g d = some d') : Om.peek (k.ref d) g = some (.ok d' g) := by
  show M.bind (Om.look (k.ref d)) _ g = _
  rw [M.run_bind h.look, decell_rd hr]
mutual
theorem dc_noC : ∀ (d : D) (ce : List (List D)), d.noC = true → d.dc ce = d
  | .tup ds, ce, h => by rw [D.dc, dcL_noC ds ce h]
  | .lst ds, ce, h => by rw [D.dc, dcL_noC ds ce h]
  | .cell _, _, h => by cases h
  | .non, _, _ | .bl _, _, _ | .int _, _, _ | .str _, _, _ | .scr _, _, _ => rfl
theorem dcL_noC : ∀ (ds : List D) (ce : List (List D)), D.noCL ds = true → D.dcL ce ds = ds
  | [], _, _ => rfl
  | d :: ds, ce, h => by
    rw [D.noCL, Bool.and_eq_true] at h
    rw [D.dcL, dc_noC d ce h.1, dcL_noC ds ce h.2]
end
theorem Held.peekD (h : Held k d g) (hc : d.noC = true) : Om.peekD (k.ref d) g = some (.ok d g) := by
  show M.bind (Om.look (k.ref d)) _ g = _
  rw [M.run_bind h.look]
  show some (Res.ok (d.dc g.ce) g) = _
  rw [dc_noC d _ hc]
theorem items_noC : ∀ {d : D} {ds : List D}, d.noC = true → d.items = some ds → D.noCL ds = true
  | .tup _, _, h, e => by cases e; exact h
  | .lst _, _, h, e => by cases e; exact h
  | .scr ns, _, h, e => by
    cases e
    exact D.noCL_iff.mpr fun x hx => by obtain ⟨i, _, rfl⟩ := List.mem_map.mp hx; rfl
theorem Held.asB {b : Bool} (h : Held k (.bl b) g) : Om.asB (k.ref (.bl b)) g = some (.ok b g) := by
  show M.bind (Om.look _) _ g = _
  rw [M.run_bind h.look]; rfl
theorem Held.asI {b : Int} (h : Held k (.int b) g) : Om.asI (k.ref (.int b)) g = some (.ok b g) := by
  show M.bind (Om.look _) _ g = _
  rw [M.run_bind h.look]; rfl
end
end Om

/-! Wk2: what pv tells, the interpreter tells (expressions without comprehensions; the comprehension's turns). -/
namespace Om
open PySem PySem.Spec PyProof.Rows L2

theorem bind_run {α β : Type} {m : M α} {f : α → M β} {g g1 : Sg} {a : α} (h : m g = some (.ok a g1)) : (m >>= f) g = f a g1 := M.run_bind h
theorem of_run {α : Type} {o : Option α} {a : α} (h : o = some a) (g : Sg) : M.of o g = some (.ok a g) := by subst h; rfl
theorem pure_run {α : Type} (a : α) (g : Sg) : (pure a : M α) g = some (.ok a g) := rfl
theorem map_fr {x : Option D} {k : Rk} {d : D} (h : x.map (Rk.fr, ·) = some (k, d)) : x = some d ∧ k = .fr := by
  cases x with
  | none => cases h
  | some y => cases h; exact ⟨rfl, rfl⟩
theorem Rk.of_ref (b : Bool) (d : D) : (Rk.of b).ref d = .tmp b d := by cases b <;> rfl
theorem Rk.of_slot (b : Bool) : (Rk.of b).slot = false := by cases b <;> rfl
theorem tmp_eq {α : Type} {f : Bool} {d : D} {g : Sg} {r : Ref} (h : r = .tmp f d) : (some (Res.ok r g) : Option (Res Ref)) = some (.ok (.tmp f d) g) := by rw [h]
/-- all held -/
def HeldL (xs : List (Rk × D)) (g : Sg) : Prop := ∀ x ∈ xs, Held x.1 x.2 g
def refs (xs : List (Rk × D)) : List Ref := xs.map fun x => x.1.ref x.2
section
variable {T : Tab} {g : Sg}
theorem forceV_run : ∀ {xs : List (Rk × D)} {es : List (Bool × D)}, forceV xs = some es → forceL (refs xs) g = some (.ok es g) ∧ es.map (·.2) = xs.map (·.2)
  | [], es, h => by cases h; exact ⟨rfl, rfl⟩
  | (.fr, d) :: xs, es, h => by
    rw [forceV] at h
    cases e : forceV xs with
    | none => rw [e] at h; cases h
    | some ys =>
      rw [e] at h; cases h
      obtain ⟨h1, h2⟩ := forceV_run (xs := xs) e
      refine ⟨?_, by rw [List.map_cons, List.map_cons, h2]⟩
      show ((force (.tmp true d)) >>= fun e => forceL (refs xs) >>= fun es => pure (e :: es)) g = _
      rw [bind_run (a := (true, d)) (g1 := g) rfl, bind_run h1]; rfl
  | (.sh, d) :: xs, es, h => by
    rw [forceV] at h
    cases e : forceV xs with
    | none => rw [e] at h; cases h
    | some ys =>
      rw [e] at h; cases h
      obtain ⟨h1, h2⟩ := forceV_run (xs := xs) e
      refine ⟨?_, by rw [List.map_cons, List.map_cons, h2]⟩
      show ((force (.tmp false d)) >>= fun e => forceL (refs xs) >>= fun es => pure (e :: es)) g = _
      rw [bind_run (a := (false, d)) (g1 := g) rfl, bind_run h1]; rfl
  | (.sl _ _, d) :: xs, es, h => by cases h
theorem peekL_run : ∀ {xs : List (Rk × D)} {ds : List D}, HeldL xs g → rdL g xs = some ds → peekL (refs xs) g = some (.ok ds g)
  | [], ds, _, e => by cases e; rfl
  | x :: xs, ds, h, e => by
    rw [rdL] at e
    split at e
    · rename_i d ds' q1 q2
      cases e
      show (peek (x.1.ref x.2) >>= fun d => peekL (refs xs) >>= fun ds => pure (d :: ds)) g = _
      rw [bind_run ((h x List.mem_cons_self).peek q1), bind_run (peekL_run (fun y hy => h y (List.mem_cons_of_mem _ hy)) q2)]; rfl
    · cases e
theorem lookL_run : ∀ {xs : List (Rk × D)}, HeldL xs g → lookL (refs xs) g = some (.ok (xs.map (·.2)) g)
  | [], _ => rfl
  | x :: xs, h => by
    show (look (x.1.ref x.2) >>= fun d => lookL (refs xs) >>= fun ds => pure (d :: ds)) g = _
    rw [bind_run (h x List.mem_cons_self).look, bind_run (lookL_run fun y hy => h y (List.mem_cons_of_mem _ hy))]; rfl
theorem lentOf_none : ∀ xs : List (Rk × D), lentOf (refs xs) (List.replicate xs.length false) = some []
  | [] => rfl
  | x :: xs => by
    have ih := lentOf_none xs
    show lentOf (x.1.ref x.2 :: refs xs) (false :: List.replicate xs.length false) = _
    cases hx : x.1.ref x.2 <;> simp [lentOf, ih]
theorem keptOf_none : ∀ xs : List (Rk × D), keptOf (refs xs) (List.replicate xs.length false) = refs xs
  | [] => rfl
  | x :: xs => by
    show x.1.ref x.2 :: keptOf (refs xs) (List.replicate xs.length false) = _
    rw [keptOf_none xs]; rfl
theorem freezeL_tmp : ∀ {xs : List (Rk × D)}, xs.all (fun x => !x.1.slot) = true → freezeL (refs xs) g = some (.ok () g)
  | [], _ => rfl
  | (.fr, d) :: xs, h => by
    rw [List.all_cons, Bool.and_eq_true] at h
    exact freezeL_tmp (xs := xs) h.2
  | (.sh, d) :: xs, h => by
    rw [List.all_cons, Bool.and_eq_true] at h
    exact freezeL_tmp (xs := xs) h.2
  | (.sl _ _, d) :: xs, h => by
    rw [List.all_cons, Bool.and_eq_true] at h
    cases h.1
theorem callF_run {f : Str} {xs : List (Rk × D)} {fl : Bool} {d : D} (H : HeldL xs g) (hn : D.noCL (xs.map (·.2)) = true) (hm : T.mask f = List.replicate xs.length false) (hr : T.run f (xs.map (·.2)) = some (.ret fl d [])) (hc : (d.noC && (fl || d.noL || xs.all (fun x => !x.1.slot))) = true) : callF T f (refs xs) g = some (.ok ((Rk.of fl).ref d) g) := by
  rw [Bool.and_eq_true] at hc
  show (M.of (lentOf (refs xs) (T.mask f)) >>= fun ks => _) g = _
  rw [hm, bind_run (of_run (lentOf_none xs) g), keptOf_none, if_pos (by simp)]
  rw [bind_run (show ownedL [] g = some (.ok () g) from rfl), bind_run (lookL_run H), if_pos hn, hr]
  dsimp only
  rw [if_pos (by rw [hc.1]; rfl), bind_run (show putBack [] [] g = some (.ok () g) from rfl)]
  split
  · rw [Rk.of_ref]; rfl
  · rename_i hn
    have hn : (fl || d.noL) = false := by simpa using hn
    rw [hn, Bool.false_or] at hc
    rw [bind_run (freezeL_tmp hc.2), Rk.of_ref]
    cases fl
    · rfl
    · cases hn
theorem item_run {k : Rk} {d v : D} {i : Int} {k' : Rk} {v' : D} (h : k.item v = some (k', v')) : itemOf (k.ref d) i v g = some (.ok (k'.ref v') g) ∧ v' = v ∧ k'.slot = false := by
  cases k with
  | fr =>
    cases h
    refine ⟨?_, rfl, rfl⟩
    unfold itemOf
    split <;> rfl
  | sh =>
    cases h
    refine ⟨?_, rfl, by split <;> rfl⟩
    unfold itemOf
    split <;> rfl
  | sl j m =>
    replace h : (if v.noL = true then some (Rk.fr, v) else none) = some (k', v') := h
    split at h
    · cases h
      refine ⟨?_, rfl, rfl⟩
      unfold itemOf
      rw [if_pos ‹_›]; rfl
    · cases h
theorem walkV_run {k : Rk} {d : D} {w : Wk} (H : Held k d g) (h : walkV k d = some w) : takeOut (k.ref d) g = some (.ok w g) ∧ ∀ j, w.2.2 = some j → ∃ d, g.sl[j]? = some (some (.ow, d)) := by
  have tmp : ∀ fl, d.items.map (fun ds => ((ds, .sh, none) : Wk)) = some w → takeOut (.tmp fl d) g = some (.ok w g) ∧ ∀ j, w.2.2 = some j → ∃ d, g.sl[j]? = some (some (.ow, d)) := fun fl h => by
    cases e : d.items with
    | none => rw [e] at h; cases h
    | some ds =>
      rw [e] at h; cases h
      refine ⟨?_, fun j h => by cases h⟩
      show (M.of d.items >>= fun ds => (pure (ds, .sh, none) : M Wk)) g = _
      rw [bind_run (of_run e g)]; rfl
  cases k with
  | fr => exact tmp true h
  | sh => exact tmp false h
  | sl j m =>
    obtain ⟨h1, h2, h3⟩ := H.slot j m rfl
    unfold walkV at h
    cases e : d.items with
    | none => rw [e] at h; cases h
    | some ds =>
      rw [e] at h; cases h
      refine ⟨?_, ?_⟩
      · show walkK j [] g = _
        unfold walkK
        rw [h1]
        dsimp only
        rw [show atPath d [] = some d from by rw [atPath], Option.bind_some, e]
        dsimp only
        rw [h3, Bool.false_or, decide_eq_false h2]; rfl
      · intro i hi
        dsimp only at hi
        split at hi
        · rename_i hm
          cases hi; subst hm; exact ⟨d, h1⟩
        · cases hi
end
/-! the comprehension's turns -/
theorem wipeL_set_in {α : Type} (s : List (Option α)) {k : Nat} {o : Option α} : ∀ {ks : List Nat}, k ∈ ks → wipeL (s.set k o) ks = wipeL s ks
  | j :: ks, h => by
    show (wipeL (s.set k o) ks).set j none = (wipeL s ks).set j none
    by_cases hk : k ∈ ks
    · rw [wipeL_set_in s hk]
    · rcases List.mem_cons.mp h with rfl | h
      · have : ∀ (ks : List Nat), k ∉ ks → wipeL (s.set k o) ks = (wipeL s ks).set k o := by
          intro ks
          induction ks with
          | nil => intro _; rfl
          | cons i is ih =>
            intro hn
            have hn : ¬ k = i ∧ k ∉ is := ⟨fun e => hn (e ▸ List.mem_cons_self), fun e => hn (List.mem_cons_of_mem _ e)⟩
            show (wipeL (s.set k o) is).set i none = ((wipeL s is).set i none).set k o
            rw [ih hn.2, List.set_comm _ _ hn.1]
        rw [this ks hk, List.set_set]
      · exact absurd h hk
theorem wipeL_sub {α : Type} (s : List (Option α)) (own : List Nat) : ∀ ks : List Nat, (∀ k ∈ ks, k ∈ own) → wipeL (wipeL s ks) own = wipeL s own
  | [], _ => rfl
  | k :: ks, h => by
    show wipeL ((wipeL s ks).set k none) own = _
    rw [wipeL_set_in _ (h k List.mem_cons_self)]
    exact wipeL_sub s own ks fun j hj => h j (List.mem_cons_of_mem _ hj)
theorem wipeS_wipe (own : List Nat) (g : Sg) : wipeS own (wipeS own g) = wipeS own g := by
  show Sg.mk (wipeL (wipeL g.sl own) own) g.ce = Sg.mk (wipeL g.sl own) g.ce
  rw [wipeL_sub _ _ own fun _ h => h]
mutual
theorem asgG_wipe (own : List Nat) : ∀ (G : G) (m : Mo) (d : D) (g : Sg) (u : Unit) (g1 : Sg), (∀ j ∈ G.slots, j ∈ own) → asgG G (m, d) g = some (.ok u g1) → wipeS own g1 = wipeS own g
  | .name k, m, d, g, u, g1, hs, h => by
    rw [asgG] at h
    unfold setSlot at h
    split at h
    · cases h
      unfold wipeS
      dsimp only
      rw [wipeL_set_in _ (hs k (by rw [G.slots]; exact List.mem_singleton.mpr rfl))]
    · cases h
  | .tup gs, m, d, g, u, g1, hs, h => by
    rw [G.slots] at hs
    rw [asgG.eq_def] at h
    dsimp only at h
    split at h
    · exact asgGs_wipe own gs _ _ g u g1 hs h
    · split at h
      · exact asgGs_wipe own gs _ _ g u g1 hs h
      · cases h
    · cases h
theorem asgGs_wipe (own : List Nat) : ∀ (gs : Gs) (m : Mo) (ds : List D) (g : Sg) (u : Unit) (g1 : Sg), (∀ j ∈ gs.slots, j ∈ own) → asgGs gs m ds g = some (.ok u g1) → wipeS own g1 = wipeS own g
  | .nil, m, ds, g, u, g1, hs, h => by
    cases ds with
    | nil => rw [asgGs] at h; cases h; rfl
    | cons _ _ => cases h
  | .cons G gs, m, ds, g, u, g1, hs, h => by
    cases ds with
    | nil => cases h
    | cons d ds =>
      rw [asgGs] at h
      have h : M.bind (asgG G (m, d)) (fun _ => asgGs gs m ds) g = _ := h
      unfold M.bind at h
      split at h
      · cases h
      · rename_i u2 g2 e
        rw [asgGs_wipe own gs m ds g2 u g1 (fun j hj => hs j (by rw [Gs.slots]; exact List.mem_append_right _ hj)) h, asgG_wipe own G m d g u2 g2 (fun j hj => hs j (by rw [Gs.slots]; exact List.mem_append_left _ hj)) e]
      · cases h
end
theorem compV_run {own : List Nat} {G : G} {mo : Mo} {g : Sg} {mC : M Bool} {mE : M Ref} {c : Sg → Option Bool} {e : Sg → Option (Rk × D)} (hG : ∀ j ∈ G.slots, j ∈ own) (hc : ∀ g b, c g = some b → mC g = some (.ok b g)) (he : ∀ g k d, e g = some (k, d) → mE g = some (.ok (k.ref d) g) ∧ Held k d g) :
    ∀ (ds : List D) (s : Sg) (xs : List D), wipeS own s = wipeS own g → compV own G mo g c e ds = some xs → ∃ es s', compL own G mo mC mE ds s = some (.ok es s') ∧ es.map (·.2) = xs ∧ (∀ x ∈ es, fresh x = true) ∧ wipeS own s' = wipeS own g
  | [], s, xs, hs, h => by cases h; exact ⟨[], s, rfl, rfl, (fun _ h => nomatch h), hs⟩
  | d :: ds, s, xs, hs, h => by
    rw [compV] at h
    show ∃ es s', M.bind (asgG G (mo, d)) (fun _ => _) (wipeS own s) = _ ∧ _
    rw [hs]
    split at h
    · rename_i u g1 ea
      have hw : wipeS own g1 = wipeS own g := by rw [asgG_wipe own G mo d _ u g1 hG ea, wipeS_wipe]
      rw [M.run_bind ea]
      show ∃ es s', M.bind (noX mC) (fun b => _) g1 = _ ∧ _
      split at h
      · rename_i ec
        rw [M.run_bind (noX_ok (hc _ _ ec))]
        split at h
        · rename_i k x ex
          obtain ⟨e1, H⟩ := he _ _ _ ex
          split at h
          · rename_i hn
            cases q : compV own G mo g c e ds with
            | none => rw [q] at h; cases h
            | some ys =>
              rw [q] at h; cases h
              obtain ⟨es, s', r1, r2, r3, r5⟩ := compV_run hG hc he ds g1 ys hw q
              have ef : ∃ fl, (fl || x.noL) = true ∧ (do force (← stab (← mE)) : M (Bool × D)) g1 = some (.ok (fl, x) g1) := by
                cases k with
                | fr => exact ⟨true, rfl, by
                    show M.bind mE _ g1 = _
                    rw [M.run_bind e1]; rfl⟩
                | sh =>
                  rw [show Rk.isFr .sh = false from rfl, Bool.or_false] at hn
                  exact ⟨false, by rw [hn]; rfl, by
                    show M.bind mE _ g1 = _
                    rw [M.run_bind e1]; rfl⟩
                | sl j m =>
                  rw [show Rk.isFr (.sl j m) = false from rfl, Bool.or_false] at hn
                  have := (H.slot j m rfl).2.2
                  rw [hn] at this; cases this
              obtain ⟨fl, hfl, ef⟩ := ef
              refine ⟨(fl, x) :: es, s', ?_, by rw [List.map_cons, r2], ?_, r5⟩
              · show M.bind (noX (do force (← stab (← mE)) : M (Bool × D))) _ g1 = _
                rw [M.run_bind (noX_ok ef)]
                show M.bind (compL own G mo mC mE ds) _ g1 = _
                rw [M.run_bind r1]; rfl
              · intro y hy
                rcases List.mem_cons.mp hy with rfl | hy
                · exact hfl
                · exact r3 y hy
          · cases h
        · cases h
      · rename_i ec
        rw [M.run_bind (noX_ok (hc _ _ ec))]
        exact compV_run hG hc he ds g1 xs hw h
      · cases h
    · cases h
theorem merge_wipe {own : List Nat} {g s : Sg} (h : wipeS own s = wipeS own g) : { s with sl := mergeL g.sl s.sl own } = g := by
  have h' : (⟨wipeL s.sl own, s.ce⟩ : Sg) = ⟨wipeL g.sl own, g.ce⟩ := h
  have h1 : wipeL s.sl own = wipeL g.sl own := (Sg.mk.inj h').1
  have h2 : s.ce = g.ce := (Sg.mk.inj h').2
  have hl : s.sl.length = g.sl.length := by
    have := congrArg List.length h1
    rw [wipeL_len, wipeL_len] at this; exact this
  have : mergeL g.sl s.sl own = g.sl := by
    refine List.ext_getElem? fun j => ?_
    by_cases hj : j ∈ own
    · rw [mergeL_in _ _ hl.symm hj]
    · rw [mergeL_out _ _ hj]
      have a : (wipeL s.sl own)[j]? = (wipeL g.sl own)[j]? := by rw [h1]
      rwa [wipeL_out _ hj, wipeL_out _ hj] at a
  rw [this, h2]
/-- in a locked slot nothing changes: the state is as it was -/
theorem lockO_run {α : Type} {o : Option Nat} {m : M α} {g : Sg} {a : α} (ho : ∀ j, o = some j → ∃ d, g.sl[j]? = some (some (.ow, d))) (h : m (lockV o g) = some (.ok a (lockV o g))) : lockO o m g = some (.ok a g) := by
  cases o with
  | none => exact h
  | some k =>
    obtain ⟨d, hd⟩ := ho k rfl
    have hk : k < g.sl.length := by
      have := List.getElem?_eq_some_iff.mp hd
      exact this.1
    have el : lockV (some k) g = { g with sl := g.sl.set k (some (.lk, d)) } := by unfold lockV; dsimp only; rw [hd]
    rw [el] at h
    show lockIn k m g = _
    unfold lockIn
    rw [hd]
    dsimp only
    rw [h]
    dsimp only
    unfold unl
    dsimp only
    rw [List.getElem?_set_self hk]
    dsimp only
    rw [List.set_set, set_same hd]
end Om

/-! Wk3: what pv tells, the interpreter tells. -/
namespace Om
open PySem PySem.Spec PyProof.Rows L2

theorem Held.bl {b : Bool} {g : Sg} : Held .fr (.bl b) g := .tmp rfl
theorem Held.int {b : Int} {g : Sg} : Held .fr (.int b) g := .tmp rfl
theorem simM_pv {T : Tab} {e : E} {g : Sg} {k : Rk} {d : D} (hs : e.simple = true) (h : pv T e g = some (k, d)) : simM e g = some (.ok d g) := by
  cases e <;> try (cases hs; done)
  · rw [pv] at h
    split at h
    · rename_i m x q
      cases h
      unfold simM simD
      dsimp only
      rw [q]
    · cases h
  all_goals (rw [pv] at h; cases h; rfl)
theorem seqOf_items {d : D} {ds : List D} (h : seqOf d = some ds) : d.items = some ds ∧ ∀ g, decell d g = some (.ok d g) := by
  cases d <;> first | (cases h; exact ⟨rfl, fun _ => rfl⟩) | cases h
theorem ixx_snd {T : Tab} {a i : E} {g : Sg} {r : Rk} {d : D} (h : ixx a i g = some (r, d)) : evR T (.ix a i) g = some (.ok (r.ref d) g) ∧ Held r d g := by
  unfold ixx at h
  split at h
  · rename_i k e1
    split at h
    · rename_i m d0 p q hk h1 h2
      split at h
      · rename_i hc
        simp only [Bool.and_eq_true, decide_eq_true_eq, Bool.not_eq_true'] at hc
        obtain ⟨⟨⟨s1, s2⟩, hm⟩, hd⟩ := hc
        split at h
        · rename_i v1 hv
          obtain ⟨ds, z1, z2⟩ := Option.bind_eq_some_iff.mp hv
          obtain ⟨i1, c1⟩ := seqOf_items z1
          split at h
          · cases h
          · rename_i hn1
            split at h
            · rename_i v hw
              obtain ⟨xs, y1, y2⟩ := Option.bind_eq_some_iff.mp hw
              obtain ⟨i2, c2⟩ := seqOf_items y1
              split at h
              · rename_i hn
                cases h
                have e0 : evR T (.var k) g = some (.ok (.slot k) g) := by
                  rw [evR]
                  unfold readVar
                  rw [hk]
                  simp [hd, hm]
                have p0 : peek (.slot k) g = some (.ok d0 g) := by
                  unfold peek
                  rw [bind_run (show look (.slot k) g = some (.ok d0 g) by unfold look Ref.get; dsimp only; rw [hk])]
                  exact c1 g
                have q1 : simM e1 g = some (.ok (.int p) g) := by unfold simM; rw [h1]
                have q2 : simM i g = some (.ok (.int q) g) := by unfold simM; rw [h2]
                have r1 : evR T (.ix (.var k) e1) g = some (.ok (.path k [p]) g) := by
                  rw [evR, if_pos s1, bind_run e0, bind_run p0, bind_run q1]
                  dsimp only
                  rw [bind_run (of_run i1 g), bind_run (of_run z2 g)]
                  unfold itemOf
                  rw [if_neg hn1]; rfl
                have p1 : peek (.path k [p]) g = some (.ok v1 g) := by
                  unfold peek
                  rw [bind_run (show look (.path k [p]) g = some (.ok v1 g) by
                    unfold look Ref.get; dsimp only; rw [hk]; dsimp only
                    rw [show atPath d0 [p] = some v1 by
                      rw [atPath, i1, Option.bind_some, z2, Option.bind_some]
                      rw [atPath]])]
                  exact c2 g
                refine ⟨?_, .tmp rfl⟩
                rw [evR, if_pos s2, bind_run r1, bind_run p1, bind_run q2]
                dsimp only
                rw [bind_run (of_run i2 g), bind_run (of_run y2 g)]
                unfold itemOf
                rw [if_pos hn]; rfl
              · cases h
            · cases h
        · cases h
      · cases h
    · cases h
  · cases h
mutual
theorem pv_snd (T : Tab) : ∀ (e : E) (g : Sg) (k : Rk) (d : D), pv T e g = some (k, d) → evR T e g = some (.ok (k.ref d) g) ∧ Held k d g
  | .var j, g, k, d, h => by
    rw [pv] at h
    split at h
    · rename_i m x q
      cases h
      rw [evR]
      unfold readVar
      rw [q]
      dsimp only
      split
      · exact ⟨rfl, .tmp rfl⟩
      · rename_i hn
        have hn : (d.noL || decide (m = .sh)) = false := by simpa using hn
        rw [Bool.or_eq_false_iff, decide_eq_false_iff_not] at hn
        exact ⟨rfl, ⟨fun j' m' e => by cases e; exact ⟨q, hn.2, hn.1⟩⟩⟩
    · cases h
  | .non, g, k, d, h => by cases h; exact ⟨rfl, .tmp rfl⟩
  | .bl b, g, k, d, h => by cases h; exact ⟨rfl, .tmp rfl⟩
  | .int b, g, k, d, h => by cases h; exact ⟨rfl, .tmp rfl⟩
  | .str b, g, k, d, h => by cases h; exact ⟨rfl, .tmp rfl⟩
  | .glob x, g, k, d, h => by
    rw [pv] at h
    split at h
    · rename_i y q
      split at h
      · rename_i hc
        cases h
        rw [evR, bind_run (of_run q g), if_pos hc]
        exact ⟨rfl, .tmp rfl⟩
      · cases h
    · cases h
  | .bop op a b, g, k, d, h => by
    rw [pv] at h
    split at h
    · obtain ⟨e1, h1⟩ := pv_snd T a g _ _ ‹pv T a g = _›
      obtain ⟨e2, h2⟩ := pv_snd T b g _ _ ‹pv T b g = _›
      split at h
      · rename_i q1 q2
        obtain ⟨h3, rfl⟩ := map_fr h
        rw [evR, bind_run e1, bind_run h1.stab, bind_run e2, bind_run (h1.peek q1), bind_run (h2.peek q2), bind_run (of_run h3 g)]
        exact ⟨rfl, .tmp rfl⟩
      · cases h
    · cases h
  | .neg a, g, k, d, h => by
    rw [pv] at h
    split at h
    · obtain ⟨e1, h1⟩ := pv_snd T a g _ _ ‹pv T a g = _›
      cases h
      rw [evR, bind_run e1, bind_run h1.asI]
      exact ⟨rfl, .tmp rfl⟩
    · cases h
  | .not a, g, k, d, h => by
    rw [pv] at h
    split at h
    · obtain ⟨e1, h1⟩ := pv_snd T a g _ _ ‹pv T a g = _›
      cases h
      rw [evR, bind_run e1, bind_run h1.asB]
      exact ⟨rfl, .tmp rfl⟩
    · cases h
  | .and a b, g, k, d, h => by
    rw [pv] at h
    split at h
    · obtain ⟨e1, h1⟩ := pv_snd T a g _ _ ‹pv T a g = _›
      rw [evR, bind_run e1, bind_run h1.asB]
      split at h
      · rename_i hc
        rw [if_pos hc]
        exact pv_snd T b g _ _ h
      · rename_i hc
        rw [if_neg hc]
        cases h
        exact ⟨rfl, .tmp rfl⟩
    · cases h
  | .or a b, g, k, d, h => by
    rw [pv] at h
    split at h
    · obtain ⟨e1, h1⟩ := pv_snd T a g _ _ ‹pv T a g = _›
      rw [evR, bind_run e1, bind_run h1.asB]
      split at h
      · rename_i hc
        rw [if_pos hc]
        cases h
        exact ⟨rfl, .tmp rfl⟩
      · rename_i hc
        rw [if_neg hc]
        exact pv_snd T b g _ _ h
    · cases h
  | .cmp op a b, g, k, d, h => by
    rw [pv] at h
    split at h
    · have pb := ‹pv T b g = _›
      obtain ⟨e1, h1⟩ := pv_snd T a g _ _ ‹pv T a g = _›
      obtain ⟨e2, h2⟩ := pv_snd T b g _ _ pb
      rename_i kx x ky y qa qb
      split at h
      · rename_i hc
        rw [Bool.and_eq_true] at hc
        cases q : cmpD op x y with
        | none => rw [q] at h; cases h
        | some t =>
          rw [q] at h; cases h
          rw [evR]
          split
          · rename_i hs
            rw [bind_run e1, bind_run (h1.peekD hc.1), bind_run (simM_pv hs pb)]
            rw [bind_run (show deep y g = some (.ok y g) from by unfold deep; rw [dc_noC _ _ hc.2]), bind_run (of_run q g)]
            exact ⟨rfl, .tmp rfl⟩
          · rw [bind_run e1, bind_run h1.stab, bind_run e2, bind_run (h1.peekD hc.1), bind_run (h2.peekD hc.2), bind_run (of_run q g)]
            exact ⟨rfl, .tmp rfl⟩
      · cases h
    · cases h
  | .chain o1 o2 a b c, g, k, d, h => by
    rw [pv] at h
    split at h
    · rename_i ka i kb j qa qb
      obtain ⟨e1, h1⟩ := pv_snd T a g _ _ ‹pv T a g = _›
      obtain ⟨e2, h2⟩ := pv_snd T b g _ _ ‹pv T b g = _›
      rw [evR, bind_run e1, bind_run h1.asI, bind_run e2, bind_run h2.asI]
      split at h
      · rename_i q
        rw [bind_run (of_run q g), if_pos rfl]
        split at h
        · rename_i kz z qc
          obtain ⟨e3, h3⟩ := pv_snd T c g _ _ qc
          rw [bind_run e3, bind_run h3.asI]
          cases q2 : cmpD o2 (.int j) (.int z) with
          | none => rw [q2] at h; cases h
          | some t =>
            rw [q2] at h; cases h
            rw [bind_run (of_run (rfl : some t = some t) g)]
            exact ⟨rfl, .tmp rfl⟩
        · cases h
      · rename_i q
        rw [bind_run (of_run q g), if_neg (by decide)]
        cases h
        exact ⟨rfl, .tmp rfl⟩
      · cases h
    · cases h
  | .isN pos a, g, k, d, h => by
    rw [pv] at h
    split at h
    · obtain ⟨e1, h1⟩ := pv_snd T a g _ _ ‹pv T a g = _›
      cases h
      rw [evR, bind_run e1, bind_run h1.look]
      exact ⟨rfl, .tmp rfl⟩
    · cases h
  | .isB pos b a, g, k, d, h => by
    rw [pv] at h
    split at h
    · obtain ⟨e1, h1⟩ := pv_snd T a g _ _ ‹pv T a g = _›
      cases h
      rw [evR, bind_run e1, bind_run h1.asB]
      exact ⟨rfl, .tmp rfl⟩
    · cases h
  | .tup as, g, k, d, h => by
    rw [pv] at h
    split at h
    · rename_i es q
      split at h
      · rename_i hf
        cases h
        obtain ⟨xs, q1, q2⟩ := Option.bind_eq_some_iff.mp q
        obtain ⟨e1, h1⟩ := pvA_snd T as g _ q1
        obtain ⟨f1, f2⟩ := forceV_run (g := g) q2
        rw [evR, bind_run e1, bind_run f1, if_pos hf, Rk.of_ref]
        exact ⟨rfl, .tmp (Rk.of_slot _)⟩
      · cases h
    · cases h
  | .lst as, g, k, d, h => by
    rw [pv] at h
    split at h
    · rename_i es q
      split at h
      · rename_i hf
        cases h
        obtain ⟨xs, q1, q2⟩ := Option.bind_eq_some_iff.mp q
        obtain ⟨e1, h1⟩ := pvA_snd T as g _ q1
        obtain ⟨f1, f2⟩ := forceV_run (g := g) q2
        rw [evR, bind_run e1, bind_run f1, if_pos hf, Rk.of_ref]
        exact ⟨rfl, .tmp (Rk.of_slot _)⟩
      · cases h
    · cases h
  | .newc _, g, k, d, h => by cases h
  | .ix a i, g, k, d, h => by
    rw [pv] at h
    split at h
    · rename_i ka x ki j qa qi
      obtain ⟨e1, h1⟩ := pv_snd T a g _ _ qa
      obtain ⟨e2, h2⟩ := pv_snd T i g _ _ qi
      split at h
      · rename_i v q
        obtain ⟨x', q0, q⟩ := Option.bind_eq_some_iff.mp q
        obtain ⟨ds, q1, q2⟩ := Option.bind_eq_some_iff.mp q
        obtain ⟨r1, rfl, r3⟩ := item_run (g := g) (d := x) (i := j) h
        rw [evR]
        split
        · rename_i hs
          rw [bind_run e1, bind_run (h1.peek q0), bind_run (simM_pv hs qi)]
          dsimp only
          rw [bind_run (of_run q1 g), bind_run (of_run q2 g)]
          exact ⟨r1, .tmp r3⟩
        · rw [bind_run e1, bind_run h1.stab, bind_run e2, bind_run h2.asI, bind_run (h1.peek q0), bind_run (of_run q1 g), bind_run (of_run q2 g)]
          exact ⟨r1, .tmp r3⟩
      · cases h
    · exact ixx_snd h
  | .sl a lo hi, g, k, d, h => by
    rw [pv] at h
    split at h
    · rename_i ka x l hh qa ql qh
      obtain ⟨e1, h1⟩ := pv_snd T a g _ _ qa
      have e2 := pvO_snd T lo g _ ql
      have e3 := pvO_snd T hi g _ qh
      split at h
      · rename_i y q
        obtain ⟨x', q0, q⟩ := Option.bind_eq_some_iff.mp q
        rw [evR, bind_run e1, bind_run h1.stab, bind_run e2, bind_run e3, bind_run (h1.peek q0), bind_run (of_run q g)]
        split at h
        · rename_i hf
          cases h
          rw [if_pos hf]
          exact ⟨rfl, .tmp rfl⟩
        · rename_i hf
          rw [if_neg hf]
          split at h
          · cases h
          · rename_i hs
            cases h
            refine ⟨?_, .tmp rfl⟩
            cases ka with
            | fr => rfl
            | sh => rfl
            | sl _ _ => exact absurd rfl hs
      · cases h
    · cases h
  | .call f as, g, k, d, h => by
    rw [pv] at h
    split at h
    · rename_i xs q
      obtain ⟨e1, h1⟩ := pvA_snd T as g _ q
      split at h
      · rename_i hm
        rw [Bool.and_eq_true, decide_eq_true_eq] at hm
        split at h
        · rename_i fl x hr
          split at h
          · rename_i hc
            cases h
            rw [evR, bind_run e1]
            exact ⟨callF_run h1 hm.2 hm.1 hr hc, .tmp (Rk.of_slot _)⟩
          · cases h
        · cases h
      · cases h
    · cases h
  | .bcall b as, g, k, d, h => by
    rw [pv] at h
    split at h
    · rename_i xs q
      obtain ⟨e1, h1⟩ := pvA_snd T as g _ q
      obtain ⟨h3, rfl⟩ := map_fr h
      obtain ⟨ds, q1, q2⟩ := Option.bind_eq_some_iff.mp h3
      rw [evR, bind_run e1, bind_run (peekL_run h1 q1), bind_run (of_run q2 g)]
      exact ⟨rfl, .tmp rfl⟩
    · cases h
  | .lrng1 a, g, k, d, h => by
    rw [pv] at h
    split at h
    · obtain ⟨e1, h1⟩ := pv_snd T a g _ _ ‹pv T a g = _›
      split at h
      · rename_i hc
        cases h
        rw [evR, bind_run e1, bind_run h1.asI, if_pos hc]
        exact ⟨rfl, .tmp rfl⟩
      · cases h
    · cases h
  | .lrng2 a b, g, k, d, h => by
    rw [pv] at h
    split at h
    · obtain ⟨e1, h1⟩ := pv_snd T a g _ _ ‹pv T a g = _›
      obtain ⟨e2, h2⟩ := pv_snd T b g _ _ ‹pv T b g = _›
      split at h
      · rename_i hc
        cases h
        rw [evR, bind_run e1, bind_run h1.asI, bind_run e2, bind_run h2.asI, if_pos hc]
        exact ⟨rfl, .tmp rfl⟩
      · cases h
    · cases h
  | .isi a t, g, k, d, h => by
    rw [pv] at h
    split at h
    · obtain ⟨e1, h1⟩ := pv_snd T a g _ _ ‹pv T a g = _›
      rename_i kx x qa
      cases q : isiD t x with
      | none => rw [q] at h; cases h
      | some b =>
        rw [q] at h; cases h
        rw [evR, bind_run e1, bind_run h1.look, bind_run (of_run q g)]
        exact ⟨rfl, .tmp rfl⟩
    · cases h
  | .meth m o as, g, k, d, h => by
    rw [pv] at h
    split at h
    · rename_i ko x xs qo qa
      obtain ⟨e1, h1⟩ := pv_snd T o g _ _ qo
      obtain ⟨e2, h2⟩ := pvA_snd T as g _ qa
      split at h
      · rename_i hf
        obtain ⟨h3, rfl⟩ := map_fr h
        obtain ⟨x', q0, h3⟩ := Option.bind_eq_some_iff.mp h3
        obtain ⟨ds, q1, q2⟩ := Option.bind_eq_some_iff.mp h3
        rw [evR, bind_run e1, bind_run h1.stab, bind_run h1.look, if_pos hf, bind_run e2, bind_run (h1.peek q0), bind_run (peekL_run h2 q1), bind_run (of_run q2 g)]
        exact ⟨rfl, .tmp rfl⟩
      · cases h
    · cases h
  | .mut _ _ _ _, g, k, d, h => by cases h
  | .comp i G c e own, g, k, d, h => by
    rw [pv] at h
    split at h
    · rename_i w q
      obtain ⟨e1, h1⟩ := pvI_snd T i g _ q
      split at h
      · rename_i hc
        rw [Bool.and_eq_true] at hc
        cases q2 : compV own G w.2.1 (lockV w.2.2 g) (pvC T c) (pv T e) w.1 with
        | none => rw [q2] at h; cases h
        | some ds =>
          rw [q2] at h; cases h
          obtain ⟨es, s', r1, r2, r3, r5⟩ := compV_run (own := own) (G := G) (mC := evC T c) (mE := evR T e) (fun j hj => by
            have := List.all_eq_true.mp hc.2 j hj
            simpa using this) (fun g b hb => pvC_snd T c g b hb) (fun g k d hd => pv_snd T e g k d hd) w.1 (lockV w.2.2 g) ds rfl q2
          have r6 : compM own G w.2.1 (evC T c) (evR T e) w.1 (lockV w.2.2 g) = some (.ok es (lockV w.2.2 g)) := by
            unfold compM
            rw [r1]
            dsimp only
            rw [merge_wipe r5]
          rw [evR, bind_run e1, if_pos hc.1, bind_run (lockO_run h1 r6)]
          rw [r2, show es.all fresh = true from List.all_eq_true.mpr r3]
          exact ⟨rfl, .tmp rfl⟩
      · cases h
    · cases h
theorem pvA_snd (T : Tab) : ∀ (as : A) (g : Sg) (xs : List (Rk × D)), pvA T as g = some xs → evA T as g = some (.ok (refs xs) g) ∧ HeldL xs g
  | .nil, g, xs, h => by cases h; exact ⟨rfl, fun _ h => nomatch h⟩
  | .cons e as, g, xs, h => by
    rw [pvA] at h
    split at h
    · rename_i x ys q1 q2
      cases h
      obtain ⟨e1, h1⟩ := pv_snd T e g x.1 x.2 q1
      obtain ⟨e2, h2⟩ := pvA_snd T as g _ q2
      rw [evA, bind_run e1, bind_run h1.stab, bind_run e2]
      refine ⟨rfl, fun y hy => ?_⟩
      rcases List.mem_cons.mp hy with rfl | hy
      · exact h1
      · exact h2 y hy
    · cases h
theorem pvO_snd (T : Tab) : ∀ (o : O) (g : Sg) (x : Option Int), pvO T o g = some x → evO T o g = some (.ok x g)
  | .none, g, x, h => by cases h; rfl
  | .some e, g, x, h => by
    rw [pvO] at h
    split at h
    · obtain ⟨e1, h1⟩ := pv_snd T e g _ _ ‹pv T e g = _›
      cases h
      rw [evO, bind_run e1, bind_run h1.asI]; rfl
    · cases h
theorem pvC_snd (T : Tab) : ∀ (c : C) (g : Sg) (b : Bool), pvC T c g = some b → evC T c g = some (.ok b g)
  | .yes, g, x, h => by cases h; rfl
  | .test e, g, x, h => by
    rw [pvC] at h
    split at h
    · obtain ⟨e1, h1⟩ := pv_snd T e g _ _ ‹pv T e g = _›
      cases h
      rw [evC, bind_run e1, h1.asB]
    · cases h
theorem pvI_snd (T : Tab) : ∀ (i : I) (g : Sg) (w : Wk), pvI T i g = some w → evI T i g = some (.ok w g) ∧ ∀ j, w.2.2 = some j → ∃ d, g.sl[j]? = some (some (.ow, d))
  | .seq e, g, w, h => by
    rw [pvI] at h
    split at h
    · obtain ⟨e1, h1⟩ := pv_snd T e g _ _ ‹pv T e g = _›
      obtain ⟨w1, w2⟩ := walkV_run h1 h
      rw [evI, bind_run e1]
      exact ⟨w1, w2⟩
    · cases h
  | .seqSl a lo hi, g, w, h => by
    rw [pvI] at h
    split at h
    · rename_i ka x l hh qa ql qh
      obtain ⟨e1, h1⟩ := pv_snd T a g _ _ qa
      have e2 := pvO_snd T lo g _ ql
      have e3 := pvO_snd T hi g _ qh
      rw [evI, bind_run e1, bind_run h1.stab, bind_run e2, bind_run e3, bind_run h1.look]
      split at h
      · rename_i hl
        rw [if_pos hl]
        cases q : walkV ka x with
        | none => rw [q] at h; cases h
        | some w0 =>
          rw [q] at h; cases h
          obtain ⟨w1, w2⟩ := walkV_run h1 q
          rw [bind_run w1]
          exact ⟨rfl, w2⟩
      · rename_i hl
        rw [if_neg hl]
        cases q : (slD x l hh).bind D.items with
        | none => rw [q] at h; cases h
        | some ds =>
          rw [q] at h; cases h
          obtain ⟨y, q1, q2⟩ := Option.bind_eq_some_iff.mp q
          rw [bind_run (of_run q1 g), bind_run (of_run q2 g)]
          exact ⟨rfl, fun j h => by cases h⟩
    · cases h
  | .rng1 a, g, w, h => by
    rw [pvI] at h
    split at h
    · obtain ⟨e1, h1⟩ := pv_snd T a g _ _ ‹pv T a g = _›
      split at h
      · rename_i hc
        cases h
        rw [evI, bind_run e1, bind_run h1.asI, if_pos hc]
        exact ⟨rfl, fun j h => by cases h⟩
      · cases h
    · cases h
  | .rng2 a b, g, w, h => by
    rw [pvI] at h
    split at h
    · obtain ⟨e1, h1⟩ := pv_snd T a g _ _ ‹pv T a g = _›
      obtain ⟨e2, h2⟩ := pv_snd T b g _ _ ‹pv T b g = _›
      split at h
      · rename_i hc
        cases h
        rw [evI, bind_run e1, bind_run h1.asI, bind_run e2, bind_run h2.asI, if_pos hc]
        exact ⟨rfl, fun j h => by cases h⟩
      · cases h
    · cases h
  | .rng3 a b c, g, w, h => by
    rw [pvI] at h
    split at h
    · obtain ⟨e1, h1⟩ := pv_snd T a g _ _ ‹pv T a g = _›
      obtain ⟨e2, h2⟩ := pv_snd T b g _ _ ‹pv T b g = _›
      obtain ⟨e3, h3⟩ := pv_snd T c g _ _ ‹pv T c g = _›
      split at h
      · rename_i hc
        cases h
        rw [evI, bind_run e1, bind_run h1.asI, bind_run e2, bind_run h2.asI, bind_run e3, bind_run h3.asI, if_pos hc]
        exact ⟨rfl, fun j h => by cases h⟩
      · cases h
    · cases h
  | .enum e, g, w, h => by
    rw [pvI] at h
    split at h
    · rename_i k ds q
      obtain ⟨e1, h1⟩ := pv_snd T e g _ _ q
      split at h
      · rename_i hc
        rw [Bool.and_eq_true] at hc
        cases h
        rw [evI, bind_run e1, bind_run h1.stab]
        refine ⟨?_, fun j h => by cases h⟩
        cases k with
        | sl _ _ => cases hc.1
        | fr =>
          rw [bind_run (a := (true, D.lst ds)) (g1 := g) rfl]
          dsimp only
          rw [if_pos hc.2]; rfl
        | sh =>
          rw [bind_run (a := (false, D.lst ds)) (g1 := g) rfl]
          dsimp only
          rw [if_pos hc.2]; rfl
      · cases h
    · cases h
  | .zip a b, g, w, h => by
    have fz : ∀ (k : Rk) (d : D), (!k.slot) = true → ∃ fl, force (k.ref d) g = some (.ok (fl, d) g) := fun k d hk => by
      cases k with
      | sl _ _ => cases hk
      | fr => exact ⟨_, rfl⟩
      | sh => exact ⟨_, rfl⟩
    rw [pvI] at h
    split at h
    · rename_i k xs l ys qa qb
      obtain ⟨e1, h1⟩ := pv_snd T a g _ _ qa
      obtain ⟨e2, h2⟩ := pv_snd T b g _ _ qb
      split at h
      · rename_i hc
        rw [Bool.and_eq_true, Bool.and_eq_true] at hc
        cases h
        obtain ⟨f1, z1⟩ := fz k (.lst xs) hc.1.1
        obtain ⟨f2, z2⟩ := fz l (.lst ys) hc.1.2
        rw [evI, bind_run e1, bind_run h1.stab, bind_run z1, bind_run e2, bind_run h2.stab, bind_run z2]
        dsimp only
        rw [if_pos hc.2]
        exact ⟨rfl, fun j h => by cases h⟩
      · cases h
    · rename_i k xs l ys qa qb
      obtain ⟨e1, h1⟩ := pv_snd T a g _ _ qa
      obtain ⟨e2, h2⟩ := pv_snd T b g _ _ qb
      split at h
      · rename_i hc
        rw [Bool.and_eq_true, Bool.and_eq_true] at hc
        cases h
        obtain ⟨f1, z1⟩ := fz k (.tup xs) hc.1.1
        obtain ⟨f2, z2⟩ := fz l (.tup ys) hc.1.2
        rw [evI, bind_run e1, bind_run h1.stab, bind_run z1, bind_run e2, bind_run h2.stab, bind_run z2]
        dsimp only
        rw [if_pos hc.2]
        exact ⟨rfl, fun j h => by cases h⟩
      · cases h
    · cases h
end
end Om

/-! Wk4: walking a block, statement by statement. -/
namespace Om
open PySem PySem.Spec PyProof.Rows L2

/-- one turn of a comprehension -/
def compStep (own : List Nat) (G : G) (mo : Mo) (g : Sg) (c : Sg → Option Bool) (e : Sg → Option (Rk × D)) (d : D) : Option (Option D) := match asgG G (mo, d) (wipeS own g) with
  | some (.ok _ g1) => match c g1 with
    | some true => match e g1 with
      | some (k, x) => if x.noL || k.isFr then some (some x) else none
      | none => none
    | some false => some none
    | none => none
  | _ => none
def consO (o : Option D) (r : Option (List D)) : Option (List D) := match o with
  | some x => r.map (x :: ·)
  | none => r
theorem compV_step {own : List Nat} {G : G} {mo : Mo} {g : Sg} {c : Sg → Option Bool} {e : Sg → Option (Rk × D)} {d : D} {ds : List D} {o : Option D} (h : compStep own G mo g c e d = some o) : compV own G mo g c e (d :: ds) = consO o (compV own G mo g c e ds) := by
  rw [compV]
  unfold compStep at h
  split at h
  · split at h
    · split at h
      · split at h
        · cases h; rename_i q1 _ q2 _ _ _ q3 q4; first | (rw [q1]; simp only [q2, q3, q4]; rfl) | (rw [if_pos q4]; rfl)
        · cases h
      · cases h
    · cases h; rename_i q1 _ q2; first | rfl | (rw [q1]; simp only [q2]; rfl)
    · cases h
  · cases h
/-- a comprehension over a list that is told by a function -/
theorem compV_list {own : List Nat} {G : G} {mo : Mo} {g : Sg} {c : Sg → Option Bool} {e : Sg → Option (Rk × D)} {ι : Type} (h : ι → D) (p : ι → Bool) (f : ι → D) : ∀ (is : List ι), (∀ i ∈ is, compStep own G mo g c e (h i) = some (if p i then some (f i) else none)) → compV own G mo g c e (is.map h) = some ((is.filter p).map f)
  | [], _ => rfl
  | i :: is, H => by
    rw [List.map_cons, compV_step (H i List.mem_cons_self)]
    have ih := compV_list h p f is fun j hj => H j (List.mem_cons_of_mem _ hj)
    cases hp : p i with
    | false => rw [List.filter_cons_of_neg (by rw [hp]; decide)]; exact ih
    | true =>
      rw [List.filter_cons_of_pos hp, List.map_cons, if_pos rfl, ih]; rfl
/-- the same, all kept -/
theorem compV_all {own : List Nat} {G : G} {mo : Mo} {g : Sg} {c : Sg → Option Bool} {e : Sg → Option (Rk × D)} {ι : Type} (h : ι → D) (f : ι → D) (is : List ι) (H : ∀ i ∈ is, compStep own G mo g c e (h i) = some (some (f i))) : compV own G mo g c e (is.map h) = some (is.map f) := by
  rw [compV_list h (fun _ => true) f is fun i hi => by rw [H i hi, if_pos rfl], List.filter_eq_self.mpr fun _ _ => rfl]

def B.app : B → B → B
  | .nil, b => b
  | .cons s a, b => .cons s (B.app a b)
theorem evB_app (T : Tab) : ∀ (a b : B) (g : Sg), evB T (a.app b) g = M.bind (evB T a) (fun c => match c with
    | .nx => evB T b
    | x => M.pure x) g
  | .nil, b, g => by
    rw [B.app, evB]; rfl
  | .cons s a, b, g => by
    rw [B.app, evB, evB]
    show M.bind (evS T s) _ g = M.bind (M.bind (evS T s) _) _ g
    unfold M.bind
    cases evS T s g with
    | none => rfl
    | some r =>
      cases r with
      | exc c g1 => rfl
      | ok c g1 =>
        cases c with
        | rt fl d => rfl
        | nx =>
          dsimp only
          have := evB_app T a b g1
          unfold M.bind at this
          exact this
/-- holding, as a slot's mode (a plain thing: shared) -/
def Rk.mo (d : D) : Rk → Mo
  | .fr => if d.noL && d.noC then .sh else .ow
  | _ => .sh
def Rk.fl : Rk → Bool
  | .fr => true
  | _ => false
/-- the block runs from g; Q of how it ends, and of a state that says no more than the true one -/
def Wb (T : Tab) (b : B) (g : Sg) (Q : Ctl → Sg → Prop) : Prop := ∃ c p, Do T b g c p ∧ Q c p
def Ws (T : Tab) (s : S) (g : Sg) (Q : Ctl → Sg → Prop) : Prop := ∃ c p, DoS T s g c p ∧ Q c p
section
variable {T : Tab} {s : S} {b : B} {g p : Sg} {Q : Ctl → Sg → Prop}
theorem Wb.nil (h : Q .nx g) : Wb T .nil g Q := ⟨_, _, .nil, h⟩
theorem Wb.pre (h : Wb T b p Q) (w : SgR p g) : Wb T b g Q := by
  obtain ⟨c, p', h1, h2⟩ := h
  exact ⟨c, p', h1.pre w, h2⟩
theorem Wb.post {Q' : Ctl → Sg → Prop} (h : Wb T b g Q) (w : ∀ c p, Q c p → Q' c p) : Wb T b g Q' := by
  obtain ⟨c, p', h1, h2⟩ := h
  exact ⟨c, p', h1, w _ _ h2⟩
theorem Ws.pre (h : Ws T s p Q) (w : SgR p g) : Ws T s g Q := by
  obtain ⟨c, p', h1, h2⟩ := h
  exact ⟨c, p', h1.pre w, h2⟩
theorem Wb.cons (h : Ws T s g fun c p => match c with
    | .nx => Wb T b p Q
    | .rt fl d => Q (.rt fl d) p) : Wb T (.cons s b) g Q := by
  obtain ⟨c, p', h1, h2⟩ := h
  cases c with
  | nx =>
    obtain ⟨c, p2, h3, h4⟩ := h2
    exact ⟨c, p2, .cons h1 h3, h4⟩
  | rt fl d => exact ⟨_, _, .leave h1, h2⟩
theorem Wb.step {p : Sg} (h : DoS T s g .nx p) (hb : Wb T b p Q) : Wb T (.cons s b) g Q := .cons ⟨_, _, h, hb⟩
theorem Wb.app {a : B} (h : Wb T a g fun c p => match c with
    | .nx => Wb T b p Q
    | .rt fl d => Q (.rt fl d) p) : Wb T (a.app b) g Q := by
  obtain ⟨c, p', ⟨c', g', h1, h2, h3⟩, h4⟩ := h
  cases c with
  | nx =>
    cases c' with
    | rt _ _ => exact h2.elim
    | nx =>
      obtain ⟨c, p2, h5, h6⟩ := h4
      obtain ⟨c2, g2, h7, h8, h9⟩ := h5.pre h3
      refine ⟨c, p2, ⟨c2, g2, ?_, h8, h9⟩, h6⟩
      rw [evB_app, M.run_bind h1]
      exact h7
  | rt fl d =>
    cases c' with
    | nx => exact h2.elim
    | rt fl' d' =>
      refine ⟨_, _, ⟨_, g', ?_, h2, h3⟩, h4⟩
      rw [evB_app, M.run_bind h1]; rfl
/-- a state's slot, said less -/
theorem SgR.plain {k : Nat} {m : Mo} {d : D} (h1 : d.noL = true) (h2 : d.noC = true) : SgR ⟨g.sl.set k (some (.sh, d)), g.ce⟩ ⟨g.sl.set k (some (moB true, d)), g.ce⟩ := ⟨by simp, fun j s hs => by
  dsimp only at hs ⊢
  rw [List.getElem?_set] at hs ⊢
  split at hs
  · split at hs
    · rename_i e hl
      cases hs
      rw [if_pos e, if_pos hl]
      exact ⟨_, rfl, rfl, .inr ⟨⟨h1, h2⟩, rfl, rfl⟩⟩
    · cases hs
  · rename_i hn
    rw [if_neg hn]
    exact ⟨s, hs, SlR.refl s⟩, rfl⟩
theorem force_run {k : Rk} {d : D} (hk : k.slot = false) (g : Sg) : force (k.ref d) g = some (.ok (k.fl, d) g) := by
  cases k with
  | fr => rfl
  | sh => rfl
  | sl _ _ => cases hk
theorem DoS.asg {k : Nat} {e : E} {r : Rk} {d : D} (h : pv T e g = some (r, d)) (hr : r.slot = false) (hk : k < g.sl.length) : DoS T (.asg (.name k) e) g .nx ⟨g.sl.set k (some (r.mo d, d)), g.ce⟩ := by
  obtain ⟨e1, h1⟩ := pv_snd T e g r d h
  have e2 : evS T (.asg (.name k) e) g = some (.ok .nx ⟨g.sl.set k (some (moB r.fl, d)), g.ce⟩) := by
    rw [evS, bind_run e1]
    rw [bind_run (a := (r.fl, d)) (g1 := g) (by
      show (stab (r.ref d) >>= fun r => force r) g = _
      rw [bind_run h1.stab, force_run hr])]
    dsimp only
    rw [asgG, bind_run (a := ()) (g1 := ⟨g.sl.set k (some (moB r.fl, d)), g.ce⟩) (by unfold setSlot; rw [if_pos hk])]; rfl
  refine (DoS.of e2).weak ?_
  cases r with
  | sh => exact .refl _
  | sl _ _ => cases hr
  | fr =>
    unfold Rk.mo
    dsimp only
    split
    · rename_i hp
      rw [Bool.and_eq_true] at hp
      exact SgR.plain (m := .sh) hp.1 hp.2
    · exact .refl _
theorem DoS.asgT {gs : Gs} {e : E} {r : Rk} {d : D} {g' : Sg} (h : pv T e g = some (r, d)) (hf : d.flatItems = true) (ha : asgG (.tup gs) (.sh, d) g = some (.ok () g')) : DoS T (.asg (.tup gs) e) g .nx g' := by
  obtain ⟨e1, h1⟩ := pv_snd T e g r d h
  refine .of ?_
  rw [evS, bind_run e1]
  rw [bind_run (a := (false, d)) (g1 := g) (by
    show (look (r.ref d) >>= fun d => _) g = _
    rw [bind_run h1.look, if_pos hf]; rfl)]
  dsimp only
  rw [show moB false = .sh from rfl, bind_run ha]; rfl
theorem DoS.ret {e : E} {r : Rk} {d : D} (h : pv T e g = some (r, d)) (hr : r.slot = false) : DoS T (.ret e) g (.rt r.fl d) g := by
  obtain ⟨e1, h1⟩ := pv_snd T e g r d h
  refine .of ?_
  rw [evS, bind_run e1, bind_run h1.stab, bind_run (a := (r.fl, d)) (g1 := g)]
  · rfl
  · cases r with
    | fr => rfl
    | sh => rfl
    | sl _ _ => cases hr
theorem DoS.retO {e : E} {k : Nat} {d : D} (h : pv T e g = some (.sl k .ow, d)) : DoS T (.ret e) g (.rt true d) ⟨g.sl.set k none, g.ce⟩ := by
  obtain ⟨e1, h1⟩ := pv_snd T e g _ d h
  refine .of ?_
  rw [evS, bind_run e1, bind_run h1.stab, bind_run (a := (true, d)) (g1 := ⟨g.sl.set k none, g.ce⟩)]
  · rfl
  · show moveR (.slot k) g = _
    unfold moveR
    dsimp only
    rw [(h1.slot k .ow rfl).1]
theorem Wb.asg {k : Nat} {e : E} {r : Rk} {d : D} (h : pv T e g = some (r, d)) (hr : r.slot = false) (hk : k < g.sl.length) (hb : Wb T b ⟨g.sl.set k (some (r.mo d, d)), g.ce⟩ Q) : Wb T (.cons (.asg (.name k) e) b) g Q := .step (.asg h hr hk) hb
theorem Wb.asgT {gs : Gs} {e : E} {r : Rk} {d : D} {g' : Sg} (h : pv T e g = some (r, d)) (hf : d.flatItems = true) (ha : asgG (.tup gs) (.sh, d) g = some (.ok () g')) (hb : Wb T b g' Q) : Wb T (.cons (.asg (.tup gs) e) b) g Q := .step (.asgT h hf ha) hb
theorem Wb.ret {e : E} {r : Rk} {d : D} (h : pv T e g = some (r, d)) (hr : r.slot = false) (hq : Q (.rt r.fl d) g) : Wb T (.cons (.ret e) b) g Q := .cons ⟨_, _, .ret h hr, hq⟩
theorem Wb.retO {e : E} {k : Nat} {d : D} (h : pv T e g = some (.sl k .ow, d)) (hq : Q (.rt true d) ⟨g.sl.set k none, g.ce⟩) : Wb T (.cons (.ret e) b) g Q := .cons ⟨_, _, .retO h, hq⟩
theorem Wb.cond {c : E} {b1 b2 : B} {r : Rk} {t : Bool} (h : pv T c g = some (r, .bl t)) (h1 : t = true → Wb T (b1.app b) g Q) (h2 : t = false → Wb T (b2.app b) g Q) : Wb T (.cons (.cond c b1 b2) b) g Q := by
  obtain ⟨e1, H⟩ := pv_snd T c g _ _ h
  have key : ∀ b' : B, evS T (.cond c b1 b2) g = evB T b' g → Wb T (b'.app b) g Q → Wb T (.cons (.cond c b1 b2) b) g Q := by
    intro b' he hw
    obtain ⟨c', p, ⟨c2, g2, q1, q2, q3⟩, hq⟩ := hw
    refine ⟨c', p, ⟨c2, g2, ?_, q2, q3⟩, hq⟩
    rw [← q1, evB_app, evB]
    show M.bind (evS T _) _ g = _
    unfold M.bind
    rw [he]
    cases evB T b' g with
    | none => rfl
    | some r => cases r with
      | exc _ _ => rfl
      | ok c _ => cases c <;> rfl
  have he : evS T (.cond c b1 b2) g = evB T (if t then b1 else b2) g := by
    rw [evS, bind_run e1, bind_run H.asB]
    cases t <;> rfl
  cases t with
  | true => exact key b1 he (h1 rfl)
  | false => exact key b2 he (h2 rfl)
/-- a list in an owned slot is changed -/
theorem DoS.mut {m : Mu} {k : Nat} {as : A} {xs : List (Rk × D)} {es : List (Bool × D)} {ds ys : List D} {x : D} (hs : g.sl[k]? = some (some (.ow, .lst ds))) (h : pvA T as (lockV (some k) g) = some xs) (hf : forceV xs = some es) (he : es.all fresh = true) (hm : mutD m ds (es.map (·.2)) = some (ys, x)) : DoS T (.expr (.mut m k .nil as)) g .nx ⟨g.sl.set k (some (.ow, .lst ys)), g.ce⟩ := by
  have hk : k < g.sl.length := (List.getElem?_eq_some_iff.mp hs).1
  have el : lockV (some k) g = { g with sl := g.sl.set k (some (.lk, .lst ds)) } := by unfold lockV; dsimp only; rw [hs]
  rw [el] at h
  obtain ⟨e1, h1⟩ := pvA_snd T as _ _ h
  obtain ⟨f1, f2⟩ := forceV_run (g := { g with sl := g.sl.set k (some (.lk, .lst ds)) }) hf
  refine .of ?_
  rw [evS, evR]
  rw [bind_run (a := Ref.tmp true x) (g1 := ⟨g.sl.set k (some (.ow, .lst ys)), g.ce⟩)]
  · rfl
  rw [bind_run (a := ()) (g1 := g) (by unfold hasK; rw [hs])]
  rw [bind_run (a := []) (g1 := g) (by rw [evP]; rfl)]
  rw [bind_run (a := ()) (g1 := g) (by unfold chkP; rw [hs]; rfl)]
  rw [bind_run (a := es) (g1 := g)]
  · unfold mutSlot
    rw [hs]
    dsimp only
    rw [show atPath (D.lst ds) [] = some (.lst ds) from rfl]
    dsimp only
    rw [he, hm]
    rfl
  · unfold lockIn
    rw [hs]
    dsimp only
    rw [bind_run e1, f1]
    dsimp only
    unfold unl
    dsimp only
    rw [List.getElem?_set_self hk]
    dsimp only
    rw [List.set_set, set_same hs]
theorem Wb.mut {m : Mu} {k : Nat} {as : A} {xs : List (Rk × D)} {es : List (Bool × D)} {ds ys : List D} {x : D} (hs : g.sl[k]? = some (some (.ow, .lst ds))) (h : pvA T as (lockV (some k) g) = some xs) (hf : forceV xs = some es) (he : es.all fresh = true) (hm : mutD m ds (es.map (·.2)) = some (ys, x)) (hb : Wb T b ⟨g.sl.set k (some (.ow, .lst ys)), g.ce⟩ Q) : Wb T (.cons (.expr (.mut m k .nil as)) b) g Q := .step (.mut hs h hf he hm) hb
/-- one appended -/
theorem Wb.append {k : Nat} {e : E} {r : Rk} {d : D} {ds : List D} (hs : g.sl[k]? = some (some (.ow, .lst ds))) (h : pv T e (lockV (some k) g) = some (r, d)) (hr : r.slot = false) (hf : (r.fl || d.noL) = true) (hl : ds.length < 16777216) (hb : Wb T b ⟨g.sl.set k (some (.ow, .lst (ds ++ [d]))), g.ce⟩ Q) : Wb T (.cons (.expr (.mut .append k .nil (.cons e .nil))) b) g Q :=
  .mut (xs := [(r, d)]) (es := [(r.fl, d)]) (x := .non) hs (by rw [pvA, h, pvA]) (by cases r with
    | fr => rfl
    | sh => rfl
    | sl _ _ => cases hr) (by show (fresh (r.fl, d) && true) = true; rw [Bool.and_true]; exact hf) (by
      show (if decide (ds.length < 16777216) then some (ds ++ [d], D.non) else none) = _
      rw [decide_eq_true hl]; rfl) hb
/-- a for: what holds behind so many turns -/
theorem forL_wb {G : G} {mo : Mo} {ι : Type} (h : ι → D) (Inv : List ι → Sg → Prop) (Post : Ctl → Sg → Prop) (all : List ι) (hs : ∀ pre i suf, all = pre ++ i :: suf → ∀ p, Inv pre p → ∃ g1, asgG G (mo, h i) p = some (.ok () g1) ∧ Wb T b g1 fun c q => match c with
      | .nx => Inv (pre ++ [i]) q
      | .rt fl d => Post (.rt fl d) q) : ∀ (is pre : List ι) (p g : Sg), all = pre ++ is → Inv pre p → SgR p g → ∃ c c' p' g', forL (fun d => do asgG G (mo, d); evB T b) (is.map h) g = some (.ok c' g') ∧ CtlR c c' ∧ SgR p' g' ∧ match c with
      | .nx => Inv all p'
      | .rt fl d => Post (.rt fl d) p'
  | [], pre, p, g, e, hi, hg => ⟨.nx, .nx, p, g, rfl, trivial, hg, by rw [List.append_nil] at e; rw [e]; exact hi⟩
  | i :: is, pre, p, g, e, hi, hg => by
    obtain ⟨g1, h1, c, q, h2, h3⟩ := hs pre i is e p hi
    obtain ⟨r2, h4, hr⟩ := moAsgG G mo mo (h i) (.inl rfl) p g hg _ h1
    cases r2 with
    | exc _ _ => exact hr.elim
    | ok u g2 =>
      obtain ⟨_, hr⟩ := hr
      obtain ⟨c', g', h5, h6, h7⟩ := h2.pre hr
      cases c with
      | nx =>
        cases c' with
        | rt _ _ => exact h6.elim
        | nx =>
          obtain ⟨c, c', p', g3, e3, r3⟩ := forL_wb h Inv Post all hs is (pre ++ [i]) q g' (by rw [e]; simp) h3 h7
          refine ⟨c, c', p', g3, ?_, r3⟩
          show M.bind (M.bind (asgG G (mo, h i)) fun _ => evB T b) _ g = _
          rw [M.run_bind (g1 := g') (a := .nx) (by rw [M.run_bind h4]; exact h5)]
          exact e3
      | rt fl d =>
        cases c' with
        | nx => exact h6.elim
        | rt fl' d' =>
          refine ⟨.rt fl d, .rt fl' d', q, g', ?_, h6, h7, h3⟩
          show M.bind (M.bind (asgG G (mo, h i)) fun _ => evB T b) _ g = _
          rw [M.run_bind (g1 := g') (a := .rt fl' d') (by rw [M.run_bind h4]; exact h5)]; rfl
/-- a for over things that are no slot's own -/
theorem Wb.for {G : G} {I : I} {b' : B} {ι : Type} {is : List ι} {h : ι → D} {mo : Mo} (Inv : List ι → Sg → Prop) (hI : pvI T I g = some (is.map h, mo, none)) (hmo : mo = .sh) (h0 : Inv [] g)
    (hs : ∀ pre i suf, is = pre ++ i :: suf → ∀ p, Inv pre p → ∃ g1, asgG G (mo, h i) p = some (.ok () g1) ∧ Wb T b g1 fun c q => match c with
      | .nx => Inv (pre ++ [i]) q
      | .rt fl d => Q (.rt fl d) q)
    (hb : ∀ p, Inv is p → Wb T b' p Q) : Wb T (.cons (.for G I b) b') g Q := by
  subst hmo
  obtain ⟨e1, _⟩ := pvI_snd T I g _ hI
  obtain ⟨c, c', p', g', e2, h2, h3, h4⟩ := forL_wb h Inv Q is hs is [] g g rfl h0 (.refl _)
  refine .cons ⟨c, p', ⟨c', g', ?_, h2, h3⟩, ?_⟩
  · rw [evS, bind_run e1]
    exact e2
  · cases c with
    | nx => exact hb _ h4
    | rt fl d => exact h4
/-- a for over an owned slot's list -/
theorem Wb.forL {G : G} {I : I} {b' : B} {ι : Type} {is : List ι} {h : ι → D} {k : Nat} {x : D} (Inv : List ι → Sg → Prop) (hk : g.sl[k]? = some (some (.ow, x))) (hI : pvI T I g = some (is.map h, .sh, some k)) (h0 : Inv [] ⟨g.sl.set k (some (.lk, x)), g.ce⟩)
    (hl : ∀ pre p, Inv pre p → p.sl[k]? = some (some (.lk, x)))
    (hs : ∀ pre i suf, is = pre ++ i :: suf → ∀ p, Inv pre p → ∃ g1, asgG G (.sh, h i) p = some (.ok () g1) ∧ Wb T b g1 fun c q => match c with
      | .nx => Inv (pre ++ [i]) q
      | .rt fl d => q.sl[k]? = some (some (.lk, x)) ∧ Q (.rt fl d) ⟨q.sl.set k (some (.ow, x)), q.ce⟩)
    (hb : ∀ p, Inv is p → Wb T b' ⟨p.sl.set k (some (.ow, x)), p.ce⟩ Q) : Wb T (.cons (.for G I b) b') g Q := by
  obtain ⟨e1, _⟩ := pvI_snd T I g _ hI
  obtain ⟨c, c', p', g', e2, h2, h3, h4⟩ := forL_wb h Inv (fun c q => q.sl[k]? = some (some (.lk, x)) ∧ Q c ⟨q.sl.set k (some (.ow, x)), q.ce⟩) is hs is [] ⟨g.sl.set k (some (.lk, x)), g.ce⟩ ⟨g.sl.set k (some (.lk, x)), g.ce⟩ rfl h0 (.refl _)
  have hp : p'.sl[k]? = some (some (.lk, x)) := by
    cases c with
    | nx => exact hl _ _ h4
    | rt fl d => exact h4.1
  obtain ⟨m', hg, hm⟩ := h3.get hp
  have hm : m' = .lk := by
    rcases hm with rfl | ⟨_, h, _⟩
    · rfl
    · cases h
  subst hm
  have hw : SgR ⟨p'.sl.set k (some (.ow, x)), p'.ce⟩ ⟨g'.sl.set k (some (.ow, x)), g'.ce⟩ := by
    have hk1 : k < p'.sl.length := (List.getElem?_eq_some_iff.mp hp).1
    have hk2 : k < g'.sl.length := (List.getElem?_eq_some_iff.mp hg).1
    refine ⟨by simp [h3.len], fun j s hs => ?_, h3.ce⟩
    dsimp only at hs ⊢
    rw [List.getElem?_set] at hs ⊢
    split at hs
    · rename_i e
      subst e
      cases hs
      rw [if_pos rfl, if_pos hk2]
      exact ⟨_, rfl, SlR.refl _⟩
    · rename_i e
      rw [if_neg e]
      exact h3.at_ j s hs
  refine .cons ⟨c, ⟨p'.sl.set k (some (.ow, x)), p'.ce⟩, ⟨c', ⟨g'.sl.set k (some (.ow, x)), g'.ce⟩, ?_, h2, hw⟩, ?_⟩
  · rw [evS, bind_run e1]
    show lockIn k (Om.forL _ _) g = _
    unfold lockIn
    rw [hk]
    dsimp only
    rw [e2]
    dsimp only
    unfold unl
    rw [hg]
  · cases c with
    | nx => exact hb _ h4
    | rt fl d => exact h4.2
/-- a while, by a measure -/
theorem whileL_wb {c : E} (Inv : Nat → Sg → Prop) (Post : Ctl → Sg → Prop) (Out : Sg → Prop) (hs : ∀ m p, Inv m p → ∃ r t, pv T c p = some (r, .bl t) ∧ (t = false → Out p) ∧ (t = true → Wb T b p fun c q => match c with
      | .nx => ∃ m', m' < m ∧ Inv m' q
      | .rt fl d => Post (.rt fl d) q)) : ∀ (n m : Nat) (p g : Sg), m < n → Inv m p → SgR p g → ∃ c0 c' p' g', whileL (do asB (← evR T c)) (evB T b) n g = some (.ok c' g') ∧ CtlR c0 c' ∧ SgR p' g' ∧ match c0 with
      | .nx => Out p'
      | .rt fl d => Post (.rt fl d) p'
  | 0, m, p, g, hn, _, _ => absurd hn (Nat.not_lt_zero _)
  | n + 1, m, p, g, hn, hi, hg => by
    obtain ⟨r, t, h1, h2, h3⟩ := hs m p hi
    obtain ⟨e1, H⟩ := pv_snd T c p r _ h1
    have e0 : (do asB (← evR T c) : M Bool) p = some (.ok t p) := by rw [bind_run e1, H.asB]
    have mt : MR Eq (do asB (← evR T c) : M Bool) (do asB (← evR T c) : M Bool) := MR.bind (moR (TabR.refl T) c) fun _ _ h => moAsB h
    obtain ⟨r1, e2, hr⟩ := mt p g hg _ e0
    cases r1 with
    | exc _ _ => exact hr.elim
    | ok t' g1 =>
      obtain ⟨rfl, hr⟩ := hr
      show ∃ c0 c' p' g', M.bind _ _ g = _ ∧ _
      rw [M.run_bind e2]
      cases t with
      | false => exact ⟨.nx, .nx, p, g1, rfl, trivial, hr, h2 rfl⟩
      | true =>
        obtain ⟨c0, q, h5, h6⟩ := h3 rfl
        obtain ⟨c', g', h7, h8, h9⟩ := h5.pre hr
        rw [if_pos rfl]
        show ∃ c0 c' p' g', M.bind (evB T b) _ g1 = _ ∧ _
        rw [M.run_bind h7]
        cases c0 with
        | nx =>
          cases c' with
          | rt _ _ => exact h8.elim
          | nx =>
            obtain ⟨m', hm, hi'⟩ := h6
            exact whileL_wb Inv Post Out hs n m' q g' (by omega) hi' h9
        | rt fl d =>
          cases c' with
          | nx => exact h8.elim
          | rt fl' d' => exact ⟨.rt fl d, .rt fl' d', q, g', rfl, h8, h9, h6⟩
theorem Wb.while {c : E} {b' : B} (Inv : Nat → Sg → Prop) (m : Nat) (hm : m < turns) (h0 : Inv m g) (hs : ∀ m p, Inv m p → ∃ r t, pv T c p = some (r, .bl t) ∧ (t = false → Wb T b' p Q) ∧ (t = true → Wb T b p fun c q => match c with
      | .nx => ∃ m', m' < m ∧ Inv m' q
      | .rt fl d => Q (.rt fl d) q)) : Wb T (.cons (.while c b) b') g Q := by
  obtain ⟨c0, c', p', g', e, h1, h2, h3⟩ := whileL_wb Inv Q (fun p => Wb T b' p Q) hs turns m g g hm h0 (.refl _)
  refine .cons ⟨c0, p', ⟨c', g', by rw [evS]; exact e, h1, h2⟩, ?_⟩
  cases c0 with
  | nx => exact h3
  | rt fl d => exact h3
end
/-! the rules with the next state told by an equation -/
section
variable {T : Tab} {s : S} {b : B} {g g' p : Sg} {Q : Ctl → Sg → Prop}
theorem Wb.eq (e : g = g') (h : Wb T b g' Q) : Wb T b g Q := e ▸ h
theorem Wb.asgE {k : Nat} {e : E} {r : Rk} {d : D} (h : pv T e g = some (r, d)) (hr : r.slot = false) (hk : k < g.sl.length) (he : (⟨g.sl.set k (some (r.mo d, d)), g.ce⟩ : Sg) = g') (hb : Wb T b g' Q) : Wb T (.cons (.asg (.name k) e) b) g Q := .asg h hr hk (he ▸ hb)
theorem Wb.appendE {k : Nat} {e : E} {r : Rk} {d : D} {ds : List D} (hs : g.sl[k]? = some (some (.ow, .lst ds))) (h : pv T e (lockV (some k) g) = some (r, d)) (hr : r.slot = false) (hf : (r.fl || d.noL) = true) (hl : ds.length < 16777216) (he : (⟨g.sl.set k (some (.ow, .lst (ds ++ [d]))), g.ce⟩ : Sg) = g') (hb : Wb T b g' Q) : Wb T (.cons (.expr (.mut .append k .nil (.cons e .nil))) b) g Q := .append hs h hr hf hl (he ▸ hb)
end
/-- what a function gives -/
def Fn (T : Tab) (f : Df) (ds : List D) (R : FR → Prop) : Prop := ∃ r, runF T f ds = some r ∧ R r.nrm
theorem Fn.of {T : Tab} {f : Df} {ds : List D} {R : FR → Prop} (h0 : (decide (ds.length = f.np) && decide (f.mask.length = f.np) && decide (f.np ≤ f.ns) && D.noCL ds) = true) (h : Wb T f.body (start0 f ds) fun c p => match c with
    | .nx => ∃ fin, finC p.sl f.mask = some fin ∧ R (.ret false .non fin)
    | .rt fl d => d.noC = true ∧ ∃ fin, finC p.sl f.mask = some fin ∧ R (.ret (fl && !(d.noL && d.noC)) d fin)) : Fn T f ds R := by
  obtain ⟨c, p, h1, h2⟩ := h
  cases c with
  | nx =>
    obtain ⟨fin, h3, h4⟩ := h2
    exact ⟨_, runF_nx h0 h1 h3, h4⟩
  | rt fl d =>
    obtain ⟨hc, fin, h3, h4⟩ := h2
    obtain ⟨fl2, e, h2⟩ := runF_of h0 h1 hc h3
    refine ⟨_, e, ?_⟩
    rw [← FR.nrm_eq (r := .ret fl d fin) (r' := .ret fl2 d fin) ⟨rfl, h2, rfl⟩]
    exact h4
/-- a plain function: nothing lent -/
theorem Fn.pl {T : Tab} {f : Df} {ds : List D} {R : FR → Prop} {b : B} {g : Sg} (h0 : (decide (ds.length = f.np) && decide (f.mask.length = f.np) && decide (f.np ≤ f.ns) && D.noCL ds) = true) (hm : f.mask.all (!·) = true) (hb : f.body = b) (hg : start0 f ds = g) (h : Wb T b g fun c p => match c with
    | .nx => R (.ret false .non [])
    | .rt fl d => d.noC = true ∧ R (.ret (fl && !(d.noL && d.noC)) d [])) : Fn T f ds R := by
  subst hb; subst hg
  have hf : ∀ (sl : List Slot), finC sl f.mask = some [] := fun sl => by
    have : ∀ (ms : List Bool) (k : Nat), ms.all (!·) = true → finOf sl ms k = some [] := by
      intro ms
      induction ms with
      | nil => intro k _; rfl
      | cons m ms ih =>
        intro k hk
        rw [List.all_cons, Bool.and_eq_true] at hk
        cases m with
        | true => cases hk.1
        | false => exact ih (k + 1) hk.2
    unfold finC
    rw [this _ _ hm]; rfl
  refine Fn.of h0 (h.post fun c p hq => ?_)
  cases c with
  | nx => exact ⟨[], hf _, hq⟩
  | rt fl d => exact ⟨hq.1, [], hf _, hq.2⟩
theorem Fn.up {P : Pg} {f : Str} {df : Df} (h : P.defs.lookup f = some df) {n : Nat} {ds : List D} {R : FR → Prop} (g : Fn (P.nt n) df ds R) : ∃ r, (P.nt (n + 1)).run f ds = some r ∧ R r := by
  obtain ⟨r, e, hr⟩ := g
  exact ⟨_, nt_run h e, hr⟩
theorem Fn.run {P : Pg} {f : Str} {df : Df} (h : P.defs.lookup f = some df) {n : Nat} {ds : List D} {r : FR} (g : Fn (P.nt n) df ds (· = r)) : (P.nt (n + 1)).run f ds = some r := by
  obtain ⟨r', e, hr⟩ := g.up h
  rw [e, hr]
end Om

/-! Wk5: data: equality, depth, lists of ints. -/
namespace Om
open PySem PySem.Spec PyProof.Rows L2

mutual
/-- no cell; texts that can be laid; at most so deep -/
def D.fit : Nat → D → Bool
  | _, .non => true
  | _, .bl _ => true
  | _, .int _ => true
  | _, .str s => PyData.strOk s
  | n, .scr ns => decide (0 < n)
  | _, .cell _ => false
  | n, .tup ds => match n with
    | 0 => false
    | n + 1 => D.fitL n ds
  | n, .lst ds => match n with
    | 0 => false
    | n + 1 => D.fitL n ds
def D.fitL : Nat → List D → Bool
  | _, [] => true
  | n, d :: ds => D.fit n d && D.fitL n ds
end
theorem fitL_iff {n : Nat} : ∀ {ds : List D}, D.fitL n ds = true ↔ ∀ d ∈ ds, D.fit n d = true
  | [] => ⟨fun _ _ h => (nomatch h), fun _ => rfl⟩
  | x :: xs => by
    rw [D.fitL, Bool.and_eq_true, fitL_iff (ds := xs)]
    constructor
    · rintro ⟨h1, h2⟩ y hy
      rcases List.mem_cons.mp hy with rfl | hy
      · exact h1
      · exact h2 y hy
    · intro h
      exact ⟨h x List.mem_cons_self, fun y hy => h y (List.mem_cons_of_mem _ hy)⟩
theorem lay_ints : ∀ ns : List Int, PyData.canLayAll0 (ns.map PyData.int) = true ∧ PyData.depthAll (ns.map PyData.int) ≤ 1
  | [] => by
    refine ⟨rfl, ?_⟩
    show PyData.depthAll [] ≤ 1
    rw [PyData.depthAll]; omega
  | n :: ns => by
    obtain ⟨h1, h2⟩ := lay_ints ns
    refine ⟨by rw [List.map_cons, PyData.canLayAll0, h1]; rfl, ?_⟩
    rw [List.map_cons, PyData.depthAll, PyData.depth]
    exact Nat.max_le.mpr ⟨by omega, h2⟩
mutual
theorem fit_lay : ∀ (n : Nat) (d : D), D.fit n d = true → d.p.canLay0 = true ∧ d.p.depth ≤ n + 1
  | n, .non, _ => ⟨rfl, by rw [D.p, PyData.depth]; omega⟩
  | n, .bl _, _ => ⟨rfl, by rw [D.p, PyData.depth]; omega⟩
  | n, .int _, _ => ⟨rfl, by rw [D.p, PyData.depth]; omega⟩
  | n, .str s, h => ⟨by rw [D.fit] at h; rw [D.p, PyData.canLay0]; exact h, by rw [D.p, PyData.depth]; omega⟩
  | n, .scr ns, h => by
    obtain ⟨h1, h2⟩ := lay_ints ns
    have h := of_decide_eq_true h
    refine ⟨by rw [D.p, PyData.canLay0]; exact h1, ?_⟩
    rw [D.p, PyData.depth]; omega
  | n, .cell _, h => by cases h
  | 0, .tup ds, h => by cases h
  | n + 1, .tup ds, h => by
    obtain ⟨h1, h2⟩ := fitL_lay n ds h
    refine ⟨by rw [D.p, PyData.canLay0]; exact h1, ?_⟩
    rw [D.p, PyData.depth]; omega
  | 0, .lst ds, h => by cases h
  | n + 1, .lst ds, h => by
    obtain ⟨h1, h2⟩ := fitL_lay n ds h
    refine ⟨by rw [D.p, PyData.canLay0]; exact h1, ?_⟩
    rw [D.p, PyData.depth]; omega
theorem fitL_lay : ∀ (n : Nat) (ds : List D), D.fitL n ds = true → PyData.canLayAll0 (D.pL ds) = true ∧ PyData.depthAll (D.pL ds) ≤ n + 1
  | n, [], _ => ⟨rfl, by rw [D.pL, PyData.depthAll]; omega⟩
  | n, d :: ds, h => by
    rw [D.fitL, Bool.and_eq_true] at h
    obtain ⟨h1, h2⟩ := fit_lay n d h.1
    obtain ⟨h3, h4⟩ := fitL_lay n ds h.2
    refine ⟨by rw [D.pL, PyData.canLayAll0, h1, h3]; rfl, ?_⟩
    rw [D.pL, PyData.depthAll]
    exact Nat.max_le.mpr ⟨h2, h4⟩
end
mutual
theorem fit_noC : ∀ (n : Nat) (d : D), D.fit n d = true → d.noC = true
  | n, .non, _ | n, .bl _, _ | n, .int _, _ | n, .str _, _ | n, .scr _, _ => rfl
  | n, .cell _, h => by cases h
  | 0, .tup ds, h => by cases h
  | n + 1, .tup ds, h => fitL_noC n ds h
  | 0, .lst ds, h => by cases h
  | n + 1, .lst ds, h => fitL_noC n ds h
theorem fitL_noC : ∀ (n : Nat) (ds : List D), D.fitL n ds = true → D.noCL ds = true
  | n, [], _ => rfl
  | n, d :: ds, h => by
    rw [D.fitL, Bool.and_eq_true] at h
    rw [D.noCL, fit_noC n d h.1, fitL_noC n ds h.2]; rfl
end
/-- fit for an equality -/
def D.ok (d : D) : Prop := D.fit 60 d = true
theorem D.ok.shaped {d : D} (h : d.ok) : SeqAt.shaped d.p = true := by
  obtain ⟨h1, h2⟩ := fit_lay 60 d h
  unfold SeqAt.shaped
  rw [h1, decide_eq_true (by omega : d.p.depth ≤ 64)]; rfl
theorem eqvD_ok {x y : D} (hx : x.ok) (hy : y.ok) : eqvD x y = some (PyData.eqv x.p y.p) := by
  unfold eqvD
  rw [fit_noC _ _ hx, fit_noC _ _ hy, hx.shaped, hy.shaped]; rfl
theorem eqvD_self {x : D} (hx : x.ok) : eqvD x x = some true := by
  rw [eqvD_ok hx hx, SeqAt.eqv_refl _ (fit_lay 60 x hx).1]
theorem ok_int (i : Int) : (D.int i).ok := rfl
theorem ok_bl (i : Bool) : (D.bl i).ok := rfl
theorem ok_non : (D.non).ok := rfl
theorem fitL_ints (n : Nat) (zs : List Int) : D.fitL n (zs.map D.int) = true := fitL_iff.mpr fun d hd => by
  obtain ⟨z, _, rfl⟩ := List.mem_map.mp hd
  cases n <;> rfl
theorem ok_ints (zs : List Int) : (D.lst (zs.map D.int)).ok := fitL_ints 59 zs
theorem ok_intT (zs : List Int) : (D.tup (zs.map D.int)).ok := fitL_ints 59 zs
theorem eqv_int (a b : Int) : eqvD (.int a) (.int b) = some (decide (a = b)) := by
  rw [eqvD_ok (ok_int a) (ok_int b), D.p, D.p, PyData.eqv]; rfl
theorem eqv_bl (a b : Bool) : eqvD (.bl a) (.bl b) = some (decide (a = b)) := by
  rw [eqvD_ok (ok_bl a) (ok_bl b), D.p, D.p, PyData.eqv]
  cases a <;> cases b <;> rfl
theorem eqv_str {a b : Str} (ha : PyData.strOk a = true) (hb : PyData.strOk b = true) : eqvD (.str a) (.str b) = some (decide (a = b)) := by
  rw [eqvD_ok (x := .str a) (y := .str b) (by unfold D.ok D.fit; exact ha) (by unfold D.ok D.fit; exact hb), D.p, D.p, PyData.eqv]
  rfl
end Om

/-! Wk6: rows for simp. -/
namespace Om
open PySem PySem.Spec PyProof.Rows L2

/-! data -/
section
variable {ds es : List D} {α : Type} {f : α → D} {l : List α}
@[simp] theorem noL_non : D.noL .non = true := rfl
@[simp] theorem noL_bl (b : Bool) : D.noL (.bl b) = true := rfl
@[simp] theorem noL_int (b : Int) : D.noL (.int b) = true := rfl
@[simp] theorem noL_str (b : Str) : D.noL (.str b) = true := rfl
@[simp] theorem noL_scr (b : List Int) : D.noL (.scr b) = true := rfl
@[simp] theorem noL_cell (b : Nat) : D.noL (.cell b) = true := rfl
@[simp] theorem noL_lst : D.noL (.lst ds) = false := rfl
@[simp] theorem noL_tup : D.noL (.tup ds) = D.noLL ds := rfl
@[simp] theorem noLL_nil : D.noLL [] = true := rfl
@[simp] theorem noLL_cons {d : D} : D.noLL (d :: ds) = (d.noL && D.noLL ds) := rfl
@[simp] theorem noC_non : D.noC .non = true := rfl
@[simp] theorem noC_bl (b : Bool) : D.noC (.bl b) = true := rfl
@[simp] theorem noC_int (b : Int) : D.noC (.int b) = true := rfl
@[simp] theorem noC_str (b : Str) : D.noC (.str b) = true := rfl
@[simp] theorem noC_scr (b : List Int) : D.noC (.scr b) = true := rfl
@[simp] theorem noC_cell (b : Nat) : D.noC (.cell b) = false := rfl
@[simp] theorem noC_lst : D.noC (.lst ds) = D.noCL ds := rfl
@[simp] theorem noC_tup : D.noC (.tup ds) = D.noCL ds := rfl
@[simp] theorem noCL_nil : D.noCL [] = true := rfl
@[simp] theorem noCL_cons {d : D} : D.noCL (d :: ds) = (d.noC && D.noCL ds) := rfl
@[simp] theorem noLL_appS : D.noLL (ds ++ es) = (D.noLL ds && D.noLL es) := by
  induction ds with
  | nil => rfl
  | cons d ds ih => rw [List.cons_append, noLL_cons, noLL_cons, ih, Bool.and_assoc]
@[simp] theorem noCL_appS : D.noCL (ds ++ es) = (D.noCL ds && D.noCL es) := by
  induction ds with
  | nil => rfl
  | cons d ds ih => rw [List.cons_append, noCL_cons, noCL_cons, ih, Bool.and_assoc]
@[simp] theorem noLL_map : D.noLL (l.map f) = l.all fun x => (f x).noL := by
  induction l with
  | nil => rfl
  | cons d ds ih => rw [List.map_cons, noLL_cons, List.all_cons, ih]
@[simp] theorem noCL_map : D.noCL (l.map f) = l.all fun x => (f x).noC := by
  induction l with
  | nil => rfl
  | cons d ds ih => rw [List.map_cons, noCL_cons, List.all_cons, ih]
@[simp] theorem all_yes : (l.all fun _ => true) = true := List.all_eq_true.mpr fun _ _ => rfl
@[simp] theorem items_tup : D.items (.tup ds) = some ds := rfl
@[simp] theorem items_lst : D.items (.lst ds) = some ds := rfl
@[simp] theorem items_scr (ns : List Int) : D.items (.scr ns) = some (ns.map D.int) := rfl
@[simp] theorem flat_tup : D.flatItems (.tup ds) = D.noLL ds := rfl
@[simp] theorem flat_lst : D.flatItems (.lst ds) = D.noLL ds := rfl
@[simp] theorem isLst_lst : D.isLst (.lst ds) = true := rfl
@[simp] theorem isLst_tup : D.isLst (.tup ds) = false := rfl
@[simp] theorem isN_non (p : Bool) : D.isN p .non = p := rfl
@[simp] theorem isN_bl (p b : Bool) : D.isN p (.bl b) = !p := rfl
@[simp] theorem isN_int (p : Bool) (i : Int) : D.isN p (.int i) = !p := rfl
@[simp] theorem isN_str (p : Bool) (i : Str) : D.isN p (.str i) = !p := rfl
@[simp] theorem isN_lst (p : Bool) : D.isN p (.lst ds) = !p := rfl
@[simp] theorem isN_tup (p : Bool) : D.isN p (.tup ds) = !p := rfl
end
section
variable {g : Sg} {ds : List D}
@[simp] theorem rdV_non : rdV g .non = some .non := rfl
@[simp] theorem rdV_bl (b : Bool) : rdV g (.bl b) = some (.bl b) := rfl
@[simp] theorem rdV_int (b : Int) : rdV g (.int b) = some (.int b) := rfl
@[simp] theorem rdV_str (b : Str) : rdV g (.str b) = some (.str b) := rfl
@[simp] theorem rdV_scr (b : List Int) : rdV g (.scr b) = some (.scr b) := rfl
@[simp] theorem rdV_tup : rdV g (.tup ds) = some (.tup ds) := rfl
@[simp] theorem rdV_lst : rdV g (.lst ds) = some (.lst ds) := rfl
@[simp] theorem rdV_cell (n : Nat) : rdV g (.cell n) = (g.ce[n]?).map D.lst := rfl
@[simp] theorem rdL_nil : rdL g [] = some [] := rfl
@[simp] theorem rdL_cons (k : Rk) (d : D) (xs : List (Rk × D)) : rdL g ((k, d) :: xs) = (match rdV g d, rdL g xs with
    | some d, some ds => some (d :: ds)
    | _, _ => none) := rfl
end
/-! places -/
section
variable {α : Type} {a b c d e f h i : α} {l : List α}
theorem atI_ofNat {xs : List α} (j : Nat) : atI xs (j : Int) = xs[j]? := by
  cases q : xs[j]? with
  | some v => exact atI_nat q
  | none =>
    have hj : ¬ j < xs.length := by
      intro hj
      rw [List.getElem?_eq_getElem hj] at q; cases q
    unfold atI ixN
    rw [if_pos (by omega), if_neg (by omega)]; rfl
@[simp] theorem atI_cast {xs : List α} (j : Nat) : atI xs (j : Int) = xs[j]? := atI_ofNat j
@[simp] theorem atI_0 {xs : List α} : atI xs 0 = xs[0]? := atI_ofNat 0
@[simp] theorem atI_1 {xs : List α} : atI xs 1 = xs[1]? := atI_ofNat 1
@[simp] theorem atI_2 {xs : List α} : atI xs 2 = xs[2]? := atI_ofNat 2
@[simp] theorem atI_3 {xs : List α} : atI xs 3 = xs[3]? := atI_ofNat 3
end
/-! holding -/
@[simp] theorem Rk_of_t : Rk.of true = .fr := id rfl
@[simp] theorem Rk_of_f : Rk.of false = .sh := id rfl
@[simp] theorem Rk_slot_fr : Rk.slot .fr = false := id rfl
@[simp] theorem Rk_slot_sh : Rk.slot .sh = false := id rfl
@[simp] theorem Rk_slot_sl (k : Nat) (m : Mo) : Rk.slot (.sl k m) = true := id rfl
@[simp] theorem Rk_isFr_fr : Rk.isFr .fr = true := id rfl
@[simp] theorem Rk_isFr_sh : Rk.isFr .sh = false := id rfl
@[simp] theorem Rk_fl_fr : Rk.fl .fr = true := id rfl
@[simp] theorem Rk_fl_sh : Rk.fl .sh = false := id rfl
@[simp] theorem Rk_mo_fr (d : D) : Rk.mo d .fr = if d.noL && d.noC then .sh else .ow := id rfl
@[simp] theorem Rk_mo_sh (d : D) : Rk.mo d .sh = .sh := id rfl
@[simp] theorem item_fr (v : D) : Rk.item v .fr = some (.fr, v) := id rfl
@[simp] theorem item_sh (v : D) : Rk.item v .sh = some (if v.noL then .fr else .sh, v) := id rfl
@[simp] theorem item_sl (v : D) (k : Nat) (m : Mo) : Rk.item v (.sl k m) = if v.noL then some (.fr, v) else none := id rfl
@[simp] theorem forceV_nil : forceV [] = some [] := rfl
@[simp] theorem forceV_fr (d : D) (xs : List (Rk × D)) : forceV ((.fr, d) :: xs) = (forceV xs).map ((true, d) :: ·) := rfl
@[simp] theorem forceV_sh (d : D) (xs : List (Rk × D)) : forceV ((.sh, d) :: xs) = (forceV xs).map ((false, d) :: ·) := rfl
@[simp] theorem fresh_mk (b : Bool) (d : D) : fresh (b, d) = (b || d.noL) := rfl
/-! operations -/
section
variable {i j : Int}
@[simp] theorem bop_add : bopD .add (.int i) (.int j) = some (.int (i + j)) := id rfl
@[simp] theorem bop_sub : bopD .sub (.int i) (.int j) = some (.int (i - j)) := id rfl
@[simp] theorem bop_mul : bopD .mul (.int i) (.int j) = if mulOk i j then some (.int (i * j)) else none := id rfl
@[simp] theorem bop_fdiv : bopD .fdiv (.int i) (.int j) = if decide (0 < j) && (decide (j < 1073741824) || decide (j.natAbs.log2 < 9000)) then some (.int (i / j)) else none := id rfl
@[simp] theorem bop_mod : bopD .mod (.int i) (.int j) = if 0 < j then some (.int (i % j)) else none := id rfl
@[simp] theorem bop_shl : bopD .shl (.int i) (.int j) = if powOk i j then some (.int (i * 2 ^ j.toNat)) else none := id rfl
@[simp] theorem bop_pow : bopD .pow (.int i) (.int j) = if powOk i j then some (.int (i ^ j.toNat)) else none := id rfl
@[simp] theorem bop_shr : bopD .shr (.int i) (.int j) = if 0 ≤ j then some (.int (i / 2 ^ j.toNat)) else none := id rfl
@[simp] theorem bop_band : bopD .band (.int i) (.int j) = some (.int (Builtin.bitAnd i j)) := id rfl
@[simp] theorem bop_bor : bopD .bor (.int i) (.int j) = some (.int (Builtin.bitOr i j)) := id rfl
@[simp] theorem bop_lst (xs ys : List D) : bopD .add (.lst xs) (.lst ys) = if fits (xs.length + ys.length) && D.noLL xs && D.noLL ys then some (.lst (xs ++ ys)) else none := id rfl
@[simp] theorem bop_tup (xs ys : List D) : bopD .add (.tup xs) (.tup ys) = if fits (xs.length + ys.length) && D.noLL xs && D.noLL ys then some (.tup (xs ++ ys)) else none := id rfl
@[simp] theorem cmp_lt : cmpD .lt (.int i) (.int j) = some (decide (i < j)) := id rfl
@[simp] theorem cmp_le : cmpD .le (.int i) (.int j) = some (decide (i ≤ j)) := id rfl
@[simp] theorem cmp_gt : cmpD .gt (.int i) (.int j) = some (decide (j < i)) := id rfl
@[simp] theorem cmp_ge : cmpD .ge (.int i) (.int j) = some (decide (j ≤ i)) := id rfl
@[simp] theorem cmp_eq (x y : D) : cmpD .eq x y = eqvD x y := by unfold cmpD; rfl
@[simp] theorem cmp_ne (x y : D) : cmpD .ne x y = (eqvD x y).map (! ·) := by unfold cmpD; rfl
@[simp] theorem cmp_inn (x y : D) : cmpD .inn x y = inD x y := by unfold cmpD; rfl
@[simp] theorem cmp_nin (x y : D) : cmpD .nin x y = (inD x y).map (! ·) := by unfold cmpD; rfl
@[simp] theorem eqvD_int (a b : Int) : eqvD (.int a) (.int b) = some (decide (a = b)) := eqv_int a b
@[simp] theorem eqvD_bl (a b : Bool) : eqvD (.bl a) (.bl b) = some (decide (a = b)) := eqv_bl a b
@[simp] theorem bc_len_lst (ds : List D) : bcallD .len [.lst ds] = some (.int ds.length) := id rfl
@[simp] theorem bc_len_tup (ds : List D) : bcallD .len [.tup ds] = some (.int ds.length) := id rfl
@[simp] theorem bc_len_scr (ns : List Int) : bcallD .len [.scr ns] = some (.int ns.length) := by
  show (D.items (.scr ns)).map (fun ds => D.int ds.length) = _
  simp
@[simp] theorem bc_sum (ds : List D) : bcallD .sum [.lst ds] = (intsD ds).map fun ns => .int ns.sum := id rfl
@[simp] theorem bc_min2 : bcallD .min [.int i, .int j] = some (.int (if j < i then j else i)) := id rfl
@[simp] theorem bc_max2 : bcallD .max [.int i, .int j] = some (.int (if j > i then j else i)) := id rfl
@[simp] theorem bc_all (ds : List D) : bcallD .all [.lst ds] = (blsD ds).map fun bs => .bl (bs.all id) := id rfl
@[simp] theorem bc_any (ds : List D) : bcallD .any [.lst ds] = (blsD ds).map fun bs => .bl (bs.any id) := id rfl
@[simp] theorem bc_tuple (ds : List D) : bcallD .tuple [.lst ds] = if D.noLL ds then some (.tup ds) else none := id rfl
@[simp] theorem bc_tupleT (ds : List D) : bcallD .tuple [.tup ds] = if D.noLL ds then some (.tup ds) else none := id rfl
@[simp] theorem bc_list (ds : List D) : bcallD .list [.lst ds] = if D.noLL ds then some (.lst ds) else none := id rfl
@[simp] theorem bc_listT (ds : List D) : bcallD .list [.tup ds] = if D.noLL ds then some (.lst ds) else none := id rfl
@[simp] theorem bc_int_bl (b : Bool) : bcallD .int [.bl b] = some (.int (if b then 1 else 0)) := id rfl
@[simp] theorem bc_int_int (b : Int) : bcallD .int [.int b] = some (.int b) := id rfl
@[simp] theorem isi_bool_bl (b : Bool) : isiD .bool (.bl b) = some true := id rfl
@[simp] theorem isi_bool_int (b : Int) : isiD .bool (.int b) = some false := id rfl
@[simp] theorem isi_int_int (b : Int) : isiD .int (.int b) = some true := id rfl
@[simp] theorem isi_int_bl (b : Bool) : isiD .int (.bl b) = some true := id rfl
@[simp] theorem isi_list_lst (b : List D) : isiD .list (.lst b) = some true := id rfl
@[simp] theorem isi_tuple_tup (b : List D) : isiD .tuple (.tup b) = some true := id rfl
@[simp] theorem isi_str_str (b : Str) : isiD .str (.str b) = some true := id rfl
@[simp] theorem intsD_nil : intsD [] = some [] := rfl
@[simp] theorem intsD_cons (i : Int) (ds : List D) : intsD (.int i :: ds) = (intsD ds).map (i :: ·) := rfl
@[simp] theorem intsD_map {α : Type} (f : α → Int) (l : List α) : intsD (l.map fun x => .int (f x)) = some (l.map f) := by
  induction l with
  | nil => rfl
  | cons x l ih => rw [List.map_cons, intsD_cons, ih]; rfl
@[simp] theorem intsD_map' (l : List Int) : intsD (l.map D.int) = some l := by
  have := intsD_map (fun i : Int => i) l
  rwa [List.map_id'] at this
@[simp] theorem blsD_nil : blsD [] = some [] := rfl
@[simp] theorem blsD_cons (i : Bool) (ds : List D) : blsD (.bl i :: ds) = (blsD ds).map (i :: ·) := rfl
@[simp] theorem blsD_map {α : Type} (f : α → Bool) (l : List α) : blsD (l.map fun x => .bl (f x)) = some (l.map f) := by
  induction l with
  | nil => rfl
  | cons x l ih => rw [List.map_cons, blsD_cons, ih]; rfl
@[simp] theorem blsD_map' (l : List Bool) : blsD (l.map D.bl) = some l := by
  have := blsD_map (fun i : Bool => i) l
  rwa [List.map_id'] at this
end
/-! walks -/
@[simp] theorem walk_fr (d : D) : walkV .fr d = d.items.map fun ds => (ds, .sh, none) := id rfl
@[simp] theorem walk_sh (d : D) : walkV .sh d = d.items.map fun ds => (ds, .sh, none) := id rfl
@[simp] theorem walk_sl (d : D) (j : Nat) (m : Mo) : walkV (.sl j m) d = d.items.map fun ds => (ds, if D.noLL ds then .sh else .lk, if m = .ow then some j else none) := id rfl
@[simp] theorem lockV_none (g : Sg) : lockV none g = g := rfl
@[simp] theorem lockV_some (k : Nat) (sl : List Slot) (ce : List (List D)) : lockV (some k) ⟨sl, ce⟩ = match sl[k]? with
    | some (some (_, d)) => ⟨sl.set k (some (.lk, d)), ce⟩
    | _ => ⟨sl, ce⟩ := rfl
@[simp] theorem wipeS_mk (own : List Nat) (sl : List Slot) (ce : List (List D)) : wipeS own ⟨sl, ce⟩ = ⟨wipeL sl own, ce⟩ := rfl
@[simp] theorem wipeL_nil {α : Type} (s : List (Option α)) : wipeL s [] = s := rfl
@[simp] theorem wipeL_cons {α : Type} (s : List (Option α)) (k : Nat) (ks : List Nat) : wipeL s (k :: ks) = (wipeL s ks).set k none := rfl
@[simp] theorem asgG_name (k : Nat) (e : Mo × D) (sl : List Slot) (ce : List (List D)) : asgG (.name k) e ⟨sl, ce⟩ = if k < sl.length then some (.ok () ⟨sl.set k (some e), ce⟩) else none := rfl
@[simp] theorem asgG_tup (gs : Gs) (m : Mo) (ds : List D) (g : Sg) : asgG (.tup gs) (m, .tup ds) g = asgGs gs m ds g := rfl
@[simp] theorem asgG_lst (gs : Gs) (m : Mo) (ds : List D) (g : Sg) : asgG (.tup gs) (m, .lst ds) g = if D.noLL ds then asgGs gs .sh ds g else none := by
  rw [asgG]
  split <;> rfl
@[simp] theorem asgGs_nil (m : Mo) (g : Sg) : asgGs .nil m [] g = some (.ok () g) := rfl
@[simp] theorem asgGs_cons (G : G) (gs : Gs) (m : Mo) (d : D) (ds : List D) (g : Sg) : asgGs (.cons G gs) m (d :: ds) g = match asgG G (m, d) g with
    | none => none
    | some (.ok _ g1) => asgGs gs m ds g1
    | some (.exc c g1) => some (.exc c g1) := by
  rw [asgGs]
  show M.bind (asgG G (m, d)) _ g = _
  unfold M.bind
  cases asgG G (m, d) g with
  | none => rfl
  | some r => cases r <;> rfl
/-! bits -/
theorem band_nat (a b : Nat) : Builtin.bitAnd (a : Int) (b : Int) = ((a &&& b : Nat) : Int) := by
  rw [bitAnd_pp (Int.natCast_nonneg a) (Int.natCast_nonneg b), Int.toNat_natCast, Int.toNat_natCast]
@[simp] theorem band_1 (a : Int) : Builtin.bitAnd a 1 = a % 2 := bitAnd_m1 a
@[simp] theorem slots_name (k : Nat) : G.slots (.name k) = [k] := by rw [G.slots]
@[simp] theorem slots_tup (gs : Gs) : G.slots (.tup gs) = gs.slots := by rw [G.slots]
@[simp] theorem slots_nil : Gs.slots .nil = [] := by rw [Gs.slots]
@[simp] theorem slots_cons (G : G) (gs : Gs) : Gs.slots (.cons G gs) = G.slots ++ gs.slots := by rw [Gs.slots]
/-- an option's bit -/
theorem bit_int (s k : Nat) : ((s : Int) / 2 ^ k) % 2 = if s.testBit k then 1 else 0 := by
  have h : ((s : Int) / 2 ^ k) % 2 = ((s / 2 ^ k % 2 : Nat) : Int) := by push_cast; rfl
  rw [h, Nat.testBit_eq_decide_div_mod_eq]
  have : s / 2 ^ k % 2 = 0 ∨ s / 2 ^ k % 2 = 1 := by omega
  rcases this with e | e <;> simp [e]
end Om

/-! Wk7: states told by what is in them; loops over such states. -/
namespace Om
open PySem PySem.Spec PyProof.Rows L2

@[simp] theorem SgR_nil (ce : List (List D)) : SgR ⟨[], ce⟩ ⟨[], ce⟩ ↔ True := ⟨fun _ => trivial, fun _ => .refl _⟩
@[simp] theorem SgR_cons (a b : Slot) (as bs : List Slot) (ce : List (List D)) : SgR ⟨a :: as, ce⟩ ⟨b :: bs, ce⟩ ↔ SlR a b ∧ SgR ⟨as, ce⟩ ⟨bs, ce⟩ := by
  constructor
  · intro h
    refine ⟨?_, ⟨?_, fun k s hs => ?_, rfl⟩⟩
    · obtain ⟨s', e, r⟩ := h.at_ 0 a rfl
      cases e; exact r
    · have := h.len; simpa using this
    · obtain ⟨s', e, r⟩ := h.at_ (k + 1) s (by simpa using hs)
      exact ⟨s', by simpa using e, r⟩
  · rintro ⟨h1, h2⟩
    refine ⟨?_, fun k s hs => ?_, rfl⟩
    · have := h2.len; simpa using this
    · cases k with
      | zero => cases hs; exact ⟨b, rfl, h1⟩
      | succ k =>
        obtain ⟨s', e, r⟩ := h2.at_ k s (by simpa using hs)
        exact ⟨s', by simpa using e, r⟩
@[simp] theorem SlR_none (s : Slot) : SlR none s ↔ True := by cases s <;> exact ⟨fun _ => trivial, fun _ => trivial⟩
@[simp] theorem SlR_some (m m' : Mo) (d d' : D) : SlR (some (m, d)) (some (m', d')) ↔ d = d' ∧ MoR d m m' := Iff.rfl
@[simp] theorem SlR_some_none (m : Mo × D) : SlR (some m) none ↔ False := by obtain ⟨m, d⟩ := m; exact Iff.rfl
@[simp] theorem MoR_self (d : D) (m : Mo) : MoR d m m ↔ True := ⟨fun _ => trivial, fun _ => .inl rfl⟩
@[simp] theorem MoR_sh_ow (d : D) : MoR d .sh .ow ↔ d.noL = true ∧ d.noC = true := by
  constructor
  · rintro (h | ⟨h, _, _⟩)
    · cases h
    · exact h
  · exact fun h => .inr ⟨h, rfl, rfl⟩
section
variable {T : Tab} {s : S} {b : B} {g g' p : Sg} {Q : Ctl → Sg → Prop}
/-- a for over things that are no slot's own; R says of the turns made what stands in the state -/
theorem Wb.forX {X : Type} {G : G} {I : I} {b' : B} {ι : Type} {is : List ι} {h : ι → D} (R : List ι → X → Prop) (St : X → Sg) (x0 : X) (hI : pvI T I g = some (is.map h, .sh, none)) (h0 : R [] x0) (hg : SgR (St x0) g)
    (hs : ∀ pre i suf x, is = pre ++ i :: suf → R pre x → ∃ g1, asgG G (.sh, h i) (St x) = some (.ok () g1) ∧ Wb T b g1 fun c q => match c with
      | .nx => ∃ y, R (pre ++ [i]) y ∧ SgR (St y) q
      | .rt fl d => Q (.rt fl d) q)
    (hb : ∀ x, R is x → Wb T b' (St x) Q) : Wb T (.cons (.for G I b) b') g Q := by
  refine Wb.for (is := is) (h := h) (mo := .sh) (fun pre p => ∃ x, R pre x ∧ SgR (St x) p) hI rfl ⟨x0, h0, hg⟩ ?_ ?_
  · rintro pre i suf e p ⟨x, hx, hp⟩
    obtain ⟨g1, h1, h2⟩ := hs pre i suf x e hx
    obtain ⟨r2, h4, hr⟩ := moAsgG G .sh .sh (h i) (.inl rfl) _ p hp _ h1
    cases r2 with
    | exc _ _ => exact hr.elim
    | ok u g2 => exact ⟨g2, h4, h2.pre hr.2⟩
  · rintro p ⟨x, hx, hp⟩
    exact (hb x hx).pre hp
/-- the same, the state told by a function of the turns made -/
theorem Wb.forS {G : G} {I : I} {b' : B} {ι : Type} {is : List ι} {h : ι → D} (St : List ι → Sg) (hI : pvI T I g = some (is.map h, .sh, none)) (hg : SgR (St []) g)
    (hs : ∀ pre i suf, is = pre ++ i :: suf → ∃ g1, asgG G (.sh, h i) (St pre) = some (.ok () g1) ∧ Wb T b g1 fun c q => match c with
      | .nx => SgR (St (pre ++ [i])) q
      | .rt fl d => Q (.rt fl d) q)
    (hb : Wb T b' (St is) Q) : Wb T (.cons (.for G I b) b') g Q := by
  refine Wb.forX (is := is) (h := h) (X := List ι) (fun pre x => x = pre) St [] hI rfl hg ?_ ?_
  · rintro pre i suf x e rfl
    obtain ⟨g1, h1, h2⟩ := hs x i suf e
    refine ⟨g1, h1, h2.post fun c q hq => ?_⟩
    cases c with
    | nx => exact ⟨_, rfl, hq⟩
    | rt _ _ => exact hq
  · rintro x rfl
    exact hb
/-- a for over an owned slot's list -/
theorem Wb.forLX {X : Type} {G : G} {I : I} {b' : B} {ι : Type} {is : List ι} {h : ι → D} {k : Nat} {l : D} (R : List ι → X → Prop) (St : X → Sg) (x0 : X) (hk : g.sl[k]? = some (some (.ow, l))) (hI : pvI T I g = some (is.map h, .sh, some k)) (h0 : R [] x0) (hg : SgR (St x0) ⟨g.sl.set k (some (.lk, l)), g.ce⟩)
    (hl : ∀ x, (St x).sl[k]? = some (some (.lk, l)))
    (hs : ∀ pre i suf x, is = pre ++ i :: suf → R pre x → ∃ g1, asgG G (.sh, h i) (St x) = some (.ok () g1) ∧ Wb T b g1 fun c q => match c with
      | .nx => ∃ y, R (pre ++ [i]) y ∧ SgR (St y) q
      | .rt fl d => q.sl[k]? = some (some (.lk, l)) ∧ Q (.rt fl d) ⟨q.sl.set k (some (.ow, l)), q.ce⟩)
    (hb : ∀ x, R is x → Wb T b' ⟨(St x).sl.set k (some (.ow, l)), (St x).ce⟩ Q) : Wb T (.cons (.for G I b) b') g Q := by
  have lk : ∀ x p, SgR (St x) p → p.sl[k]? = some (some (.lk, l)) := fun x p hp => by
    obtain ⟨m', hg, hm⟩ := hp.get (hl x)
    rcases hm with rfl | ⟨_, h, _⟩
    · exact hg
    · cases h
  refine Wb.forL (is := is) (h := h) (k := k) (x := l) (fun pre p => ∃ x, R pre x ∧ SgR (St x) p) hk hI ⟨x0, h0, hg⟩ ?_ ?_ ?_
  · rintro pre p ⟨x, _, hp⟩
    exact lk x p hp
  · rintro pre i suf e p ⟨x, hx, hp⟩
    obtain ⟨g1, h1, h2⟩ := hs pre i suf x e hx
    obtain ⟨r2, h4, hr⟩ := moAsgG G .sh .sh (h i) (.inl rfl) _ p hp _ h1
    cases r2 with
    | exc _ _ => exact hr.elim
    | ok u g2 => exact ⟨g2, h4, h2.pre hr.2⟩
  · rintro p ⟨x, hx, hp⟩
    refine (hb x hx).pre ⟨by simp [hp.len], fun j s hs => ?_, hp.ce⟩
    dsimp only at hs ⊢
    rw [List.getElem?_set] at hs ⊢
    have hk1 : k < (St x).sl.length := (List.getElem?_eq_some_iff.mp (hl x)).1
    have hk2 : k < p.sl.length := (List.getElem?_eq_some_iff.mp (lk x p hp)).1
    by_cases e : k = j
    · rw [if_pos e, if_pos hk1] at hs
      cases hs
      rw [if_pos e, if_pos hk2]
      exact ⟨_, rfl, SlR.refl _⟩
    · rw [if_neg e] at hs
      rw [if_neg e]
      exact hp.at_ j s hs
end
/-! words -/
theorem eqv_is {i : Int} {s : Str} (h : PyData.strOk s = true) : eqvD (.int i) (.str s) = some false := by
  rw [eqvD_ok (ok_int i) (y := .str s) (by unfold D.ok D.fit; exact h), D.p, D.p, PyData.eqv]
theorem eqv_si {i : Int} {s : Str} (h : PyData.strOk s = true) : eqvD (.str s) (.int i) = some false := by
  rw [eqvD_ok (x := .str s) (by unfold D.ok D.fit; exact h) (ok_int i), D.p, D.p, PyData.eqv]
theorem ok_needs : PyData.strOk "needs" = true := by decide +kernel
theorem ok_bans : PyData.strOk "bans" = true := by decide +kernel
theorem ok_most : PyData.strOk "most" = true := by decide +kernel
section
variable (i : Int)
@[simp] theorem ew_nn : eqvD (.str "needs") (.str "needs") = some true := by rw [eqv_str ok_needs ok_needs]; decide +kernel
@[simp] theorem ew_nb : eqvD (.str "needs") (.str "bans") = some false := by rw [eqv_str ok_needs ok_bans]; decide +kernel
@[simp] theorem ew_nm : eqvD (.str "needs") (.str "most") = some false := by rw [eqv_str ok_needs ok_most]; decide +kernel
@[simp] theorem ew_bn : eqvD (.str "bans") (.str "needs") = some false := by rw [eqv_str ok_bans ok_needs]; decide +kernel
@[simp] theorem ew_bb : eqvD (.str "bans") (.str "bans") = some true := by rw [eqv_str ok_bans ok_bans]; decide +kernel
@[simp] theorem ew_bm : eqvD (.str "bans") (.str "most") = some false := by rw [eqv_str ok_bans ok_most]; decide +kernel
@[simp] theorem ew_mn : eqvD (.str "most") (.str "needs") = some false := by rw [eqv_str ok_most ok_needs]; decide +kernel
@[simp] theorem ew_mb : eqvD (.str "most") (.str "bans") = some false := by rw [eqv_str ok_most ok_bans]; decide +kernel
@[simp] theorem ew_mm : eqvD (.str "most") (.str "most") = some true := by rw [eqv_str ok_most ok_most]; decide +kernel
@[simp] theorem ew_in : eqvD (.int i) (.str "needs") = some false := eqv_is ok_needs
@[simp] theorem ew_ib : eqvD (.int i) (.str "bans") = some false := eqv_is ok_bans
@[simp] theorem ew_im : eqvD (.int i) (.str "most") = some false := eqv_is ok_most
end
end Om

/-! Wk8: expressions that may change the state: the value, how it is held, the state behind (pe). -/
namespace Om
open PySem PySem.Spec PyProof.Rows L2

def E.isVar : E → Bool
  | .var _ => true
  | _ => false
mutual
/-- expressions that change nothing -/
@[simp] def E.pu (T : Tab) : E → Bool
  | .var _ | .non | .bl _ | .int _ | .str _ | .glob _ => true
  | .bop _ a b => a.pu T && b.pu T
  | .neg a | .not a | .isN _ a | .isB _ _ a | .lrng1 a | .isi a _ => a.pu T
  | .and a b | .or a b | .cmp _ a b | .ix a b | .lrng2 a b => a.pu T && b.pu T
  | .chain _ _ a b c => a.pu T && (b.pu T && c.pu T)
  | .tup as | .lst as | .bcall _ as => as.pu T
  | .newc _ => false
  | .sl a lo hi => a.pu T && (lo.pu T && hi.pu T)
  | .call f as => (T.mask f).all (!·) && as.pu T
  | .meth _ o as => o.pu T && as.pu T
  | .mut _ _ _ _ => false
  | .comp i _ c e _ => i.pu T && (c.pu T && e.pu T)
@[simp] def A.pu (T : Tab) : A → Bool
  | .nil => true
  | .cons e as => e.pu T && as.pu T
@[simp] def O.pu (T : Tab) : O → Bool
  | .none => true
  | .some e => e.pu T
@[simp] def C.pu (T : Tab) : C → Bool
  | .yes => true
  | .test e => e.pu T
@[simp] def I.pu (T : Tab) : I → Bool
  | .seq e | .rng1 e => e.pu T
  | .enum e => e.pu T && !e.isVar
  | .seqSl a lo hi => a.pu T && (lo.pu T && hi.pu T)
  | .rng2 a b | .zip a b => a.pu T && b.pu T
  | .rng3 a b c => a.pu T && (b.pu T && c.pu T)
end
def E.isComp : E → Bool
  | .comp _ _ _ _ _ => true
  | _ => false
/-- expressions that leave the state as it is -/
def E.still (T : Tab) (e : E) : Bool := e.pu T && !e.isComp
def A.still (T : Tab) : A → Bool
  | .nil => true
  | .cons e as => e.still T && as.still T
abbrev PR := Option (Rk × D × Sg)
noncomputable def pvS (T : Tab) (e : E) (g : Sg) : PR := match pv T e g with
  | some (r, d) => some (r, d, g)
  | none => none
noncomputable def pur (T : Tab) (e : E) (g : Sg) (k : PR) : PR := if e.pu T = true then pvS T e g else k
/-- the lent slots are owned -/
def ownedB : List Nat → Sg → Bool
  | [], _ => true
  | k :: ks, g => match g.sl[k]? with
    | some (some (.ow, _)) => ownedB ks g
    | _ => false
def putV : List Nat → List D → Sg → Option Sg
  | [], [], g => some g
  | k :: ks, d :: ds, g => if k < g.sl.length then putV ks ds ⟨g.sl.set k (some (.ow, d)), g.ce⟩ else none
  | _, _, _ => none
noncomputable def callV (T : Tab) (f : Str) (xs : List (Rk × D)) (g : Sg) : PR := match lentOf (refs xs) (T.mask f) with
  | some ks => if (decide (ks.length ≤ 1) && (keptOf (refs xs) (T.mask f)).all (fun r => ks.all fun k => !r.isSlot k) && ownedB ks g && D.noCL (xs.map (·.2))) = true then match T.run f (xs.map (·.2)) with
      | some (.ret fl d fin) => if (d.noC && D.noCL fin && (fl || d.noL)) = true then match putV ks fin g with
          | some g' => some (Rk.of fl, d, g')
          | none => none
        else none
      | _ => none
    else none
  | none => none
/-- the place's list is changed -/
noncomputable def mutV (m : Mu) (k : Nat) (is : List Int) (es : List (Bool × D)) (g : Sg) : PR := match mutSlot m k is es g with
  | some (.ok (.tmp true r) g') => some (.fr, r, g')
  | _ => none
def chkV (k : Nat) (is : List Int) (g : Sg) : Bool := match chkP k is g with
  | some _ => true
  | none => false
def unlV (k : Nat) (g : Sg) : Option Sg := match g.sl[k]? with
  | some (some (.lk, d)) => some ⟨g.sl.set k (some (.ow, d)), g.ce⟩
  | _ => none
/-- a thing handed on -/
def forceX : Rk → D → Sg → Option (Bool × D × Sg)
  | .fr, d, g => some (true, d, g)
  | .sh, d, g => some (false, d, g)
  | .sl k m, d, g => if d.noL = true then some (false, d, g) else if m = .lk then none else some (false, d, ⟨g.sl.set k (some (.sh, d)), g.ce⟩)
/-- a slot's thing, now -/
def reread : Rk → D → Sg → Option (Rk × D)
  | .sl j m, _, g => match g.sl[j]? with
    | some (some (m', d')) => if (decide (m' = m) && !d'.noL) = true then some (.sl j m, d') else none
    | _ => none
  | r, d, _ => some (r, d)
mutual
noncomputable def pe (T : Tab) : E → Sg → PR
  | .bop op a b, g => pur T (.bop op a b) g (match pe T a g with
    | some (ra, x, g1) => if ra.slot = true then none else match pe T b g1 with
      | some (_, y, g2) => match rdV g2 x, rdV g2 y with
        | some x, some y => match bopD op x y with
          | some z => some (.fr, z, g2)
          | none => none
        | _, _ => none
      | none => none
    | none => none)
  | .neg a, g => pur T (.neg a) g (match pe T a g with
    | some (_, .int i, g1) => some (.fr, .int (-i), g1)
    | _ => none)
  | .not a, g => pur T (.not a) g (match pe T a g with
    | some (_, .bl i, g1) => some (.fr, .bl (!i), g1)
    | _ => none)
  | .and a b, g => pur T (.and a b) g (match pe T a g with
    | some (_, .bl i, g1) => if i = true then pe T b g1 else some (.fr, .bl false, g1)
    | _ => none)
  | .or a b, g => pur T (.or a b) g (match pe T a g with
    | some (_, .bl i, g1) => if i = true then some (.fr, .bl true, g1) else pe T b g1
    | _ => none)
  | .cmp op a b, g => pur T (.cmp op a b) g (match pe T a g with
    | some (ra, x, g1) => if ra.slot = true then none else match pe T b g1 with
      | some (_, y, g2) => if (x.noC && y.noC) = true then match cmpD op x y with
          | some t => some (.fr, .bl t, g2)
          | none => none
        else none
      | none => none
    | none => none)
  | .tup as, g => pur T (.tup as) g (match peA T as g with
    | some (xs, g1) => match forceV xs with
      | some es => if fits es.length = true then some (Rk.of (es.all fresh), .tup (es.map (·.2)), g1) else none
      | none => none
    | none => none)
  | .lst as, g => pur T (.lst as) g (match peA T as g with
    | some (xs, g1) => match forceV xs with
      | some es => if fits es.length = true then some (Rk.of (es.all fresh), .lst (es.map (·.2)), g1) else none
      | none => none
    | none => none)
  | .newc as, g => match peA T as g with
    | some (xs, g1) => match forceV xs with
      | some es => if (fits es.length && es.all (fun e => e.2.noL && e.2.noC)) = true then some (.fr, .cell g1.ce.length, ⟨g1.sl, g1.ce ++ [es.map (·.2)]⟩) else none
      | none => none
    | none => none
  | .ix a i, g => pur T (.ix a i) g (match pe T a g with
    | some (ra, x, g1) => if ra.slot = true then none else match pe T i g1 with
      | some (_, .int k, g2) => match (rdV g2 x).bind fun d => d.items.bind fun ds => atI ds k with
        | some v => match ra.item v with
          | some (r, v) => some (r, v, g2)
          | none => none
        | none => none
      | _ => none
    | none => none)
  | .call f as, g => pur T (.call f as) g (match peA T as g with
    | some (xs, g1) => callV T f xs g1
    | none => none)
  | .bcall b as, g => pur T (.bcall b as) g (match peA T as g with
    | some (xs, g1) => match (rdL g1 xs).bind fun ds => bcallD b ds with
      | some d => some (.fr, d, g1)
      | none => none
    | none => none)
  | .isi a t, g => pur T (.isi a t) g (match pe T a g with
    | some (_, d, g1) => match isiD t d with
      | some b => some (.fr, .bl b, g1)
      | none => none
    | none => none)
  | .isN pos a, g => pur T (.isN pos a) g (match pe T a g with
    | some (_, d, g1) => some (.fr, .bl (d.isN pos), g1)
    | none => none)
  | .mut m k path as, g => match peP T path g with
    | some (is, g1) => if chkV k is g1 = true then match g.sl[k]?, g1.sl[k]? with
      | some (some _), some (some (.ow, d)) => match peA T as ⟨g1.sl.set k (some (.lk, d)), g1.ce⟩ with
        | some (xs, g2) => match forceV xs, unlV k g2 with
          | some es, some g3 => mutV m k is es g3
          | _, _ => none
        | none => none
      | _, _ => none
      else none
    | none => none
  | .comp i G c e own, g => match (if E.pu T (.comp i G c e own) = true then pvS T (.comp i G c e own) g else none) with
    | some x => some x
    | none => match peK T i g with
      | some (w, g1) => if (fits w.1.length && G.slots.all (own.contains ·)) = true then match compV own G w.2.1 (lockV w.2.2 g1) (pvC T c) (pv T e) w.1 with
          | some ds => some (.fr, .lst ds, g1)
          | none => none
        else none
      | none => none
  | e, g => if e.pu T = true then pvS T e g else none
/-- what is walked, where that changes the state -/
noncomputable def peK (T : Tab) : I → Sg → Option (Wk × Sg)
  | .seq e, g => match pe T e g with
    | some (k, d, g1) => match walkV k d with
      | some w => some (w, g1)
      | none => none
    | none => none
  | .rng1 a, g => match pe T a g with
    | some (_, .int i, g1) => if range62 i = true then some ((rngD 0 i, .sh, none), g1) else none
    | _ => none
  | .rng2 a b, g => match pe T a g with
    | some (_, .int i, g1) => match pe T b g1 with
      | some (_, .int j, g2) => if (range62 i && range62 j) = true then some ((rngD i j, .sh, none), g2) else none
      | _ => none
    | _ => none
  | .enum e, g => match pe T e g with
    | some (k, d, g1) => match forceX k d g1 with
      | some (_, .lst ds, g2) => if D.noLL ds = true then some ((enumD 0 ds, .sh, none), g2) else none
      | _ => none
    | none => none
  | _, _ => none
noncomputable def peA (T : Tab) : A → Sg → Option (List (Rk × D) × Sg)
  | .nil, g => some ([], g)
  | .cons e as, g => match pe T e g with
    | some (r, d, g1) => match peA T as g1 with
      | some (xs, g2) => match reread r d g2 with
        | some x => some (x :: xs, g2)
        | none => none
      | none => none
    | none => none
noncomputable def peP (T : Tab) : A → Sg → Option (List Int × Sg)
  | .nil, g => some ([], g)
  | .cons e as, g => match pe T e g with
    | some (_, .int i, g1) => match as.place2 i g1 with
      | some (.ok is g2) => some (is, g2)
      | _ => none
    | _ => none
end
noncomputable def peI (T : Tab) (i : I) (g : Sg) : Option (Wk × Sg) := match (if i.pu T = true then pvI T i g else none) with
  | some w => some (w, g)
  | none => peK T i g
theorem pvS_some {T : Tab} {e : E} {g g' : Sg} {r : Rk} {d : D} (h : pvS T e g = some (r, d, g')) : pv T e g = some (r, d) ∧ g' = g := by
  unfold pvS at h
  split at h
  · rename_i q; cases h; exact ⟨q, rfl⟩
  · cases h
theorem pe_pu {T : Tab} {e : E} (hp : e.pu T = true) (hc : e.isComp = false) (g : Sg) : pe T e g = pvS T e g := by
  cases e <;> rw [pe] <;> first | exact if_pos hp | (cases hp; done) | (cases hc; done) | (intros; contradiction) | skip
  all_goals first | (unfold pur; rw [if_pos hp]) | (intros; simp_all) | skip
end Om

/-! Wk9: what pe tells, the interpreter tells. -/
namespace Om
open PySem PySem.Spec PyProof.Rows L2

theorem pur_cases {T : Tab} {e : E} {g g' : Sg} {k : PR} {r : Rk} {d : D} (h : pur T e g k = some (r, d, g')) : (evR T e g = some (.ok (r.ref d) g') ∧ Held r d g') ∨ k = some (r, d, g') := by
  unfold pur at h
  split at h
  · obtain ⟨h1, rfl⟩ := pvS_some h
    exact .inl (pv_snd T e _ r d h1)
  · exact .inr h
theorem forceX_run {r : Rk} {d d' : D} {b : Bool} {g g' : Sg} (H : Held r d g) (h : forceX r d g = some (b, d', g')) : force (r.ref d) g = some (.ok (b, d') g') := by
  cases r with
  | fr => cases h; rfl
  | sh => cases h; rfl
  | sl k m =>
    obtain ⟨h1, h2, h3⟩ := H.slot k m rfl
    unfold forceX at h
    dsimp only at h
    show force (.slot k) g = _
    unfold force
    dsimp only
    rw [h1]
    dsimp only
    split at h
    · rename_i hn
      cases h; rw [if_pos hn]
    · rename_i hn
      rw [if_neg hn]
      split at h
      · cases h
      · rename_i hm
        cases h; rw [if_neg hm]
theorem Held.ns {r : Rk} {d : D} {g' : Sg} (h : r.slot = false) : Held r d g' := .tmp h
theorem putV_run : ∀ {ks : List Nat} {ds : List D} {g g' : Sg}, putV ks ds g = some g' → putBack ks ds g = some (.ok () g')
  | [], [], g, g', h => by cases h; rfl
  | [], _ :: _, g, g', h => by cases h
  | _ :: _, [], g, g', h => by cases h
  | k :: ks, d :: ds, g, g', h => by
    rw [putV] at h
    split at h
    · rename_i hk
      show (setSlot k (some (.ow, d)) >>= fun _ => putBack ks ds) g = _
      rw [bind_run (a := ()) (g1 := ⟨g.sl.set k (some (.ow, d)), g.ce⟩) (by unfold setSlot; rw [if_pos hk])]
      exact putV_run h
    · cases h
theorem ownedB_run : ∀ {ks : List Nat} {g : Sg}, ownedB ks g = true → ownedL ks g = some (.ok () g)
  | [], g, _ => rfl
  | k :: ks, g, h => by
    rw [ownedB] at h
    split at h
    · rename_i q
      show (match g.sl[k]? with
        | some (some (.ow, _)) => ownedL ks g
        | _ => none) = _
      rw [q]
      exact ownedB_run h
    · cases h
theorem callV_run {T : Tab} {f : Str} {xs : List (Rk × D)} {g g' : Sg} {r : Rk} {d : D} (H : HeldL xs g) (h : callV T f xs g = some (r, d, g')) : callF T f (refs xs) g = some (.ok (r.ref d) g') ∧ Held r d g' := by
  unfold callV at h
  split at h
  · rename_i ks hl
    split at h
    · rename_i hc
      rw [Bool.and_eq_true, Bool.and_eq_true] at hc
      obtain ⟨⟨h1, h2⟩, h3⟩ := hc
      split at h
      · rename_i fl d' fin hr
        split at h
        · rename_i hd
          rw [Bool.and_eq_true] at hd
          split at h
          · rename_i g2 hp
            cases h
            refine ⟨?_, .tmp (Rk.of_slot fl)⟩
            show (M.of (lentOf (refs xs) (T.mask f)) >>= fun ks => _) g = _
            rw [bind_run (of_run hl g), if_pos h1, bind_run (ownedB_run h2), bind_run (lookL_run H), if_pos h3, hr]
            dsimp only
            rw [if_pos hd.1, bind_run (putV_run hp), if_pos hd.2, Rk.of_ref]; rfl
          · cases h
        · cases h
      · cases h
    · cases h
  · cases h
theorem simp_pe {T : Tab} {e : E} (hs : e.simple = true) {g g' : Sg} {k : Rk} {d : D} (h : pe T e g = some (k, d, g')) : simM e g = some (.ok d g) ∧ g' = g := by
  have hp : e.pu T = true := by cases e <;> first | rfl | (cases hs; done)
  rw [pe_pu hp (by cases e <;> first | rfl | (cases hs; done))] at h
  obtain ⟨h1, rfl⟩ := pvS_some h
  exact ⟨simM_pv hs h1, rfl⟩
theorem reread_run {r : Rk} {d : D} {g1 g2 : Sg} {x : Rk × D} (H : Held r d g1) (h : reread r d g2 = some x) : r.ref d = x.1.ref x.2 ∧ Held x.1 x.2 g2 := by
  cases r with
  | fr => cases h; exact ⟨rfl, .tmp rfl⟩
  | sh => cases h; exact ⟨rfl, .tmp rfl⟩
  | sl j m =>
    unfold reread at h
    dsimp only at h
    split at h
    · rename_i m' d' q
      split at h
      · rename_i hc
        cases h
        rw [Bool.and_eq_true, decide_eq_true_eq] at hc
        refine ⟨rfl, ⟨fun j2 m2 e => ?_⟩⟩
        cases e
        refine ⟨?_, (H.slot j m rfl).2.1, by simpa using hc.2⟩
        rw [q, hc.1]
      · cases h
    · cases h
mutual
theorem pe_snd (T : Tab) : ∀ (e : E) (g : Sg) (r : Rk) (d : D) (g' : Sg), pe T e g = some (r, d, g') → evR T e g = some (.ok (r.ref d) g') ∧ Held r d g'
  | .bop op a b, g, r, d, g', h => by
    rw [pe] at h
    rcases pur_cases h with h | h
    · exact h
    split at h
    · rename_i ra x g1 qa
      obtain ⟨e1, h1⟩ := pe_snd T a g _ _ _ qa
      split at h
      · cases h
      · rename_i hra
        have hra : ra.slot = false := by simpa using hra
        split at h
        · rename_i rb y g2 qb
          obtain ⟨e2, h2⟩ := pe_snd T b g1 _ _ _ qb
          split at h
          · rename_i x' y' q1 q2
            split at h
            · rename_i z q3
              cases h
              rw [evR, bind_run e1, bind_run h1.stab, bind_run e2, bind_run ((Held.ns hra).peek q1), bind_run (h2.peek q2), bind_run (of_run q3 _)]
              exact ⟨rfl, .tmp rfl⟩
            · cases h
          · cases h
        · cases h
    · cases h
  | .neg a, g, r, d, g', h => by
    rw [pe] at h
    rcases pur_cases h with h | h
    · exact h
    split at h
    · rename_i ra i g1 qa
      obtain ⟨e1, h1⟩ := pe_snd T a g _ _ _ qa
      cases h
      rw [evR, bind_run e1, bind_run h1.asI]
      exact ⟨rfl, .tmp rfl⟩
    · cases h
  | .not a, g, r, d, g', h => by
    rw [pe] at h
    rcases pur_cases h with h | h
    · exact h
    split at h
    · rename_i ra i g1 qa
      obtain ⟨e1, h1⟩ := pe_snd T a g _ _ _ qa
      cases h
      rw [evR, bind_run e1, bind_run h1.asB]
      exact ⟨rfl, .tmp rfl⟩
    · cases h
  | .and a b, g, r, d, g', h => by
    rw [pe] at h
    rcases pur_cases h with h | h
    · exact h
    split at h
    · rename_i ra i g1 qa
      obtain ⟨e1, h1⟩ := pe_snd T a g _ _ _ qa
      rw [evR, bind_run e1, bind_run h1.asB]
      split at h
      · rename_i hc
        rw [if_pos hc]
        exact pe_snd T b _ _ _ _ h
      · rename_i hc
        rw [if_neg hc]
        cases h
        exact ⟨rfl, .tmp rfl⟩
    · cases h
  | .or a b, g, r, d, g', h => by
    rw [pe] at h
    rcases pur_cases h with h | h
    · exact h
    split at h
    · rename_i ra i g1 qa
      obtain ⟨e1, h1⟩ := pe_snd T a g _ _ _ qa
      rw [evR, bind_run e1, bind_run h1.asB]
      split at h
      · rename_i hc
        rw [if_pos hc]
        cases h
        exact ⟨rfl, .tmp rfl⟩
      · rename_i hc
        rw [if_neg hc]
        exact pe_snd T b _ _ _ _ h
    · cases h
  | .cmp op a b, g, r, d, g', h => by
    rw [pe] at h
    rcases pur_cases h with h | h
    · exact h
    split at h
    · rename_i ra x g1 qa
      obtain ⟨e1, h1⟩ := pe_snd T a g _ _ _ qa
      split at h
      · cases h
      · rename_i hra
        have hra : ra.slot = false := by simpa using hra
        split at h
        · rename_i rb y g2 qb
          split at h
          · rename_i hn
            rw [Bool.and_eq_true] at hn
            split at h
            · rename_i t q3
              cases h
              rw [evR]
              split
              · rename_i hs
                obtain ⟨s1, rfl⟩ := simp_pe hs qb
                rw [bind_run e1, bind_run (h1.peekD hn.1)]
                rw [bind_run s1, bind_run (a := y) (by
                  show some (Res.ok (y.dc _) _) = _
                  rw [dc_noC _ _ hn.2]), bind_run (of_run q3 _)]
                exact ⟨rfl, .tmp rfl⟩
              · obtain ⟨e2, h2⟩ := pe_snd T b g1 _ _ _ qb
                rw [bind_run e1, bind_run h1.stab, bind_run e2, bind_run ((Held.ns hra).peekD hn.1), bind_run (h2.peekD hn.2), bind_run (of_run q3 _)]
                exact ⟨rfl, .tmp rfl⟩
            · cases h
          · cases h
        · cases h
    · cases h
  | .tup as, g, r, d, g', h => by
    rw [pe] at h
    rcases pur_cases h with h | h
    · exact h
    split at h
    · rename_i xs g1 qa
      obtain ⟨e1, h1⟩ := peA_snd T as g _ _ qa
      split at h
      · rename_i es qf
        obtain ⟨f1, f2⟩ := forceV_run (g := g1) qf
        split at h
        · rename_i hc
          cases h
          rw [evR, bind_run e1, bind_run f1, if_pos hc, Rk.of_ref]
          exact ⟨rfl, .tmp (Rk.of_slot _)⟩
        · cases h
      · cases h
    · cases h
  | .lst as, g, r, d, g', h => by
    rw [pe] at h
    rcases pur_cases h with h | h
    · exact h
    split at h
    · rename_i xs g1 qa
      obtain ⟨e1, h1⟩ := peA_snd T as g _ _ qa
      split at h
      · rename_i es qf
        obtain ⟨f1, f2⟩ := forceV_run (g := g1) qf
        split at h
        · rename_i hc
          cases h
          rw [evR, bind_run e1, bind_run f1, if_pos hc, Rk.of_ref]
          exact ⟨rfl, .tmp (Rk.of_slot _)⟩
        · cases h
      · cases h
    · cases h
  | .newc as, g, r, d, g', h => by
    rw [pe] at h
    split at h
    · rename_i xs g1 qa
      obtain ⟨e1, h1⟩ := peA_snd T as g _ _ qa
      split at h
      · rename_i es qf
        obtain ⟨f1, f2⟩ := forceV_run (g := g1) qf
        split at h
        · rename_i hc
          cases h
          rw [evR, bind_run e1, bind_run f1, if_pos hc]
          exact ⟨rfl, .tmp rfl⟩
        · cases h
      · cases h
    · cases h
  | .ix a i, g, r, d, g', h => by
    rw [pe] at h
    rcases pur_cases h with h | h
    · exact h
    split at h
    · rename_i ra x g1 qa
      obtain ⟨e1, h1⟩ := pe_snd T a g _ _ _ qa
      split at h
      · cases h
      · rename_i hra
        have hra : ra.slot = false := by simpa using hra
        split at h
        · rename_i rb y g2 qb
          split at h
          · rename_i v hv
            obtain ⟨d', q1, q4⟩ := Option.bind_eq_some_iff.mp hv
            obtain ⟨ds, q2, q3⟩ := Option.bind_eq_some_iff.mp q4
            split at h
            · rename_i r' v' qi
              cases h
              obtain ⟨i1, rfl, i2⟩ := item_run (g := g') (d := x) (i := y) qi
              rw [evR]
              split
              · rename_i hs
                obtain ⟨s1, rfl⟩ := simp_pe hs qb
                rw [bind_run e1, bind_run (h1.peek q1), bind_run s1]
                dsimp only
                rw [bind_run (of_run q2 _), bind_run (of_run q3 _)]
                exact ⟨i1, .tmp i2⟩
              · obtain ⟨e2, h2⟩ := pe_snd T i g1 _ _ _ qb
                rw [bind_run e1, bind_run h1.stab, bind_run e2, bind_run h2.asI, bind_run ((Held.ns hra).peek q1), bind_run (of_run q2 _), bind_run (of_run q3 _)]
                exact ⟨i1, .tmp i2⟩
            · cases h
          · cases h
        · cases h
    · cases h
  | .call f as, g, r, d, g', h => by
    rw [pe] at h
    rcases pur_cases h with h | h
    · exact h
    split at h
    · rename_i xs g1 qa
      obtain ⟨e1, h1⟩ := peA_snd T as g _ _ qa
      rw [evR, bind_run e1]
      exact callV_run h1 h
    · cases h
  | .bcall b as, g, r, d, g', h => by
    rw [pe] at h
    rcases pur_cases h with h | h
    · exact h
    split at h
    · rename_i xs g1 qa
      obtain ⟨e1, h1⟩ := peA_snd T as g _ _ qa
      split at h
      · rename_i d' q
        cases h
        obtain ⟨ds, q1, q2⟩ := Option.bind_eq_some_iff.mp q
        rw [evR, bind_run e1, bind_run (peekL_run h1 q1), bind_run (of_run q2 _)]
        exact ⟨rfl, .tmp rfl⟩
      · cases h
    · cases h
  | .isi a t, g, r, d, g', h => by
    rw [pe] at h
    rcases pur_cases h with h | h
    · exact h
    split at h
    · rename_i ra x g1 qa
      obtain ⟨e1, h1⟩ := pe_snd T a g _ _ _ qa
      split at h
      · rename_i b q
        cases h
        rw [evR, bind_run e1, bind_run h1.look, bind_run (of_run q _)]
        exact ⟨rfl, .tmp rfl⟩
      · cases h
    · cases h
  | .isN p a, g, r, d, g', h => by
    rw [pe] at h
    rcases pur_cases h with h | h
    · exact h
    split at h
    · rename_i ra x g1 qa
      obtain ⟨e1, h1⟩ := pe_snd T a g _ _ _ qa
      cases h
      rw [evR, bind_run e1, bind_run h1.look]
      exact ⟨rfl, .tmp rfl⟩
    · cases h
  | .mut m k path as, g, r, d, g', h => by
    rw [pe] at h
    split at h
    · rename_i is g1 qp
      have e0 := peP_snd T path g _ _ qp
      split at h
      · rename_i hc
        split at h
        · rename_i s0 d1 q0 q1
          split at h
          · rename_i xs g2 qa
            obtain ⟨e1, h1⟩ := peA_snd T as _ _ _ qa
            split at h
            · rename_i es g3 qf qu
              obtain ⟨f1, f2⟩ := forceV_run (g := g2) qf
              unfold mutV at h
              split at h
              · rename_i x g4 qm
                cases h
                rw [evR, bind_run (a := ()) (g1 := g) (by unfold hasK; rw [q0]), bind_run e0]
                have hc' : chkP k is g1 = some (.ok () g1) := by
                  unfold chkV at hc
                  split at hc
                  · rename_i u q
                    rw [q]
                    unfold chkP at q
                    split at q
                    · split at q <;> cases q <;> rfl
                    · cases q
                  · cases hc
                rw [bind_run hc']
                have hl : lockIn k (do forceL (← evA T as)) g1 = some (.ok es g3) := by
                  unfold lockIn
                  rw [q1]
                  dsimp only
                  rw [bind_run e1, f1]
                  dsimp only
                  unfold unlV at qu
                  split at qu
                  · rename_i d2 q2
                    cases qu
                    unfold unl
                    rw [q2]
                  · cases qu
                rw [bind_run hl]
                exact ⟨qm, .tmp rfl⟩
              · cases h
            · cases h
          · cases h
        · cases h
      · cases h
    · cases h
  | .var k, g, r, d, g', h => by
    rw [pe_pu rfl rfl] at h; obtain ⟨h1, rfl⟩ := pvS_some h; exact pv_snd T _ _ r d h1
  | .non, g, r, d, g', h => by
    rw [pe_pu rfl rfl] at h; obtain ⟨h1, rfl⟩ := pvS_some h; exact pv_snd T _ _ r d h1
  | .bl b, g, r, d, g', h => by
    rw [pe_pu rfl rfl] at h; obtain ⟨h1, rfl⟩ := pvS_some h; exact pv_snd T _ _ r d h1
  | .int b, g, r, d, g', h => by
    rw [pe_pu rfl rfl] at h; obtain ⟨h1, rfl⟩ := pvS_some h; exact pv_snd T _ _ r d h1
  | .str b, g, r, d, g', h => by
    rw [pe_pu rfl rfl] at h; obtain ⟨h1, rfl⟩ := pvS_some h; exact pv_snd T _ _ r d h1
  | .glob b, g, r, d, g', h => by
    rw [pe_pu rfl rfl] at h; obtain ⟨h1, rfl⟩ := pvS_some h; exact pv_snd T _ _ r d h1
  | .chain o1 o2 a b c, g, r, d, g', h => by
    rw [pe] at h
    split at h
    · obtain ⟨h1, rfl⟩ := pvS_some h; exact pv_snd T _ _ r d h1
    · cases h
    all_goals (intros; contradiction)
  | .isB p b a, g, r, d, g', h => by
    rw [pe] at h
    split at h
    · obtain ⟨h1, rfl⟩ := pvS_some h; exact pv_snd T _ _ r d h1
    · cases h
    all_goals (intros; contradiction)
  | .sl a lo hi, g, r, d, g', h => by
    rw [pe] at h
    split at h
    · obtain ⟨h1, rfl⟩ := pvS_some h; exact pv_snd T _ _ r d h1
    · cases h
    all_goals (intros; contradiction)
  | .lrng1 a, g, r, d, g', h => by
    rw [pe] at h
    split at h
    · obtain ⟨h1, rfl⟩ := pvS_some h; exact pv_snd T _ _ r d h1
    · cases h
    all_goals (intros; contradiction)
  | .lrng2 a b, g, r, d, g', h => by
    rw [pe] at h
    split at h
    · obtain ⟨h1, rfl⟩ := pvS_some h; exact pv_snd T _ _ r d h1
    · cases h
    all_goals (intros; contradiction)
  | .meth m o as, g, r, d, g', h => by
    rw [pe] at h
    split at h
    · obtain ⟨h1, rfl⟩ := pvS_some h; exact pv_snd T _ _ r d h1
    · cases h
    all_goals (intros; contradiction)
  | .comp i G c e own, g, r, d, g', h => by
    rw [pe] at h
    split at h
    · rename_i x q
      cases h
      split at q
      · obtain ⟨h1, rfl⟩ := pvS_some q; exact pv_snd T _ _ r d h1
      · cases q
    · split at h
      · rename_i w g1 qk
        obtain ⟨e1, h1⟩ := peK_snd T i g _ _ qk
        split at h
        · rename_i hc
          rw [Bool.and_eq_true] at hc
          split at h
          · rename_i ds q2
            cases h
            obtain ⟨es, s', r1, r2, r3, r5⟩ := compV_run (own := own) (G := G) (mC := evC T c) (mE := evR T e) (fun j hj => by
              have := List.all_eq_true.mp hc.2 j hj
              simpa using this) (fun g b hb => pvC_snd T c g b hb) (fun g k d hd => pv_snd T e g k d hd) w.1 (lockV w.2.2 g') ds rfl q2
            have r6 : compM own G w.2.1 (evC T c) (evR T e) w.1 (lockV w.2.2 g') = some (.ok es (lockV w.2.2 g')) := by
              unfold compM
              rw [r1]
              dsimp only
              rw [merge_wipe r5]
            rw [evR, bind_run e1, if_pos hc.1, bind_run (lockO_run h1 r6)]
            rw [← r2, show es.all fresh = true from List.all_eq_true.mpr r3]
            exact ⟨rfl, .tmp rfl⟩
          · cases h
        · cases h
      · cases h
theorem peK_snd (T : Tab) : ∀ (i : I) (g : Sg) (w : Wk) (g' : Sg), peK T i g = some (w, g') → evI T i g = some (.ok w g') ∧ ∀ j, w.2.2 = some j → ∃ d, g'.sl[j]? = some (some (.ow, d))
  | .seq e, g, w, g', h => by
    rw [peK] at h
    split at h
    · rename_i k d g1 q
      obtain ⟨e1, h1⟩ := pe_snd T e g _ _ _ q
      split at h
      · rename_i w' qw
        cases h
        obtain ⟨w1, w2⟩ := walkV_run h1 qw
        rw [evI, bind_run e1]
        exact ⟨w1, w2⟩
      · cases h
    · cases h
  | .rng1 a, g, w, g', h => by
    rw [peK] at h
    split at h
    · rename_i k d g1 q
      obtain ⟨e1, h1⟩ := pe_snd T a g _ _ _ q
      split at h
      · rename_i hc
        cases h
        rw [evI, bind_run e1, bind_run h1.asI, if_pos hc]
        exact ⟨rfl, fun j h => by cases h⟩
      · cases h
    · cases h
  | .rng2 a b, g, w, g', h => by
    rw [peK] at h
    split at h
    · rename_i k d g1 q
      obtain ⟨e1, h1⟩ := pe_snd T a g _ _ _ q
      split at h
      · rename_i k2 d2 g2 q2
        obtain ⟨e2, h2⟩ := pe_snd T b g1 _ _ _ q2
        split at h
        · rename_i hc
          cases h
          rw [evI, bind_run e1, bind_run h1.asI, bind_run e2, bind_run h2.asI, if_pos hc]
          exact ⟨rfl, fun j h => by cases h⟩
        · cases h
      · cases h
    · cases h
  | .enum e, g, w, g', h => by
    rw [peK] at h
    split at h
    · rename_i k d g1 q
      obtain ⟨e1, h1⟩ := pe_snd T e g _ _ _ q
      split at h
      · rename_i b ds g2 qf
        split at h
        · rename_i hn
          cases h
          rw [evI, bind_run e1, bind_run h1.stab, bind_run (forceX_run h1 qf)]
          dsimp only
          rw [if_pos hn]
          exact ⟨rfl, fun j h => by cases h⟩
        · cases h
      · cases h
    · cases h
  | .seqSl _ _ _, g, w, g', h => by rw [peK] at h <;> first | (cases h; done) | (intros; contradiction)
  | .rng3 _ _ _, g, w, g', h => by rw [peK] at h <;> first | (cases h; done) | (intros; contradiction)
  | .zip _ _, g, w, g', h => by rw [peK] at h <;> first | (cases h; done) | (intros; contradiction)
theorem peA_snd (T : Tab) : ∀ (as : A) (g : Sg) (xs : List (Rk × D)) (g' : Sg), peA T as g = some (xs, g') → evA T as g = some (.ok (refs xs) g') ∧ HeldL xs g'
  | .nil, g, xs, g', h => by rw [peA] at h; cases h; exact ⟨rfl, fun _ h => nomatch h⟩
  | .cons e as, g, xs, g', h => by
    rw [peA] at h
    split at h
    · rename_i r d g1 q1
      obtain ⟨e1, h1⟩ := pe_snd T e g _ _ _ q1
      split at h
      · rename_i ys g2 q2
        obtain ⟨e2, h2⟩ := peA_snd T as g1 _ _ q2
        split at h
        · rename_i x q3
          cases h
          obtain ⟨er, hr⟩ := reread_run h1 q3
          rw [evA, bind_run e1, bind_run h1.stab, bind_run e2, er]
          refine ⟨rfl, fun y hy => ?_⟩
          rcases List.mem_cons.mp hy with rfl | hy
          · exact hr
          · exact h2 y hy
        · cases h
      · cases h
    · cases h
theorem peP_snd (T : Tab) : ∀ (as : A) (g : Sg) (is : List Int) (g' : Sg), peP T as g = some (is, g') → evP T as g = some (.ok is g')
  | .nil, g, is, g', h => by rw [peP] at h; cases h; rfl
  | .cons e as, g, is, g', h => by
    rw [peP] at h
    split at h
    · rename_i r i g1 q1
      obtain ⟨e1, h1⟩ := pe_snd T e g _ _ _ q1
      split at h
      · rename_i is' g2 q2
        cases h
        rw [evP, bind_run e1, bind_run h1.asI]
        exact q2
      · cases h
    · cases h
end
theorem peI_snd (T : Tab) (i : I) (g : Sg) (w : Wk) (g' : Sg) (h : peI T i g = some (w, g')) : evI T i g = some (.ok w g') ∧ ∀ j, w.2.2 = some j → ∃ d, g'.sl[j]? = some (some (.ow, d)) := by
  unfold peI at h
  split at h
  · rename_i q
    cases h
    split at q
    · exact pvI_snd T i g _ q
    · cases q
  · exact peK_snd T i g w g' h
end Om

/-! Wk10: rules of statements, by pe. -/
namespace Om
open PySem PySem.Spec PyProof.Rows L2

/-- a thing given back -/
def moveX : Rk → D → Sg → Option (Bool × D × Sg)
  | .fr, d, g => some (true, d, g)
  | .sh, d, g => some (false, d, g)
  | .sl k .ow, d, g => some (true, d, ⟨g.sl.set k none, g.ce⟩)
  | _, _, _ => none
theorem moveX_run {r : Rk} {d d' : D} {b : Bool} {g g' : Sg} (H : Held r d g) (h : moveX r d g = some (b, d', g')) : moveR (r.ref d) g = some (.ok (b, d') g') := by
  cases r with
  | fr => cases h; rfl
  | sh => cases h; rfl
  | sl k m =>
    cases m <;> try (cases h; done)
    cases h
    show moveR (.slot k) g = _
    unfold moveR
    dsimp only
    rw [(H.slot k .ow rfl).1]
def moveXL : List (Rk × D) → Sg → Option (List (Bool × D) × Sg)
  | [], g => some ([], g)
  | (.fr, d) :: xs, g => match moveXL xs g with
    | some (es, g') => some ((true, d) :: es, g')
    | none => none
  | (.sh, d) :: xs, g => match moveXL xs g with
    | some (es, g') => some ((false, d) :: es, g')
    | none => none
  | (.sl k .ow, d) :: xs, g => match g.sl[k]? with
    | some (some (.ow, d')) => match moveXL xs ⟨g.sl.set k none, g.ce⟩ with
      | some (es, g') => some ((true, d') :: es, g')
      | none => none
    | _ => none
  | _, _ => none
theorem moveXL_run : ∀ {xs : List (Rk × D)} {g g' : Sg} {es : List (Bool × D)}, moveXL xs g = some (es, g') → moveL (refs xs) g = some (.ok es g')
  | [], g, g', es, h => by cases h; rfl
  | (.fr, d) :: xs, g, g', es, h => by
    rw [moveXL] at h
    split at h
    · rename_i es' g2 q
      cases h
      show (moveR (.tmp true d) >>= fun e => moveL (refs xs) >>= fun es => pure (e :: es)) g = _
      rw [bind_run (a := (true, d)) (g1 := g) rfl, bind_run (moveXL_run q)]; rfl
    · cases h
  | (.sh, d) :: xs, g, g', es, h => by
    rw [moveXL] at h
    split at h
    · rename_i es' g2 q
      cases h
      show (moveR (.tmp false d) >>= fun e => moveL (refs xs) >>= fun es => pure (e :: es)) g = _
      rw [bind_run (a := (false, d)) (g1 := g) rfl, bind_run (moveXL_run q)]; rfl
    · cases h
  | (.sl k .ow, d) :: xs, g, g', es, h => by
    rw [moveXL] at h
    split at h
    · rename_i d' qk
      split at h
      · rename_i es' g2 q
        cases h
        show (moveR (.slot k) >>= fun e => moveL (refs xs) >>= fun es => pure (e :: es)) g = _
        rw [bind_run (a := (true, d')) (g1 := ⟨g.sl.set k none, g.ce⟩) (by unfold moveR; dsimp only; rw [qk]), bind_run (moveXL_run q)]; rfl
      · cases h
    · cases h
  | (.sl k .sh, d) :: xs, g, g', es, h => by cases h
  | (.sl k .lk, d) :: xs, g, g', es, h => by cases h
def unpkV : G → Rk → D → Sg → Option (Bool × D × Sg)
  | .tup _, r, d, g => if d.flatItems = true then some (false, d, g) else forceX r d g
  | .name _, r, d, g => forceX r d g
theorem unpkV_run {G : G} {r : Rk} {d d' : D} {b : Bool} {g g' : Sg} (H : Held r d g) (h : unpkV G r d g = some (b, d', g')) : unpk G (r.ref d) g = some (.ok (b, d') g') := by
  cases G with
  | name k =>
    show (stab (r.ref d) >>= fun r => force r) g = _
    rw [bind_run H.stab]
    exact forceX_run H h
  | tup gs =>
    unfold unpkV at h
    dsimp only at h
    show (look (r.ref d) >>= fun d => _) g = _
    rw [bind_run H.look]
    split at h
    · rename_i hf
      cases h
      rw [if_pos hf]; rfl
    · rename_i hf
      rw [if_neg hf]
      show (stab (r.ref d) >>= fun r => force r) g = _
      rw [bind_run H.stab]
      exact forceX_run H h
/-- plain things: shared -/
def nmo (m : Mo) (d : D) : Mo := if (decide (m = .ow) && d.noL && d.noC) = true then .sh else m
theorem nmo_R (m : Mo) (d : D) : MoR d (nmo m d) m := by
  unfold nmo
  split
  · rename_i h
    rw [Bool.and_eq_true, Bool.and_eq_true] at h
    exact .inr ⟨⟨h.1.2, h.2⟩, rfl, of_decide_eq_true h.1.1⟩
  · exact .inl rfl
mutual
def asgW : G → Mo → D → Sg → Option Sg
  | .name k, m, d, g => if k < g.sl.length then some ⟨g.sl.set k (some (nmo m d, d)), g.ce⟩ else none
  | .tup gs, m, d, g => match d with
    | .tup ds => asgWs gs m ds g
    | .lst ds => if D.noLL ds = true then asgWs gs .sh ds g else none
    | _ => none
def asgWs : Gs → Mo → List D → Sg → Option Sg
  | .nil, _, [], g => some g
  | .cons G gs, m, d :: ds, g => match asgW G m d g with
    | some g1 => asgWs gs m ds g1
    | none => none
  | _, _, _, _ => none
end
mutual
theorem asgW_run : ∀ (G : G) (m : Mo) (d : D) (g g' : Sg), asgW G m d g = some g' → ∃ g1, asgG G (m, d) g = some (.ok () g1) ∧ SgR g' g1
  | .name k, m, d, g, g', h => by
    rw [asgW] at h
    split at h
    · rename_i hk
      cases h
      refine ⟨⟨g.sl.set k (some (m, d)), g.ce⟩, by rw [asgG]; unfold setSlot; rw [if_pos hk], ?_⟩
      exact (SgR.refl g).set k ⟨rfl, nmo_R m d⟩
    · cases h
  | .tup gs, m, d, g, g', h => by
    rw [asgW.eq_def] at h
    rw [asgG.eq_def]
    dsimp only at h ⊢
    split at h
    · exact asgWs_run gs m _ g g' h
    · rename_i ds
      split at h
      · rename_i hn
        try dsimp only
        rw [if_pos hn]
        exact asgWs_run gs .sh ds g g' h
      · cases h
    · cases h
theorem asgWs_run : ∀ (gs : Gs) (m : Mo) (ds : List D) (g g' : Sg), asgWs gs m ds g = some g' → ∃ g1, asgGs gs m ds g = some (.ok () g1) ∧ SgR g' g1
  | .nil, m, [], g, g', h => by rw [asgWs] at h; cases h; exact ⟨_, by rw [asgGs]; rfl, .refl _⟩
  | .nil, m, _ :: _, g, g', h => by cases h
  | .cons G gs, m, [], g, g', h => by cases h
  | .cons G gs, m, d :: ds, g, g', h => by
    rw [asgWs] at h
    split at h
    · rename_i g1 q
      obtain ⟨g2, e1, r1⟩ := asgW_run G m d g g1 q
      obtain ⟨g3, e2, r2⟩ := asgWs_run gs m ds g1 g' h
      obtain ⟨x, e3, r3⟩ := moAsgGs gs m m ds (fun _ _ => .inl rfl) _ _ r1 _ e2
      cases x with
      | exc _ _ => exact r3.elim
      | ok u g4 =>
        refine ⟨g4, ?_, r2.trans r3.2⟩
        rw [asgGs]
        show M.bind (asgG G (m, d)) _ g = _
        rw [M.run_bind e1]
        exact e3
    · cases h
end
/-- an expression runs -/
def Ev (T : Tab) (e : E) (g : Sg) (K : Rk → D → Sg → Prop) : Prop := ∃ r d g', evR T e g = some (.ok (r.ref d) g') ∧ Held r d g' ∧ K r d g'
theorem Ev.pe {T : Tab} {e : E} {g : Sg} {K : Rk → D → Sg → Prop} {r : Rk} {d : D} {g' : Sg} (h : pe T e g = some (r, d, g')) (hk : K r d g') : Ev T e g K := by
  obtain ⟨h1, h2⟩ := pe_snd T e g r d g' h
  exact ⟨r, d, g', h1, h2, hk⟩
section
variable {T : Tab} {s : S} {b : B} {g p : Sg} {Q : Ctl → Sg → Prop}
/-- a statement that ends so -/
theorem Wb.to {c : Ctl} {g1 g2 : Sg} (h : evS T s g = some (.ok c g2)) (w : SgR g1 g2) (hb : match c with
    | .nx => Wb T b g1 Q
    | .rt fl d => Q (.rt fl d) g1) : Wb T (.cons s b) g Q := .cons ⟨c, g1, (DoS.of h).weak w, by cases c <;> exact hb⟩
theorem Wb.asgV {G : G} {e : E} (h : Ev T e g fun r d g1 => match unpkV G r d g1 with
    | some (f, d', g2) => match asgW G (moB f) d' g2 with
      | some g3 => Wb T b g3 Q
      | none => False
    | none => False) : Wb T (.cons (.asg G e) b) g Q := by
  obtain ⟨r, d, g1, e1, H, h⟩ := h
  split at h
  · rename_i f d' g2 qu
    split at h
    · rename_i g3 qa
      obtain ⟨g4, e4, r4⟩ := asgW_run _ _ _ _ _ qa
      refine Wb.to (c := .nx) ?_ r4 h
      rw [evS, bind_run e1, bind_run (unpkV_run H qu)]
      dsimp only
      rw [bind_run e4]; rfl
    · exact h.elim
  · exact h.elim
theorem Wb.asgX {G : G} {e : E} (h : match pe T e g with
    | some (r, d, g1) => match unpkV G r d g1 with
      | some (f, d', g2) => match asgW G (moB f) d' g2 with
        | some g3 => Wb T b g3 Q
        | none => False
      | none => False
    | none => False) : Wb T (.cons (.asg G e) b) g Q := by
  split at h
  · rename_i q
    exact .asgV (.pe q h)
  · exact h.elim
theorem Wb.setixX {k : Nat} {i e : E} (h : match pe T e g with
    | some (r, d, g1) => match forceX r d g1 with
      | some (f, d', g2) => match g2.sl[k]? with
        | some (some _) => match pe T i g2 with
          | some (_, .int n, g3) => match g3.sl[k]? with
            | some (some (.ow, .lst ds)) => match ixN ds.length n with
              | some j => (f || d'.noL) = true ∧ Wb T b ⟨g3.sl.set k (some (.ow, .lst (ds.set j d'))), g3.ce⟩ Q
              | none => False
            | _ => False
          | _ => False
        | _ => False
      | none => False
    | none => False) : Wb T (.cons (.setix k i e) b) g Q := by
  split at h
  · rename_i r d g1 q
    obtain ⟨e1, H⟩ := pe_snd T e g r d g1 q
    split at h
    · rename_i f d' g2 qf
      split at h
      · rename_i s0 qs
        split at h
        · rename_i r2 n g3 qi
          obtain ⟨e2, H2⟩ := pe_snd T i g2 _ _ _ qi
          split at h
          · rename_i ds qk
            split at h
            · rename_i j qj
              refine Wb.to (c := .nx) ?_ (.refl _) h.2
              rw [evS, bind_run e1, bind_run H.stab, bind_run (forceX_run H qf), bind_run (a := ()) (g1 := g2) (by unfold hasK; rw [qs]), bind_run e2, bind_run H2.asI]
              dsimp only
              rw [qk]
              dsimp only
              rw [if_pos (show fresh (f, d') = true from h.1), qj]
            · exact h.elim
          · exact h.elim
        · exact h.elim
      · exact h.elim
    · exact h.elim
  · exact h.elim
theorem Wb.exprX {e : E} (h : match pe T e g with
    | some (_, _, g1) => Wb T b g1 Q
    | none => False) : Wb T (.cons (.expr e) b) g Q := by
  split at h
  · rename_i r d g1 q
    obtain ⟨e1, H⟩ := pe_snd T e g r d g1 q
    refine Wb.to (c := .nx) ?_ (.refl _) h
    rw [evS, bind_run e1]; rfl
  · exact h.elim
theorem Wb.retV {e : E} (h : Ev T e g fun r d g1 => match moveX r d g1 with
    | some (fl, d', g2) => Q (.rt fl d') g2
    | none => False) : Wb T (.cons (.ret e) b) g Q := by
  obtain ⟨r, d, g1, e1, H, h⟩ := h
  split at h
  · rename_i fl d' g2 qm
    refine Wb.to (c := .rt fl d') ?_ (.refl _) h
    rw [evS, bind_run e1, bind_run H.stab, bind_run (moveX_run H qm)]; rfl
  · exact h.elim
theorem Wb.retX {e : E} (h : match pe T e g with
    | some (r, d, g1) => match moveX r d g1 with
      | some (fl, d', g2) => Q (.rt fl d') g2
      | none => False
    | none => False) : Wb T (.cons (.ret e) b) g Q := by
  split at h
  · rename_i q
    exact .retV (.pe q h)
  · exact h.elim
theorem Wb.retNX (h : Q (.rt true .non) g) : Wb T (.cons .retN b) g Q := by
  refine Wb.to (c := .rt true .non) ?_ (.refl _) h
  rw [evS]; rfl
theorem Wb.retTX {as : A} (h : match peA T as g with
    | some (xs, g1) => match moveXL xs g1 with
      | some (es, g2) => fits es.length = true ∧ Q (.rt (es.all fresh) (.tup (es.map (·.2)))) g2
      | none => False
    | none => False) : Wb T (.cons (.retT as) b) g Q := by
  split at h
  · rename_i xs g1 q
    obtain ⟨e1, H⟩ := peA_snd T as g _ _ q
    split at h
    · rename_i es g2 qm
      refine Wb.to (c := .rt (es.all fresh) (.tup (es.map (·.2)))) ?_ (.refl _) h.2
      rw [evS, bind_run e1, bind_run (moveXL_run qm), if_pos h.1]; rfl
    · exact h.elim
  · exact h.elim
theorem Wb.passX (h : Wb T b g Q) : Wb T (.cons .pass b) g Q := by
  refine Wb.to (c := .nx) ?_ (.refl _) h
  rw [evS]; rfl
theorem Wb.shrX {k : Nat} {m : Mo} {d : D} (hk : g.sl[k]? = some (some (m, d))) (hm : m ≠ .lk) (h : Wb T b ⟨g.sl.set k (some (.sh, d)), g.ce⟩ Q) : Wb T (.cons (.shr k) b) g Q := by
  refine Wb.to (c := .nx) ?_ (.refl _) h
  rw [evS, bind_run (a := ()) (g1 := ⟨g.sl.set k (some (.sh, d)), g.ce⟩)]
  · rfl
  · unfold freeze
    rw [hk]
    dsimp only
    rw [if_neg hm]
theorem Wb.parX {i j : Nat} {as : A} (h : match pe T (.tup as) g with
    | some (_, .tup [x, y], g1) => (x.noL = true ∧ y.noL = true ∧ i ≠ j ∧ i < g1.sl.length ∧ j < g1.sl.length) ∧ Wb T b ⟨(g1.sl.set i (some (.sh, x))).set j (some (.sh, y)), g1.ce⟩ Q
    | _ => False) : Wb T (.cons (.par i j as) b) g Q := by
  split at h
  case h_2 => exact h.elim
  rename_i r x y g1 q
  obtain ⟨⟨h1, h2, h3, h4, h5⟩, h⟩ := h
  obtain ⟨e1, H⟩ := pe_snd T (.tup as) g _ _ _ q
  rw [evR] at e1
  have e1 : M.bind (evA T as) (fun rs => M.bind (forceL rs) (fun es => if fits es.length then pure (.tmp (es.all fresh) (.tup (es.map (·.2)))) else M.fail)) g = some (.ok (r.ref (.tup [x, y])) g1) := e1
  unfold M.bind at e1
  cases ea : evA T as g with
  | none => rw [ea] at e1; cases e1
  | some ra =>
    rw [ea] at e1
    cases ra with
    | exc c g0 => cases e1
    | ok rs g0 =>
      dsimp only at e1
      cases ef : forceL rs g0 with
      | none => rw [ef] at e1; cases e1
      | some rf =>
        rw [ef] at e1
        cases rf with
        | exc c g0 => cases e1
        | ok es g2 =>
          dsimp only at e1
          split at e1
          case isFalse => cases e1
          have e1 : some (Res.ok (Ref.tmp (es.all fresh) (.tup (es.map (·.2)))) g2) = some (Res.ok (r.ref (.tup [x, y])) g1) := e1
          have ee := Option.some.inj e1
          injection ee with ee eg
          subst eg
          have em : es.map (·.2) = [x, y] := by
            cases r with
            | fr => injection ee with _ z; injection z
            | sh => injection ee with _ z; injection z
            | sl k m => cases ee
          obtain ⟨u, v, rfl⟩ : ∃ u v, es = [u, v] := by
            match es, em with
            | [u, v], _ => exact ⟨u, v, rfl⟩
          skip
          have eu : u.2 = x := by injection em
          have ev : v.2 = y := by injection em with _ z; injection z
          subst eu ev
          refine Wb.to (c := .nx) ?_ (.refl _) h
          rw [evS, bind_run ea, bind_run ef]
          unfold par2
          dsimp only
          rw [if_pos (by rw [h1, h2, decide_eq_false h3]; rfl)]
          show M.bind (asgGs (.cons (.name i) (.cons (.name j) .nil)) .sh [u.2, v.2]) (fun _ => (pure .nx : M Ctl)) g2 = _
          have e2 : asgGs (.cons (.name i) (.cons (.name j) .nil)) .sh [u.2, v.2] g2 = some (.ok () ⟨(g2.sl.set i (some (.sh, u.2))).set j (some (.sh, v.2)), g2.ce⟩) := by
            rw [asgGs, bind_run (a := ()) (g1 := ⟨g2.sl.set i (some (.sh, u.2)), g2.ce⟩) (by rw [asgG]; unfold setSlot; rw [if_pos h4])]
            rw [asgGs, bind_run (a := ()) (g1 := ⟨(g2.sl.set i (some (.sh, u.2))).set j (some (.sh, v.2)), g2.ce⟩) (by rw [asgG]; unfold setSlot; rw [if_pos (by rw [List.length_set]; exact h5)])]
            rw [asgGs]; rfl
          unfold M.bind
          rw [e2]; rfl
/-- try, where nothing is raised -/
theorem Wb.tryX {b1 hb : B} {c : Str} (h : Wb T b1 g fun x p => match x with
    | .nx => Wb T b p Q
    | .rt fl d => Q (.rt fl d) p) : Wb T (.cons (.tryx b1 c hb) b) g Q := by
  obtain ⟨x, p, ⟨c2, g2, q1, q2, q3⟩, hq⟩ := h
  refine .cons ⟨x, p, ?_, ?_⟩
  · refine ⟨c2, g2, ?_, q2, q3⟩
    rw [evS]
    dsimp only
    rw [q1]
  · cases x <;> exact hq
/-- try, where its class is raised -/
theorem Wb.tryR {b1 hb : B} {c : Str} {g1 : Sg} (he : evB T b1 g = some (.exc c g1)) (h : Wb T (hb.app b) g1 Q) : Wb T (.cons (.tryx b1 c hb) b) g Q := by
  obtain ⟨c', p, ⟨c2, g2, q1, q2, q3⟩, hq⟩ := h
  refine ⟨c', p, ⟨c2, g2, ?_, q2, q3⟩, hq⟩
  rw [← q1, evB_app, evB]
  show M.bind (evS T _) _ g = _
  unfold M.bind
  rw [evS]
  dsimp only
  rw [he]
  dsimp only
  rw [if_pos rfl]
  cases evB T hb g1 with
  | none => rfl
  | some r => cases r <;> rfl
theorem Wb.condX {c : E} {b1 b2 : B} (h : match pe T c g with
    | some (_, .bl t, g1) => (t = true → Wb T (b1.app b) g1 Q) ∧ (t = false → Wb T (b2.app b) g1 Q)
    | _ => False) : Wb T (.cons (.cond c b1 b2) b) g Q := by
  split at h
  · rename_i r t g1 q
    obtain ⟨e1, H⟩ := pe_snd T c g _ _ _ q
    have key : ∀ b' : B, evS T (.cond c b1 b2) g = evB T b' g1 → Wb T (b'.app b) g1 Q → Wb T (.cons (.cond c b1 b2) b) g Q := by
      intro b' he hw
      obtain ⟨c', p, ⟨c2, g2, q1, q2, q3⟩, hq⟩ := hw
      refine ⟨c', p, ⟨c2, g2, ?_, q2, q3⟩, hq⟩
      rw [← q1, evB_app, evB]
      show M.bind (evS T _) _ g = _
      unfold M.bind
      rw [he]
      cases evB T b' g1 with
      | none => rfl
      | some r => cases r with
        | exc _ _ => rfl
        | ok c _ => cases c <;> rfl
    have he : evS T (.cond c b1 b2) g = evB T (if t then b1 else b2) g1 := by
      rw [evS, bind_run e1, bind_run H.asB]
      cases t <;> rfl
    cases t with
    | true => exact key b1 he (h.1 rfl)
    | false => exact key b2 he (h.2 rfl)
  · exact h.elim
/-- a loop's end: the slots of a locked walk are emptied, the lock is taken off -/
def endV (lk : Option Nat) (mo : Mo) (G : G) (p : Sg) : Option Sg := match lk with
  | none => some (if mo = .lk then wipeS G.slots p else p)
  | some k => unlV k (if mo = .lk then wipeS G.slots p else p)
theorem unlV_R {k : Nat} {p p' q : Sg} (h : SgR p q) (e : unlV k p = some p') : ∃ q', unlV k q = some q' ∧ SgR p' q' := by
  unfold unlV at e ⊢
  split at e
  · rename_i d z
    cases e
    obtain ⟨mo', z', hm⟩ := h.get z
    have : mo' = .lk := by
      rcases hm with rfl | ⟨_, h, _⟩
      · rfl
      · cases h
    subst this
    rw [z']
    exact ⟨_, rfl, h.set k (SlR.refl _)⟩
  · cases e
/-- the lock and the emptying around a loop -/
theorem loop_end {α : Type} {lk : Option Nat} {mo : Mo} {G : G} {m : M α} {g q p p' : Sg} {a : α} (hl : ∀ j, lk = some j → ∃ d, g.sl[j]? = some (some (.ow, d))) (h : m (lockV lk g) = some (.ok a q)) (hr : SgR p q) (he : endV lk mo G p = some p') : ∃ q', lockO lk (wiping (decide (mo = .lk)) G.slots m) g = some (.ok a q') ∧ SgR p' q' := by
  have hw : ∀ g0, m g0 = some (.ok a q) → wiping (decide (mo = .lk)) G.slots m g0 = some (.ok a (if mo = .lk then wipeS G.slots q else q)) := fun g0 h => by
    unfold wiping
    by_cases hm : mo = .lk
    · rw [decide_eq_true hm, if_pos rfl, if_pos hm]; simp only [h]
    · rw [decide_eq_false hm, if_neg (by decide), if_neg hm]; exact h
  have hs : SgR (if mo = .lk then wipeS G.slots p else p) (if mo = .lk then wipeS G.slots q else q) := by
    split
    · exact moWipeS _ hr
    · exact hr
  cases lk with
  | none =>
    cases he
    exact ⟨_, hw _ h, hs⟩
  | some k =>
    obtain ⟨d, hd⟩ := hl k rfl
    obtain ⟨q', e1, e2⟩ := unlV_R hs he
    refine ⟨q', ?_, e2⟩
    have el : lockV (some k) g = { g with sl := g.sl.set k (some (.lk, d)) } := by unfold lockV; simp only [hd]
    rw [el] at h
    show lockIn k _ g = _
    unfold lockIn
    simp only [hd]
    rw [hw _ h]
    dsimp only
    unfold unlV at e1
    unfold unl
    split at e1
    · rename_i d2 z
      cases e1
      first | rw [z] | rfl
    · cases e1
/-- a for; R says of the turns made what stands in the state -/
theorem Wb.forY {X : Type} {G : G} {I : I} {b' : B} {ι : Type} {is : List ι} {h : ι → D} {mo : Mo} {lk : Option Nat} {g1 : Sg} (R : List ι → X → Prop) (St : X → Sg) (x0 : X) (hI : peI T I g = some ((is.map h, mo, lk), g1)) (h0 : R [] x0) (hg : SgR (St x0) (lockV lk g1))
    (hs : ∀ pre i suf x, is = pre ++ i :: suf → R pre x → ∃ g2, asgW G mo (h i) (St x) = some g2 ∧ Wb T b g2 fun c q => match c with
      | .nx => ∃ y, R (pre ++ [i]) y ∧ SgR (St y) q
      | .rt fl d => ∃ q', endV lk mo G q = some q' ∧ Q (.rt fl d) q')
    (hb : ∀ x, R is x → ∃ q', endV lk mo G (St x) = some q' ∧ Wb T b' q' Q) : Wb T (.cons (.for G I b) b') g Q := by
  obtain ⟨e1, hl⟩ := peI_snd T I g _ _ hI
  obtain ⟨c, c', p', g', e2, h2, h3, h4⟩ := forL_wb (b := b) (T := T) (G := G) (mo := mo) h (fun pre p => ∃ x, R pre x ∧ SgR (St x) p) (fun c q => ∃ q', endV lk mo G q = some q' ∧ Q c q') is (by
    rintro pre i suf e p ⟨x, hx, hp⟩
    obtain ⟨g2, h1, h2⟩ := hs pre i suf x e hx
    obtain ⟨g3, h3, r3⟩ := asgW_run _ _ _ _ _ h1
    obtain ⟨r2, h4, hr⟩ := moAsgG G mo mo (h i) (.inl rfl) _ p hp _ h3
    cases r2 with
    | exc _ _ => exact hr.elim
    | ok u g4 => exact ⟨g4, h4, (h2.pre r3).pre hr.2⟩) is [] (lockV lk g1) (lockV lk g1) rfl ⟨x0, h0, hg⟩ (.refl _)
  cases c with
  | nx =>
    cases c' with
    | rt _ _ => exact h2.elim
    | nx =>
      obtain ⟨x, hx, hp⟩ := h4
      obtain ⟨q', he, hw⟩ := hb x hx
      obtain ⟨q2, e3, r3⟩ := loop_end (m := Om.forL (fun d => (do asgG G (mo, d); evB T b : M Ctl)) (is.map h)) hl e2 (hp.trans h3) he
      refine Wb.to (c := .nx) (g1 := q') ?_ r3 hw
      rw [evS, bind_run e1]
      exact e3
  | rt fl d =>
    cases c' with
    | nx => exact h2.elim
    | rt fl' d' =>
      obtain ⟨q', he, hw⟩ := h4
      obtain ⟨q2, e3, r3⟩ := loop_end (m := Om.forL (fun d => (do asgG G (mo, d); evB T b : M Ctl)) (is.map h)) hl e2 h3 he
      refine .cons ⟨.rt fl d, q', ⟨.rt fl' d', q2, ?_, h2, r3⟩, hw⟩
      rw [evS, bind_run e1]
      exact e3
/-- a while, by a measure -/
theorem whileL_wy {c : E} {X : Type} (St : X → Sg) (Inv : Nat → X → Prop) (Post : Ctl → Sg → Prop) (Out : Sg → Prop) (hs : ∀ m x, Inv m x → match pe T c (St x) with
      | some (_, .bl t, g1) => (t = false → Out g1) ∧ (t = true → Wb T b g1 fun c q => match c with
        | .nx => ∃ m' y, m' < m ∧ Inv m' y ∧ SgR (St y) q
        | .rt fl d => Post (.rt fl d) q)
      | _ => False) : ∀ (n m : Nat) (x : X) (g : Sg), m < n → Inv m x → SgR (St x) g → ∃ c0 c' p' g', whileL (do asB (← evR T c)) (evB T b) n g = some (.ok c' g') ∧ CtlR c0 c' ∧ SgR p' g' ∧ match c0 with
      | .nx => Out p'
      | .rt fl d => Post (.rt fl d) p'
  | 0, m, p, g, hn, _, _ => absurd hn (Nat.not_lt_zero _)
  | n + 1, m, x, g, hn, hi, hg => by
    have h1 := hs m x hi
    split at h1
    · rename_i r t g1 q1
      obtain ⟨h2, h3⟩ := h1
      obtain ⟨e1, H⟩ := pe_snd T c _ r _ _ q1
      have e0 : (do asB (← evR T c) : M Bool) (St x) = some (.ok t g1) := by rw [bind_run e1, H.asB]
      have mt : MR Eq (do asB (← evR T c) : M Bool) (do asB (← evR T c) : M Bool) := MR.bind (moR (TabR.refl T) c) fun _ _ h => moAsB h
      obtain ⟨r1, e2, hr⟩ := mt (St x) g hg _ e0
      cases r1 with
      | exc _ _ => exact hr.elim
      | ok t' g2 =>
        obtain ⟨rfl, hr⟩ := hr
        show ∃ c0 c' p' g', M.bind _ _ g = _ ∧ _
        rw [M.run_bind e2]
        cases t with
        | false => exact ⟨.nx, .nx, g1, g2, rfl, trivial, hr, h2 rfl⟩
        | true =>
          obtain ⟨c0, q, h5, h6⟩ := h3 rfl
          obtain ⟨c', g', h7, h8, h9⟩ := h5.pre hr
          rw [if_pos rfl]
          show ∃ c0 c' p' g', M.bind (evB T b) _ g2 = _ ∧ _
          rw [M.run_bind h7]
          cases c0 with
          | nx =>
            cases c' with
            | rt _ _ => exact h8.elim
            | nx =>
              obtain ⟨m', y, hm, hi', hy⟩ := h6
              exact whileL_wy St Inv Post Out hs n m' y g' (by omega) hi' (hy.trans h9)
          | rt fl d =>
            cases c' with
            | nx => exact h8.elim
            | rt fl' d' => exact ⟨.rt fl d, .rt fl' d', q, g', rfl, h8, h9, h6⟩
    · exact h1.elim
theorem Wb.whileY {c : E} {b' : B} {X : Type} (Inv : Nat → X → Prop) (St : X → Sg) (m0 : Nat) (x0 : X) (hm : m0 < turns) (h0 : Inv m0 x0) (hg : SgR (St x0) g) (hs : ∀ m x, Inv m x → match pe T c (St x) with
      | some (_, .bl t, g1) => (t = false → Wb T b' g1 Q) ∧ (t = true → Wb T b g1 fun c q => match c with
        | .nx => ∃ m' y, m' < m ∧ Inv m' y ∧ SgR (St y) q
        | .rt fl d => Q (.rt fl d) q)
      | _ => False) : Wb T (.cons (.while c b) b') g Q := by
  obtain ⟨c0, c', p', g', e, h1, h2, h3⟩ := whileL_wy St Inv Q (fun p => Wb T b' p Q) hs turns m0 x0 g hm h0 hg
  refine .cons ⟨c0, p', ⟨c', g', by rw [evS]; exact e, h1, h2⟩, ?_⟩
  cases c0 with
  | nx => exact h3
  | rt fl d => exact h3
/-- a comprehension that changes the state -/
theorem compL_ev {own : List Nat} {G : G} {mo : Mo} {c : C} {e : E} {X ι : Type} {h : ι → D} (R : List ι → List D → X → Prop) (St : X → Sg) (is : List ι)
    (hs : ∀ pre i suf x ds, is = pre ++ i :: suf → R pre ds x → ∃ g1 t, asgG G (mo, h i) (wipeS own (St x)) = some (.ok () g1) ∧ pvC T c g1 = some t ∧ (t = false → ∃ y, R (pre ++ [i]) ds y ∧ wipeS own g1 = wipeS own (St y)) ∧
      (t = true → match pe T e g1 with
        | some (r, d, g2) => (d.noL || r.isFr) = true ∧ ∃ y, R (pre ++ [i]) (ds ++ [d]) y ∧ wipeS own g2 = wipeS own (St y)
        | none => False)) : ∀ (js pre : List ι) (x : X) (ds : List D) (s : Sg), is = pre ++ js → R pre ds x → wipeS own s = wipeS own (St x) → ∃ es y s', compL own G mo (evC T c) (evR T e) (js.map h) s = some (.ok es s') ∧ (∀ x ∈ es, fresh x = true) ∧ R is (ds ++ es.map (·.2)) y ∧ wipeS own s' = wipeS own (St y)
  | [], pre, x, ds, s, hi, hr, hw => ⟨[], x, s, rfl, (fun _ h => nomatch h), by rw [List.append_nil] at hi; rw [List.map_nil, List.append_nil, hi]; exact hr, hw⟩
  | j :: js, pre, x, ds, s, hi, hr, hw => by
    obtain ⟨g1, t, h1, h2, h3, h4⟩ := hs pre j js x ds hi hr
    show ∃ es y s', M.bind (asgG G (mo, h j)) (fun _ => _) (wipeS own s) = _ ∧ _
    rw [hw, M.run_bind h1]
    show ∃ es y s', M.bind (noX (evC T c)) (fun b => _) g1 = _ ∧ _
    rw [M.run_bind (noX_ok (pvC_snd T c g1 t h2))]
    cases t with
    | false =>
      obtain ⟨y, hy, hw'⟩ := h3 rfl
      exact compL_ev R St is hs js (pre ++ [j]) y ds g1 (by rw [hi]; simp) hy hw'
    | true =>
      have h5 := h4 rfl
      split at h5
      · rename_i r d g2 q
        obtain ⟨hf, y, hy, hw'⟩ := h5
        obtain ⟨e1, H⟩ := pe_snd T e g1 r d g2 q
        have ef : ∃ fl, (fl || d.noL) = true ∧ (do force (← stab (← evR T e)) : M (Bool × D)) g1 = some (.ok (fl, d) g2) := by
          cases r with
          | fr => exact ⟨true, rfl, by
              show M.bind (evR T e) _ g1 = _
              rw [M.run_bind e1]; rfl⟩
          | sh =>
            rw [show Rk.isFr .sh = false from rfl, Bool.or_false] at hf
            exact ⟨false, by rw [hf]; rfl, by
              show M.bind (evR T e) _ g1 = _
              rw [M.run_bind e1]; rfl⟩
          | sl j m =>
            rw [show Rk.isFr (.sl j m) = false from rfl, Bool.or_false] at hf
            have := (H.slot j m rfl).2.2
            rw [hf] at this; cases this
        obtain ⟨fl, hfl, ef⟩ := ef
        obtain ⟨es, z, s', r1, r2, r3, r4⟩ := compL_ev R St is hs js (pre ++ [j]) y (ds ++ [d]) g2 (by rw [hi]; simp) hy hw'
        refine ⟨(fl, d) :: es, z, s', ?_, ?_, ?_, r4⟩
        · show M.bind (noX (do force (← stab (← evR T e)) : M (Bool × D))) _ g1 = _
          rw [M.run_bind (noX_ok ef)]
          show M.bind (compL own G mo (evC T c) (evR T e) (js.map h)) _ g2 = _
          rw [M.run_bind r1]; rfl
        · intro y hy
          rcases List.mem_cons.mp hy with rfl | hy
          · exact hfl
          · exact r2 y hy
        · rw [List.map_cons, show ds ++ d :: es.map (·.2) = (ds ++ [d]) ++ es.map (·.2) by simp]; exact r3
      · exact h5.elim
theorem mergeL_wipe {α : Type} (old s s' : List (Option α)) (own : List Nat) (h : wipeL s own = wipeL s' own) (hl : s.length = s'.length) (ho : old.length = s.length) : mergeL old s own = mergeL old s' own := by
  refine List.ext_getElem? fun j => ?_
  by_cases hj : j ∈ own
  · rw [mergeL_in _ _ ho hj, mergeL_in _ _ (ho.trans hl) hj]
  · rw [mergeL_out _ _ hj, mergeL_out _ _ hj]
    have a : (wipeL s own)[j]? = (wipeL s' own)[j]? := by rw [h]
    rwa [wipeL_out _ hj, wipeL_out _ hj] at a
/-- a lock taken off -/
def unlO : Option Nat → Sg → Option Sg
  | none, g => some g
  | some k, g => unlV k g
theorem Ev.comp {own : List Nat} {G : G} {I : I} {c : C} {e : E} {X ι : Type} {is : List ι} {h : ι → D} {mo : Mo} {lk : Option Nat} {g1 : Sg} {K : Rk → D → Sg → Prop} (R : List ι → List D → X → Prop) (St : X → Sg) (x0 : X) (hI : peI T I g = some ((is.map h, mo, lk), g1)) (hf : is.length ≤ 16777216) (hl0 : ∀ x, (St x).sl.length = (lockV lk g1).sl.length) (h0 : R [] [] x0) (hg : wipeS own (lockV lk g1) = wipeS own (St x0))
    (hs : ∀ pre i suf x ds, is = pre ++ i :: suf → R pre ds x → ∃ g1 t, asgG G (mo, h i) (wipeS own (St x)) = some (.ok () g1) ∧ pvC T c g1 = some t ∧ (t = false → ∃ y, R (pre ++ [i]) ds y ∧ wipeS own g1 = wipeS own (St y)) ∧
      (t = true → match Om.pe T e g1 with
        | some (r, d, g2) => (d.noL || r.isFr) = true ∧ ∃ y, R (pre ++ [i]) (ds ++ [d]) y ∧ wipeS own g2 = wipeS own (St y)
        | none => False))
    (hb : ∀ ds x, R is ds x → match unlO lk ⟨mergeL (lockV lk g1).sl (St x).sl own, (St x).ce⟩ with
      | some g2 => K .fr (.lst ds) g2
      | none => False) : Ev T (.comp I G c e own) g K := by
  obtain ⟨e1, hl⟩ := peI_snd T I g _ _ hI
  obtain ⟨es, y, s', r1, r2, r3, r4⟩ := compL_ev (T := T) (own := own) (G := G) (mo := mo) (c := c) (e := e) (h := h) R St is hs is [] x0 [] (lockV lk g1) rfl h0 hg
  have hls : s'.sl.length = (St y).sl.length := by
    have := congrArg (fun g => g.sl.length) r4
    unfold wipeS at this
    dsimp only at this
    rwa [wipeL_len, wipeL_len] at this
  have r5 : compM own G mo (evC T c) (evR T e) (is.map h) (lockV lk g1) = some (.ok es ⟨mergeL (lockV lk g1).sl (St y).sl own, (St y).ce⟩) := by
    unfold compM
    rw [r1]
    dsimp only
    rw [mergeL_wipe _ _ (St y).sl own (Sg.mk.inj r4).1 hls (by rw [hls, hl0 y]), show s'.ce = (St y).ce from (Sg.mk.inj r4).2]
  have r3 := hb _ _ r3
  have hlen : es.length ≤ 16777216 := by
    have : ∀ (js : List ι) (s s' : Sg) (es : List (Bool × D)), compL own G mo (evC T c) (evR T e) (js.map h) s = some (.ok es s') → es.length ≤ js.length := by
      intro js
      induction js with
      | nil => intro s s' es h; cases h; exact Nat.le_refl _
      | cons j js ih =>
        intro s s' es hh
        have hh : M.bind (asgG G (mo, h j)) (fun _ => M.bind (noX (evC T c)) fun b => if b then M.bind (noX (do force (← stab (← evR T e)) : M (Bool × D))) fun x => M.bind (compL own G mo (evC T c) (evR T e) (js.map h)) fun xs => M.pure (x :: xs) else compL own G mo (evC T c) (evR T e) (js.map h)) (wipeS own s) = some (.ok es s') := hh
        unfold M.bind at hh
        split at hh
        · cases hh
        · dsimp only at hh
          split at hh
          · cases hh
          · rename_i b g3 _
            cases b with
            | false =>
              have := ih _ _ _ hh
              exact Nat.le_succ_of_le this
            | true =>
              rw [if_pos rfl] at hh
              split at hh
              · cases hh
              · split at hh
                · cases hh
                · rename_i q
                  cases hh
                  have := ih _ _ _ q
                  exact Nat.succ_le_succ this
                · cases hh
              · cases hh
          · cases hh
        · cases hh
    exact Nat.le_trans (this _ _ _ _ r1) hf
  refine ⟨.fr, .lst (es.map (·.2)), ?_⟩
  rw [List.nil_append] at r3
  cases lk with
  | none =>
    refine ⟨_, ?_, .tmp rfl, r3⟩
    rw [evR, bind_run e1, if_pos (by simpa [fits, veil_eq] using hf)]
    have r6 : lockO none (compM own G mo (evC T c) (evR T e) (is.map h)) g1 = some (.ok es ⟨mergeL (lockV none g1).sl (St y).sl own, (St y).ce⟩) := r5
    rw [bind_run r6]
    rw [show es.all fresh = true from List.all_eq_true.mpr r2]; rfl
  | some k =>
    split at r3
    · rename_i g2 qu
      have qu : unlV k ⟨mergeL (lockV (some k) g1).sl (St y).sl own, (St y).ce⟩ = some g2 := qu
      refine ⟨g2, ?_, .tmp rfl, r3⟩
      obtain ⟨d, hd⟩ := hl k rfl
      have el : lockV (some k) g1 = { g1 with sl := g1.sl.set k (some (.lk, d)) } := by unfold lockV; simp only [hd]
      have r6 : lockO (some k) (compM own G mo (evC T c) (evR T e) (is.map h)) g1 = some (.ok es g2) := by
        show lockIn k _ g1 = _
        unfold lockIn
        simp only [hd]
        rw [← el, r5]
        dsimp only
        unfold unlV at qu
        unfold unl
        dsimp only at qu ⊢
        split at qu
        · rename_i d2 z
          cases qu
          first | rw [z] | rfl
        · cases qu
      rw [evR, bind_run e1, if_pos (by simpa [fits, veil_eq] using hf), bind_run r6]
      rw [show es.all fresh = true from List.all_eq_true.mpr r2]; rfl
    · exact r3.elim
end
end Om

/-! Wk11: simp rows of the engine; a block run by one simp. -/
namespace Om
open PySem PySem.Spec PyProof.Rows L2

section
variable {T : Tab} {k : Nat} {d : D} {g : Sg}
@[simp] theorem x_refs_nil : refs [] = [] := id rfl
@[simp] theorem x_refs_cons (r : Rk) (d : D) (xs : List (Rk × D)) : refs ((r, d) :: xs) = r.ref d :: refs xs := id rfl
@[simp] theorem x_ref_fr : Rk.ref .fr d = .tmp true d := id rfl
@[simp] theorem x_ref_sh : Rk.ref .sh d = .tmp false d := id rfl
@[simp] theorem x_ref_sl (m : Mo) : Rk.ref (.sl k m) d = .slot k := id rfl
@[simp] theorem x_lent_nil : lentOf [] [] = some [] := id rfl
@[simp] theorem x_lent_slt (rs : List Ref) (ms : List Bool) : lentOf (.slot k :: rs) (true :: ms) = (lentOf rs ms).map (k :: ·) := id rfl
@[simp] theorem x_lent_f (r : Ref) (rs : List Ref) (ms : List Bool) : lentOf (r :: rs) (false :: ms) = lentOf rs ms := by cases r <;> rfl
@[simp] theorem x_lent_tmp (b : Bool) (rs : List Ref) (ms : List Bool) : lentOf (.tmp b d :: rs) (true :: ms) = none := id rfl
@[simp] theorem x_kept_nil : keptOf [] [] = [] := id rfl
@[simp] theorem x_kept_t (r : Ref) (rs : List Ref) (ms : List Bool) : keptOf (r :: rs) (true :: ms) = keptOf rs ms := id rfl
@[simp] theorem x_kept_f (r : Ref) (rs : List Ref) (ms : List Bool) : keptOf (r :: rs) (false :: ms) = r :: keptOf rs ms := id rfl
@[simp] theorem x_isSlot_s (j : Nat) : Ref.isSlot k (.slot j) = decide (j = k) := id rfl
@[simp] theorem x_isSlot_t (b : Bool) : Ref.isSlot k (.tmp b d) = false := id rfl
@[simp] theorem x_app_nil (b : B) : B.app .nil b = b := by rw [B.app]
@[simp] theorem x_app_cons (s : S) (a b : B) : B.app (.cons s a) b = .cons s (a.app b) := by rw [B.app]
@[simp] theorem x_start0 (f : Df) (ds : List D) : start0 f ds = ⟨(f.mask.zip ds).map (fun p => some (moB p.1, p.2)) ++ List.replicate (f.ns - f.np) none, []⟩ := id rfl
@[simp] theorem x_moB_t : moB true = .ow := id rfl
@[simp] theorem x_moB_f : moB false = .sh := id rfl
@[simp] theorem x_moB_x (b : Bool) : (moB b = .ow) = (b = true) := by cases b <;> simp [moB]
@[simp] theorem x_simple_var : E.simple (.var k) = true := id rfl
@[simp] theorem x_simple_int (i : Int) : E.simple (.int i) = true := id rfl
@[simp] theorem x_simM (e : E) (g : Sg) : simM e g = match simD e g with
  | some d => some (.ok d g)
  | none => none := id rfl
@[simp] theorem x_simD_var : simD (.var k) g = match g.sl[k]? with
    | some (some (_, d)) => some d
    | _ => none := id rfl
@[simp] theorem x_simD_int (i : Int) : simD (.int i) g = some (.int i) := id rfl
@[simp] theorem x_place2_nil (i : Int) : A.place2 i .nil = pure [i] := id rfl
@[simp] theorem x_place2_cons (i : Int) (e : E) : A.place2 i (.cons e .nil) = if e.simple then M.bind (simM e) (D.asPlace i) else M.fail := id rfl
@[simp] theorem x_asPlace (i j : Int) : D.asPlace i (.int j) = pure [i, j] := id rfl
@[simp] theorem x_bind_ok {α β : Type} (m : M α) (f : α → M β) (g : Sg) : M.bind m f g = match m g with
  | none => none
  | some (.ok a g') => f a g'
  | some (.exc c g') => some (.exc c g') := rfl
@[simp] theorem x_pure_run {α : Type} (a : α) (g : Sg) : (pure a : M α) g = some (.ok a g) := id rfl
@[simp] theorem x_finOf_nil (sl : List Slot) (k : Nat) : finOf sl [] k = some [] := by rw [finOf] <;> rfl
@[simp] theorem x_finOf_f (sl : List Slot) (ms : List Bool) (k : Nat) : finOf sl (false :: ms) k = finOf sl ms (k + 1) := by rw [finOf] <;> rfl
@[simp] theorem x_finOf_t (sl : List Slot) (ms : List Bool) (k : Nat) : finOf sl (true :: ms) k = match sl[k]? with
  | some (some (.ow, d)) => (finOf sl ms (k + 1)).map (d :: ·)
  | _ => none := by rw [finOf] <;> rfl
@[simp] theorem x_finC (sl : List Slot) (ms : List Bool) : finC sl ms = match finOf sl ms 0 with
  | some fin => if D.noCL fin then some fin else none
  | none => none := id rfl
@[simp] theorem x_mergeL_nil {α : Type} (old s : List (Option α)) : mergeL old s [] = s := id rfl
@[simp] theorem x_mergeL_cons {α : Type} (old s : List (Option α)) (k : Nat) (ks : List Nat) : mergeL old s (k :: ks) = (mergeL old s ks).set k ((old[k]?).getD none) := id rfl
@[simp] theorem x_atPath_nil : atPath d [] = some d := by rw [atPath] <;> rfl
@[simp] theorem x_atPath_cons (i : Int) (is : List Int) : atPath d (i :: is) = (d.items.bind fun ds => atI ds i).bind fun x => atPath x is := by rw [atPath] <;> rfl
@[simp] theorem x_chkP (k : Nat) (is : List Int) (g : Sg) : chkP k is g = match g.sl[k]? with
  | some (some (_, d)) => match atPath d is with
    | some (.lst _) => some (.ok () g)
    | some (.cell _) => some (.ok () g)
    | _ => none
  | _ => none := id rfl
@[simp] theorem x_mutSlot (m : Mu) (k : Nat) (is : List Int) (es : List (Bool × D)) (g : Sg) : mutSlot m k is es g = match g.sl[k]? with
  | some (some (m', d)) => match atPath d is with
    | some (.lst ds) => if decide (m' = .ow) && es.all fresh then match mutD m ds (es.map (·.2)) with
        | some (ys, r) => match putPath d is ys with
          | some d' => some (.ok (.tmp true r) { g with sl := g.sl.set k (some (.ow, d')) })
          | none => none
        | none => none
      else none
    | some (.cell n) => match g.ce[n]? with
      | some ds => if es.all (fun e => e.2.noL && e.2.noC) then match mutD m ds (es.map (·.2)) with
          | some (ys, r) => some (.ok (.tmp true r) { g with ce := g.ce.set n ys })
          | none => none
        else none
      | none => none
    | _ => none
  | _ => none := id rfl
@[simp] theorem x_put_lst (ds ys : List D) : putPath (.lst ds) [] ys = some (.lst ys) := by rw [putPath] <;> rfl
@[simp] theorem x_put_lstc (ds ys : List D) (i : Int) (is : List Int) : putPath (.lst ds) (i :: is) ys = (ixN ds.length i).bind fun j => (ds[j]?).bind fun x => (putPath x is ys).map fun x' => .lst (ds.set j x') := by rw [putPath] <;> rfl
@[simp] theorem x_put_tupc (ds ys : List D) (i : Int) (is : List Int) : putPath (.tup ds) (i :: is) ys = (ixN ds.length i).bind fun j => (ds[j]?).bind fun x => (putPath x is ys).map fun x' => .tup (ds.set j x') := by rw [putPath] <;> rfl
@[simp] theorem x_append (ds : List D) (x : D) : mutD .append ds [x] = if decide (ds.length < 16777216) then some (ds ++ [x], .non) else none := id rfl
@[simp] theorem x_extendT (ds xs : List D) : mutD .extend ds [.tup xs] = if fits (ds.length + xs.length) && D.noLL xs then some (ds ++ xs, .non) else none := id rfl
@[simp] theorem x_extend (ds xs : List D) : mutD .extend ds [.lst xs] = if fits (ds.length + xs.length) && D.noLL xs then some (ds ++ xs, .non) else none := id rfl
@[simp] theorem x_insert (ds : List D) (i : Int) (x : D) : mutD .insert ds [.int i, x] = if decide (ds.length < 16777216) && decide (0 ≤ i ∧ i < 2 ^ 63) then some (ds.take i.toNat ++ x :: ds.drop i.toNat, .non) else none := id rfl
@[simp] theorem x_reverse (ds : List D) : mutD .reverse ds [] = some (ds.reverse, .non) := id rfl
@[simp] theorem x_clear (ds : List D) : mutD .clear ds [] = some ([], .non) := id rfl
@[simp] theorem x_ixN_nat (n i : Nat) : ixN n (i : Int) = if i < n then some i else none := by
  unfold ixN
  rw [if_pos (by omega)]
  by_cases h : i < n
  · rw [if_pos h, if_pos (by omega)]; simp
  · rw [if_neg h, if_neg (by omega)]
@[simp] theorem x_ixN_0 (n : Nat) : ixN n 0 = if 0 < n then some 0 else none := x_ixN_nat n 0
@[simp] theorem x_ixN_1 (n : Nat) : ixN n 1 = if 1 < n then some 1 else none := x_ixN_nat n 1
@[simp] theorem v_pvS (e : E) (g : Sg) : pvS T e g = match pv T e g with
  | some (r, d) => some (r, d, g)
  | none => none := id rfl
@[simp] theorem v_pur (e : E) (g : Sg) (k : PR) : pur T e g k = if e.pu T = true then pvS T e g else k := id rfl
@[simp] theorem v_callV (f : Str) (xs : List (Rk × D)) (g : Sg) : callV T f xs g = match lentOf (refs xs) (T.mask f) with
  | some ks => if (decide (ks.length ≤ 1) && (keptOf (refs xs) (T.mask f)).all (fun r => ks.all fun k => !r.isSlot k) && ownedB ks g && D.noCL (xs.map (·.2))) = true then match T.run f (xs.map (·.2)) with
      | some (.ret fl d fin) => if (d.noC && D.noCL fin && (fl || d.noL)) = true then match putV ks fin g with
          | some g' => some (Rk.of fl, d, g')
          | none => none
        else none
      | _ => none
    else none
  | none => none := id rfl
@[simp] theorem v_mutV (m : Mu) (k : Nat) (is : List Int) (es : List (Bool × D)) (g : Sg) : mutV m k is es g = match mutSlot m k is es g with
  | some (.ok (.tmp true r) g') => some (.fr, r, g')
  | _ => none := id rfl
@[simp] theorem v_chkV (k : Nat) (is : List Int) (g : Sg) : chkV k is g = match chkP k is g with
  | some _ => true
  | none => false := id rfl
@[simp] theorem v_unlV (k : Nat) (g : Sg) : unlV k g = match g.sl[k]? with
  | some (some (.lk, d)) => some ⟨g.sl.set k (some (.ow, d)), g.ce⟩
  | _ => none := id rfl
@[simp] theorem v_peI (i : I) (g : Sg) : peI T i g = match (if i.pu T = true then pvI T i g else none) with
  | some w => some (w, g)
  | none => peK T i g := id rfl
@[simp] theorem v_peK_rng1 (a : E) (g : Sg) : peK T (.rng1 a) g = match pe T a g with
    | some (_, .int i, g1) => if range62 i = true then some ((rngD 0 i, .sh, none), g1) else none
    | _ => none := by rw [peK] <;> rfl
@[simp] theorem v_peK_rng2 (a b : E) (g : Sg) : peK T (.rng2 a b) g = match pe T a g with
    | some (_, .int i, g1) => match pe T b g1 with
      | some (_, .int j, g2) => if (range62 i && range62 j) = true then some ((rngD i j, .sh, none), g2) else none
      | _ => none
    | _ => none := by rw [peK] <;> rfl
@[simp] theorem v_peK_seq (e : E) (g : Sg) : peK T (.seq e) g = match pe T e g with
    | some (k, d, g1) => match walkV k d with
      | some w => some (w, g1)
      | none => none
    | none => none := by rw [peK] <;> rfl
@[simp] theorem v_peK_enum (e : E) (g : Sg) : peK T (.enum e) g = match pe T e g with
    | some (k, d, g1) => match forceX k d g1 with
      | some (_, .lst ds, g2) => if D.noLL ds = true then some ((enumD 0 ds, .sh, none), g2) else none
      | _ => none
    | none => none := by rw [peK] <;> rfl
/-! how a thing is held, by branches -/
@[simp] theorem slot_ite (p : Prop) [Decidable p] (a b : Rk) : Rk.slot (if p then a else b) = if p then a.slot else b.slot := by split <;> rfl
@[simp] theorem fl_ite (p : Prop) [Decidable p] (a b : Rk) : Rk.fl (if p then a else b) = if p then a.fl else b.fl := by split <;> rfl
@[simp] theorem isFr_ite (p : Prop) [Decidable p] (a b : Rk) : Rk.isFr (if p then a else b) = if p then a.isFr else b.isFr := by split <;> rfl
@[simp] theorem Rk_isFr_sl (k : Nat) (m : Mo) : Rk.isFr (.sl k m) = false := id rfl
@[simp] theorem Rk_fl_sl (k : Nat) (m : Mo) : Rk.fl (.sl k m) = false := id rfl
@[simp] theorem slot_of (b : Bool) : Rk.slot (Rk.of b) = false := by cases b <;> rfl
@[simp] theorem fl_of (b : Bool) : Rk.fl (Rk.of b) = b := by cases b <;> rfl
def moveO : Rk → D → Sg → Option (Bool × D × Sg)
  | .sl k .ow, d, g => some (true, d, ⟨g.sl.set k none, g.ce⟩)
  | _, _, _ => none
@[simp] theorem moveX_eq (r : Rk) (d : D) (g : Sg) : moveX r d g = if r.slot = false then some (r.fl, d, g) else moveO r d g := by
  cases r with
  | fr => rfl
  | sh => rfl
  | sl k m => cases m <;> rfl
@[simp] theorem moveO_ow (k : Nat) (d : D) (g : Sg) : moveO (.sl k .ow) d g = some (true, d, ⟨g.sl.set k none, g.ce⟩) := id rfl
def forceO : Rk → D → Sg → Option (Bool × D × Sg)
  | .sl k m, d, g => if d.noL = true then some (false, d, g) else if m = .lk then none else some (false, d, ⟨g.sl.set k (some (.sh, d)), g.ce⟩)
  | _, _, _ => none
@[simp] theorem forceX_eq (r : Rk) (d : D) (g : Sg) : forceX r d g = if r.slot = false then some (r.fl, d, g) else forceO r d g := by
  cases r with
  | fr => rfl
  | sh => rfl
  | sl k m => rfl
@[simp] theorem forceO_sl (k : Nat) (m : Mo) (d : D) (g : Sg) : forceO (.sl k m) d g = if d.noL = true then some (false, d, g) else if m = .lk then none else some (false, d, ⟨g.sl.set k (some (.sh, d)), g.ce⟩) := id rfl
def moveOL : Rk → List (Rk × D) → Sg → Option (List (Bool × D) × Sg)
  | .sl k .ow, xs, g => match g.sl[k]? with
    | some (some (.ow, d')) => match moveXL xs ⟨g.sl.set k none, g.ce⟩ with
      | some (es, g') => some ((true, d') :: es, g')
      | none => none
    | _ => none
  | _, _, _ => none
@[simp] theorem moveXL_nil (g : Sg) : moveXL [] g = some ([], g) := id rfl
@[simp] theorem moveXL_cons (r : Rk) (d : D) (xs : List (Rk × D)) (g : Sg) : moveXL ((r, d) :: xs) g = if r.slot = false then (match moveXL xs g with
    | some (es, g') => some ((r.fl, d) :: es, g')
    | none => none) else moveOL r xs g := by
  cases r with
  | fr => rfl
  | sh => rfl
  | sl k m => cases m <;> rfl
@[simp] theorem moveOL_ow (k : Nat) (xs : List (Rk × D)) (g : Sg) : moveOL (.sl k .ow) xs g = match g.sl[k]? with
    | some (some (.ow, d')) => match moveXL xs ⟨g.sl.set k none, g.ce⟩ with
      | some (es, g') => some ((true, d') :: es, g')
      | none => none
    | _ => none := id rfl
@[simp] theorem unpkV_tup (gs : Gs) (r : Rk) (d : D) (g : Sg) : unpkV (.tup gs) r d g = if d.flatItems = true then some (false, d, g) else forceX r d g := id rfl
@[simp] theorem unpkV_name (k : Nat) (r : Rk) (d : D) (g : Sg) : unpkV (.name k) r d g = forceX r d g := id rfl
@[simp] theorem nmo_sh (d : D) : nmo .sh d = .sh := by unfold nmo; split <;> rfl
@[simp] theorem nmo_lk (d : D) : nmo .lk d = .lk := by unfold nmo; rfl
@[simp] theorem nmo_ow (d : D) : nmo .ow d = if d.noL = true ∧ d.noC = true then .sh else .ow := by
  unfold nmo
  simp
@[simp] theorem nmo_mo (b : Bool) (d : D) : nmo (moB b) d = if d.noL = true ∧ d.noC = true then .sh else moB b := by cases b <;> simp
@[simp] theorem asgW_name (m : Mo) (d : D) (g : Sg) : asgW (.name k) m d g = if k < g.sl.length then some ⟨g.sl.set k (some (nmo m d, d)), g.ce⟩ else none := by rw [asgW] <;> rfl
@[simp] theorem asgW_tupT (gs : Gs) (m : Mo) (ds : List D) (g : Sg) : asgW (.tup gs) m (.tup ds) g = asgWs gs m ds g := by rw [asgW] <;> rfl
@[simp] theorem asgW_tupL (gs : Gs) (m : Mo) (ds : List D) (g : Sg) : asgW (.tup gs) m (.lst ds) g = if D.noLL ds = true then asgWs gs .sh ds g else none := by rw [asgW] <;> rfl
@[simp] theorem asgWs_nil (m : Mo) (g : Sg) : asgWs .nil m [] g = some g := by rw [asgWs] <;> rfl
@[simp] theorem asgWs_cons (G : G) (gs : Gs) (m : Mo) (d : D) (ds : List D) (g : Sg) : asgWs (.cons G gs) m (d :: ds) g = match asgW G m d g with
    | some g1 => asgWs gs m ds g1
    | none => none := by rw [asgWs] <;> rfl
@[simp] theorem endV_none (mo : Mo) (G : G) (p : Sg) : endV none mo G p = some (if mo = .lk then wipeS G.slots p else p) := id rfl
@[simp] theorem endV_some (k : Nat) (mo : Mo) (G : G) (p : Sg) : endV (some k) mo G p = unlV k (if mo = .lk then wipeS G.slots p else p) := id rfl
@[simp] theorem ite_bl (p : Prop) [Decidable p] (a b : Rk) (x y : Bool) : (if p then some (a, D.bl x) else some (b, D.bl y)) = some (if p then a else b, D.bl (if p then x else y)) := by split <;> rfl
@[simp] theorem ite_blS (p : Prop) [Decidable p] (a b : Rk) (x y : Bool) (g : Sg) : (if p then some (a, D.bl x, g) else some (b, D.bl y, g)) = some (if p then a else b, D.bl (if p then x else y), g) := by split <;> rfl
/-! values, constructor by constructor -/
def chainV (t : Option Bool) (k : Option (Rk × D)) : Option (Rk × D) := match t with
  | some true => k
  | some false => some (.fr, .bl false)
  | none => none
@[simp] theorem chainV_some (p q : Bool) : chainV (some p) (some (.fr, .bl q)) = some (.fr, .bl (p && q)) := by cases p <;> rfl
@[simp] theorem v_var (k : Nat) (g : Sg) : pv T (.var k) g = match g.sl[k]? with
    | some (some (m, d)) => some (if d.noL || decide (m = .sh) then .sh else .sl k m, d)
    | _ => none := by rw [pv] <;> rfl
@[simp] theorem v_non (g : Sg) : pv T .non g = some (.fr, .non) := by rw [pv] <;> rfl
@[simp] theorem v_bl (b : Bool) (g : Sg) : pv T (.bl b) g = some (.fr, .bl b) := by rw [pv] <;> rfl
@[simp] theorem v_int (i : Int) (g : Sg) : pv T (.int i) g = some (.fr, .int i) := by rw [pv] <;> rfl
@[simp] theorem v_str (s : Str) (g : Sg) : pv T (.str s) g = some (.fr, .str s) := by rw [pv] <;> rfl
@[simp] theorem v_glob (x : Str) (g : Sg) : pv T (.glob x) g = match T.glob x with
    | some d => if d.noL && d.noC then some (.fr, d) else none
    | none => none := by rw [pv] <;> rfl
@[simp] theorem v_bop (op : Bop) (a b : E) (g : Sg) : pv T (.bop op a b) g = match pv T a g, pv T b g with
    | some (_, x), some (_, y) => match rdV g x, rdV g y with
      | some x, some y => (bopD op x y).map (Rk.fr, ·)
      | _, _ => none
    | _, _ => none := by rw [pv] <;> rfl
@[simp] theorem v_neg (a : E) (g : Sg) : pv T (.neg a) g = match pv T a g with
    | some (_, .int i) => some (.fr, .int (-i))
    | _ => none := by rw [pv] <;> rfl
@[simp] theorem v_not (a : E) (g : Sg) : pv T (.not a) g = match pv T a g with
    | some (_, .bl i) => some (.fr, .bl (!i))
    | _ => none := by rw [pv] <;> rfl
@[simp] theorem v_and (a b : E) (g : Sg) : pv T (.and a b) g = match pv T a g with
    | some (_, .bl i) => if i then pv T b g else some (.fr, .bl false)
    | _ => none := by rw [pv] <;> rfl
@[simp] theorem v_or (a b : E) (g : Sg) : pv T (.or a b) g = match pv T a g with
    | some (_, .bl i) => if i then some (.fr, .bl true) else pv T b g
    | _ => none := by rw [pv] <;> rfl
@[simp] theorem v_cmp (op : Cop) (a b : E) (g : Sg) : pv T (.cmp op a b) g = match pv T a g, pv T b g with
    | some (_, x), some (_, y) => if x.noC && y.noC then (cmpD op x y).map fun t => (.fr, .bl t) else none
    | _, _ => none := by rw [pv] <;> rfl
@[simp] theorem v_chain (o1 o2 : Cop) (a b c : E) (g : Sg) : pv T (.chain o1 o2 a b c) g = match pv T a g, pv T b g with
    | some (_, .int i), some (_, .int j) => chainV (cmpD o1 (.int i) (.int j)) (match pv T c g with
        | some (_, .int k) => (cmpD o2 (.int j) (.int k)).map fun t => (.fr, .bl t)
        | _ => none)
    | _, _ => none := by
  rw [pv]
  cases pv T a g with
  | none => rfl
  | some x =>
    obtain ⟨_, x⟩ := x
    cases x with
    | int i =>
      cases pv T b g with
      | none => rfl
      | some y =>
        obtain ⟨_, y⟩ := y
        cases y with
        | int j =>
          dsimp only
          cases cmpD o1 (.int i) (.int j) with
          | none => rfl
          | some t => cases t <;> rfl
        | _ => rfl
    | _ => rfl
@[simp] theorem v_isN (pos : Bool) (a : E) (g : Sg) : pv T (.isN pos a) g = match pv T a g with
    | some (_, d) => some (.fr, .bl (d.isN pos))
    | _ => none := by rw [pv] <;> rfl
@[simp] theorem v_isB (pos b : Bool) (a : E) (g : Sg) : pv T (.isB pos b a) g = match pv T a g with
    | some (_, .bl c) => some (.fr, .bl (if pos then decide (c = b) else !decide (c = b)))
    | _ => none := by rw [pv] <;> rfl
@[simp] theorem v_tup (as : A) (g : Sg) : pv T (.tup as) g = match (pvA T as g).bind forceV with
    | some es => if fits es.length then some (Rk.of (es.all fresh), .tup (es.map (·.2))) else none
    | none => none := by rw [pv] <;> rfl
@[simp] theorem v_lst (as : A) (g : Sg) : pv T (.lst as) g = match (pvA T as g).bind forceV with
    | some es => if fits es.length then some (Rk.of (es.all fresh), .lst (es.map (·.2))) else none
    | none => none := by rw [pv] <;> rfl
@[simp] theorem v_ix (a i : E) (g : Sg) : pv T (.ix a i) g = match pv T a g, pv T i g with
    | some (ka, d), some (_, .int k) => match (rdV g d).bind fun d => d.items.bind fun ds => atI ds k with
      | some v => ka.item v
      | none => none
    | _, _ => ixx a i g := by rw [pv] <;> rfl
@[simp] theorem x_ixx (a i : E) (g : Sg) : ixx a i g = match a with
  | .ix (.var k) e1 => match g.sl[k]?, simD e1 g, simD i g with
    | some (some (m, d0)), some (.int p), some (.int q) => if (e1.simple && i.simple && decide (m ≠ .sh) && !d0.noL) = true then match (seqOf d0).bind fun ds => atI ds p with
        | some v1 => if v1.noL = true then none else match (seqOf v1).bind fun xs => atI xs q with
          | some v => if v.noL = true then some (.fr, v) else none
          | none => none
        | none => none
      else none
    | _, _, _ => none
  | _ => none := id rfl
@[simp] theorem seqOf_lst (ds : List D) : seqOf (.lst ds) = some ds := id rfl
@[simp] theorem seqOf_tup (ds : List D) : seqOf (.tup ds) = some ds := id rfl
@[simp] theorem v_sl (a : E) (lo hi : O) (g : Sg) : pv T (.sl a lo hi) g = match pv T a g, pvO T lo g, pvO T hi g with
    | some (ka, d), some l, some h => match (rdV g d).bind fun d => slD d l h with
      | some x => if x.flatItems then some (.fr, x) else if ka.slot then none else some (.sh, x)
      | none => none
    | _, _, _ => none := by rw [pv] <;> rfl
@[simp] theorem v_call (f : Str) (as : A) (g : Sg) : pv T (.call f as) g = match pvA T as g with
    | some xs => if decide (T.mask f = List.replicate xs.length false) && D.noCL (xs.map (·.2)) then match T.run f (xs.map (·.2)) with
        | some (.ret fl d []) => if d.noC && (fl || d.noL || xs.all (fun x => !x.1.slot)) then some (Rk.of fl, d) else none
        | _ => none
      else none
    | none => none := by rw [pv] <;> rfl
@[simp] theorem v_bcall (b : Bi) (as : A) (g : Sg) : pv T (.bcall b as) g = match pvA T as g with
    | some xs => ((rdL g xs).bind fun ds => bcallD b ds).map (Rk.fr, ·)
    | none => none := by rw [pv] <;> rfl
@[simp] theorem v_lrng1 (a : E) (g : Sg) : pv T (.lrng1 a) g = match pv T a g with
    | some (_, .int n) => if range62 n && decide (n.toNat ≤ 2 ^ 24) then some (.fr, .lst (rngD 0 n)) else none
    | _ => none := by rw [pv] <;> rfl
@[simp] theorem v_lrng2 (a b : E) (g : Sg) : pv T (.lrng2 a b) g = match pv T a g, pv T b g with
    | some (_, .int l), some (_, .int h) => if range62 l && range62 h && decide ((h - l).toNat ≤ 2 ^ 24) then some (.fr, .lst (rngD l h)) else none
    | _, _ => none := by rw [pv] <;> rfl
@[simp] theorem v_isi (a : E) (t : Ty) (g : Sg) : pv T (.isi a t) g = match pv T a g with
    | some (_, d) => (isiD t d).map fun b => (.fr, .bl b)
    | _ => none := by rw [pv] <;> rfl
@[simp] theorem v_meth (m : Me) (o : E) (as : A) (g : Sg) : pv T (.meth m o as) g = match pv T o g, pvA T as g with
    | some (_, d), some xs => if m.fit d then ((rdV g d).bind fun d => (rdL g xs).bind fun ds => methD m d ds).map (Rk.fr, ·) else none
    | _, _ => none := by rw [pv] <;> rfl
@[simp] theorem v_A_nil (g : Sg) : pvA T .nil g = some [] := by rw [pvA] <;> rfl
@[simp] theorem v_A_cons (e : E) (as : A) (g : Sg) : pvA T (.cons e as) g = match pv T e g, pvA T as g with
    | some x, some xs => some (x :: xs)
    | _, _ => none := by rw [pvA] <;> rfl
@[simp] theorem v_O_none (g : Sg) : pvO T .none g = some none := by rw [pvO] <;> rfl
@[simp] theorem v_O_some (e : E) (g : Sg) : pvO T (.some e) g = match pv T e g with
    | some (_, .int i) => some (some i)
    | _ => none := by rw [pvO] <;> rfl
@[simp] theorem v_C_yes (g : Sg) : pvC T .yes g = some true := by rw [pvC] <;> rfl
@[simp] theorem v_C_test (e : E) (g : Sg) : pvC T (.test e) g = match pv T e g with
    | some (_, .bl i) => some i
    | _ => none := by rw [pvC] <;> rfl
@[simp] theorem v_I_seq (e : E) (g : Sg) : pvI T (.seq e) g = match pv T e g with
    | some (k, d) => walkV k d
    | none => none := by rw [pvI] <;> rfl
@[simp] theorem v_I_seqSl (a : E) (lo hi : O) (g : Sg) : pvI T (.seqSl a lo hi) g = match pv T a g, pvO T lo g, pvO T hi g with
    | some (k, d), some l, some h => if d.isLst then (walkV k d).map fun w => (cutD w.1 l h, w.2.1, w.2.2) else
        ((slD d l h).bind D.items).map fun ds => (ds, .sh, none)
    | _, _, _ => none := by rw [pvI] <;> rfl
@[simp] theorem v_I_rng1 (a : E) (g : Sg) : pvI T (.rng1 a) g = match pv T a g with
    | some (_, .int i) => if range62 i then some (rngD 0 i, .sh, none) else none
    | _ => none := by rw [pvI] <;> rfl
@[simp] theorem v_I_rng2 (a b : E) (g : Sg) : pvI T (.rng2 a b) g = match pv T a g, pv T b g with
    | some (_, .int i), some (_, .int j) => if range62 i && range62 j then some (rngD i j, .sh, none) else none
    | _, _ => none := by rw [pvI] <;> rfl
@[simp] theorem v_I_rng3 (a b c : E) (g : Sg) : pvI T (.rng3 a b c) g = match pv T a g, pv T b g, pv T c g with
    | some (_, .int i), some (_, .int j), some (_, .int k) => if rng3Ok i j k then some (rng3D i j k, .sh, none) else none
    | _, _, _ => none := by rw [pvI] <;> rfl
@[simp] theorem v_I_enum (e : E) (g : Sg) : pvI T (.enum e) g = match pv T e g with
    | some (k, .lst ds) => if !k.slot && D.noLL ds then some (enumD 0 ds, .sh, none) else none
    | _ => none := by rw [pvI] <;> rfl
@[simp] theorem v_I_zip (a b : E) (g : Sg) : pvI T (.zip a b) g = match pv T a g, pv T b g with
    | some (k, .lst xs), some (l, .lst ys) => if !k.slot && !l.slot && (D.noLL xs && D.noLL ys) then some (zipD xs ys, .sh, none) else none
    | some (k, .tup xs), some (l, .tup ys) => if !k.slot && !l.slot && (D.noLL xs && D.noLL ys) then some (zipD xs ys, .sh, none) else none
    | _, _ => none := by rw [pvI] <;> rfl
/-! effects, constructor by constructor -/
@[simp] theorem q_bop (op : Bop) (a b : E) (g : Sg) : pe T (.bop op a b) g = if E.pu T (.bop op a b) = true then pvS T (.bop op a b) g else (match pe T a g with
    | some (ra, x, g1) => if ra.slot = true then none else match pe T b g1 with
      | some (_, y, g2) => match rdV g2 x, rdV g2 y with
        | some x, some y => match bopD op x y with
          | some z => some (.fr, z, g2)
          | none => none
        | _, _ => none
      | none => none
    | none => none) := by rw [pe] <;> rfl
@[simp] theorem q_neg (a : E) (g : Sg) : pe T (.neg a) g = if E.pu T (.neg a) = true then pvS T (.neg a) g else (match pe T a g with
    | some (_, .int i, g1) => some (.fr, .int (-i), g1)
    | _ => none) := by rw [pe] <;> rfl
@[simp] theorem q_not (a : E) (g : Sg) : pe T (.not a) g = if E.pu T (.not a) = true then pvS T (.not a) g else (match pe T a g with
    | some (_, .bl i, g1) => some (.fr, .bl (!i), g1)
    | _ => none) := by rw [pe] <;> rfl
@[simp] theorem q_and (a b : E) (g : Sg) : pe T (.and a b) g = if E.pu T (.and a b) = true then pvS T (.and a b) g else (match pe T a g with
    | some (_, .bl i, g1) => if i = true then pe T b g1 else some (.fr, .bl false, g1)
    | _ => none) := by rw [pe] <;> rfl
@[simp] theorem q_or (a b : E) (g : Sg) : pe T (.or a b) g = if E.pu T (.or a b) = true then pvS T (.or a b) g else (match pe T a g with
    | some (_, .bl i, g1) => if i = true then some (.fr, .bl true, g1) else pe T b g1
    | _ => none) := by rw [pe] <;> rfl
@[simp] theorem q_cmp (op : Cop) (a b : E) (g : Sg) : pe T (.cmp op a b) g = if E.pu T (.cmp op a b) = true then pvS T (.cmp op a b) g else (match pe T a g with
    | some (ra, x, g1) => if ra.slot = true then none else match pe T b g1 with
      | some (_, y, g2) => if (x.noC && y.noC) = true then match cmpD op x y with
          | some t => some (.fr, .bl t, g2)
          | none => none
        else none
      | none => none
    | none => none) := by rw [pe] <;> rfl
@[simp] theorem q_tup (as : A) (g : Sg) : pe T (.tup as) g = if E.pu T (.tup as) = true then pvS T (.tup as) g else (match peA T as g with
    | some (xs, g1) => match forceV xs with
      | some es => if fits es.length = true then some (Rk.of (es.all fresh), .tup (es.map (·.2)), g1) else none
      | none => none
    | none => none) := by rw [pe] <;> rfl
@[simp] theorem q_lst (as : A) (g : Sg) : pe T (.lst as) g = if E.pu T (.lst as) = true then pvS T (.lst as) g else (match peA T as g with
    | some (xs, g1) => match forceV xs with
      | some es => if fits es.length = true then some (Rk.of (es.all fresh), .lst (es.map (·.2)), g1) else none
      | none => none
    | none => none) := by rw [pe] <;> rfl
@[simp] theorem q_newc (as : A) (g : Sg) : pe T (.newc as) g = match peA T as g with
    | some (xs, g1) => match forceV xs with
      | some es => if (fits es.length && es.all (fun e => e.2.noL && e.2.noC)) = true then some (.fr, .cell g1.ce.length, ⟨g1.sl, g1.ce ++ [es.map (·.2)]⟩) else none
      | none => none
    | none => none := by rw [pe] <;> rfl
@[simp] theorem q_ix (a i : E) (g : Sg) : pe T (.ix a i) g = if E.pu T (.ix a i) = true then pvS T (.ix a i) g else (match pe T a g with
    | some (ra, x, g1) => if ra.slot = true then none else match pe T i g1 with
      | some (_, .int k, g2) => match (rdV g2 x).bind fun d => d.items.bind fun ds => atI ds k with
        | some v => match ra.item v with
          | some (r, v) => some (r, v, g2)
          | none => none
        | none => none
      | _ => none
    | none => none) := by rw [pe] <;> rfl
@[simp] theorem q_call (f : Str) (as : A) (g : Sg) : pe T (.call f as) g = if E.pu T (.call f as) = true then pvS T (.call f as) g else (match peA T as g with
    | some (xs, g1) => callV T f xs g1
    | none => none) := by rw [pe] <;> rfl
@[simp] theorem q_bcall (b : Bi) (as : A) (g : Sg) : pe T (.bcall b as) g = if E.pu T (.bcall b as) = true then pvS T (.bcall b as) g else (match peA T as g with
    | some (xs, g1) => match (rdL g1 xs).bind fun ds => bcallD b ds with
      | some d => some (.fr, d, g1)
      | none => none
    | none => none) := by rw [pe] <;> rfl
@[simp] theorem q_isi (a : E) (t : Ty) (g : Sg) : pe T (.isi a t) g = if E.pu T (.isi a t) = true then pvS T (.isi a t) g else (match pe T a g with
    | some (_, d, g1) => match isiD t d with
      | some b => some (.fr, .bl b, g1)
      | none => none
    | none => none) := by rw [pe] <;> rfl
@[simp] theorem q_isN (pos : Bool) (a : E) (g : Sg) : pe T (.isN pos a) g = if E.pu T (.isN pos a) = true then pvS T (.isN pos a) g else (match pe T a g with
    | some (_, d, g1) => some (.fr, .bl (d.isN pos), g1)
    | none => none) := by rw [pe] <;> rfl
@[simp] theorem q_mut (m : Mu) (k : Nat) (path as : A) (g : Sg) : pe T (.mut m k path as) g = match peP T path g with
    | some (is, g1) => if chkV k is g1 = true then match g.sl[k]?, g1.sl[k]? with
      | some (some _), some (some (.ow, d)) => match peA T as ⟨g1.sl.set k (some (.lk, d)), g1.ce⟩ with
        | some (xs, g2) => match forceV xs, unlV k g2 with
          | some es, some g3 => mutV m k is es g3
          | _, _ => none
        | none => none
      | _, _ => none
      else none
    | none => none := by rw [pe] <;> rfl
@[simp] theorem q_var (k : Nat) (g : Sg) : pe T (.var k) g = pvS T (.var k) g := pe_pu rfl rfl g
@[simp] theorem q_non  (g : Sg) : pe T (.non) g = pvS T (.non) g := pe_pu rfl rfl g
@[simp] theorem q_bl (b : Bool) (g : Sg) : pe T (.bl b) g = pvS T (.bl b) g := pe_pu rfl rfl g
@[simp] theorem q_int (i : Int) (g : Sg) : pe T (.int i) g = pvS T (.int i) g := pe_pu rfl rfl g
@[simp] theorem q_str (s : Str) (g : Sg) : pe T (.str s) g = pvS T (.str s) g := pe_pu rfl rfl g
@[simp] theorem q_glob (x : Str) (g : Sg) : pe T (.glob x) g = pvS T (.glob x) g := pe_pu rfl rfl g
@[simp] theorem q_chain (o1 o2 : Cop) (a b c : E) (g : Sg) : pe T (.chain o1 o2 a b c) g = if E.pu T (.chain o1 o2 a b c) = true then pvS T (.chain o1 o2 a b c) g else none := by
  rw [pe]
  all_goals (intros; contradiction)
@[simp] theorem q_isB (p b : Bool) (a : E) (g : Sg) : pe T (.isB p b a) g = if E.pu T (.isB p b a) = true then pvS T (.isB p b a) g else none := by
  rw [pe]
  all_goals (intros; contradiction)
@[simp] theorem q_sl (a : E) (lo hi : O) (g : Sg) : pe T (.sl a lo hi) g = if E.pu T (.sl a lo hi) = true then pvS T (.sl a lo hi) g else none := by
  rw [pe]
  all_goals (intros; contradiction)
@[simp] theorem q_lrng1 (a : E) (g : Sg) : pe T (.lrng1 a) g = if E.pu T (.lrng1 a) = true then pvS T (.lrng1 a) g else none := by
  rw [pe]
  all_goals (intros; contradiction)
@[simp] theorem q_lrng2 (a b : E) (g : Sg) : pe T (.lrng2 a b) g = if E.pu T (.lrng2 a b) = true then pvS T (.lrng2 a b) g else none := by
  rw [pe]
  all_goals (intros; contradiction)
@[simp] theorem q_meth (m : Me) (o : E) (as : A) (g : Sg) : pe T (.meth m o as) g = if E.pu T (.meth m o as) = true then pvS T (.meth m o as) g else none := by
  rw [pe]
  all_goals (intros; contradiction)
@[simp] theorem q_A_nil (g : Sg) : peA T .nil g = some ([], g) := by rw [peA] <;> rfl
@[simp] theorem q_A_cons (e : E) (as : A) (g : Sg) : peA T (.cons e as) g = match pe T e g with
    | some (r, d, g1) => match peA T as g1 with
      | some (xs, g2) => match reread r d g2 with
        | some x => some (x :: xs, g2)
        | none => none
      | none => none
    | none => none := by rw [peA] <;> rfl
def rereadO : Rk → Sg → Option (Rk × D)
  | .sl j m, g => match g.sl[j]? with
    | some (some (m', d')) => if (decide (m' = m) && !d'.noL) = true then some (.sl j m, d') else none
    | _ => none
  | _, _ => none
@[simp] theorem reread_eq (r : Rk) (d : D) (g : Sg) : reread r d g = if r.slot = false then some (r, d) else rereadO r g := by
  cases r with
  | fr => rfl
  | sh => rfl
  | sl k m => rfl
@[simp] theorem rereadO_sl (j : Nat) (m : Mo) (g : Sg) : rereadO (.sl j m) g = match g.sl[j]? with
    | some (some (m', d')) => if (decide (m' = m) && !d'.noL) = true then some (.sl j m, d') else none
    | _ => none := id rfl
@[simp] theorem q_P_nil (g : Sg) : peP T .nil g = some ([], g) := by rw [peP] <;> rfl
@[simp] theorem q_P_cons (e : E) (as : A) (g : Sg) : peP T (.cons e as) g = match pe T e g with
    | some (_, .int i, g1) => match as.place2 i g1 with
      | some (.ok is g2) => some (is, g2)
      | _ => none
    | _ => none := by rw [peP] <;> rfl
@[simp] theorem q_owned_nil (g : Sg) : ownedB [] g = true := id rfl
@[simp] theorem q_owned_cons (k : Nat) (ks : List Nat) (g : Sg) : ownedB (k :: ks) g = match g.sl[k]? with
    | some (some (.ow, _)) => ownedB ks g
    | _ => false := by rw [ownedB] <;> rfl
@[simp] theorem q_put_nil (g : Sg) : putV [] [] g = some g := id rfl
@[simp] theorem q_put_cons (k : Nat) (ks : List Nat) (d : D) (ds : List D) (g : Sg) : putV (k :: ks) (d :: ds) g = if k < g.sl.length then putV ks ds ⟨g.sl.set k (some (.ow, d)), g.ce⟩ else none := by rw [putV] <;> rfl
/-! comprehensions -/
noncomputable def compC (T : Tab) (own : List Nat) (G : G) (mo : Mo) (g : Sg) (c : C) (e : E) (ds : List D) : Option (List D) := compV own G mo g (pvC T c) (pv T e) ds
@[simp] theorem v_comp (i : I) (G : G) (c : C) (e : E) (own : List Nat) (g : Sg) : pv T (.comp i G c e own) g = match pvI T i g with
    | some w => if fits w.1.length && G.slots.all (own.contains ·) then
        (compC T own G w.2.1 (lockV w.2.2 g) c e w.1).map fun ds => (.fr, .lst ds)
      else none
    | none => none := by rw [pv]; rfl
@[simp] theorem q_comp (i : I) (G : G) (c : C) (e : E) (own : List Nat) (g : Sg) : pe T (.comp i G c e own) g = match (if E.pu T (.comp i G c e own) = true then pvS T (.comp i G c e own) g else none) with
    | some x => some x
    | none => match peK T i g with
      | some (w, g1) => if (fits w.1.length && G.slots.all (own.contains ·)) = true then match compC T own G w.2.1 (lockV w.2.2 g1) c e w.1 with
          | some ds => some (.fr, .lst ds, g1)
          | none => none
        else none
      | none => none := by rw [pe] <;> rfl
@[simp] theorem isComp_eq (e : E) : e.isComp = match e with
  | .comp _ _ _ _ _ => true
  | _ => false := id rfl
@[simp] theorem isVar_eq (e : E) : e.isVar = match e with
  | .var _ => true
  | _ => false := id rfl
@[simp] theorem still_nil : A.still T .nil = true := id rfl
@[simp] theorem still_cons (e : E) (as : A) : A.still T (.cons e as) = (e.still T && as.still T) := id rfl
@[simp] theorem still_e (e : E) : E.still T e = (e.pu T && !e.isComp) := id rfl
/-- one turn -/
noncomputable def stepC (T : Tab) (own : List Nat) (G : G) (mo : Mo) (g : Sg) (c : C) (e : E) (d : D) : Option (Option D) := match asgG G (mo, d) (wipeS own g) with
  | some (.ok _ g1) => match pvC T c g1 with
    | some b => if b = true then match pv T e g1 with
        | some (k, x) => if (x.noL || k.isFr) = true then some (some x) else none
        | none => none
      else some none
    | none => none
  | _ => none
@[simp] theorem v_stepC (own : List Nat) (G : G) (mo : Mo) (g : Sg) (c : C) (e : E) (d : D) : stepC T own G mo g c e d = match asgG G (mo, d) (wipeS own g) with
  | some (.ok _ g1) => match pvC T c g1 with
    | some b => if b = true then match pv T e g1 with
        | some (k, x) => if (x.noL || k.isFr) = true then some (some x) else none
        | none => none
      else some none
    | none => none
  | _ => none := id rfl
theorem step_eq (own : List Nat) (G : G) (mo : Mo) (g : Sg) (c : C) (e : E) (d : D) : compStep own G mo g (pvC T c) (pv T e) d = stepC T own G mo g c e d := by
  unfold compStep stepC
  cases asgG G (mo, d) (wipeS own g) with
  | none => rfl
  | some r =>
    cases r with
    | exc _ _ => rfl
    | ok _ g1 =>
      dsimp only
      cases pvC T c g1 with
      | none => rfl
      | some b => cases b <;> rfl
def collect {ι : Type} (f : ι → Option (Option D)) : List ι → Option (List D)
  | [] => some []
  | i :: is => match f i with
    | some o => consO o (collect f is)
    | none => none
theorem compV_none {own : List Nat} {G : G} {mo : Mo} {g : Sg} {c : Sg → Option Bool} {e : Sg → Option (Rk × D)} {d : D} {ds : List D} (h : compStep own G mo g c e d = none) : compV own G mo g c e (d :: ds) = none := by
  rw [compV]
  unfold compStep at h
  cases q : asgG G (mo, d) (wipeS own g) with
  | none => rfl
  | some r =>
    cases r with
    | exc _ _ => rfl
    | ok u g1 =>
      rw [q] at h
      dsimp only at h ⊢
      cases q2 : c g1 with
      | none => rfl
      | some b =>
        rw [q2] at h
        cases b with
        | false => cases h
        | true =>
          dsimp only at h ⊢
          cases q3 : e g1 with
          | none => rfl
          | some y =>
            rw [q3] at h
            dsimp only at h ⊢
            split at h
            · cases h
            · rename_i hn
              rw [if_neg hn]
@[simp] theorem v_compC {ι : Type} (own : List Nat) (G : G) (mo : Mo) (g : Sg) (c : C) (e : E) (h : ι → D) (is : List ι) : compC T own G mo g c e (is.map h) = collect (fun i => stepC T own G mo g c e (h i)) is := by
  unfold compC
  induction is with
  | nil => rfl
  | cons i is ih =>
    rw [List.map_cons]
    unfold collect
    cases q : stepC T own G mo g c e (h i) with
    | none =>
      rw [← step_eq] at q
      rw [compV_none q]
    | some o =>
      rw [← step_eq] at q
      rw [compV_step q, ih]
@[simp] theorem collect_ite {ι : Type} (p : ι → Prop) [DecidablePred p] (f : ι → D) (is : List ι) : collect (fun i => if p i then some (some (f i)) else some none) is = some ((is.filter (fun i => decide (p i))).map f) := by
  induction is with
  | nil => rfl
  | cons i is ih =>
    unfold collect
    by_cases h : p i
    · rw [if_pos h, List.filter_cons_of_pos (by simpa using h), List.map_cons, ih]; rfl
    · rw [if_neg h, List.filter_cons_of_neg (by simpa using h), ih]; rfl
@[simp] theorem collect_itn {ι : Type} (p : ι → Prop) [DecidablePred p] (f : ι → D) (is : List ι) : collect (fun i => if p i then some none else some (some (f i))) is = some ((is.filter (fun i => !decide (p i))).map f) := by
  induction is with
  | nil => rfl
  | cons i is ih =>
    unfold collect
    by_cases h : p i
    · rw [if_pos h, List.filter_cons_of_neg (by simpa using h), ih]; rfl
    · rw [if_neg h, List.filter_cons_of_pos (by simpa using h), List.map_cons, ih]; rfl
@[simp] theorem collect_all {ι : Type} (f : ι → D) (is : List ι) : collect (fun i => some (some (f i))) is = some (is.map f) := by
  induction is with
  | nil => rfl
  | cons i is ih =>
    unfold collect
    rw [ih]; rfl
/-- a comprehension by the things walked -/
theorem collect_mem {ι : Type} {s : ι → Option (Option D)} (p : ι → Bool) (f : ι → D) {is : List ι} (h : ∀ i ∈ is, s i = some (if p i = true then some (f i) else none)) : collect s is = some ((is.filter p).map f) := by
  induction is with
  | nil => rfl
  | cons i is ih =>
    unfold collect
    rw [h i List.mem_cons_self, ih fun j hj => h j (List.mem_cons_of_mem _ hj)]
    cases hp : p i with
    | true => rw [List.filter_cons_of_pos hp]; rfl
    | false => rw [List.filter_cons_of_neg (by rw [hp]; decide)]; rfl
/-! walks -/
@[simp] theorem rngD_0 (n : Nat) : rngD 0 (n : Int) = (List.range n).map fun i => D.int (i : Nat) := by
  unfold rngD
  simp
@[simp] theorem rngD_nn (a b : Nat) : rngD (a : Int) (b : Int) = (List.range' a (b - a)).map fun i => D.int (i : Nat) := by
  unfold rngD
  have : ((b : Int) - (a : Int)).toNat = b - a := by omega
  rw [this, List.range'_eq_map_range, List.map_map]
  refine List.map_congr_left fun i _ => ?_
  show D.int _ = D.int _
  congr 1
@[simp] theorem rngD_1n (b : Nat) : rngD 1 (b : Int) = (List.range' 1 (b - 1)).map fun i => D.int (i : Nat) := rngD_nn 1 b
@[simp] theorem rngD_lit (n : Nat) : rngD 0 (no_index (OfNat.ofNat n)) = (List.range n).map fun i => D.int (i : Nat) := rngD_0 n
@[simp] theorem range62_nat (n : Nat) : range62 (n : Int) = decide (n < 4611686018427387904) := by
  unfold range62
  rw [veil_eq]
  by_cases h : n < 4611686018427387904
  · rw [decide_eq_true h, decide_eq_true (by omega)]
  · rw [decide_eq_false h, decide_eq_false (by omega)]
end
theorem fits_of {n : Nat} (h : n ≤ 16777216) : fits n = true := by unfold fits; rw [veil_eq]; exact decide_eq_true h
@[simp] theorem fits_l0 : fits 0 = true := fits_of (by decide)
@[simp] theorem fits_l1 : fits 1 = true := fits_of (by decide)
@[simp] theorem fits_l2 : fits 2 = true := fits_of (by decide)
@[simp] theorem fits_l3 : fits 3 = true := fits_of (by decide)
@[simp] theorem fits_l4 : fits 4 = true := fits_of (by decide)
@[simp] theorem fits_l5 : fits 5 = true := fits_of (by decide)
@[simp] theorem fits_l6 : fits 6 = true := fits_of (by decide)
@[simp] theorem fits_l7 : fits 7 = true := fits_of (by decide)
@[simp] theorem fits_l8 : fits 8 = true := fits_of (by decide)
@[simp] theorem fits_l9 : fits 9 = true := fits_of (by decide)
@[simp] theorem fits_l10 : fits 10 = true := fits_of (by decide)
@[simp] theorem fits_l11 : fits 11 = true := fits_of (by decide)
@[simp] theorem fits_l12 : fits 12 = true := fits_of (by decide)
/-- what a function gives -/
theorem Fn.go {T : Tab} {f : Df} {ds : List D} {R : FR → Prop} (h0 : (decide (ds.length = f.np) && decide (f.mask.length = f.np) && decide (f.np ≤ f.ns) && D.noCL ds) = true) (h : Wb T f.body (start0 f ds) fun c p => match finC p.sl f.mask with
    | some fin => match c with
      | .nx => R (.ret false .non fin)
      | .rt fl d => d.noC = true ∧ R (.ret (fl && !(d.noL && d.noC)) d fin)
    | none => False) : Fn T f ds R := by
  refine Fn.of h0 (h.post fun c p hq => ?_)
  split at hq
  · rename_i fin q
    cases c with
    | nx => exact ⟨fin, q, hq⟩
    | rt fl d => exact ⟨hq.1, fin, q, hq.2⟩
  · exact hq.elim
/-- a block run: assignments, branches, returns; loops stay -/
def wp (T : Tab) (Q : Ctl → Sg → Prop) : Nat → B → Sg → Prop
  | 0, b, g => Wb T b g Q
  | _ + 1, .nil, g => Q .nx g
  | n + 1, .cons (.asg G e) b, g => match pe T e g with
    | some (r, d, g1) => match unpkV G r d g1 with
      | some (f, d', g2) => match asgW G (moB f) d' g2 with
        | some g3 => wp T Q n b g3
        | none => False
      | none => False
    | none => False
  | n + 1, .cons (.cond c b1 b2) b, g => match pe T c g with
    | some (_, .bl t, g1) => (t = true → wp T Q n (b1.app b) g1) ∧ (t = false → wp T Q n (b2.app b) g1)
    | _ => False
  | _ + 1, .cons (.ret e) _, g => match pe T e g with
    | some (r, d, g1) => match moveX r d g1 with
      | some (fl, d', g2) => Q (.rt fl d') g2
      | none => False
    | none => False
  | _ + 1, .cons .retN _, g => Q (.rt true .non) g
  | _ + 1, .cons (.retT as) _, g => match peA T as g with
    | some (xs, g1) => match moveXL xs g1 with
      | some (es, g2) => fits es.length = true ∧ Q (.rt (es.all fresh) (.tup (es.map (·.2)))) g2
      | none => False
    | none => False
  | n + 1, .cons (.expr e) b, g => match pe T e g with
    | some (_, _, g1) => wp T Q n b g1
    | none => False
  | n + 1, .cons .pass b, g => wp T Q n b g
  | n + 1, .cons (.shr k) b, g => match g.sl[k]? with
    | some (some (m, d)) => m ≠ .lk ∧ wp T Q n b ⟨g.sl.set k (some (.sh, d)), g.ce⟩
    | _ => False
  | n + 1, .cons (.par i j as) b, g => match pe T (.tup as) g with
    | some (_, .tup [x, y], g1) => (x.noL = true ∧ y.noL = true ∧ i ≠ j ∧ i < g1.sl.length ∧ j < g1.sl.length) ∧ wp T Q n b ⟨(g1.sl.set i (some (.sh, x))).set j (some (.sh, y)), g1.ce⟩
    | _ => False
  | n + 1, .cons (.setix k i e) b, g => match pe T e g with
    | some (r, d, g1) => match forceX r d g1 with
      | some (f, d', g2) => match g2.sl[k]? with
        | some (some _) => match pe T i g2 with
          | some (_, .int m, g3) => match g3.sl[k]? with
            | some (some (.ow, .lst ds)) => match ixN ds.length m with
              | some j => (f || d'.noL) = true ∧ wp T Q n b ⟨g3.sl.set k (some (.ow, .lst (ds.set j d'))), g3.ce⟩
              | none => False
            | _ => False
          | _ => False
        | _ => False
      | none => False
    | none => False
  | _ + 1, .cons s b, g => Wb T (.cons s b) g Q
section
variable {T : Tab} {Q : Ctl → Sg → Prop} (n : Nat) (b : B) (g : Sg)
@[simp] theorem w_0 : wp T Q 0 b g = Wb T b g Q := by rw [wp] <;> rfl
@[simp] theorem w_nil : wp T Q (n + 1) .nil g = Q .nx g := by rw [wp] <;> rfl
@[simp] theorem w_asg (G : G) (e : E) : wp T Q (n + 1) (.cons (.asg G e) b) g = match pe T e g with
    | some (r, d, g1) => match unpkV G r d g1 with
      | some (f, d', g2) => match asgW G (moB f) d' g2 with
        | some g3 => wp T Q n b g3
        | none => False
      | none => False
    | none => False := by rw [wp] <;> rfl
@[simp] theorem w_cond (c : E) (b1 b2 : B) : wp T Q (n + 1) (.cons (.cond c b1 b2) b) g = match pe T c g with
    | some (_, .bl t, g1) => (t = true → wp T Q n (b1.app b) g1) ∧ (t = false → wp T Q n (b2.app b) g1)
    | _ => False := by rw [wp] <;> rfl
@[simp] theorem w_ret (e : E) : wp T Q (n + 1) (.cons (.ret e) b) g = match pe T e g with
    | some (r, d, g1) => match moveX r d g1 with
      | some (fl, d', g2) => Q (.rt fl d') g2
      | none => False
    | none => False := by rw [wp] <;> rfl
@[simp] theorem w_retN  : wp T Q (n + 1) (.cons (.retN) b) g = Q (.rt true .non) g := by rw [wp] <;> rfl
@[simp] theorem w_retT (as : A) : wp T Q (n + 1) (.cons (.retT as) b) g = match peA T as g with
    | some (xs, g1) => match moveXL xs g1 with
      | some (es, g2) => fits es.length = true ∧ Q (.rt (es.all fresh) (.tup (es.map (·.2)))) g2
      | none => False
    | none => False := by rw [wp] <;> rfl
@[simp] theorem w_expr (e : E) : wp T Q (n + 1) (.cons (.expr e) b) g = match pe T e g with
    | some (_, _, g1) => wp T Q n b g1
    | none => False := by rw [wp] <;> rfl
@[simp] theorem w_shr (k : Nat) : wp T Q (n + 1) (.cons (.shr k) b) g = match g.sl[k]? with
    | some (some (m, d)) => m ≠ .lk ∧ wp T Q n b ⟨g.sl.set k (some (.sh, d)), g.ce⟩
    | _ => False := by rw [wp] <;> rfl
@[simp] theorem w_par (i j : Nat) (as : A) : wp T Q (n + 1) (.cons (.par i j as) b) g = match pe T (.tup as) g with
    | some (_, .tup [x, y], g1) => (x.noL = true ∧ y.noL = true ∧ i ≠ j ∧ i < g1.sl.length ∧ j < g1.sl.length) ∧ wp T Q n b ⟨(g1.sl.set i (some (.sh, x))).set j (some (.sh, y)), g1.ce⟩
    | _ => False := by rw [wp] <;> rfl
@[simp] theorem w_pass  : wp T Q (n + 1) (.cons (.pass) b) g = wp T Q n b g := by rw [wp] <;> rfl
@[simp] theorem w_for (G : G) (i : I) (b1 : B) : wp T Q (n + 1) (.cons (.«for» G i b1) b) g = Wb T (.cons (.for G i b1) b) g Q := by rw [wp] <;> (intros; contradiction)
@[simp] theorem w_while (c : E) (b1 : B) : wp T Q (n + 1) (.cons (.«while» c b1) b) g = Wb T (.cons (.while c b1) b) g Q := by rw [wp] <;> (intros; contradiction)
@[simp] theorem w_raise (c : Str) : wp T Q (n + 1) (.cons (.raise c) b) g = Wb T (.cons (.raise c) b) g Q := by rw [wp] <;> (intros; contradiction)
@[simp] theorem w_tryx (b1 : B) (c : Str) (h : B) : wp T Q (n + 1) (.cons (.tryx b1 c h) b) g = Wb T (.cons (.tryx b1 c h) b) g Q := by rw [wp] <;> (intros; contradiction)
@[simp] theorem w_setix (k : Nat) (i e : E) : wp T Q (n + 1) (.cons (.setix k i e) b) g = match pe T e g with
    | some (r, d, g1) => match forceX r d g1 with
      | some (f, d', g2) => match g2.sl[k]? with
        | some (some _) => match pe T i g2 with
          | some (_, .int m, g3) => match g3.sl[k]? with
            | some (some (.ow, .lst ds)) => match ixN ds.length m with
              | some j => (f || d'.noL) = true ∧ wp T Q n b ⟨g3.sl.set k (some (.ow, .lst (ds.set j d'))), g3.ce⟩
              | none => False
            | _ => False
          | _ => False
        | _ => False
      | none => False
    | none => False := by rw [wp] <;> rfl
end
theorem wp_snd {T : Tab} {Q : Ctl → Sg → Prop} : ∀ (n : Nat) (b : B) (g : Sg), wp T Q n b g → Wb T b g Q
  | 0, b, g, h => h
  | n + 1, .nil, g, h => .nil h
  | n + 1, .cons s b, g, h => by
    cases s with
    | asg G e =>
      refine Wb.asgX ?_
      rw [wp] at h
      split at h
      · rename_i q1
        split at h
        · rename_i q2
          split at h
          · rename_i q3
            try simp only [q1, q2, q3]
            exact wp_snd n _ _ h
          · exact h.elim
        · exact h.elim
      · exact h.elim
    | cond c b1 b2 =>
      refine Wb.condX ?_
      rw [wp] at h
      split at h
      · rename_i q1
        try simp only [q1]
        exact ⟨fun e => wp_snd n _ _ (h.1 e), fun e => wp_snd n _ _ (h.2 e)⟩
      · exact h.elim
    | ret e => exact .retX h
    | retN => exact .retNX h
    | retT as => exact .retTX h
    | expr e =>
      refine Wb.exprX ?_
      rw [wp] at h
      split at h
      · rename_i q1
        try simp only [q1]
        exact wp_snd n _ _ h
      · exact h.elim
    | pass => exact .passX (wp_snd n _ _ h)
    | shr k =>
      rw [wp] at h
      split at h
      · rename_i q1
        exact .shrX q1 h.1 (wp_snd n _ _ h.2)
      · exact h.elim
    | par i j as =>
      refine Wb.parX ?_
      rw [wp] at h
      split at h
      · rename_i q1
        try simp only [q1]
        exact ⟨h.1, wp_snd n _ _ h.2⟩
      · exact h.elim
    | setix k i e =>
      refine Wb.setixX ?_
      rw [wp] at h
      split at h
      · rename_i q1
        split at h
        · rename_i q2
          split at h
          · rename_i q3
            split at h
            · rename_i q4
              split at h
              · rename_i q5
                split at h
                · rename_i q6
                  try simp only [q1, q2, q3, q4, q5, q6]
                  exact ⟨h.1, wp_snd n _ _ h.2⟩
                · exact h.elim
              · exact h.elim
            · exact h.elim
          · exact h.elim
        · exact h.elim
      · exact h.elim
    | «for» _ _ _ => exact h
    | «while» _ _ => exact h
    | raise _ => exact h
    | tryx _ _ _ => exact h
theorem Wb.go {T : Tab} {Q : Ctl → Sg → Prop} {b : B} {g : Sg} (h : wp T Q 60 b g) : Wb T b g Q := wp_snd _ _ _ h
/-- a function run -/
theorem Fn.wp {T : Tab} {f : Df} {ds : List D} {R : FR → Prop} (h0 : (decide (ds.length = f.np) && decide (f.mask.length = f.np) && decide (f.np ≤ f.ns) && D.noCL ds) = true) (h : Om.wp T (fun c p => match finC p.sl f.mask with
    | some fin => match c with
      | .nx => R (.ret false .non fin)
      | .rt fl d => d.noC = true ∧ R (.ret (fl && !(d.noL && d.noC)) d fin)
    | none => False) 60 f.body (start0 f ds)) : Fn T f ds R := Fn.go h0 (.go h)
end Om

/-! Wk12: loops, ready for simp. -/
namespace Om
open PySem PySem.Spec PyProof.Rows L2
section
variable {T : Tab} {b b' : B} {g g1 : Sg} {Q : Ctl → Sg → Prop} {G : G} {I : I} {ι : Type} {is : List ι} {h : ι → D} {mo : Mo} {lk : Option Nat}
/-- a for; the state told by the turns made -/
theorem Wb.forZ (St : List ι → Sg) (hI : peI T I g = some ((is.map h, .sh, none), g1)) (hg : SgR (St []) g1)
    (hs : ∀ pre i suf, is = pre ++ i :: suf → match asgW G .sh (h i) (St pre) with
      | some g2 => wp T (fun c q => match c with
        | .nx => SgR (St (pre ++ [i])) q
        | .rt fl d => Q (.rt fl d) q) 60 b g2
      | none => False)
    (hb : wp T Q 60 b' (St is)) : Wb T (.cons (.for G I b) b') g Q := by
  refine Wb.forY (X := List ι) (fun pre x => x = pre) St [] hI rfl hg ?_ ?_
  · rintro pre i suf x e rfl
    have hs := hs x i suf e
    split at hs
    · rename_i g2 q
      refine ⟨g2, q, (Wb.go hs).post fun c q hq => ?_⟩
      cases c with
      | nx => exact ⟨_, rfl, hq⟩
      | rt fl d => exact ⟨q, rfl, hq⟩
    · exact hs.elim
  · rintro x rfl
    exact ⟨_, rfl, .go hb⟩
/-- a for; R says of the turns made what stands in the state -/
theorem Wb.forX2 {X : Type} (R : List ι → X → Prop) (St : X → Sg) (x0 : X) (hI : peI T I g = some ((is.map h, .sh, none), g1)) (h0 : R [] x0) (hg : SgR (St x0) g1)
    (hs : ∀ pre i suf x, is = pre ++ i :: suf → R pre x → match asgW G .sh (h i) (St x) with
      | some g2 => wp T (fun c q => match c with
        | .nx => ∃ y, R (pre ++ [i]) y ∧ SgR (St y) q
        | .rt fl d => Q (.rt fl d) q) 60 b g2
      | none => False)
    (hb : ∀ x, R is x → wp T Q 60 b' (St x)) : Wb T (.cons (.for G I b) b') g Q := by
  refine Wb.forY R St x0 hI h0 hg ?_ ?_
  · rintro pre i suf x e hx
    have hs := hs pre i suf x e hx
    split at hs
    · rename_i g2 q
      refine ⟨g2, q, (Wb.go hs).post fun c q hq => ?_⟩
      cases c with
      | nx => exact hq
      | rt fl d => exact ⟨q, rfl, hq⟩
    · exact hs.elim
  · intro x hx
    exact ⟨_, rfl, .go (hb x hx)⟩
/-- the same, the turn and the rest not run yet -/
theorem Wb.forX2B {X : Type} (R : List ι → X → Prop) (St : X → Sg) (x0 : X) (hI : peI T I g = some ((is.map h, .sh, none), g1)) (h0 : R [] x0) (hg : SgR (St x0) g1)
    (hs : ∀ pre i suf x, is = pre ++ i :: suf → R pre x → match asgW G .sh (h i) (St x) with
      | some g2 => Wb T b g2 (fun c q => match c with
        | .nx => ∃ y, R (pre ++ [i]) y ∧ SgR (St y) q
        | .rt fl d => Q (.rt fl d) q)
      | none => False)
    (hb : ∀ x, R is x → Wb T b' (St x) Q) : Wb T (.cons (.for G I b) b') g Q := by
  refine Wb.forY R St x0 hI h0 hg ?_ ?_
  · rintro pre i suf x e hx
    have hs := hs pre i suf x e hx
    split at hs
    · rename_i g2 q
      refine ⟨g2, q, hs.post fun c q hq => ?_⟩
      cases c with
      | nx => exact hq
      | rt fl d => exact ⟨q, rfl, hq⟩
    · exact hs.elim
  · intro x hx
    exact ⟨_, rfl, hb x hx⟩
theorem Wb.forZB (St : List ι → Sg) (hI : peI T I g = some ((is.map h, .sh, none), g1)) (hg : SgR (St []) g1)
    (hs : ∀ pre i suf, is = pre ++ i :: suf → match asgW G .sh (h i) (St pre) with
      | some g2 => Wb T b g2 (fun c q => match c with
        | .nx => SgR (St (pre ++ [i])) q
        | .rt fl d => Q (.rt fl d) q)
      | none => False)
    (hb : Wb T b' (St is) Q) : Wb T (.cons (.for G I b) b') g Q := by
  refine Wb.forX2B (X := List ι) (fun pre x => x = pre) St [] hI rfl hg ?_ ?_
  · rintro pre i suf x e rfl
    have hs := hs x i suf e
    split at hs
    · rename_i g2 q
      try simp only [q]
      refine hs.post fun c q hq => ?_
      cases c with
      | nx => exact ⟨_, rfl, hq⟩
      | rt fl d => exact hq
    · exact hs.elim
  · rintro x rfl
    exact hb
/-- a for over a locked slot's things -/
theorem Wb.forL2 {X : Type} (R : List ι → X → Prop) (St : X → Sg) (x0 : X) (hI : peI T I g = some ((is.map h, mo, lk), g1)) (h0 : R [] x0) (hg : SgR (St x0) (lockV lk g1))
    (hs : ∀ pre i suf x, is = pre ++ i :: suf → R pre x → match asgW G mo (h i) (St x) with
      | some g2 => wp T (fun c q => match c with
        | .nx => ∃ y, R (pre ++ [i]) y ∧ SgR (St y) q
        | .rt fl d => match endV lk mo G q with
          | some q' => Q (.rt fl d) q'
          | none => False) 60 b g2
      | none => False)
    (hb : ∀ x, R is x → match endV lk mo G (St x) with
      | some q' => wp T Q 60 b' q'
      | none => False) : Wb T (.cons (.for G I b) b') g Q := by
  refine Wb.forY R St x0 hI h0 hg ?_ ?_
  · rintro pre i suf x e hx
    have hs := hs pre i suf x e hx
    split at hs
    · rename_i g2 q
      refine ⟨g2, q, (Wb.go hs).post fun c q hq => ?_⟩
      cases c with
      | nx => exact hq
      | rt fl d =>
        dsimp only at hq
        split at hq
        · rename_i q' e'
          exact ⟨q', e', hq⟩
        · exact hq.elim
    · exact hs.elim
  · intro x hx
    have hb := hb x hx
    split at hb
    · rename_i q' e'
      exact ⟨q', e', .go hb⟩
    · exact hb.elim
/-- a while by a measure -/
theorem Wb.whileZ {c : E} {X : Type} (Inv : Nat → X → Prop) (St : X → Sg) (m0 : Nat) (x0 : X) (hm : m0 < turns) (h0 : Inv m0 x0) (hg : SgR (St x0) g) (hs : ∀ m x, Inv m x → match pe T c (St x) with
      | some (_, .bl t, g1) => (t = false → wp T Q 60 b' g1) ∧ (t = true → wp T (fun c q => match c with
        | .nx => ∃ m' y, m' < m ∧ Inv m' y ∧ SgR (St y) q
        | .rt fl d => Q (.rt fl d) q) 60 b g1)
      | _ => False) : Wb T (.cons (.while c b) b') g Q := by
  refine Wb.whileY Inv St m0 x0 hm h0 hg fun m x hx => ?_
  have hs := hs m x hx
  split at hs
  · rename_i q
    try simp only [q]
    exact ⟨fun e => .go (hs.1 e), fun e => .go (hs.2 e)⟩
  · exact hs.elim
/-- a comprehension's list is assigned -/
theorem Wb.asgComp {k : Nat} {own : List Nat} {Gc : Om.G} {c : C} {e : E} {X : Type} (R : List ι → List D → X → Prop) (St : X → Sg) (x0 : X) (hI : peI T I g = some ((is.map h, mo, lk), g1)) (hf : is.length ≤ 16777216) (hl0 : ∀ x, (St x).sl.length = (lockV lk g1).sl.length) (h0 : R [] [] x0) (hg : wipeS own (lockV lk g1) = wipeS own (St x0))
    (hs : ∀ pre i suf x ds, is = pre ++ i :: suf → R pre ds x → match asgG Gc (mo, h i) (wipeS own (St x)) with
      | some (.ok _ g1) => match pvC T c g1 with
        | some t => (t = false → ∃ y, R (pre ++ [i]) ds y ∧ wipeS own g1 = wipeS own (St y)) ∧ (t = true → match Om.pe T e g1 with
          | some (r, d, g2) => (d.noL || r.isFr) = true ∧ ∃ y, R (pre ++ [i]) (ds ++ [d]) y ∧ wipeS own g2 = wipeS own (St y)
          | none => False)
        | none => False
      | _ => False)
    (hb : ∀ ds x, R is ds x → match unlO lk ⟨mergeL (lockV lk g1).sl (St x).sl own, (St x).ce⟩ with
      | some g2 => match asgW (.name k) .ow (.lst ds) g2 with
        | some g3 => wp T Q 60 b g3
        | none => False
      | none => False) : Wb T (.cons (.asg (.name k) (.comp I Gc c e own)) b) g Q := by
  refine Wb.asgV (Ev.comp R St x0 hI hf hl0 h0 hg ?_ ?_)
  · intro pre i suf x ds e hx
    have hs := hs pre i suf x ds e hx
    split at hs
    · rename_i u g2 q
      split at hs
      · rename_i t q2
        exact ⟨g2, t, q, q2, hs.1, hs.2⟩
      · exact hs.elim
    · exact hs.elim
  · intro ds x hx
    have hb := hb ds x hx
    split at hb
    · rename_i g2 q
      try simp only [q]
      simp only [unpkV_name, forceX_eq, Rk_slot_fr, if_true, Rk_fl_fr, x_moB_t]
      split at hb
      · rename_i g3 q3
        try simp only [q3]
        exact .go hb
      · exact hb.elim
    · exact hb.elim
/-- a comprehension's list is assigned; the rest not run yet -/
theorem Wb.asgCompB {k : Nat} {own : List Nat} {Gc : Om.G} {c : C} {e : E} {X : Type} (R : List ι → List D → X → Prop) (St : X → Sg) (x0 : X) (hI : peI T I g = some ((is.map h, mo, lk), g1)) (hf : is.length ≤ 16777216) (hl0 : ∀ x, (St x).sl.length = (lockV lk g1).sl.length) (h0 : R [] [] x0) (hg : wipeS own (lockV lk g1) = wipeS own (St x0))
    (hs : ∀ pre i suf x ds, is = pre ++ i :: suf → R pre ds x → match asgG Gc (mo, h i) (wipeS own (St x)) with
      | some (.ok _ g1) => match pvC T c g1 with
        | some t => (t = false → ∃ y, R (pre ++ [i]) ds y ∧ wipeS own g1 = wipeS own (St y)) ∧ (t = true → match Om.pe T e g1 with
          | some (r, d, g2) => (d.noL || r.isFr) = true ∧ ∃ y, R (pre ++ [i]) (ds ++ [d]) y ∧ wipeS own g2 = wipeS own (St y)
          | none => False)
        | none => False
      | _ => False)
    (hb : ∀ ds x, R is ds x → match unlO lk ⟨mergeL (lockV lk g1).sl (St x).sl own, (St x).ce⟩ with
      | some g2 => match asgW (.name k) .ow (.lst ds) g2 with
        | some g3 => Wb T b g3 Q
        | none => False
      | none => False) : Wb T (.cons (.asg (.name k) (.comp I Gc c e own)) b) g Q := by
  refine Wb.asgV (Ev.comp R St x0 hI hf hl0 h0 hg ?_ ?_)
  · intro pre i suf x ds e hx
    have hs := hs pre i suf x ds e hx
    split at hs
    · rename_i u g2 q
      split at hs
      · rename_i t q2
        exact ⟨g2, t, q, q2, hs.1, hs.2⟩
      · exact hs.elim
    · exact hs.elim
  · intro ds x hx
    have hb := hb ds x hx
    split at hb
    · rename_i g2 q
      try simp only [q]
      simp only [unpkV_name, forceX_eq, Rk_slot_fr, if_true, Rk_fl_fr, x_moB_t]
      split at hb
      · rename_i g3 q3
        try simp only [q3]
        exact hb
      · exact hb.elim
    · exact hb.elim
theorem Wb.goN (n : Nat) (h : wp T Q n b g) : Wb T b g Q := wp_snd _ _ _ h
/-- one statement, then the rest -/
theorem Wb.seqX {s : S} {X : Type} (R : X → Prop) (St : X → Sg) (h1 : wp T (fun c q => match c with
      | .nx => ∃ x, R x ∧ SgR (St x) q
      | .rt fl d => Q (.rt fl d) q) 60 (.cons s .nil) g) (h2 : ∀ x, R x → wp T Q 60 b (St x)) : Wb T (.cons s b) g Q := by
  have h := Wb.go h1
  have h3 : Wb T (B.app (.cons s .nil) b) g Q := .app (h.post fun c q hq => by
    cases c with
    | nx =>
      obtain ⟨x, hx, hp⟩ := hq
      exact (Wb.go (h2 x hx)).pre hp
    | rt fl d => exact hq)
  simpa using h3
theorem Fn.wpN (n : Nat) {f : Df} {ds : List D} {R : FR → Prop} (h0 : (decide (ds.length = f.np) && decide (f.mask.length = f.np) && decide (f.np ≤ f.ns) && D.noCL ds) = true) (h : Om.wp T (fun c p => match finC p.sl f.mask with
    | some fin => match c with
      | .nx => R (.ret false .non fin)
      | .rt fl d => d.noC = true ∧ R (.ret (fl && !(d.noL && d.noC)) d fin)
    | none => False) n f.body (start0 f ds)) : Fn T f ds R := Fn.go h0 (.goN n h)
@[simp] theorem unlO_none (g : Sg) : unlO none g = some g := id rfl
@[simp] theorem unlO_some (k : Nat) (g : Sg) : unlO (some k) g = unlV k g := id rfl
end
theorem collect_memA {ι : Type} {s : ι → Option (Option D)} (f : ι → D) {is : List ι} (h : ∀ i ∈ is, s i = some (some (f i))) : collect s is = some (is.map f) := by
  rw [collect_mem (fun _ => true) f fun i hi => by rw [h i hi, if_pos rfl], List.filter_eq_self.mpr fun _ _ => rfl]
@[simp] theorem cutD_from (ds : List D) (t : Nat) : cutD ds (some (t : Int)) none = ds.drop t := by
  unfold cutD
  rw [HT.sIx_nat, HT.sIx_none]
  by_cases h : t ≤ ds.length
  · rw [Nat.min_eq_left h, List.take_of_length_le (by rw [List.length_drop]; exact Nat.le_refl _)]
  · rw [Nat.min_eq_right (by omega), List.drop_of_length_le (Nat.le_refl _), List.drop_of_length_le (by omega), List.take_nil]
@[simp] theorem cutD_to (ds : List D) (t : Nat) : cutD ds none (some (t : Int)) = ds.take t := by
  unfold cutD
  rw [HT.sIx_nat, HT.sIx_none, List.drop_zero, Nat.sub_zero]
  by_cases h : t ≤ ds.length
  · rw [Nat.min_eq_left h]
  · rw [Nat.min_eq_right (by omega), List.take_of_length_le (Nat.le_refl _), List.take_of_length_le (by omega)]
@[simp] theorem cutD_f1 (ds : List D) : cutD ds (some 1) none = ds.drop 1 := cutD_from ds 1
@[simp] theorem cutD_t1 (ds : List D) : cutD ds none (some 1) = ds.take 1 := cutD_to ds 1
@[simp] theorem slD_lst (ds : List D) (a b : Option Int) : slD (.lst ds) a b = some (.lst (cutD ds a b)) := id rfl
@[simp] theorem slD_tup (ds : List D) (a b : Option Int) : slD (.tup ds) a b = if D.noLL ds then some (.tup (cutD ds a b)) else none := id rfl
@[simp] theorem range62_l0 : range62 0 = true := by unfold range62; rw [veil_eq]; exact decide_eq_true (by omega)
@[simp] theorem range62_l1 : range62 1 = true := by unfold range62; rw [veil_eq]; exact decide_eq_true (by omega)
@[simp] theorem range62_l2 : range62 2 = true := by unfold range62; rw [veil_eq]; exact decide_eq_true (by omega)
@[simp] theorem range62_l3 : range62 3 = true := by unfold range62; rw [veil_eq]; exact decide_eq_true (by omega)
@[simp] theorem range62_l4 : range62 4 = true := by unfold range62; rw [veil_eq]; exact decide_eq_true (by omega)
@[simp] theorem range62_l5 : range62 5 = true := by unfold range62; rw [veil_eq]; exact decide_eq_true (by omega)
@[simp] theorem range62_l6 : range62 6 = true := by unfold range62; rw [veil_eq]; exact decide_eq_true (by omega)
@[simp] theorem range62_l7 : range62 7 = true := by unfold range62; rw [veil_eq]; exact decide_eq_true (by omega)
@[simp] theorem range62_l8 : range62 8 = true := by unfold range62; rw [veil_eq]; exact decide_eq_true (by omega)
@[simp] theorem range62_l9 : range62 9 = true := by unfold range62; rw [veil_eq]; exact decide_eq_true (by omega)
@[simp] theorem range62_l10 : range62 10 = true := by unfold range62; rw [veil_eq]; exact decide_eq_true (by omega)
@[simp] theorem range62_l12 : range62 12 = true := by unfold range62; rw [veil_eq]; exact decide_eq_true (by omega)
@[simp] theorem range62_l16 : range62 16 = true := by unfold range62; rw [veil_eq]; exact decide_eq_true (by omega)
@[simp] theorem range62_l32 : range62 32 = true := by unfold range62; rw [veil_eq]; exact decide_eq_true (by omega)
@[simp] theorem range62_l40 : range62 40 = true := by unfold range62; rw [veil_eq]; exact decide_eq_true (by omega)
theorem SgR_split {a b : List Slot} {c d : List (List D)} (h : c = d) (w : SgR ⟨a, []⟩ ⟨b, []⟩) : SgR ⟨a, c⟩ ⟨b, d⟩ := ⟨w.len, w.at_, h⟩
@[simp] theorem noLL_drop_map {ι : Type} (f : ι → D) (l : List ι) (t : Nat) : D.noLL ((l.map f).drop t) = (l.drop t).all fun x => (f x).noL := by rw [← List.map_drop, noLL_map]
@[simp] theorem noLL_take_map {ι : Type} (f : ι → D) (l : List ι) (t : Nat) : D.noLL ((l.map f).take t) = (l.take t).all fun x => (f x).noL := by rw [← List.map_take, noLL_map]
@[simp] theorem noCL_drop_map {ι : Type} (f : ι → D) (l : List ι) (t : Nat) : D.noCL ((l.map f).drop t) = (l.drop t).all fun x => (f x).noC := by rw [← List.map_drop, noCL_map]
@[simp] theorem noCL_take_map {ι : Type} (f : ι → D) (l : List ι) (t : Nat) : D.noCL ((l.map f).take t) = (l.take t).all fun x => (f x).noC := by rw [← List.map_take, noCL_map]
theorem collect_memI {ι : Type} {s : ι → Option (Option D)} (p : ι → Bool) (f : ι → D) {is : List ι} (h : ∀ i ∈ is, s i = if p i = true then some (some (f i)) else some none) : collect s is = some ((is.filter p).map f) :=
  collect_mem p f fun i hi => by rw [h i hi]; split <;> rfl
@[simp] theorem filter_yes {ι : Type} (l : List ι) : l.filter (fun _ => true) = l := List.filter_eq_self.mpr fun _ _ => rfl
end Om

/-! Pa: the program's sets and ties: has, many_in, keeps_bough, keeps. -/
namespace Om.Law
open PySem PySem.Spec PyProof.Rows L2

/-- how many of the kids are there -/
def cnt (kids : List Nat) (s : Nat) : Nat := (kids.filter fun k => s.testBit k).length
abbrev optL (kids : List Nat) : List D := kids.map fun k : Nat => D.int (k : Int)
/-- a tie -/
inductive Tie where
  | bough (up low high : Nat) (kids : List Nat)
  | needs (a b : Nat)
  | bans (a b : Nat)
  | most (top : Int) (pairs : List (Nat × Int))
abbrev pairD (p : Nat × Int) : D := .tup [.int (p.1 : Int), .int p.2]
abbrev boughD (up low high : Nat) (kids : List Nat) : D := .tup [.int (up : Int), .int (low : Int), .int (high : Int), .tup (optL kids)]
abbrev needsD (a b : Nat) : D := .tup [.str "needs", .int (a : Int), .int (b : Int)]
abbrev bansD (a b : Nat) : D := .tup [.str "bans", .int (a : Int), .int (b : Int)]
abbrev mostD (top : Int) (pairs : List (Nat × Int)) : D := .tup [.str "most", .int top, .tup (pairs.map pairD)]
def Tie.d : Tie → D
  | .bough up low high kids => boughD up low high kids
  | .needs a b => needsD a b
  | .bans a b => bansD a b
  | .most top pairs => mostD top pairs
def sumP (s : Nat) (l : List (Nat × Int)) : Int := ((l.filter fun p => s.testBit p.1).map Prod.snd).sum
def Tie.keeps (s : Nat) : Tie → Bool
  | .bough up low high kids => if s.testBit up then decide (low ≤ cnt kids s) && decide (cnt kids s ≤ high) else decide (cnt kids s = 0)
  | .needs a b => !s.testBit a || s.testBit b
  | .bans a b => !s.testBit a || !s.testBit b
  | .most top pairs => decide (sumP s pairs ≤ top)
/-- short lists within -/
def Tie.short : Tie → Prop
  | .bough _ _ _ kids => kids.length ≤ 1000
  | .most _ pairs => pairs.length ≤ 1000
  | _ => True
@[simp] theorem Tie_noL (t : Tie) : t.d.noL = true := by cases t <;> simp [Tie.d]
@[simp] theorem Tie_noC (t : Tie) : t.d.noC = true := by cases t <;> simp [Tie.d]
def chas : Df := ⟨2, 2, [false, false], (.cons (.ret (.cmp .eq (.bop .band (.bop .shr (.var 0) (.var 1)) (.int 1)) (.int 1))) .nil)⟩
def cmany_in : Df := ⟨2, 3, [false, false], (.cons (.ret (.bcall .len (.cons (.comp (.seq (.var 0)) (.name 2) (.test (.call "has" (.cons (.var 1) (.cons (.var 2) .nil)))) (.var 2) [2]) .nil))) .nil)⟩
def ckeeps_bough : Df := ⟨2, 6, [false, false], (.cons (.asg (.tup (.cons (.name 2) (.cons (.name 3) (.cons (.name 4) (.cons (.name 5) .nil))))) (.var 0)) (.cons (.cond (.call "has" (.cons (.var 1) (.cons (.var 2) .nil))) (.cons (.ret (.chain .le .le (.var 3) (.call "many_in" (.cons (.var 5) (.cons (.var 1) .nil))) (.var 4))) .nil) .nil) (.cons (.ret (.cmp .eq (.call "many_in" (.cons (.var 5) (.cons (.var 1) .nil))) (.int 0))) .nil)))⟩
def ckeeps : Df := ⟨2, 7, [false, false], (.cons (.cond (.cmp .eq (.bcall .len (.cons (.var 0) .nil)) (.int 4)) (.cons (.ret (.call "keeps_bough" (.cons (.var 0) (.cons (.var 1) .nil)))) .nil) .nil) (.cons (.asg (.tup (.cons (.name 2) (.cons (.name 3) (.cons (.name 4) .nil)))) (.var 0)) (.cons (.cond (.cmp .eq (.var 2) (.str "most")) (.cons (.ret (.cmp .le (.bcall .sum (.cons (.comp (.seq (.var 4)) (.tup (.cons (.name 5) (.cons (.name 6) .nil))) (.test (.call "has" (.cons (.var 1) (.cons (.var 5) .nil)))) (.var 6) [5, 6]) .nil)) (.var 3))) .nil) .nil) (.cons (.cond (.cmp .eq (.var 2) (.str "needs")) (.cons (.ret (.or (.not (.call "has" (.cons (.var 1) (.cons (.var 3) .nil)))) (.call "has" (.cons (.var 1) (.cons (.var 4) .nil))))) .nil) .nil) (.cons (.ret (.or (.not (.call "has" (.cons (.var 1) (.cons (.var 3) .nil)))) (.not (.call "has" (.cons (.var 1) (.cons (.var 4) .nil)))))) .nil)))))⟩
/-- what a plain function gives -/
def Pl (T : Tab) (f : Str) (ds : List D) (d : D) : Prop := T.run f ds = some (.ret false d [])
structure OkHas (T : Tab) : Prop where
  m : T.mask "has" = [false, false]
  r : ∀ s k : Nat, T.run "has" [.int s, .int k] = some (.ret false (.bl (s.testBit k)) [])
theorem has_fn (T : Tab) (s k : Nat) : Fn T chas [.int s, .int k] (· = .ret false (.bl (s.testBit k)) []) := by
  refine Fn.wp rfl ?_
  simp [chas, bit_int]
structure OkMany (T : Tab) : Prop where
  m : T.mask "many_in" = [false, false]
  r : ∀ (kids : List Nat) (s : Nat), kids.length ≤ 1000 → T.run "many_in" [.tup (optL kids), .int s] = some (.ret false (.int (cnt kids s)) [])
theorem many_fn {T : Tab} (H : OkHas T) (kids : List Nat) (s : Nat) (hk : kids.length ≤ 1000) : Fn T cmany_in [.tup (optL kids), .int s] (· = .ret false (.int (cnt kids s)) []) := by
  refine Fn.wp (by simp [cmany_in]) ?_
  have hf : fits kids.length = true := fits_of (by omega)
  simp [cmany_in, hf, H.m, H.r, cnt]
structure OkKb (T : Tab) : Prop where
  m : T.mask "keeps_bough" = [false, false]
  r : ∀ (up low high : Nat) (kids : List Nat) (s : Nat), kids.length ≤ 1000 → T.run "keeps_bough" [boughD up low high kids, .int s] = some (.ret false (.bl ((Tie.bough up low high kids).keeps s)) [])
theorem kb_fn {T : Tab} (H : OkHas T) (M : OkMany T) (up low high : Nat) (kids : List Nat) (s : Nat) (hk : kids.length ≤ 1000) : Fn T ckeeps_bough [boughD up low high kids, .int s] (· = .ret false (.bl ((Tie.bough up low high kids).keeps s)) []) := by
  refine Fn.wp (by simp [ckeeps_bough]) ?_
  simp [ckeeps_bough, H.m, H.r, M.m, M.r _ _ hk, Tie.keeps]
  exact ⟨fun h => by simp [h], fun h => by simp [h]⟩
structure OkKeeps (T : Tab) : Prop where
  m : T.mask "keeps" = [false, false]
  r : ∀ (t : Tie) (s : Nat), t.short → T.run "keeps" [t.d, .int s] = some (.ret false (.bl (t.keeps s)) [])
theorem keeps_fn {T : Tab} (H : OkHas T) (K : OkKb T) (t : Tie) (s : Nat) (ht : t.short) : Fn T ckeeps [t.d, .int s] (· = .ret false (.bl (t.keeps s)) []) := by
  refine Fn.wp (by simp [ckeeps]) ?_
  cases t with
  | bough up low high kids => simp [ckeeps, Tie.d, K.m, K.r up low high kids s ht]
  | needs a b => simp [ckeeps, Tie.d, H.m, H.r, Tie.keeps]
  | bans a b => simp [ckeeps, Tie.d, H.m, H.r, Tie.keeps]
  | most top pairs =>
    have hf : fits pairs.length = true := fits_of (by have : pairs.length ≤ 1000 := ht; omega)
    simp [ckeeps, Tie.d, H.m, H.r, Tie.keeps, hf, sumP]
    rfl
end Om.Law

/-! Pb: the program's ties at stands. -/
namespace Om.Law
open PySem PySem.Spec PyProof.Rows L2
def cbough_broken : Df := ⟨3, 9, [false, false, false], (.cons (.asg (.tup (.cons (.name 5) (.cons (.name 6) (.cons (.name 7) (.cons (.name 8) .nil))))) (.var 0)) (.cons (.asg (.name 3) (.call "many_in" (.cons (.var 8) (.cons (.var 1) .nil)))) (.cons (.asg (.name 4) (.bop .sub (.bcall .len (.cons (.var 8) .nil)) (.call "many_in" (.cons (.var 8) (.cons (.var 2) .nil))))) (.cons (.cond (.call "has" (.cons (.var 2) (.cons (.var 5) .nil))) (.cons (.ret (.cmp .gt (.var 3) (.int 0))) .nil) .nil) (.cons (.cond (.call "has" (.cons (.var 1) (.cons (.var 5) .nil))) (.cons (.ret (.or (.cmp .gt (.var 3) (.var 7)) (.cmp .lt (.var 4) (.var 6)))) .nil) .nil) (.cons (.ret (.and (.cmp .gt (.var 3) (.int 0)) (.or (.cmp .gt (.var 3) (.var 7)) (.cmp .lt (.var 4) (.var 6))))) .nil))))))⟩
def cbough_kept : Df := ⟨3, 9, [false, false, false], (.cons (.asg (.tup (.cons (.name 5) (.cons (.name 6) (.cons (.name 7) (.cons (.name 8) .nil))))) (.var 0)) (.cons (.asg (.name 3) (.call "many_in" (.cons (.var 8) (.cons (.var 1) .nil)))) (.cons (.asg (.name 4) (.bop .sub (.bcall .len (.cons (.var 8) .nil)) (.call "many_in" (.cons (.var 8) (.cons (.var 2) .nil))))) (.cons (.cond (.call "has" (.cons (.var 2) (.cons (.var 5) .nil))) (.cons (.ret (.cmp .eq (.var 4) (.int 0))) .nil) .nil) (.cons (.cond (.call "has" (.cons (.var 1) (.cons (.var 5) .nil))) (.cons (.ret (.and (.cmp .le (.var 6) (.var 3)) (.cmp .le (.var 4) (.var 7)))) .nil) .nil) (.cons (.ret (.and (.cmp .eq (.var 4) (.int 0)) (.cmp .eq (.var 6) (.int 0)))) .nil))))))⟩
def cleast_sum : Df := ⟨3, 5, [false, false, false], (.cons (.ret (.bcall .sum (.cons (.comp (.seq (.var 0)) (.tup (.cons (.name 3) (.cons (.name 4) .nil))) (.test (.or (.call "has" (.cons (.var 1) (.cons (.var 3) .nil))) (.and (.cmp .lt (.var 4) (.int 0)) (.not (.call "has" (.cons (.var 2) (.cons (.var 3) .nil))))))) (.var 4) [3, 4]) .nil))) .nil)⟩
def cgreatest_sum : Df := ⟨3, 5, [false, false, false], (.cons (.ret (.bcall .sum (.cons (.comp (.seq (.var 0)) (.tup (.cons (.name 3) (.cons (.name 4) .nil))) (.test (.or (.call "has" (.cons (.var 1) (.cons (.var 3) .nil))) (.and (.cmp .gt (.var 4) (.int 0)) (.not (.call "has" (.cons (.var 2) (.cons (.var 3) .nil))))))) (.var 4) [3, 4]) .nil))) .nil)⟩
def csure_broken : Df := ⟨3, 6, [false, false, false], (.cons (.cond (.cmp .eq (.bcall .len (.cons (.var 0) .nil)) (.int 4)) (.cons (.ret (.call "bough_broken" (.cons (.var 0) (.cons (.var 1) (.cons (.var 2) .nil))))) .nil) .nil) (.cons (.asg (.tup (.cons (.name 3) (.cons (.name 4) (.cons (.name 5) .nil)))) (.var 0)) (.cons (.cond (.cmp .eq (.var 3) (.str "most")) (.cons (.ret (.cmp .gt (.call "least_sum" (.cons (.var 5) (.cons (.var 1) (.cons (.var 2) .nil)))) (.var 4))) .nil) .nil) (.cons (.cond (.cmp .eq (.var 3) (.str "needs")) (.cons (.ret (.and (.call "has" (.cons (.var 1) (.cons (.var 4) .nil))) (.call "has" (.cons (.var 2) (.cons (.var 5) .nil))))) .nil) .nil) (.cons (.ret (.and (.call "has" (.cons (.var 1) (.cons (.var 4) .nil))) (.call "has" (.cons (.var 1) (.cons (.var 5) .nil))))) .nil)))))⟩
def csure_kept : Df := ⟨3, 6, [false, false, false], (.cons (.cond (.cmp .eq (.bcall .len (.cons (.var 0) .nil)) (.int 4)) (.cons (.ret (.call "bough_kept" (.cons (.var 0) (.cons (.var 1) (.cons (.var 2) .nil))))) .nil) .nil) (.cons (.asg (.tup (.cons (.name 3) (.cons (.name 4) (.cons (.name 5) .nil)))) (.var 0)) (.cons (.cond (.cmp .eq (.var 3) (.str "most")) (.cons (.ret (.cmp .le (.call "greatest_sum" (.cons (.var 5) (.cons (.var 1) (.cons (.var 2) .nil)))) (.var 4))) .nil) .nil) (.cons (.cond (.cmp .eq (.var 3) (.str "needs")) (.cons (.ret (.or (.call "has" (.cons (.var 2) (.cons (.var 4) .nil))) (.call "has" (.cons (.var 1) (.cons (.var 5) .nil))))) .nil) .nil) (.cons (.ret (.or (.call "has" (.cons (.var 2) (.cons (.var 4) .nil))) (.call "has" (.cons (.var 2) (.cons (.var 5) .nil))))) .nil)))))⟩
def lessP (y n : Nat) (l : List (Nat × Int)) : Int := ((l.filter fun p => y.testBit p.1 || (decide (p.2 < 0) && !n.testBit p.1)).map Prod.snd).sum
def morP (y n : Nat) (l : List (Nat × Int)) : Int := ((l.filter fun p => y.testBit p.1 || (decide (0 < p.2) && !n.testBit p.1)).map Prod.snd).sum
def Tie.broken (y n : Nat) : Tie → Bool
  | .bough up low high kids =>
    let there := cnt kids y
    let may := (kids.length : Int) - cnt kids n
    if n.testBit up then decide (0 < there) else if y.testBit up then decide (high < there) || decide (may < low) else decide (0 < there) && (decide (high < there) || decide (may < low))
  | .needs a b => y.testBit a && n.testBit b
  | .bans a b => y.testBit a && y.testBit b
  | .most top pairs => decide (top < lessP y n pairs)
def Tie.kept (y n : Nat) : Tie → Bool
  | .bough up low high kids =>
    let there := cnt kids y
    let may := (kids.length : Int) - cnt kids n
    if n.testBit up then decide (may = 0) else if y.testBit up then decide (low ≤ there) && decide (may ≤ high) else decide (may = 0) && decide (low = 0)
  | .needs a b => n.testBit a || y.testBit b
  | .bans a b => n.testBit a || n.testBit b
  | .most top pairs => decide (morP y n pairs ≤ top)
structure OkBb (T : Tab) : Prop where
  m : T.mask "bough_broken" = [false, false, false]
  r : ∀ (up low high : Nat) (kids : List Nat) (y n : Nat), kids.length ≤ 1000 → T.run "bough_broken" [boughD up low high kids, .int y, .int n] = some (.ret false (.bl ((Tie.bough up low high kids).broken y n)) [])
structure OkBk (T : Tab) : Prop where
  m : T.mask "bough_kept" = [false, false, false]
  r : ∀ (up low high : Nat) (kids : List Nat) (y n : Nat), kids.length ≤ 1000 → T.run "bough_kept" [boughD up low high kids, .int y, .int n] = some (.ret false (.bl ((Tie.bough up low high kids).kept y n)) [])
theorem bb_fn {T : Tab} (H : OkHas T) (M : OkMany T) (up low high : Nat) (kids : List Nat) (y n : Nat) (hk : kids.length ≤ 1000) : Fn T cbough_broken [boughD up low high kids, .int y, .int n] (· = .ret false (.bl ((Tie.bough up low high kids).broken y n)) []) := by
  refine Fn.wp (by simp [cbough_broken]) ?_
  simp [cbough_broken, H.m, H.r, M.m, M.r _ _ hk, Tie.broken]
  refine ⟨fun h => by simp [h], fun h => ⟨fun h' => ?_, fun h' => ?_⟩⟩
  · simp [h, h']
  · simp [h, h']
theorem bk_fn {T : Tab} (H : OkHas T) (M : OkMany T) (up low high : Nat) (kids : List Nat) (y n : Nat) (hk : kids.length ≤ 1000) : Fn T cbough_kept [boughD up low high kids, .int y, .int n] (· = .ret false (.bl ((Tie.bough up low high kids).kept y n)) []) := by
  refine Fn.wp (by simp [cbough_kept]) ?_
  simp [cbough_kept, H.m, H.r, M.m, M.r _ _ hk, Tie.kept]
  refine ⟨fun h => by simp [h], fun h => ⟨fun h' => ?_, fun h' => ?_⟩⟩
  · simp [h, h']
  · simp [h, h']
structure OkLs (T : Tab) : Prop where
  m : T.mask "least_sum" = [false, false, false]
  r : ∀ (pairs : List (Nat × Int)) (y n : Nat), pairs.length ≤ 1000 → T.run "least_sum" [.tup (pairs.map pairD), .int y, .int n] = some (.ret false (.int (lessP y n pairs)) [])
structure OkGs (T : Tab) : Prop where
  m : T.mask "greatest_sum" = [false, false, false]
  r : ∀ (pairs : List (Nat × Int)) (y n : Nat), pairs.length ≤ 1000 → T.run "greatest_sum" [.tup (pairs.map pairD), .int y, .int n] = some (.ret false (.int (morP y n pairs)) [])
theorem ls_fn {T : Tab} (H : OkHas T) (pairs : List (Nat × Int)) (y n : Nat) (hk : pairs.length ≤ 1000) : Fn T cleast_sum [.tup (pairs.map pairD), .int y, .int n] (· = .ret false (.int (lessP y n pairs)) []) := by
  refine Fn.wp (by simp [cleast_sum]) ?_
  have hf : fits pairs.length = true := fits_of (by omega)
  simp [cleast_sum, H.m, H.r, hf, lessP]
theorem gs_fn {T : Tab} (H : OkHas T) (pairs : List (Nat × Int)) (y n : Nat) (hk : pairs.length ≤ 1000) : Fn T cgreatest_sum [.tup (pairs.map pairD), .int y, .int n] (· = .ret false (.int (morP y n pairs)) []) := by
  refine Fn.wp (by simp [cgreatest_sum]) ?_
  have hf : fits pairs.length = true := fits_of (by omega)
  simp [cgreatest_sum, H.m, H.r, hf, morP]
structure OkSb (T : Tab) : Prop where
  m : T.mask "sure_broken" = [false, false, false]
  r : ∀ (t : Tie) (y n : Nat), t.short → T.run "sure_broken" [t.d, .int y, .int n] = some (.ret false (.bl (t.broken y n)) [])
structure OkSk (T : Tab) : Prop where
  m : T.mask "sure_kept" = [false, false, false]
  r : ∀ (t : Tie) (y n : Nat), t.short → T.run "sure_kept" [t.d, .int y, .int n] = some (.ret false (.bl (t.kept y n)) [])
theorem sb_fn {T : Tab} (H : OkHas T) (B : OkBb T) (L : OkLs T) (t : Tie) (y n : Nat) (ht : t.short) : Fn T csure_broken [t.d, .int y, .int n] (· = .ret false (.bl (t.broken y n)) []) := by
  refine Fn.wp (by simp [csure_broken]) ?_
  cases t with
  | bough up low high kids => simp [csure_broken, Tie.d, B.m, B.r up low high kids _ _ ht]
  | needs a b => simp [csure_broken, Tie.d, H.m, H.r, Tie.broken]
  | bans a b => simp [csure_broken, Tie.d, H.m, H.r, Tie.broken]
  | most top pairs => simp [csure_broken, Tie.d, L.m, L.r pairs _ _ ht, Tie.broken]
theorem sk_fn {T : Tab} (H : OkHas T) (B : OkBk T) (L : OkGs T) (t : Tie) (y n : Nat) (ht : t.short) : Fn T csure_kept [t.d, .int y, .int n] (· = .ret false (.bl (t.kept y n)) []) := by
  refine Fn.wp (by simp [csure_kept]) ?_
  cases t with
  | bough up low high kids => simp [csure_kept, Tie.d, B.m, B.r up low high kids _ _ ht]
  | needs a b => simp [csure_kept, Tie.d, H.m, H.r, Tie.kept]
  | bans a b => simp [csure_kept, Tie.d, H.m, H.r, Tie.kept]
  | most top pairs => simp [csure_kept, Tie.d, L.m, L.r pairs _ _ ht, Tie.kept]
end Om.Law

/-! Wd1: woods, as plain data. -/
namespace Om.Law
open PySem PySem.Spec PyProof.Rows L2

def Tie.isB : Tie → Bool
  | .bough _ _ _ _ => true
  | _ => false
def Tie.kids : Tie → List Nat
  | .bough _ _ _ ks => ks
  | _ => []
def Tie.wf (m : Nat) : Tie → Prop
  | .bough up low high kids => up < m ∧ low ≤ high ∧ 1 ≤ high ∧ high ≤ kids.length ∧ kids.Pairwise (· < ·) ∧ ∀ k ∈ kids, up < k ∧ k < m
  | .needs a b => a < m ∧ b < m ∧ a ≠ b
  | .bans a b => a < m ∧ b < m ∧ a ≠ b
  | .most _ pairs => pairs ≠ [] ∧ (pairs.map Prod.fst).Pairwise (· < ·) ∧ ∀ p ∈ pairs, p.1 < m
structure Wood where
  m : Nat
  bs : List Tie
  cr : List Tie
abbrev Wood.d (W : Wood) : D := .tup [.int (W.m : Int), .tup (W.bs.map Tie.d), .tup (W.cr.map Tie.d)]
def Wood.ties (W : Wood) : List Tie := W.bs ++ W.cr
structure Wood.wf (W : Wood) : Prop where
  m1 : 1 ≤ W.m
  m9 : W.m ≤ 9
  bB : ∀ t ∈ W.bs, t.isB = true ∧ t.wf W.m
  cC : ∀ t ∈ W.cr, t.isB = false ∧ t.wf W.m
  c8 : W.cr.length ≤ 8
  cov : (W.bs.map Tie.kids).flatten.Perm (List.range' 1 (W.m - 1))
theorem inc_len {m : Nat} : ∀ {l : List Nat} {a : Nat}, l.Pairwise (· < ·) → (∀ k ∈ l, a ≤ k ∧ k < m) → l.length ≤ m - a
  | [], a, _, _ => Nat.zero_le _
  | x :: xs, a, h, hk => by
    have hx := hk x List.mem_cons_self
    have h' := List.pairwise_cons.mp h
    have := inc_len (a := x + 1) h'.2 fun k hkx => ⟨h'.1 k hkx, (hk k (List.mem_cons_of_mem _ hkx)).2⟩
    rw [List.length_cons]
    omega
theorem Tie.wf.short {m : Nat} {t : Tie} (h : t.wf m) (hm : m ≤ 1000) : t.short := by
  cases t with
  | bough up low high kids =>
    have := inc_len (a := 0) h.2.2.2.2.1 fun k hk => ⟨Nat.zero_le _, (h.2.2.2.2.2 k hk).2⟩
    show kids.length ≤ 1000
    omega
  | needs _ _ => trivial
  | bans _ _ => trivial
  | most top pairs =>
    have := inc_len (m := m) (a := 0) h.2.1 fun k hk => by
      obtain ⟨p, hp, rfl⟩ := List.mem_map.mp hk
      exact ⟨Nat.zero_le _, h.2.2 p hp⟩
    show pairs.length ≤ 1000
    rw [List.length_map] at this
    omega
theorem Wood.wf.tie {W : Wood} (h : W.wf) {t : Tie} (ht : t ∈ W.ties) : t.wf W.m := by
  rcases List.mem_append.mp ht with ht | ht
  · exact (h.bB t ht).2
  · exact (h.cC t ht).2
theorem Wood.wf.short {W : Wood} (h : W.wf) {t : Tie} (ht : t ∈ W.ties) : t.short := (h.tie ht).short (by have := h.m9; omega)
@[simp] theorem Wood_noL (W : Wood) : W.d.noL = true := by simp [Wood.d]
@[simp] theorem Wood_noC (W : Wood) : W.d.noC = true := by simp [Wood.d]
/-- numbers below -/
theorem imod (z : Int) (m : Nat) (h : 0 < m) : ∃ c : Nat, z % (m : Int) = (c : Int) ∧ c < m := by
  have h1 := Int.emod_nonneg z (b := (m : Int)) (by omega)
  have h2 := Int.emod_lt_of_pos z (b := (m : Int)) (by omega)
  exact ⟨(z % m).toNat, by omega, by omega⟩
theorem powOk_1 {m : Nat} (h : m ≤ 1000) : powOk 1 (m : Int) = true := by
  unfold powOk
  rw [veil_eq]
  exact decide_eq_true ⟨by omega, by omega, by decide⟩
@[simp] theorem powOk_10_50 : powOk 10 50 = true := by
  unfold powOk
  rw [veil_eq]
  exact decide_eq_true ⟨by omega, by omega, by decide⟩
@[simp] theorem powOk_10_9 : powOk 10 9 = true := by
  unfold powOk
  rw [veil_eq]
  exact decide_eq_true ⟨by omega, by omega, by decide⟩
@[simp] theorem powOk_10_57 : powOk 10 57 = true := by
  unfold powOk
  rw [veil_eq]
  exact decide_eq_true ⟨by omega, by omega, by decide⟩
@[simp] theorem powOk_10_6 : powOk 10 6 = true := by
  unfold powOk
  rw [veil_eq]
  exact decide_eq_true ⟨by omega, by omega, by decide⟩
theorem p2_nat (m : Nat) : (2 : Int) ^ m = ((2 ^ m : Nat) : Int) := by push_cast; rfl
end Om.Law

/-! Ga1: the first group's own functions: cells, many. -/
namespace Om.Law
open PySem PySem.Spec PyProof.Rows L2
def c_law_cell_at : Df := ⟨2, 3, [false, false], (.cons (.cond (.cmp .lt (.var 1) (.bcall .len (.cons (.var 0) .nil))) (.cons (.ret (.bop .mod (.ix (.var 0) (.var 1)) (.int 2147483629))) .nil) .nil) (.cons (.asg (.name 2) (.bop .add (.bop .mul (.bop .mul (.var 1) (.var 1)) (.int 48271)) (.int 11))) (.cons (.cond (.cmp .gt (.bcall .len (.cons (.var 0) .nil)) (.int 0)) (.cons (.asg (.name 2) (.bop .add (.var 2) (.bop .mul (.bop .mod (.ix (.var 0) (.bop .mod (.var 1) (.bcall .len (.cons (.var 0) .nil)))) (.int 2147483629)) (.int 69621)))) .nil) .nil) (.cons (.ret (.bop .mod (.bop .mul (.var 2) (.var 2)) (.int 2147483629))) .nil))))⟩
def c_law_many : Df := ⟨1, 2, [false], (.cons (.asg (.name 1) (.call "_law_cell_at" (.cons (.var 0) (.cons (.int 0) .nil)))) (.cons (.cond (.cmp .eq (.bop .mod (.var 1) (.int 8)) (.int 5)) (.cons (.ret (.bop .add (.int 1) (.bop .mod (.bop .fdiv (.var 1) (.int 8)) (.int 9)))) .nil) .nil) (.cons (.ret (.bop .add (.int 1) (.bop .mod (.bop .fdiv (.var 1) (.int 8)) (.int 6)))) .nil)))⟩
def c_law_keeps : Df := ⟨2, 6, [false, false], (.cons (.cond (.cmp .eq (.ix (.var 0) (.int 0)) (.str "needs")) (.cons (.ret (.or (.cmp .eq (.bop .band (.bop .shr (.var 1) (.ix (.var 0) (.int 1))) (.int 1)) (.int 0)) (.cmp .eq (.bop .band (.bop .shr (.var 1) (.ix (.var 0) (.int 2))) (.int 1)) (.int 1)))) .nil) .nil) (.cons (.cond (.cmp .eq (.ix (.var 0) (.int 0)) (.str "bans")) (.cons (.ret (.or (.cmp .eq (.bop .band (.bop .shr (.var 1) (.ix (.var 0) (.int 1))) (.int 1)) (.int 0)) (.cmp .eq (.bop .band (.bop .shr (.var 1) (.ix (.var 0) (.int 2))) (.int 1)) (.int 0)))) .nil) .nil) (.cons (.cond (.cmp .eq (.ix (.var 0) (.int 0)) (.str "most")) (.cons (.asg (.name 4) (.int 0)) (.cons (.for (.tup (.cons (.name 3) (.cons (.name 5) .nil))) (.seq (.ix (.var 0) (.int 2))) (.cons (.asg (.name 4) (.bop .add (.var 4) (.bop .mul (.var 5) (.bop .band (.bop .shr (.var 1) (.var 3)) (.int 1))))) .nil)) (.cons (.ret (.cmp .le (.var 4) (.ix (.var 0) (.int 1)))) .nil))) .nil) (.cons (.asg (.name 2) (.int 0)) (.cons (.for (.name 3) (.seq (.ix (.var 0) (.int 3))) (.cons (.asg (.name 2) (.bop .add (.var 2) (.bop .band (.bop .shr (.var 1) (.var 3)) (.int 1)))) .nil)) (.cons (.cond (.cmp .eq (.bop .band (.bop .shr (.var 1) (.ix (.var 0) (.int 0))) (.int 1)) (.int 1)) (.cons (.ret (.chain .le .le (.ix (.var 0) (.int 1)) (.var 2) (.ix (.var 0) (.int 2)))) .nil) .nil) (.cons (.ret (.cmp .eq (.var 2) (.int 0))) .nil)))))))⟩
theorem mulOk_s {i j : Int} (h : -(2 ^ 64) < i) (h' : i < 2 ^ 64) : mulOk i j = true := by
  unfold mulOk
  rw [veil_eq]
  rw [Bool.or_eq_true, Bool.or_eq_true]
  exact .inl (.inl (decide_eq_true ⟨h, h'⟩))
theorem mulOk_t {i j : Int} (h : -(2 ^ 64) < j) (h' : j < 2 ^ 64) : mulOk i j = true := by
  unfold mulOk
  rw [veil_eq]
  rw [Bool.or_eq_true, Bool.or_eq_true]
  exact .inl (.inr (decide_eq_true ⟨h, h'⟩))
@[simp] theorem mc_48271 (i : Int) : mulOk i 48271 = true := mulOk_t (by decide) (by decide)
@[simp] theorem mc_69621 (i : Int) : mulOk i 69621 = true := mulOk_t (by decide) (by decide)
@[simp] theorem mc_7919 (i : Int) : mulOk i 7919 = true := mulOk_t (by decide) (by decide)
@[simp] theorem mc_40692 (i : Int) : mulOk i 40692 = true := mulOk_t (by decide) (by decide)
@[simp] theorem mc_7 (i : Int) : mulOk i 7 = true := mulOk_t (by decide) (by decide)
@[simp] theorem mc_3 (i : Int) : mulOk i 3 = true := mulOk_t (by decide) (by decide)
@[simp] theorem mc_3' (i : Int) : mulOk 3 i = true := mulOk_s (by decide) (by decide)
@[simp] theorem mc_7919' (i : Int) : mulOk 7919 i = true := mulOk_s (by decide) (by decide)
structure OkCell (T : Tab) : Prop where
  m : T.mask "_law_cell_at" = [false, false]
  r : ∀ (ns : List Int) (k : Int), 0 ≤ k → k ≤ 1000 → ∃ c : Nat, T.run "_law_cell_at" [.scr ns, .int k] = some (.ret false (.int c) [])
@[simp] theorem atI_mod {α : Type} (xs : List α) (k n : Nat) : atI xs ((k : Int) % (n : Int)) = xs[k % n]? := by
  rw [← atI_ofNat]; push_cast; rfl
theorem mod_end (z m : Int) (h : 0 < m) : ∃ c : Nat, z % m = (c : Int) := ⟨(z % m).toNat, by have := Int.emod_nonneg z (b := m) (by omega); omega⟩
theorem cell_fn (T : Tab) (ns : List Int) (k : Int) (h0 : 0 ≤ k) (h1 : k ≤ 1000) : Fn T c_law_cell_at [.scr ns, .int k] (fun r => ∃ c : Nat, r = .ret false (.int c) []) := by
  refine Fn.wp (by simp [c_law_cell_at]) ?_
  obtain ⟨k, rfl⟩ := Int.eq_ofNat_of_zero_le h0
  have m1 : mulOk (k : Int) (k : Int) = true := mulOk_s (by omega) (by omega)
  have b0 : 0 ≤ (k : Int) * k := Int.mul_nonneg (by omega) (by omega)
  have b1 : (k : Int) * k ≤ 1000 * 1000 := Int.mul_le_mul (by omega) (by omega) (by omega) (by omega)
  simp [c_law_cell_at, m1]
  refine ⟨fun h => ?_, fun h => ⟨fun hn => ?_, fun hn => ?_⟩⟩
  · simp [h]
    exact mod_end _ _ (by omega)
  · have hp : 0 < ns.length := hn
    have hm : k % ns.length < ns.length := Nat.mod_lt _ hp
    have z0 : 0 ≤ ns[k % ns.length] % 2147483629 := Int.emod_nonneg _ (by decide)
    have z1 : ns[k % ns.length] % 2147483629 < 2147483629 := Int.emod_lt_of_pos _ (by decide)
    have m4 : mulOk ((k : Int) * k * 48271 + 11 + ns[k % ns.length] % 2147483629 * 69621) ((k : Int) * k * 48271 + 11 + ns[k % ns.length] % 2147483629 * 69621) = true := mulOk_s (by omega) (by omega)
    simp [hp, hm, m4]
    exact mod_end _ _ (by omega)
  · have m4 : mulOk ((k : Int) * k * 48271 + 11) ((k : Int) * k * 48271 + 11) = true := mulOk_s (by omega) (by omega)
    simp [m4]
    exact mod_end _ _ (by omega)
structure OkMany0 (T : Tab) : Prop where
  m : T.mask "_law_many" = [false]
  r : ∀ (ns : List Int), ∃ c : Nat, 1 ≤ c ∧ c ≤ 9 ∧ T.run "_law_many" [.scr ns] = some (.ret false (.int c) [])
theorem many0_fn {T : Tab} (C : OkCell T) (ns : List Int) : Fn T c_law_many [.scr ns] (fun r => ∃ c : Nat, 1 ≤ c ∧ c ≤ 9 ∧ r = .ret false (.int c) []) := by
  refine Fn.wp (by simp [c_law_many]) ?_
  obtain ⟨c, hc⟩ := C.r ns 0 (by omega) (by omega)
  simp [c_law_many, C.m, hc]
  exact ⟨fun _ => ⟨1 + c / 8 % 9, by omega, by omega, by omega⟩, fun _ => ⟨1 + c / 8 % 6, by omega, by omega, by omega⟩⟩
theorem cnt_snoc (l : List Nat) (k s : Nat) : cnt (l ++ [k]) s = cnt l s + if s.testBit k then 1 else 0 := by
  unfold cnt
  rw [List.filter_append, List.length_append]
  cases h : s.testBit k <;> simp [h]
theorem sumP_snoc (s : Nat) (l : List (Nat × Int)) (p : Nat × Int) : sumP s (l ++ [p]) = sumP s l + p.2 * if s.testBit p.1 then 1 else 0 := by
  unfold sumP
  rw [List.filter_append, List.map_append, List.sum_append]
  cases h : s.testBit p.1 <;> simp [h]
@[simp] theorem mulOk_bit (i : Int) (b : Bool) : mulOk i (if b = true then 1 else 0) = true := by cases b <;> exact mulOk_t (by decide) (by decide)
structure OkLKeeps (T : Tab) : Prop where
  m : T.mask "_law_keeps" = [false, false]
  r : ∀ (t : Tie) (s : Nat), t.short → T.run "_law_keeps" [t.d, .int s] = some (.ret false (.bl (t.keeps s)) [])
theorem lkeeps_fn (T : Tab) (t : Tie) (s : Nat) (ht : t.short) : Fn T c_law_keeps [t.d, .int s] (· = .ret false (.bl (t.keeps s)) []) := by
  refine Fn.wp (by simp [c_law_keeps]) ?_
  cases t with
  | needs a b => simp [c_law_keeps, Tie.d, bit_int, Tie.keeps]
  | bans a b => simp [c_law_keeps, Tie.d, bit_int, Tie.keeps]
  | bough up low high kids =>
    simp [c_law_keeps, Tie.d, bit_int, Tie.keeps]
    refine Wb.forZ (is := kids) (h := fun k : Nat => D.int (k : Int)) (fun pre => ⟨[some (.sh, boughD up low high kids), some (.sh, .int s), some (.sh, .int (cnt pre s)), none, none, none], []⟩) (by simp; rfl) (by simp [cnt]) ?_ ?_
    · intro pre k suf _
      simp [bit_int, cnt_snoc]
      split <;> rfl
    · simp [bit_int]
      exact ⟨fun h => by simp [h], fun h => by simp [h]⟩
  | most top pairs =>
    simp [c_law_keeps, Tie.d, bit_int, Tie.keeps]
    refine Wb.forZ (is := pairs) (h := pairD) (fun pre => ⟨[some (.sh, mostD top pairs), some (.sh, .int s), none, none, some (.sh, .int (sumP s pre)), none], []⟩) (by simp; rfl) (by simp [sumP]) ?_ ?_
    · intro pre p suf _
      simp [bit_int, sumP_snoc]
    · simp
end Om.Law

/-! Ga2: the first group's ties. -/
namespace Om.Law
open PySem PySem.Spec PyProof.Rows L2
def c_law_tie : Df := ⟨2, 9, [false, false], (.cons (.asg (.name 2) (.bop .mod (.bop .fdiv (.var 0) (.int 5)) (.var 1))) (.cons (.asg (.name 3) (.bop .mod (.bop .add (.bop .add (.var 2) (.int 1)) (.bop .mod (.bop .fdiv (.var 0) (.int 45)) (.bcall .max (.cons (.int 1) (.cons (.bop .sub (.var 1) (.int 1)) .nil))))) (.var 1))) (.cons (.cond (.and (.cmp .gt (.var 1) (.int 1)) (.cmp .lt (.bop .mod (.var 0) (.int 5)) (.int 3))) (.cons (.retT (.cons (.ix (.lst (.cons (.str "needs") (.cons (.str "bans") (.cons (.str "needs") .nil)))) (.bop .mod (.var 0) (.int 5))) (.cons (.var 2) (.cons (.var 3) .nil)))) .nil) .nil) (.cons (.asg (.name 4) (.bop .mod (.bop .fdiv (.var 0) (.int 405)) (.bop .shl (.int 1) (.var 1)))) (.cons (.cond (.cmp .eq (.var 4) (.int 0)) (.cons (.asg (.name 4) (.bop .shl (.int 1) (.var 2))) .nil) .nil) (.cons (.asg (.name 5) (.lst .nil)) (.cons (.for (.name 6) (.rng1 (.var 1)) (.cons (.cond (.cmp .eq (.bop .band (.bop .shr (.var 4) (.var 6)) (.int 1)) (.int 1)) (.cons (.asg (.name 8) (.bop .sub (.bop .mod (.bop .mod (.bop .mul (.var 0) (.bop .add (.var 6) (.int 3))) (.int 1009)) (.int 9)) (.int 4))) (.cons (.expr (.mut .append 5 .nil (.cons (.tup (.cons (.var 6) (.cons (.ix (.lst (.cons (.var 8) (.cons (.bop .add (.bop .mul (.var 8) (.bop .pow (.int 10) (.int 50))) (.var 6)) .nil))) (.bcall .int (.cons (.cmp .eq (.bop .mod (.bop .fdiv (.var 0) (.int 7)) (.int 6)) (.int 1)) .nil))) .nil))) .nil))) .nil)) .nil) .nil)) (.cons (.asg (.name 7) (.bop .sub (.bop .mod (.bop .fdiv (.var 0) (.int 11)) (.int 9)) (.int 3))) (.cons (.cond (.cmp .eq (.bop .mod (.bop .fdiv (.var 0) (.int 7)) (.int 6)) (.int 1)) (.cons (.asg (.name 7) (.bop .mul (.var 7) (.bop .pow (.int 10) (.int 50)))) .nil) .nil) (.cons (.retT (.cons (.str "most") (.cons (.var 7) (.cons (.bcall .tuple (.cons (.var 5) .nil)) .nil)))) .nil))))))))))⟩
def c_law_cross : Df := ⟨2, 4, [false, false], (.cons (.asg (.name 2) (.ix (.lst (.cons (.int 0) (.cons (.int 1) (.cons (.int 2) (.cons (.int 3) (.cons (.int 4) (.cons (.int 1) (.cons (.int 2) (.cons (.int 8) .nil))))))))) (.bop .mod (.call "_law_cell_at" (.cons (.var 0) (.cons (.int 1) .nil))) (.int 8)))) (.cons (.ret (.comp (.rng1 (.var 2)) (.name 3) .yes (.call "_law_tie" (.cons (.call "_law_cell_at" (.cons (.var 0) (.cons (.bop .add (.int 22) (.var 3)) .nil))) (.cons (.var 1) .nil))) [3])) .nil))⟩
theorem other_ne {one x m : Nat} (h1 : one < m) (hx : x < m - 1) : (one + 1 + x) % m ≠ one := by
  intro h
  by_cases hlt : one + 1 + x < m
  · rw [Nat.mod_eq_of_lt hlt] at h; omega
  · rw [Nat.mod_eq_sub_mod (by omega), Nat.mod_eq_of_lt (by omega)] at h; omega
/-- the pairs by the options of a set -/
def prs (f : Nat → Int) (s : Nat) (l : List Nat) : List (Nat × Int) := (l.filter fun k => s.testBit k).map fun k => (k, f k)
theorem prs_snoc (f : Nat → Int) (s : Nat) (l : List Nat) (k : Nat) : prs f s (l ++ [k]) = prs f s l ++ if s.testBit k then [(k, f k)] else [] := by
  unfold prs
  rw [List.filter_append, List.map_append]
  cases h : s.testBit k <;> simp [h]
theorem prs_wf (f : Nat → Int) {s m : Nat} (h0 : s ≠ 0) (h : s < 2 ^ m) (top : Int) : (Tie.most top (prs f s (List.range m))).wf m := by
  refine ⟨?_, ?_, ?_⟩
  · intro he
    have he : (List.range m).filter (fun k => s.testBit k) = [] := by
      unfold prs at he
      exact List.map_eq_nil_iff.mp he
    obtain ⟨k, hk⟩ := Nat.exists_testBit_of_ne_zero h0
    have hkm : k < m := by
      rcases Nat.lt_or_ge k m with h' | h'
      · exact h'
      · rw [Nat.testBit_lt_two_pow (Nat.lt_of_lt_of_le h (Nat.pow_le_pow_right (by omega) h'))] at hk; cases hk
    have : k ∈ (List.range m).filter (fun k => s.testBit k) := List.mem_filter.mpr ⟨List.mem_range.mpr hkm, hk⟩
    rw [he] at this; cases this
  · unfold prs
    rw [List.map_map]
    have : (Prod.fst ∘ fun k => (k, f k)) = id := rfl
    rw [this, List.map_id]
    exact List.pairwise_lt_range.filter _
  · intro p hp
    unfold prs at hp
    obtain ⟨k, hk, rfl⟩ := List.mem_map.mp hp
    exact List.mem_range.mp (List.mem_filter.mp hk).1
/-- a pair's number -/
def tnum (c k : Nat) : Int := if (c : Int) / 7 % 6 = 1 then ((c : Int) * ((k : Int) + 3) % 1009 % 9 - 4) * 10 ^ 50 + k else (c : Int) * ((k : Int) + 3) % 1009 % 9 - 4
structure OkTie (T : Tab) : Prop where
  m : T.mask "_law_tie" = [false, false]
  r : ∀ (c m : Nat), 1 ≤ m → m ≤ 9 → ∃ t : Tie, t.isB = false ∧ t.wf m ∧ T.run "_law_tie" [.int c, .int m] = some (.ret false t.d [])
theorem tie_fn (T : Tab) (c m : Nat) (h1 : 1 ≤ m) (h9 : m ≤ 9) : Fn T c_law_tie [.int c, .int m] (fun r => ∃ t : Tie, t.isB = false ∧ t.wf m ∧ r = .ret false t.d []) := by
  refine Fn.wpN 3 (by simp [c_law_tie]) ?_
  have hm : 0 < m := h1
  obtain ⟨one, e1, l1⟩ := imod ((c : Int) / 5) m hm
  obtain ⟨oth, e2, l2⟩ := imod ((one : Int) + 1 + (c : Int) / 45 % (if (m : Int) - 1 > 1 then (m : Int) - 1 else 1)) m hm
  have hmx : (0 : Int) < (if (m : Int) - 1 > 1 then (m : Int) - 1 else 1) := by split <;> omega
  simp only [gt_iff_lt] at e2 hmx
  simp [c_law_tie, hm, e1, e2, hmx]
  refine ⟨fun hm1 hc => ?_, fun hnn => ?_⟩
  · have hm1 : 1 < m := by omega
    have hne : one ≠ oth := by
      obtain ⟨x, e3, l3⟩ := imod ((c : Int) / 45) (m - 1) (by omega)
      have e4 : (c : Int) / 45 % (if 1 < (m : Int) - 1 then (m : Int) - 1 else 1) = (x : Int) := by
        rw [← e3]
        congr 1
        split <;> omega
      rw [e4] at e2
      have : (one + 1 + x) % m = oth := by exact_mod_cast e2
      exact fun h => other_ne l1 l3 (this.trans h.symm)
    have hc3 : (c : Int) % 5 = 0 ∨ (c : Int) % 5 = 1 ∨ (c : Int) % 5 = 2 := by omega
    rcases hc3 with h | h | h
    · refine Wb.go ?_
      simp [h]
      exact ⟨.needs one oth, rfl, ⟨l1, l2, hne⟩, rfl⟩
    · refine Wb.go ?_
      simp [h]
      exact ⟨.bans one oth, rfl, ⟨l1, l2, hne⟩, rfl⟩
    · refine Wb.go ?_
      simp [h]
      exact ⟨.needs one oth, rfl, ⟨l1, l2, hne⟩, rfl⟩
  · refine Wb.goN 1 ?_
    obtain ⟨s0, e5, l5⟩ := imod ((c : Int) / 405) (2 ^ m) (Nat.two_pow_pos m)
    have hp : (0 : Int) < 2 ^ m := by rw [p2_nat]; exact_mod_cast Nat.two_pow_pos m
    rw [← p2_nat] at e5
    simp [powOk_1 (show m ≤ 1000 by omega), e5, hp]
    refine Wb.seqX (X := Nat) (fun s => s ≠ 0 ∧ s < 2 ^ m) (fun s => ⟨[some (.sh, .int c), some (.sh, .int m), some (.sh, .int one), some (.sh, .int oth), some (.sh, .int s), none, none, none, none], []⟩) ?_ ?_
    · simp [powOk_1 (show one ≤ 1000 by omega)]
      refine ⟨fun h => ⟨2 ^ one, ⟨by have := Nat.two_pow_pos one; omega, Nat.pow_lt_pow_right (by omega) l1⟩, by push_cast; rfl⟩, fun h => ⟨s0, ⟨h, l5⟩, rfl⟩⟩
    · rintro s ⟨hs0, hs⟩
      simp
      refine Wb.forX2 (is := List.range m) (h := fun i : Nat => D.int (i : Int)) (fun pre x => x = pre) (fun pre => ⟨[some (.sh, .int c), some (.sh, .int m), some (.sh, .int one), some (.sh, .int oth), some (.sh, .int s), some (.ow, .lst ((prs (tnum c) s pre).map pairD)), none, none, none], []⟩) [] (by simp [show m < 4611686018427387904 by omega]; rfl) rfl (by simp [prs]) ?_ ?_
      · rintro pre k suf x hx rfl
        have hk : k < m := List.mem_range.mp (by rw [hx]; simp)
        have hl : x.length ≤ m := by
          have := congrArg List.length hx
          simp at this; omega
        have hl2 : (prs (tnum c) s x).length ≤ m := by
          unfold prs
          rw [List.length_map]
          exact Nat.le_trans (List.length_filter_le _ _) hl
        have m1 : mulOk (c : Int) ((k : Int) + 3) = true := mulOk_t (by omega) (by omega)
        have m2 : ∀ j, mulOk ((c : Int) * ((k : Int) + 3) % 1009 % 9 - 4) j = true := fun j => mulOk_s (by omega) (by omega)
        have hl3 : (prs (tnum c) s x).length < 16777216 := by omega
        by_cases h7 : (c : Int) / 7 % 6 = 1
        · have ht : tnum c k = ((c : Int) * ((k : Int) + 3) % 1009 % 9 - 4) * 10 ^ 50 + k := by unfold tnum; rw [if_pos h7]
          cases hb : s.testBit k <;> simp [bit_int, m1, m2, hl3, prs_snoc, hb, h7, ht]
        · have ht : tnum c k = (c : Int) * ((k : Int) + 3) % 1009 % 9 - 4 := by unfold tnum; rw [if_neg h7]
          cases hb : s.testBit k <;> simp [bit_int, m1, m2, hl3, prs_snoc, hb, h7, ht]
      · rintro x rfl
        have m2 : ∀ j, mulOk ((c : Int) / 11 % 9 - 3) j = true := fun j => mulOk_s (by omega) (by omega)
        simp [m2]
        exact ⟨fun _ => ⟨.most _ _, rfl, prs_wf _ hs0 hs _, rfl⟩, fun _ => ⟨.most _ _, rfl, prs_wf _ hs0 hs _, rfl⟩⟩
end Om.Law

/-! Ga3: the first group's cross ties and boughs. -/
namespace Om.Law
open PySem PySem.Spec PyProof.Rows L2
def c_law_boughs : Df := ⟨2, 12, [false, false], (.cons (.asg (.name 2) (.lst .nil)) (.cons (.for (.name 3) (.rng2 (.int 1) (.var 1)) (.cons (.asg (.name 6) (.call "_law_cell_at" (.cons (.var 0) (.cons (.bop .add (.int 3) (.var 3)) .nil)))) (.cons (.asg (.name 7) (.bop .mod (.var 6) (.var 3))) (.cons (.asg (.name 8) (.comp (.seq (.var 2)) (.name 11) (.test (.cmp .eq (.ix (.var 11) (.int 0)) (.var 7))) (.var 11) [11])) (.cons (.cond (.and (.cmp .gt (.bcall .len (.cons (.var 8) .nil)) (.int 0)) (.cmp .gt (.bop .mod (.bop .fdiv (.var 6) (.int 9)) (.int 3)) (.int 0))) (.cons (.expr (.mut .append 8 (.cons (.bop .mod (.bop .fdiv (.var 6) (.int 27)) (.bcall .len (.cons (.var 8) .nil))) (.cons (.int 1) .nil)) (.cons (.var 3) .nil))) .nil) (.cons (.expr (.mut .append 2 .nil (.cons (.tup (.cons (.var 7) (.cons (.newc (.cons (.var 3) .nil)) .nil))) .nil))) .nil)) .nil))))) (.cons (.asg (.name 4) (.bop .mod (.call "_law_cell_at" (.cons (.var 0) (.cons (.int 2) .nil))) (.bop .add (.bcall .len (.cons (.var 2) .nil)) (.int 1)))) (.cons (.asg (.name 5) (.lst .nil)) (.cons (.for (.tup (.cons (.name 7) (.cons (.name 9) .nil))) (.seq (.bop .add (.sl (.var 2) (.some (.var 4)) .none) (.sl (.var 2) .none (.some (.var 4))))) (.cons (.asg (.name 6) (.call "_law_cell_at" (.cons (.var 0) (.cons (.bop .add (.int 12) (.ix (.var 9) (.int 0))) .nil)))) (.cons (.asg (.name 10) (.bop .add (.int 1) (.bop .mod (.var 6) (.bcall .len (.cons (.var 9) .nil))))) (.cons (.cond (.cmp .eq (.bop .mod (.bop .fdiv (.var 6) (.int 9)) (.int 3)) (.int 0)) (.cons (.asg (.name 10) (.bcall .len (.cons (.var 9) .nil))) .nil) .nil) (.cons (.expr (.mut .append 5 .nil (.cons (.tup (.cons (.var 7) (.cons (.bop .mod (.bop .fdiv (.var 6) (.int 27)) (.bop .add (.var 10) (.int 1))) (.cons (.var 10) (.cons (.bcall .tuple (.cons (.var 9) .nil)) .nil))))) .nil))) .nil))))) (.cons (.ret (.var 5)) .nil))))))⟩
structure OkCross (T : Tab) : Prop where
  m : T.mask "_law_cross" = [false, false]
  r : ∀ (ns : List Int) (m : Nat), 1 ≤ m → m ≤ 9 → ∃ ts : List Tie, (∀ t ∈ ts, t.isB = false ∧ t.wf m) ∧ ts.length ≤ 8 ∧ T.run "_law_cross" [.scr ns, .int m] = some (.ret true (.lst (ts.map Tie.d)) [])
theorem cross_fn {T : Tab} (C : OkCell T) (L : OkTie T) (ns : List Int) (m : Nat) (h1 : 1 ≤ m) (h9 : m ≤ 9) : Fn T c_law_cross [.scr ns, .int m] (fun r => ∃ ts : List Tie, (∀ t ∈ ts, t.isB = false ∧ t.wf m) ∧ ts.length ≤ 8 ∧ r = .ret true (.lst (ts.map Tie.d)) []) := by
  obtain ⟨c, hc⟩ := C.r ns 1 (by omega) (by omega)
  obtain ⟨tf, htf⟩ := Classical.axiomOfChoice (fun k : Nat => (show ∃ t : Tie, k ≤ 900 → t.isB = false ∧ t.wf m ∧ ∃ c : Nat, T.run "_law_cell_at" [.scr ns, .int (22 + (k : Int))] = some (.ret false (.int c) []) ∧ T.run "_law_tie" [.int c, .int m] = some (.ret false t.d []) from by
    by_cases hk : k ≤ 900
    · obtain ⟨c, hc⟩ := C.r ns (22 + (k : Int)) (by omega) (by omega)
      obtain ⟨t, h1, h2, h3⟩ := L.r c m h1 h9
      exact ⟨t, fun _ => ⟨h1, h2, c, hc, h3⟩⟩
    · exact ⟨.needs 0 0, fun h => absurd h hk⟩))
  refine Fn.wpN 1 (by simp [c_law_cross]) ?_
  obtain ⟨n, hn8, hn⟩ : ∃ n : Nat, n ≤ 8 ∧ atI [D.int 0, .int 1, .int 2, .int 3, .int 4, .int 1, .int 2, .int 8] ((c : Int) % 8) = some (.int n) := by
    have : (c : Int) % 8 = 0 ∨ (c : Int) % 8 = 1 ∨ (c : Int) % 8 = 2 ∨ (c : Int) % 8 = 3 ∨ (c : Int) % 8 = 4 ∨ (c : Int) % 8 = 5 ∨ (c : Int) % 8 = 6 ∨ (c : Int) % 8 = 7 := by omega
    rcases this with h | h | h | h | h | h | h | h <;> rw [h]
    · exact ⟨0, by omega, rfl⟩
    · exact ⟨1, by omega, rfl⟩
    · exact ⟨2, by omega, rfl⟩
    · exact ⟨3, by omega, rfl⟩
    · exact ⟨4, by omega, rfl⟩
    · exact ⟨1, by omega, rfl⟩
    · exact ⟨2, by omega, rfl⟩
    · exact ⟨8, by omega, rfl⟩
  simp [c_law_cross, C.m, hc, hn]
  have hf : fits n = true := fits_of (by omega)
  refine Wb.go ?_
  simp [C.m, L.m, hf, show n < 4611686018427387904 by omega]
  rw [collect_memA (fun i => (tf i).d) (fun i hi => by
    obtain ⟨h1, h2, c, h3, h4⟩ := htf i (by have := List.mem_range.mp hi; omega)
    simp [h3, h4, L.m])]
  simp
  refine ⟨(List.range n).map tf, ?_, by simp; omega, by simp⟩
  intro t ht
  obtain ⟨i, hi, rfl⟩ := List.mem_map.mp ht
  have := htf i (by have := List.mem_range.mp hi; omega)
  exact ⟨this.1, this.2.1⟩
/-- groups of kids: an up, its kids in one bough -/
structure GI (k : Nat) (gs : List (Nat × List Nat)) : Prop where
  ne : ∀ g ∈ gs, g.2 ≠ []
  inc : ∀ g ∈ gs, g.2.Pairwise (· < ·)
  bd : ∀ g ∈ gs, ∀ x ∈ g.2, g.1 < x ∧ x < k
  cov : (gs.map Prod.snd).flatten.Perm (List.range' 1 (k - 1))
theorem GI.new {k up : Nat} {gs : List (Nat × List Nat)} (h : GI k gs) (hk : 1 ≤ k) (hu : up < k) : GI (k + 1) (gs ++ [(up, [k])]) := by
  refine ⟨?_, ?_, ?_, ?_⟩
  · intro g hg
    rcases List.mem_append.mp hg with hg | hg
    · exact h.ne g hg
    · cases List.mem_singleton.mp hg; exact List.cons_ne_nil _ _
  · intro g hg
    rcases List.mem_append.mp hg with hg | hg
    · exact h.inc g hg
    · cases List.mem_singleton.mp hg; exact List.pairwise_singleton _ _
  · intro g hg x hx
    rcases List.mem_append.mp hg with hg | hg
    · have := h.bd g hg x hx; omega
    · cases List.mem_singleton.mp hg
      cases List.mem_singleton.mp hx
      exact ⟨hu, by omega⟩
  · rw [List.map_append, List.flatten_append, show k + 1 - 1 = (k - 1) + 1 by omega, List.range'_concat]
    refine h.cov.append ?_
    simp
    omega
theorem GI.add {k up i : Nat} {ks : List Nat} {gs : List (Nat × List Nat)} (h : GI k gs) (hk : 1 ≤ k) (hi : gs[i]? = some (up, ks)) : GI (k + 1) (gs.set i (up, ks ++ [k])) := by
  have hil : i < gs.length := (List.getElem?_eq_some_iff.mp hi).1
  have hm : (up, ks) ∈ gs := List.mem_of_getElem? hi
  have mem : ∀ g ∈ gs.set i (up, ks ++ [k]), g ∈ gs ∨ g = (up, ks ++ [k]) := fun g hg => List.mem_or_eq_of_mem_set hg
  refine ⟨?_, ?_, ?_, ?_⟩
  · intro g hg
    rcases mem g hg with hg | rfl
    · exact h.ne g hg
    · simp
  · intro g hg
    rcases mem g hg with hg | rfl
    · exact h.inc g hg
    · rw [List.pairwise_append]
      refine ⟨h.inc _ hm, List.pairwise_singleton _ _, ?_⟩
      intro a ha b hb
      cases List.mem_singleton.mp hb
      exact (h.bd _ hm a ha).2
  · intro g hg x hx
    rcases mem g hg with hg | rfl
    · have := h.bd g hg x hx; omega
    · rcases List.mem_append.mp hx with hx | hx
      · have := h.bd _ hm x hx
        exact ⟨this.1, by omega⟩
      · cases List.mem_singleton.mp hx
        have hne := h.ne _ hm
        obtain ⟨y, hy⟩ := List.exists_mem_of_ne_nil _ hne
        have := h.bd _ hm y hy
        dsimp only
        omega
  · have e : gs = gs.take i ++ (up, ks) :: gs.drop (i + 1) := by
      have h1 := List.getElem?_eq_some_iff.mp hi
      rw [← h1.2, List.getElem_cons_drop, List.take_append_drop]
    have e2 : gs.set i (up, ks ++ [k]) = gs.take i ++ (up, ks ++ [k]) :: gs.drop (i + 1) := by
      rw [List.set_eq_take_append_cons_drop, if_pos hil]
    have c := h.cov
    rw [e] at c
    rw [e2, show k + 1 - 1 = (k - 1) + 1 by omega, List.range'_concat]
    simp only [List.map_append, List.map_cons, List.flatten_append, List.flatten_cons] at c ⊢
    have p1 : ((gs.take i).map Prod.snd).flatten ++ (ks ++ [k] ++ ((gs.drop (i + 1)).map Prod.snd).flatten) |>.Perm ((((gs.take i).map Prod.snd).flatten ++ (ks ++ ((gs.drop (i + 1)).map Prod.snd).flatten)) ++ [k]) := by
      simp only [List.append_assoc]
      refine List.Perm.append_left _ (List.Perm.append_left _ ?_)
      exact List.perm_append_comm
    refine p1.trans (c.append ?_)
    simp
    omega
abbrev gD (p : (Nat × List Nat) × Nat) : D := .tup [.int (p.1.1 : Int), .cell p.2]
abbrev gCe (gs : List (Nat × List Nat)) : List (List D) := gs.map fun g => optL g.2
theorem range'_at {a n : Nat} {pre suf : List Nat} {i : Nat} (h : List.range' a n = pre ++ i :: suf) : i = a + pre.length ∧ pre.length < n := by
  have hl : pre.length < n := by
    have := congrArg List.length h
    simp at this; omega
  have h1 : (List.range' a n)[pre.length]? = some i := by rw [h]; simp
  rw [List.getElem?_range' (by omega)] at h1
  cases h1
  exact ⟨by omega, hl⟩
theorem range_at {n : Nat} {pre suf : List Nat} {i : Nat} (h : List.range n = pre ++ i :: suf) : i = pre.length ∧ i < n := by
  rw [List.range_eq_range'] at h
  obtain ⟨h1, h2⟩ := range'_at h
  exact ⟨by omega, by omega⟩
theorem gD_map (gs : List (Nat × List Nat)) : gs.zipIdx.map gD = (gs.map Prod.fst).zipIdx.map fun p : Nat × Nat => D.tup [.int (p.1 : Int), .cell p.2] := by
  rw [List.zipIdx_map, List.map_map]
  rfl
theorem gD_set {gs : List (Nat × List Nat)} {i u : Nat} {ks ks' : List Nat} (h : gs[i]? = some (u, ks)) : (gs.set i (u, ks')).zipIdx.map gD = gs.zipIdx.map gD := by
  rw [gD_map, gD_map, List.map_set]
  have : (gs.map Prod.fst).set i u = gs.map Prod.fst := by
    refine List.ext_getElem? fun j => ?_
    rw [List.getElem?_set]
    split
    · rename_i e
      subst e
      rw [List.length_map, if_pos (List.getElem?_eq_some_iff.mp h).1, List.getElem?_map, h]; rfl
    · rfl
  rw [this]
structure OkBoughs (T : Tab) : Prop where
  m : T.mask "_law_boughs" = [false, false]
  r : ∀ (ns : List Int) (m : Nat), 1 ≤ m → m ≤ 9 → ∃ bs : List Tie, (∀ t ∈ bs, t.isB = true ∧ t.wf m) ∧ (bs.map Tie.kids).flatten.Perm (List.range' 1 (m - 1)) ∧ bs.length ≤ 9 ∧ T.run "_law_boughs" [.scr ns, .int m] = some (.ret true (.lst (bs.map Tie.d)) [])
theorem boughs_fn {T : Tab} (C : OkCell T) (ns : List Int) (m : Nat) (h1 : 1 ≤ m) (h9 : m ≤ 9) : Fn T c_law_boughs [.scr ns, .int m] (fun r => ∃ bs : List Tie, (∀ t ∈ bs, t.isB = true ∧ t.wf m) ∧ (bs.map Tie.kids).flatten.Perm (List.range' 1 (m - 1)) ∧ bs.length ≤ 9 ∧ r = .ret true (.lst (bs.map Tie.d)) []) := by
  refine Fn.wp (by simp [c_law_boughs]) ?_
  simp [c_law_boughs]
  refine Wb.forX2 (is := List.range' 1 (m - 1)) (h := fun i : Nat => D.int (i : Int)) (fun pre gs => GI (1 + pre.length) gs ∧ gs.length ≤ pre.length) (fun gs => ⟨[some (.sh, .scr ns), some (.sh, .int m), some (.ow, .lst (gs.zipIdx.map gD)), none, none, none, none, none, none, none, none, none], gCe gs⟩) [] (by simp [show m < 4611686018427387904 by omega]; rfl) (by simp; exact ⟨by simp, by simp, by simp, by simp⟩) (by simp) ?_ ?_
  · rintro pre k suf gs hx ⟨hg, hgl⟩
    obtain ⟨hk, hkm⟩ := range'_at hx
    rw [← hk] at hg
    have hk1 : 0 < k := by omega
    have hkm : k < m := by omega
    obtain ⟨c, hc⟩ := C.r ns (3 + (k : Int)) (by omega) (by omega)
    obtain ⟨up, eu, lu⟩ := imod (c : Int) k hk1
    have hf : fits gs.length = true := fits_of (by omega)
    simp [C.m, hc, hk1, eu, hf]
    generalize hF : List.filter (fun i : (Nat × List Nat) × Nat => decide ((i.1.1 : Int) = (up : Int))) gs.zipIdx = F
    refine ⟨fun x x1 x2 hm hx' hc9 => ?_, fun _ => ?_⟩
    · have hFl : 0 < F.length := by
        rw [← hF]
        exact List.length_pos_of_mem (List.mem_filter.mpr ⟨hm, by simpa using hx'⟩)
      obtain ⟨j, ej, lj⟩ := imod ((c : Int) / 27) F.length hFl
      obtain ⟨⟨⟨u, ks⟩, idx⟩, hFj⟩ : ∃ p, F[j]? = some p := ⟨F[j], List.getElem?_eq_getElem lj⟩
      have hgm : ((u, ks), idx) ∈ gs.zipIdx := by
        have := List.mem_of_getElem? hFj
        rw [← hF] at this
        exact (List.mem_filter.mp this).1
      have hgi : gs[idx]? = some (u, ks) := by simpa using List.mem_zipIdx_iff_getElem?.mp hgm
      have hil : idx < gs.length := (List.getElem?_eq_some_iff.mp hgi).1
      simp [hFl, ej, hFj, hgi]
      have hkl : ks.length < 16777216 := by
        have := inc_len (m := k) (a := 0) (hg.inc _ (List.mem_of_getElem? hgi)) fun y hy => ⟨Nat.zero_le _, (hg.bd _ (List.mem_of_getElem? hgi) y hy).2⟩
        dsimp only at this
        omega
      simp [hkl]
      refine ⟨gs.set idx (u, ks ++ [k]), ⟨?_, by rw [List.length_set]; omega⟩, ?_⟩
      · rw [show 1 + (pre.length + 1) = k + 1 by omega]
        exact hg.add hk1 hgi
      · rw [gD_set hgi]
        refine SgR_split ?_ (by simp)
        show (gs.set idx (u, ks ++ [k])).map (fun g => optL g.2) = _
        rw [List.map_set]
        simp
    · have hgl2 : gs.length < 16777216 := by omega
      simp [hgl2]
      refine ⟨gs ++ [(up, [k])], ⟨?_, by simp; omega⟩, ?_⟩
      · rw [show 1 + (pre.length + 1) = k + 1 by omega]
        exact hg.new hk1 lu
      · refine SgR_split (by simp) ?_
        simp [List.zipIdx_append]
  · rintro gs ⟨hg, hgl⟩
    rw [List.length_range', show 1 + (m - 1) = m by omega] at hg
    rw [List.length_range'] at hgl
    obtain ⟨c, hc⟩ := C.r ns 2 (by omega) (by omega)
    obtain ⟨t, et, lt⟩ := imod (c : Int) (gs.length + 1) (by omega)
    have et : (c : Int) % ((gs.length : Int) + 1) = (t : Int) := by exact_mod_cast et
    have hgp : (0 : Int) < (gs.length : Int) + 1 := by omega
    simp [C.m, hc, et, hgp]
    have hfs : fits (gs.length - t + min t gs.length) = true := fits_of (by omega)
    refine Wb.forX2 (is := gs.zipIdx.drop t ++ gs.zipIdx.take t) (h := gD) (fun pre bs => bs.length = pre.length ∧ (∀ b ∈ bs, b.isB = true ∧ b.wf m) ∧ bs.map Tie.kids = pre.map fun p => p.1.2) (fun bs : List Tie => ⟨[some (.sh, .scr ns), some (.sh, .int m), some (.ow, .lst (gs.zipIdx.map gD)), none, some (.sh, .int t), some (.ow, .lst (bs.map Tie.d)), none, none, none, none, none, none], gCe gs⟩) [] (by simp [hfs]; rfl) (by simp) (by simp) ?_ ?_
    · rintro pre ⟨⟨u, ks⟩, idx⟩ suf bs hx ⟨hl, hb, hk⟩
      have hgm : ((u, ks), idx) ∈ gs.zipIdx := by
        have : ((u, ks), idx) ∈ gs.zipIdx.drop t ++ gs.zipIdx.take t := by rw [hx]; simp
        rcases List.mem_append.mp this with h | h
        · exact List.mem_of_mem_drop h
        · exact List.mem_of_mem_take h
      have hgi : gs[idx]? = some (u, ks) := by simpa using List.mem_zipIdx_iff_getElem?.mp hgm
      have hmem := List.mem_of_getElem? hgi
      have hil : idx < gs.length := (List.getElem?_eq_some_iff.mp hgi).1
      have hpl : pre.length ≤ gs.length := by
        have := congrArg List.length hx
        simp at this; omega
      have hne := hg.ne _ hmem
      cases ks with
      | nil => exact absurd rfl hne
      | cons a rest =>
        have hbd := hg.bd _ hmem
        have hinc := hg.inc _ hmem
        dsimp only at hbd hinc
        have ha := hbd a List.mem_cons_self
        have hkl := inc_len (m := m) (a := 0) hinc fun y hy => ⟨Nat.zero_le _, (hbd y hy).2⟩
        have hkl : rest.length + 1 ≤ m := by simpa using hkl
        obtain ⟨c2, hc2⟩ := C.r ns (12 + (a : Int)) (by omega) (by omega)
        obtain ⟨hi, ehi, lhi⟩ := imod (c2 : Int) (rest.length + 1) (by omega)
        have ehi : (c2 : Int) % ((rest.length : Int) + 1) = (hi : Int) := by exact_mod_cast ehi
        have hrp : (0 : Int) < (rest.length : Int) + 1 := by omega
        have hbl : bs.length < 16777216 := by omega
        have key : ∀ high : Nat, 1 ≤ high → high ≤ rest.length + 1 → ∃ low : Nat, (c2 : Int) / 27 % ((high : Int) + 1) = (low : Int) ∧ (Tie.bough u low high (a :: rest)).wf m := fun high h1 h2 => by
          obtain ⟨low, e, l⟩ := imod ((c2 : Int) / 27) (high + 1) (by omega)
          exact ⟨low, by exact_mod_cast e, by omega, by omega, h1, by simpa using h2, hinc, hbd⟩
        obtain ⟨lo1, e1, w1⟩ := key (1 + hi) (by omega) (by omega)
        obtain ⟨lo2, e2, w2⟩ := key (rest.length + 1) (by omega) (Nat.le_refl _)
        push_cast at e1 e2
        have p1 : (0 : Int) < 1 + (hi : Int) + 1 := by omega
        have p2 : (0 : Int) < (rest.length : Int) + 1 + 1 := by omega
        simp [C.m, hgi, hc2, hrp, ehi, hbl, e1, e2, p1, p2]
        refine ⟨fun _ => ⟨bs ++ [.bough u lo2 (rest.length + 1) (a :: rest)], ⟨by simp [hl], ?_, by simp [hk, Tie.kids]⟩, by simp [Tie.d]⟩, fun _ => ⟨bs ++ [.bough u lo1 (1 + hi) (a :: rest)], ⟨by simp [hl], ?_, by simp [hk, Tie.kids]⟩, by simp [Tie.d]⟩⟩
        · intro b hb'
          rcases List.mem_append.mp hb' with h | h
          · exact hb b h
          · cases List.mem_singleton.mp h; exact ⟨rfl, w2⟩
        · intro b hb'
          rcases List.mem_append.mp hb' with h | h
          · exact hb b h
          · cases List.mem_singleton.mp h; exact ⟨rfl, w1⟩
    · rintro bs ⟨hl, hb, hk⟩
      simp
      refine ⟨bs, hb, ?_, ?_, rfl⟩
      · rw [hk]
        refine List.Perm.trans ?_ hg.cov
        refine List.Perm.flatten (List.Perm.trans (List.Perm.map _ (List.perm_append_comm)) ?_)
        rw [List.take_append_drop]
        have : gs.zipIdx.map (fun p : (Nat × List Nat) × Nat => p.1.2) = gs.map Prod.snd := by
          rw [show (fun p : (Nat × List Nat) × Nat => p.1.2) = Prod.snd ∘ Prod.fst from rfl, ← List.map_map, List.zipIdx_map_fst]
        rw [this]
      · rw [hl]
        simp
        omega
end Om.Law

/-! Bi1: sets as numbers; ties at stands. -/
namespace Om.Law
open PySem PySem.Spec PyProof.Rows L2

theorem two_pow_add_or {x i : Nat} (h : x.testBit i = false) : 2 ^ i + x = x ||| 2 ^ i := by
  refine Nat.eq_of_testBit_eq fun j => ?_
  rw [Nat.testBit_or, Nat.testBit_two_pow]
  rcases Nat.lt_trichotomy j i with hj | hj | hj
  · rw [Nat.testBit_two_pow_add_gt hj, decide_eq_false (by omega), Bool.or_false]
  · subst hj
    rw [Nat.testBit_two_pow_add_eq, h, decide_eq_true rfl]; rfl
  · rw [decide_eq_false (by omega), Bool.or_false]
    have e : j = (j - (i + 1)) + (i + 1) := by omega
    rw [e, Nat.testBit_add, Nat.testBit_add]
    congr 1
    have h1 : x / 2 ^ i % 2 = 0 := by
      rw [Nat.testBit_eq_decide_div_mod_eq] at h
      have := of_decide_eq_false h
      omega
    have h4 : (2 ^ i + x) / 2 ^ (i + 1) = x / 2 ^ (i + 1) := by
      rw [Nat.pow_succ, ← Nat.div_div_eq_div_mul, ← Nat.div_div_eq_div_mul, Nat.add_div_left _ (Nat.two_pow_pos i)]
      omega
    rw [h4]
/-- the set of the options that a test lets -/
def mk (p : Nat → Bool) : Nat → Nat
  | 0 => 0
  | m + 1 => mk p m ||| if p m then 2 ^ m else 0
theorem mk_bit (p : Nat → Bool) (m k : Nat) : (mk p m).testBit k = (decide (k < m) && p k) := by
  induction m with
  | zero => rw [mk, Nat.zero_testBit, decide_eq_false (Nat.not_lt_zero _)]; rfl
  | succ m ih =>
    rw [mk, Nat.testBit_or, ih]
    by_cases hm : k = m
    · subst hm
      rw [decide_eq_false (Nat.lt_irrefl _), decide_eq_true (Nat.lt_succ_self _)]
      cases hp : p k <;> simp [Nat.testBit_two_pow]
    · have : (if p m = true then 2 ^ m else 0).testBit k = false := by
        split
        · rw [Nat.testBit_two_pow, decide_eq_false (by omega)]
        · rw [Nat.zero_testBit]
      rw [this, Bool.or_false]
      by_cases hk : k < m
      · rw [decide_eq_true hk, decide_eq_true (by omega)]
      · rw [decide_eq_false hk, decide_eq_false (by omega)]
theorem bit_lt {s m k : Nat} (h : s < 2 ^ m) (hk : s.testBit k = true) : k < m := by
  rcases Nat.lt_or_ge k m with h' | h'
  · exact h'
  · rw [Nat.testBit_lt_two_pow (Nat.lt_of_lt_of_le h (Nat.pow_le_pow_right (by omega) h'))] at hk; cases hk
theorem mk_lt (p : Nat → Bool) (m : Nat) : mk p m < 2 ^ m := by
  refine Nat.lt_pow_two_of_testBit _ fun i hi => ?_
  rw [mk_bit, decide_eq_false (by omega)]; rfl
theorem mk_self {s m : Nat} (h : s < 2 ^ m) : mk (fun k => s.testBit k) m = s := by
  refine Nat.eq_of_testBit_eq fun k => ?_
  rw [mk_bit]
  cases hk : s.testBit k with
  | false => rw [Bool.and_false]
  | true => rw [decide_eq_true (bit_lt h hk)]; rfl
/-- a set lies in a stand -/
def InSt (y n s : Nat) : Prop := ∀ k, (y.testBit k = true → s.testBit k = true) ∧ (n.testBit k = true → s.testBit k = false)
/-- no option in both -/
def Dis (y n : Nat) : Prop := ∀ k, y.testBit k = true → n.testBit k = false
theorem InSt.self {y n : Nat} (h : Dis y n) : InSt y n y := fun k => ⟨id, fun hn => by
  cases hy : y.testBit k with
  | false => rfl
  | true => rw [h k hy] at hn; cases hn⟩
/-- a tie's own options -/
def Tie.own : Tie → List Nat
  | .bough up _ _ kids => up :: kids
  | .needs a b => [a, b]
  | .bans a b => [a, b]
  | .most _ pairs => pairs.map Prod.fst
/-- counting by a test -/
def cntB (p : Nat → Bool) (kids : List Nat) : Nat := (kids.filter p).length
theorem cntB_cons (p : Nat → Bool) (k : Nat) (ks : List Nat) : cntB p (k :: ks) = (if p k then 1 else 0) + cntB p ks := by
  unfold cntB
  cases h : p k
  · rw [List.filter_cons_of_neg (by rw [h]; decide)]; simp
  · rw [List.filter_cons_of_pos h]; simp; omega
theorem cntB_le {p q : Nat → Bool} : ∀ {ks : List Nat}, (∀ k ∈ ks, p k = true → q k = true) → cntB p ks ≤ cntB q ks
  | [], _ => Nat.le_refl _
  | k :: ks, h => by
    rw [cntB_cons, cntB_cons]
    have := cntB_le (ks := ks) fun j hj => h j (List.mem_cons_of_mem _ hj)
    have hk := h k List.mem_cons_self
    cases hp : p k
    · simp; omega
    · rw [hk hp]; simp; omega
theorem cntB_congr {p q : Nat → Bool} {ks : List Nat} (h : ∀ k ∈ ks, p k = q k) : cntB p ks = cntB q ks := by
  unfold cntB
  rw [List.filter_congr h]
theorem cntB_not (p : Nat → Bool) : ∀ (ks : List Nat), cntB (fun k => !p k) ks + cntB p ks = ks.length
  | [] => rfl
  | k :: ks => by
    rw [cntB_cons, cntB_cons, List.length_cons]
    have := cntB_not p ks
    cases hp : p k <;> simp <;> omega
theorem pick {y n : Nat → Bool} (hd : ∀ k, y k = true → n k = false) : ∀ {ks : List Nat} (c : Nat), ks.Nodup → cntB y ks ≤ c → c ≤ cntB (fun k => !n k) ks → ∃ p : Nat → Bool, (∀ k, y k = true → p k = true) ∧ (∀ k, p k = true → y k = true ∨ (k ∈ ks ∧ n k = false)) ∧ cntB p ks = c
  | [], c, _, h1, h2 => ⟨y, fun _ h => h, fun _ h => .inl h, by
    have : c ≤ 0 := h2
    show 0 = c
    omega⟩
  | k :: ks, c, hn, h1, h2 => by
    rw [cntB_cons] at h1 h2
    obtain ⟨hk, hn⟩ := List.nodup_cons.mp hn
    have up : ∀ {p : Nat → Bool}, (∀ j, p j = true → y j = true ∨ (j ∈ ks ∧ n j = false)) → ∀ j, p j = true → y j = true ∨ (j ∈ k :: ks ∧ n j = false) := fun h j hj => by
      rcases h j hj with h | ⟨h, h'⟩
      · exact .inl h
      · exact .inr ⟨List.mem_cons_of_mem _ h, h'⟩
    cases hy : y k with
    | true =>
      have hnk := hd k hy
      rw [hy] at h1
      rw [hnk] at h2
      simp at h1 h2
      obtain ⟨p, a, b, e⟩ := pick hd (ks := ks) (c - 1) hn (by omega) (by omega)
      refine ⟨p, a, up b, ?_⟩
      rw [cntB_cons, a k hy, e]; simp; omega
    | false =>
      rw [hy] at h1
      simp at h1
      cases hnk : n k with
      | true =>
        rw [hnk] at h2
        simp at h2
        obtain ⟨p, a, b, e⟩ := pick hd (ks := ks) c hn (by omega) (by omega)
        refine ⟨p, a, up b, ?_⟩
        have hp : p k = false := by
          cases hp : p k with
          | false => rfl
          | true =>
            rcases b k hp with h | ⟨h, _⟩
            · rw [hy] at h; cases h
            · exact absurd h hk
        rw [cntB_cons, hp, e]; simp
      | false =>
        rw [hnk] at h2
        simp at h2
        by_cases hc : c ≤ cntB (fun k => !n k) ks
        · obtain ⟨p, a, b, e⟩ := pick hd (ks := ks) c hn (by omega) hc
          refine ⟨p, a, up b, ?_⟩
          have hp : p k = false := by
            cases hp : p k with
            | false => rfl
            | true =>
              rcases b k hp with h | ⟨h, _⟩
              · rw [hy] at h; cases h
              · exact absurd h hk
          rw [cntB_cons, hp, e]; simp
        · have hle : cntB y ks ≤ cntB (fun k => !n k) ks := cntB_le fun j _ hj => by rw [hd j hj]; rfl
          obtain ⟨p, a, b, e⟩ := pick hd (ks := ks) (c - 1) hn (by omega) (by omega)
          refine ⟨fun j => p j || decide (j = k), fun j hj => by dsimp only; rw [a j hj]; rfl, ?_, ?_⟩
          · intro j hj
            have hj : (p j || decide (j = k)) = true := hj
            rw [Bool.or_eq_true] at hj
            rcases hj with hj | hj
            · exact up b j hj
            · have hj := of_decide_eq_true hj
              subst hj
              exact .inr ⟨List.mem_cons_self, hnk⟩
          · rw [cntB_cons]
            have e2 : cntB (fun j => p j || decide (j = k)) ks = cntB p ks := cntB_congr fun j hj => by
              have : ¬ j = k := fun e => hk (e ▸ hj)
              show (p j || decide (j = k)) = p j
              rw [decide_eq_false this, Bool.or_false]
            rw [e2, e, decide_eq_true rfl, Bool.or_true]
            simp
            omega
end Om.Law

/-! Bi2: what is broken, or kept, for sure. -/
namespace Om.Law
open PySem PySem.Spec PyProof.Rows L2

theorem cnt_eq (kids : List Nat) (s : Nat) : cnt kids s = cntB (fun k => s.testBit k) kids := rfl
theorem inc_nodup {l : List Nat} (h : l.Pairwise (· < ·)) : l.Nodup := h.imp fun h => Nat.ne_of_lt h
/-- between what is there and what may be -/
theorem cnt_bounds {y n s : Nat} (h : InSt y n s) (kids : List Nat) : cnt kids y ≤ cnt kids s ∧ cnt kids s + cnt kids n ≤ kids.length := by
  refine ⟨cntB_le fun k _ hk => (h k).1 hk, ?_⟩
  have h1 : cntB (fun k => s.testBit k) kids ≤ cntB (fun k => !n.testBit k) kids := cntB_le fun k _ hk => by
    cases hn : n.testBit k with
    | false => rfl
    | true => rw [(h k).2 hn] at hk; cases hk
  have h2 := cntB_not (fun k => n.testBit k) kids
  rw [cnt_eq, cnt_eq]
  omega
/-- sums -/
theorem sumP_cons (s : Nat) (p : Nat × Int) (l : List (Nat × Int)) : sumP s (p :: l) = (if s.testBit p.1 then p.2 else 0) + sumP s l := by
  unfold sumP
  cases h : s.testBit p.1 <;> simp [h]
theorem lessP_cons (y n : Nat) (p : Nat × Int) (l : List (Nat × Int)) : lessP y n (p :: l) = (if y.testBit p.1 || (decide (p.2 < 0) && !n.testBit p.1) then p.2 else 0) + lessP y n l := by
  unfold lessP
  cases h : (y.testBit p.1 || (decide (p.2 < 0) && !n.testBit p.1))
  · rw [List.filter_cons_of_neg (by rw [h]; decide)]; simp
  · rw [List.filter_cons_of_pos (by exact h)]; simp
theorem morP_cons (y n : Nat) (p : Nat × Int) (l : List (Nat × Int)) : morP y n (p :: l) = (if y.testBit p.1 || (decide (0 < p.2) && !n.testBit p.1) then p.2 else 0) + morP y n l := by
  unfold morP
  cases h : (y.testBit p.1 || (decide (0 < p.2) && !n.testBit p.1))
  · rw [List.filter_cons_of_neg (by rw [h]; decide)]; simp
  · rw [List.filter_cons_of_pos (by exact h)]; simp
theorem sum_bounds {y n s : Nat} (h : InSt y n s) : ∀ l : List (Nat × Int), lessP y n l ≤ sumP s l ∧ sumP s l ≤ morP y n l
  | [] => ⟨Int.le_refl _, Int.le_refl _⟩
  | p :: l => by
    obtain ⟨h1, h2⟩ := sum_bounds h l
    rw [sumP_cons, lessP_cons, morP_cons]
    obtain ⟨a, b⟩ := h p.1
    cases hy : y.testBit p.1 <;> cases hn : n.testBit p.1 <;> cases hs : s.testBit p.1 <;> simp [hy, hn, hs] at a b ⊢
    all_goals first | omega | (constructor <;> (try split) <;> omega)
theorem sum_least {y n s : Nat} : ∀ {l : List (Nat × Int)}, (∀ p ∈ l, s.testBit p.1 = (y.testBit p.1 || (decide (p.2 < 0) && !n.testBit p.1))) → sumP s l = lessP y n l
  | [], _ => rfl
  | p :: l, h => by
    rw [sumP_cons, lessP_cons, h p List.mem_cons_self, sum_least fun q hq => h q (List.mem_cons_of_mem _ hq)]
theorem sum_most {y n s : Nat} : ∀ {l : List (Nat × Int)}, (∀ p ∈ l, s.testBit p.1 = (y.testBit p.1 || (decide (0 < p.2) && !n.testBit p.1))) → sumP s l = morP y n l
  | [], _ => rfl
  | p :: l, h => by
    rw [sumP_cons, morP_cons, h p List.mem_cons_self, sum_most fun q hq => h q (List.mem_cons_of_mem _ hq)]
/-- a set between: all of the stand's, besides open ones of the own options -/
structure Near (m y n : Nat) (own : List Nat) (s : Nat) : Prop where
  st : InSt y n s
  lt : s < 2 ^ m
  ex : ∀ k, s.testBit k = true → y.testBit k = true ∨ k ∈ own
theorem near_mk {m y n : Nat} {own : List Nat} (hy : y < 2 ^ m) (hd : Dis y n) (ho : ∀ k ∈ own, k < m) (p : Nat → Bool) (h1 : ∀ k, y.testBit k = true → p k = true) (h2 : ∀ k, p k = true → y.testBit k = true ∨ (k ∈ own ∧ n.testBit k = false)) : Near m y n own (mk p m) ∧ ∀ k, (mk p m).testBit k = p k := by
  have hb : ∀ k, (mk p m).testBit k = p k := fun k => by
    rw [mk_bit]
    cases hp : p k with
    | false => rw [Bool.and_false]
    | true =>
      rcases h2 k hp with h | ⟨h, _⟩
      · rw [decide_eq_true (bit_lt hy h)]; rfl
      · rw [decide_eq_true (ho k h)]; rfl
  refine ⟨⟨fun k => ⟨fun h => by rw [hb]; exact h1 k h, fun h => ?_⟩, mk_lt p m, fun k hk => ?_⟩, hb⟩
  · rw [hb]
    cases hp : p k with
    | false => rfl
    | true =>
      rcases h2 k hp with h' | ⟨_, h'⟩
      · rw [hd k h'] at h; cases h
      · rw [h'] at h; cases h
  · rw [hb] at hk
    rcases h2 k hk with h | ⟨h, _⟩
    · exact .inl h
    · exact .inr h
theorem Tie.wf.own {m : Nat} {t : Tie} (h : t.wf m) : ∀ k ∈ t.own, k < m := by
  intro k hk
  cases t with
  | bough up low high kids =>
    rcases List.mem_cons.mp hk with rfl | hk
    · exact h.1
    · exact (h.2.2.2.2.2 k hk).2
  | needs a b =>
    rcases List.mem_cons.mp hk with rfl | hk
    · exact h.1
    · cases List.mem_singleton.mp hk; exact h.2.1
  | bans a b =>
    rcases List.mem_cons.mp hk with rfl | hk
    · exact h.1
    · cases List.mem_singleton.mp hk; exact h.2.1
  | most top pairs =>
    obtain ⟨p, hp, rfl⟩ := List.mem_map.mp hk
    exact h.2.2 p hp
/-- a set with the up put so, and so many kids -/
theorem bough_pick {m y n up : Nat} {kids : List Nat} (hy : y < 2 ^ m) (hd : Dis y n) (hu : up < m) (hi : kids.Pairwise (· < ·)) (hk : ∀ k ∈ kids, up < k ∧ k < m) (b : Bool) (hb1 : y.testBit up = true → b = true) (hb2 : n.testBit up = true → b = false) (c : Nat) (h1 : cnt kids y ≤ c) (h2 : c + cnt kids n ≤ kids.length) : ∃ s, Near m y n (up :: kids) s ∧ s.testBit up = b ∧ cnt kids s = c := by
  have hnot := cntB_not (fun k => n.testBit k) kids
  obtain ⟨p, a1, a2, a3⟩ := pick (y := fun k => y.testBit k) (n := fun k => n.testBit k) (fun k h => hd k h) (ks := kids) c (inc_nodup hi) h1 (by
    rw [cnt_eq] at h2
    omega)
  have hup : up ∉ kids := fun h => Nat.lt_irrefl _ (hk up h).1
  obtain ⟨n1, n2⟩ := near_mk (own := up :: kids) hy hd (fun k h => by
    rcases List.mem_cons.mp h with rfl | h
    · exact hu
    · exact (hk k h).2) (fun k => if k = up then b else p k) (fun k h => by
      split
      · rename_i e; subst e; exact hb1 h
      · exact a1 k h) (fun k h => by
      split at h
      · rename_i e
        subst e
        cases hn : n.testBit k with
        | true => rw [hb2 hn] at h; cases h
        | false => exact .inr ⟨List.mem_cons_self, rfl⟩
      · rcases a2 k h with h | ⟨h, h'⟩
        · exact .inl h
        · exact .inr ⟨List.mem_cons_of_mem _ h, h'⟩)
  refine ⟨_, n1, by rw [n2]; exact if_pos rfl, ?_⟩
  rw [cnt_eq, ← a3]
  refine cntB_congr fun k hkk => ?_
  rw [n2]
  exact if_neg fun e : k = up => hup (e ▸ hkk)
/-- with some open options put in -/
theorem near_with {m y n : Nat} {own : List Nat} (hy : y < 2 ^ m) (hd : Dis y n) (ho : ∀ k ∈ own, k < m) (l : List Nat) (hl : ∀ k ∈ l, k ∈ own ∧ n.testBit k = false) : ∃ s, Near m y n own s ∧ ∀ k, s.testBit k = (y.testBit k || decide (k ∈ l)) := by
  obtain ⟨a, b⟩ := near_mk hy hd ho (fun k => y.testBit k || decide (k ∈ l)) (fun k h => by rw [h]; rfl) (fun k h => by
    have h : (y.testBit k || decide (k ∈ l)) = true := h
    rw [Bool.or_eq_true] at h
    rcases h with h | h
    · exact .inl h
    · exact .inr (hl k (of_decide_eq_true h)))
  exact ⟨_, a, b⟩
theorem most_mem {pairs : List (Nat × Int)} (hp : (pairs.map Prod.fst).Pairwise (· < ·)) {p q : Nat × Int} (h1 : p ∈ pairs) (h2 : q ∈ pairs) (e : p.1 = q.1) : p = q := by
  induction pairs with
  | nil => cases h1
  | cons r rs ih =>
    rw [List.map_cons] at hp
    obtain ⟨hr, hp⟩ := List.pairwise_cons.mp hp
    rcases List.mem_cons.mp h1 with e1 | h1
    · rcases List.mem_cons.mp h2 with e2 | h2
      · rw [e1, e2]
      · have := hr q.1 (List.mem_map_of_mem h2)
        rw [← e, e1] at this
        exact absurd this (Nat.lt_irrefl _)
    · rcases List.mem_cons.mp h2 with e2 | h2
      · have := hr p.1 (List.mem_map_of_mem h1)
        rw [e, e2] at this
        exact absurd this (Nat.lt_irrefl _)
      · exact ih hp h1 h2
theorem most_pick {m y n : Nat} {pairs : List (Nat × Int)} (hy : y < 2 ^ m) (hd : Dis y n) (hp : (pairs.map Prod.fst).Pairwise (· < ·)) (hk : ∀ p ∈ pairs, p.1 < m) (f : Int → Bool) : ∃ s, Near m y n (pairs.map Prod.fst) s ∧ ∀ p ∈ pairs, s.testBit p.1 = (y.testBit p.1 || (f p.2 && !n.testBit p.1)) := by
  obtain ⟨s, a, b⟩ := near_with (own := pairs.map Prod.fst) hy hd (fun k h => by
    obtain ⟨p, h1, rfl⟩ := List.mem_map.mp h
    exact hk p h1) ((pairs.filter fun p => f p.2 && !n.testBit p.1).map Prod.fst) (fun k h => by
    obtain ⟨p, h1, rfl⟩ := List.mem_map.mp h
    obtain ⟨h1, h2⟩ := List.mem_filter.mp h1
    rw [Bool.and_eq_true] at h2
    exact ⟨List.mem_map_of_mem h1, by simpa using h2.2⟩)
  refine ⟨s, a, fun p h => ?_⟩
  rw [b]
  congr 1
  cases hf : (f p.2 && !n.testBit p.1) with
  | true => exact decide_eq_true (List.mem_map_of_mem (List.mem_filter.mpr ⟨h, hf⟩))
  | false =>
    refine decide_eq_false fun hm => ?_
    obtain ⟨q, h1, h2⟩ := List.mem_map.mp hm
    obtain ⟨h1, h3⟩ := List.mem_filter.mp h1
    rw [most_mem hp h1 h h2, hf] at h3
    cases h3
/-- broken for sure: no set keeps it -/
theorem broken_all {m y n s : Nat} {t : Tie} (hw : t.wf m) (h : t.broken y n = true) (hs : InSt y n s) : t.keeps s = false := by
  cases t with
  | bough up low high kids =>
    obtain ⟨b1, b2⟩ := cnt_bounds hs kids
    obtain ⟨u1, u2⟩ := hs up
    obtain ⟨_, w1, _⟩ := hw
    simp only [Tie.broken] at h
    simp only [Tie.keeps]
    cases hn : n.testBit up with
    | true =>
      rw [hn, if_pos rfl] at h
      have h := of_decide_eq_true h
      rw [u2 hn, if_neg (by decide)]
      exact decide_eq_false (by omega)
    | false =>
      rw [hn, if_neg (by decide)] at h
      cases hy : y.testBit up with
      | true =>
        rw [hy, if_pos rfl, Bool.or_eq_true, decide_eq_true_eq, decide_eq_true_eq] at h
        rw [u1 hy, if_pos rfl, Bool.and_eq_false_iff, decide_eq_false_iff_not, decide_eq_false_iff_not]
        omega
      | false =>
        rw [hy, if_neg (by decide), Bool.and_eq_true, Bool.or_eq_true, decide_eq_true_eq, decide_eq_true_eq, decide_eq_true_eq] at h
        split
        · rw [Bool.and_eq_false_iff, decide_eq_false_iff_not, decide_eq_false_iff_not]
          omega
        · exact decide_eq_false (by omega)
  | needs a b =>
    simp only [Tie.broken, Bool.and_eq_true] at h
    simp only [Tie.keeps]
    rw [(hs a).1 h.1, (hs b).2 h.2]; rfl
  | bans a b =>
    simp only [Tie.broken, Bool.and_eq_true] at h
    simp only [Tie.keeps]
    rw [(hs a).1 h.1, (hs b).1 h.2]; rfl
  | most top pairs =>
    simp only [Tie.broken, decide_eq_true_eq] at h
    simp only [Tie.keeps]
    have := (sum_bounds hs pairs).1
    exact decide_eq_false (by omega)
/-- else some set does -/
theorem broken_not {m y n : Nat} {t : Tie} (hw : t.wf m) (hy : y < 2 ^ m) (hd : Dis y n) (h : t.broken y n = false) : ∃ s, Near m y n t.own s ∧ t.keeps s = true := by
  cases t with
  | bough up low high kids =>
    obtain ⟨wu, w1, w2, w3, w4, w5⟩ := hw
    obtain ⟨b1, b2⟩ := cnt_bounds (InSt.self hd) kids
    simp only [Tie.broken] at h
    simp only [Tie.keeps]
    cases hn : n.testBit up with
    | true =>
      rw [hn, if_pos rfl] at h
      have h := of_decide_eq_false h
      obtain ⟨s, n1, n2, n3⟩ := bough_pick hy hd wu w4 w5 false (fun h => by rw [hd up h] at hn; cases hn) (fun _ => rfl) 0 (by omega) (by omega)
      exact ⟨s, n1, by rw [n2, if_neg (by decide)]; exact decide_eq_true n3⟩
    | false =>
      rw [hn, if_neg (by decide)] at h
      have inn : ¬(high < cnt kids y ∨ (kids.length : Int) - cnt kids n < low) → ∃ s, Near m y n (up :: kids) s ∧ (if s.testBit up = true then decide (low ≤ cnt kids s) && decide (cnt kids s ≤ high) else decide (cnt kids s = 0)) = true := fun h => by
        obtain ⟨s, n1, n2, n3⟩ := bough_pick hy hd wu w4 w5 true (fun _ => rfl) (fun h => by rw [hn] at h; cases h) (max (cnt kids y) low) (Nat.le_max_left _ _) (by omega)
        refine ⟨s, n1, ?_⟩
        rw [n2, if_pos rfl, n3, Bool.and_eq_true, decide_eq_true_eq, decide_eq_true_eq]
        omega
      cases hyu : y.testBit up with
      | true =>
        rw [hyu, if_pos rfl, Bool.or_eq_false_iff, decide_eq_false_iff_not, decide_eq_false_iff_not] at h
        exact inn (by omega)
      | false =>
        rw [hyu, if_neg (by decide), Bool.and_eq_false_iff, Bool.or_eq_false_iff, decide_eq_false_iff_not, decide_eq_false_iff_not, decide_eq_false_iff_not] at h
        by_cases h0 : cnt kids y = 0
        · obtain ⟨s, n1, n2, n3⟩ := bough_pick hy hd wu w4 w5 false (fun h => by rw [hyu] at h; cases h) (fun _ => rfl) 0 (by omega) (by omega)
          exact ⟨s, n1, by rw [n2, if_neg (by decide)]; exact decide_eq_true n3⟩
        · exact inn (by omega)
  | needs a b =>
    simp only [Tie.broken, Bool.and_eq_false_iff] at h
    simp only [Tie.keeps]
    by_cases ha : y.testBit a = true
    · have hb : n.testBit b = false := by
        rcases h with h | h
        · rw [ha] at h; cases h
        · exact h
      obtain ⟨s, n1, n2⟩ := near_with hy hd hw.own [b] (fun k hk => by cases List.mem_singleton.mp hk; exact ⟨List.mem_cons_of_mem _ List.mem_cons_self, hb⟩)
      exact ⟨s, n1, by rw [n2 b, decide_eq_true List.mem_cons_self, Bool.or_true, Bool.or_true]⟩
    · obtain ⟨s, n1, n2⟩ := near_with hy hd hw.own [] (fun k hk => nomatch hk)
      have ha : y.testBit a = false := by simpa using ha
      exact ⟨s, n1, by rw [n2 a, ha]; simp⟩
  | bans a b =>
    simp only [Tie.broken, Bool.and_eq_false_iff] at h
    simp only [Tie.keeps]
    obtain ⟨s, n1, n2⟩ := near_with hy hd hw.own [] (fun k hk => nomatch hk)
    refine ⟨s, n1, ?_⟩
    rw [n2 a, n2 b]
    rcases h with h | h <;> rw [h] <;> simp
  | most top pairs =>
    simp only [Tie.broken, decide_eq_false_iff_not] at h
    simp only [Tie.keeps]
    obtain ⟨s, n1, n2⟩ := most_pick hy hd hw.2.1 hw.2.2 (fun v => decide (v < 0))
    exact ⟨s, n1, decide_eq_true (by rw [sum_least n2]; omega)⟩
/-- kept for sure: each set keeps it -/
theorem kept_all {m y n s : Nat} {t : Tie} (hw : t.wf m) (h : t.kept y n = true) (hs : InSt y n s) : t.keeps s = true := by
  cases t with
  | bough up low high kids =>
    obtain ⟨b1, b2⟩ := cnt_bounds hs kids
    obtain ⟨u1, u2⟩ := hs up
    obtain ⟨_, w1, w2, w3, _⟩ := hw
    simp only [Tie.kept] at h
    simp only [Tie.keeps]
    cases hn : n.testBit up with
    | true =>
      rw [hn, if_pos rfl, decide_eq_true_eq] at h
      rw [u2 hn, if_neg (by decide)]
      exact decide_eq_true (by omega)
    | false =>
      rw [hn, if_neg (by decide)] at h
      cases hy : y.testBit up with
      | true =>
        rw [hy, if_pos rfl, Bool.and_eq_true, decide_eq_true_eq, decide_eq_true_eq] at h
        rw [u1 hy, if_pos rfl, Bool.and_eq_true, decide_eq_true_eq, decide_eq_true_eq]
        omega
      | false =>
        rw [hy, if_neg (by decide), Bool.and_eq_true, decide_eq_true_eq, decide_eq_true_eq] at h
        split
        · rw [Bool.and_eq_true, decide_eq_true_eq, decide_eq_true_eq]
          omega
        · exact decide_eq_true (by omega)
  | needs a b =>
    simp only [Tie.kept, Bool.or_eq_true] at h
    simp only [Tie.keeps]
    rcases h with h | h
    · rw [(hs a).2 h]; rfl
    · rw [(hs b).1 h, Bool.or_true]
  | bans a b =>
    simp only [Tie.kept, Bool.or_eq_true] at h
    simp only [Tie.keeps]
    rcases h with h | h
    · rw [(hs a).2 h]; rfl
    · rw [(hs b).2 h]; simp
  | most top pairs =>
    simp only [Tie.kept, decide_eq_true_eq] at h
    simp only [Tie.keeps]
    have := (sum_bounds hs pairs).2
    exact decide_eq_true (by omega)
theorem kept_not {m y n : Nat} {t : Tie} (hw : t.wf m) (hy : y < 2 ^ m) (hd : Dis y n) (h : t.kept y n = false) : ∃ s, Near m y n t.own s ∧ t.keeps s = false := by
  cases t with
  | bough up low high kids =>
    obtain ⟨wu, w1, w2, w3, w4, w5⟩ := hw
    obtain ⟨b1, b2⟩ := cnt_bounds (InSt.self hd) kids
    simp only [Tie.kept] at h
    simp only [Tie.keeps]
    have out : y.testBit up = false → 0 < (kids.length : Int) - cnt kids n → ∃ s, Near m y n (up :: kids) s ∧ (if s.testBit up = true then decide (low ≤ cnt kids s) && decide (cnt kids s ≤ high) else decide (cnt kids s = 0)) = false := fun hyu hm => by
      obtain ⟨s, n1, n2, n3⟩ := bough_pick hy hd wu w4 w5 false (fun h => by rw [hyu] at h; cases h) (fun _ => rfl) (kids.length - cnt kids n) (by omega) (by omega)
      exact ⟨s, n1, by rw [n2, if_neg (by decide)]; exact decide_eq_false (by omega)⟩
    cases hn : n.testBit up with
    | true =>
      rw [hn, if_pos rfl, decide_eq_false_iff_not] at h
      refine out ?_ (by omega)
      cases hyu : y.testBit up with
      | false => rfl
      | true => rw [hd up hyu] at hn; cases hn
    | false =>
      rw [hn, if_neg (by decide)] at h
      have inn : ∀ c, cnt kids y ≤ c → c + cnt kids n ≤ kids.length → ¬(low ≤ c ∧ c ≤ high) → ∃ s, Near m y n (up :: kids) s ∧ (if s.testBit up = true then decide (low ≤ cnt kids s) && decide (cnt kids s ≤ high) else decide (cnt kids s = 0)) = false := fun c h1 h2 h3 => by
        obtain ⟨s, n1, n2, n3⟩ := bough_pick hy hd wu w4 w5 true (fun _ => rfl) (fun h => by rw [hn] at h; cases h) c h1 h2
        refine ⟨s, n1, ?_⟩
        rw [n2, if_pos rfl, n3, Bool.and_eq_false_iff, decide_eq_false_iff_not, decide_eq_false_iff_not]
        omega
      cases hyu : y.testBit up with
      | true =>
        rw [hyu, if_pos rfl, Bool.and_eq_false_iff, decide_eq_false_iff_not, decide_eq_false_iff_not] at h
        by_cases hl : low ≤ cnt kids y
        · exact inn (kids.length - cnt kids n) (by omega) (by omega) (by omega)
        · exact inn (cnt kids y) (by omega) (by omega) (by omega)
      | false =>
        rw [hyu, if_neg (by decide), Bool.and_eq_false_iff, decide_eq_false_iff_not, decide_eq_false_iff_not] at h
        by_cases hm : (kids.length : Int) - cnt kids n = 0
        · exact inn (cnt kids y) (by omega) (by omega) (by omega)
        · exact out hyu (by omega)
  | needs a b =>
    simp only [Tie.kept, Bool.or_eq_false_iff] at h
    simp only [Tie.keeps]
    obtain ⟨s, n1, n2⟩ := near_with hy hd hw.own [a] (fun k hk => by cases List.mem_singleton.mp hk; exact ⟨List.mem_cons_self, h.1⟩)
    refine ⟨s, n1, ?_⟩
    rw [n2 a, n2 b, h.2, decide_eq_true List.mem_cons_self, decide_eq_false (show b ∉ [a] from fun hb => hw.2.2 (List.mem_singleton.mp hb).symm)]
    simp
  | bans a b =>
    simp only [Tie.kept, Bool.or_eq_false_iff] at h
    simp only [Tie.keeps]
    obtain ⟨s, n1, n2⟩ := near_with hy hd hw.own [a, b] (fun k hk => by
      rcases List.mem_cons.mp hk with rfl | hk
      · exact ⟨List.mem_cons_self, h.1⟩
      · cases List.mem_singleton.mp hk; exact ⟨List.mem_cons_of_mem _ List.mem_cons_self, h.2⟩)
    refine ⟨s, n1, ?_⟩
    rw [n2 a, n2 b, decide_eq_true List.mem_cons_self, decide_eq_true (show b ∈ [a, b] from List.mem_cons_of_mem _ List.mem_cons_self)]
    simp
  | most top pairs =>
    simp only [Tie.kept, decide_eq_false_iff_not] at h
    simp only [Tie.keeps]
    obtain ⟨s, n1, n2⟩ := most_pick hy hd hw.2.1 hw.2.2 (fun v => decide (0 < v))
    exact ⟨s, n1, decide_eq_false (by rw [sum_most n2]; omega)⟩
end Om.Law

/-! Bi3: sums of powers; differences; what a list holds. -/
namespace Om.Law
open PySem PySem.Spec PyProof.Rows L2

theorem mk_succ (p : Nat → Bool) (m : Nat) : mk p (m + 1) = mk p m + if p m then 2 ^ m else 0 := by
  rw [mk]
  split
  · rw [Nat.add_comm, two_pow_add_or]
    rw [mk_bit, decide_eq_false (Nat.lt_irrefl _)]; rfl
  · rw [Nat.or_zero, Nat.add_zero]
theorem mk_add (p q : Nat → Bool) (h : ∀ k, p k = true → q k = false) : ∀ m, mk p m + mk q m = mk (fun k => p k || q k) m
  | 0 => rfl
  | m + 1 => by
    have ih := mk_add p q h m
    rw [mk_succ, mk_succ, mk_succ, ← ih]
    cases hp : p m with
    | true => rw [h m hp]; simp; omega
    | false => cases hq : q m <;> simp <;> omega
theorem lt_two_pow_max (x y : Nat) : x < 2 ^ max x y ∧ y < 2 ^ max x y :=
  ⟨Nat.lt_of_lt_of_le Nat.lt_two_pow_self (Nat.pow_le_pow_right (by omega) (Nat.le_max_left _ _)), Nat.lt_of_lt_of_le Nat.lt_two_pow_self (Nat.pow_le_pow_right (by omega) (Nat.le_max_right _ _))⟩
theorem add_bit {x y : Nat} (h : ∀ k, x.testBit k = true → y.testBit k = false) (k : Nat) : (x + y).testBit k = (x.testBit k || y.testBit k) := by
  obtain ⟨hx, hy⟩ := lt_two_pow_max x y
  have e : x + y = mk (fun k => x.testBit k || y.testBit k) (max x y) := by
    rw [← mk_add _ _ h, mk_self hx, mk_self hy]
  rw [e, mk_bit]
  cases ha : x.testBit k with
  | true => rw [decide_eq_true (bit_lt hx ha)]; rfl
  | false =>
    cases hb : y.testBit k with
    | true => rw [decide_eq_true (bit_lt hy hb)]; rfl
    | false => simp
theorem sub_and_bit (a n k : Nat) : (a - (a &&& n)).testBit k = (a.testBit k && !n.testBit k) := by
  obtain ⟨ha, hn⟩ := lt_two_pow_max a n
  have h1 : mk (fun k => a.testBit k && !n.testBit k) (max a n) + mk (fun k => a.testBit k && n.testBit k) (max a n) = mk (fun k => a.testBit k) (max a n) := by
    rw [mk_add _ _ (fun k h => by
      rw [Bool.and_eq_true] at h
      simp at h
      rw [h.2, Bool.and_false])]
    congr 1
    funext k
    cases a.testBit k <;> cases n.testBit k <;> rfl
  have h2 : mk (fun k => a.testBit k && n.testBit k) (max a n) = a &&& n := by
    refine Nat.eq_of_testBit_eq fun j => ?_
    rw [mk_bit, Nat.testBit_and]
    cases hj : a.testBit j with
    | false => simp
    | true => rw [decide_eq_true (bit_lt ha hj)]; rfl
  rw [mk_self ha, h2] at h1
  have e : a - (a &&& n) = mk (fun k => a.testBit k && !n.testBit k) (max a n) := by omega
  rw [e, mk_bit]
  cases hk : a.testBit k with
  | false => simp
  | true => rw [decide_eq_true (bit_lt ha hk)]; rfl
theorem dis_sub (a n : Nat) : Dis (a - (a &&& n)) n := by
  intro k hk
  rw [sub_and_bit, Bool.and_eq_true] at hk
  simpa using hk.2
/-- a sum of powers of unlike options -/
def sumPow (l : List Nat) : Nat := (l.map fun k => 2 ^ k).sum
theorem sumPow_cons (k : Nat) (l : List Nat) : sumPow (k :: l) = 2 ^ k + sumPow l := by
  unfold sumPow
  rw [List.map_cons, List.sum_cons]
theorem sumPow_bit : ∀ {l : List Nat}, l.Nodup → ∀ k, (sumPow l).testBit k = decide (k ∈ l)
  | [], _, k => by
    rw [show sumPow [] = 0 from rfl, Nat.zero_testBit, decide_eq_false (by simp)]
  | x :: l, h, k => by
    obtain ⟨hx, hl⟩ := List.nodup_cons.mp h
    have ih := sumPow_bit hl
    rw [sumPow_cons, two_pow_add_or (by rw [ih]; exact decide_eq_false hx), Nat.testBit_or, ih, Nat.testBit_two_pow]
    by_cases e : x = k
    · subst e
      simp
    · rw [decide_eq_false e, Bool.or_false]
      have : k ∈ x :: l ↔ k ∈ l := ⟨fun h => by
        rcases List.mem_cons.mp h with h | h
        · exact absurd h.symm e
        · exact h, List.mem_cons_of_mem _⟩
      rw [decide_eq_decide.mpr this]
theorem sumPow_lt {l : List Nat} {m : Nat} (h : l.Nodup) (hm : ∀ k ∈ l, k < m) : sumPow l < 2 ^ m := by
  refine Nat.lt_pow_two_of_testBit _ fun i hi => ?_
  rw [sumPow_bit h]
  exact decide_eq_false fun hk => by have := hm i hk; omega
theorem sumPow_int (l : List Nat) : (l.map fun k : Nat => (2 : Int) ^ k).sum = ((sumPow l : Nat) : Int) := by
  induction l with
  | nil => rfl
  | cons k l ih =>
    rw [sumPow_cons, List.map_cons, List.sum_cons, ih]
    push_cast
    rfl
/-! what a list holds -/
theorem inD_lst {x : D} {ys : List D} (hx : x.ok) (hy : (D.lst ys).ok) (hs : ∀ s, x ≠ .str s) : inD x (.lst ys) = some (ys.any fun y => PyData.eqv y.p x.p) := by
  unfold inD
  cases x with
  | str s => exact absurd rfl (hs s)
  | _ =>
    dsimp only
    rw [fit_noC _ _ hx, show D.noCL ys = true from fit_noC _ _ hy, hx.shaped, hy.shaped]; rfl
theorem fitL_map {ι : Type} (n : Nat) (f : ι → D) (l : List ι) (h : ∀ i ∈ l, (f i).fit n = true) : D.fitL n (l.map f) = true := fitL_iff.mpr fun d hd => by
  obtain ⟨i, hi, rfl⟩ := List.mem_map.mp hd
  exact h i hi
@[simp] theorem inD_bls (b : Bool) (l : List Bool) : inD (.bl b) (.lst (l.map D.bl)) = some (decide (b ∈ l)) := by
  rw [inD_lst (ok_bl b) (show D.fitL 59 _ = true from fitL_map 59 _ _ fun _ _ => rfl) (fun s h => nomatch h)]
  congr 1
  rw [List.any_map]
  have : ((fun y => PyData.eqv y.p (D.bl b).p) ∘ D.bl) = fun x => x == b := by
    funext x
    show PyData.eqv (D.bl x).p (D.bl b).p = _
    rw [D.p, D.p, PyData.eqv]
    try (cases x <;> cases b <;> rfl)
  rw [this]
  induction l with
  | nil => simp
  | cons a l ih =>
    rw [List.any_cons, ih]
    cases a <;> cases b <;> simp
theorem inD_ints (i : Int) {ι : Type} (f : ι → Int) (l : List ι) : inD (.int i) (.lst (l.map fun k => D.int (f k))) = some (decide (i ∈ l.map f)) := by
  rw [inD_lst (ok_int i) (show D.fitL 59 _ = true from fitL_map 59 _ _ fun _ _ => rfl) (fun s h => nomatch h)]
  congr 1
  rw [List.any_map]
  have : ((fun y => PyData.eqv y.p (D.int i).p) ∘ fun k => D.int (f k)) = fun k => decide (f k = i) := by
    funext x
    show PyData.eqv (D.int (f x)).p (D.int i).p = _
    rw [D.p, D.p, PyData.eqv]; rfl
  rw [this]
  induction l with
  | nil => simp
  | cons a l ih =>
    rw [List.any_cons, ih]
    by_cases h : f a = i
    · simp [h]
    · have h' : ¬ i = f a := fun e => h e.symm
      simp [h, h']
@[simp] theorem inD_opts (k : Nat) (l : List Nat) : inD (.int (k : Int)) (.lst (optL l)) = some (decide (k ∈ l)) := by
  rw [inD_ints (k : Int) (fun k : Nat => (k : Int)) l]
  congr 1
  refine decide_eq_decide.mpr ⟨fun h => ?_, fun h => List.mem_map_of_mem h⟩
  obtain ⟨a, ha, e⟩ := List.mem_map.mp h
  have : a = k := by omega
  exact this ▸ ha
theorem inD_tup2 {x a b : D} {r s : Bool} (hx : x.flat = true) (ha : a.flat = true) (hb : b.flat = true) (h1 : eqvD a x = some r) (h2 : eqvD b x = some s) (hs : ∀ u v, x = .str u → (D.tup [a, b]) ≠ .str v) : inD x (.tup [a, b]) = some (r || s) := by
  have key : ∀ {a b : D} {r : Bool}, eqvD a b = some r → PyData.eqv a.p b.p = r := fun h => by
    unfold eqvD at h
    split at h
    · cases h; rfl
    · cases h
  unfold inD
  cases x <;> (dsimp only; rw [hx]; simp [ha, hb, key h1, key h2])
section
variable (i : Int)
@[simp] theorem in_nb_n : inD (.str "needs") (.tup [.str "needs", .str "bans"]) = some true := by rw [inD_tup2 rfl rfl rfl ew_nn ew_bn (fun _ _ _ h => nomatch h)]; rfl
@[simp] theorem in_nb_b : inD (.str "bans") (.tup [.str "needs", .str "bans"]) = some true := by rw [inD_tup2 rfl rfl rfl ew_nb ew_bb (fun _ _ _ h => nomatch h)]; rfl
@[simp] theorem in_nb_m : inD (.str "most") (.tup [.str "needs", .str "bans"]) = some false := by rw [inD_tup2 rfl rfl rfl ew_nm ew_bm (fun _ _ _ h => nomatch h)]; rfl
theorem ew_ni : eqvD (.str "needs") (.int i) = some false := eqv_si ok_needs
theorem ew_bi : eqvD (.str "bans") (.int i) = some false := eqv_si ok_bans
@[simp] theorem in_nb_i : inD (.int i) (.tup [.str "needs", .str "bans"]) = some false := by rw [inD_tup2 rfl rfl rfl (ew_ni i) (ew_bi i) (fun _ _ _ h => nomatch h)]; rfl
end
/-! enumerate -/
theorem enumD_eq {ι : Type} (f : ι → D) : ∀ (l : List ι) (n : Nat), enumD n (l.map f) = (l.zipIdx n).map fun p => D.tup [.int (p.2 : Int), f p.1]
  | [], n => rfl
  | x :: l, n => by
    rw [List.map_cons, enumD, enumD_eq f l (n + 1), List.zipIdx_cons, List.map_cons]
@[simp] theorem enumD_0 {ι : Type} (f : ι → D) (l : List ι) : enumD 0 (l.map f) = l.zipIdx.map fun p => D.tup [.int (p.2 : Int), f p.1] := enumD_eq f l 0
@[simp] theorem bor_nat (a b : Nat) : Builtin.bitOr (a : Int) (b : Int) = ((a ||| b : Nat) : Int) := by
  rw [bitOr_nn (Int.natCast_nonneg a) (Int.natCast_nonneg b), Int.toNat_natCast, Int.toNat_natCast]
@[simp] theorem bor_np (a k : Nat) : Builtin.bitOr (a : Int) ((2 : Int) ^ k) = ((a ||| 2 ^ k : Nat) : Int) := by rw [p2_nat, bor_nat]
@[simp] theorem bor_pn (a k : Nat) : Builtin.bitOr ((2 : Int) ^ k) (a : Int) = ((2 ^ k ||| a : Nat) : Int) := by rw [p2_nat, bor_nat]
@[simp] theorem bor_pp (a k : Nat) : Builtin.bitOr ((2 : Int) ^ a) ((2 : Int) ^ k) = ((2 ^ a ||| 2 ^ k : Nat) : Int) := by rw [p2_nat, p2_nat, bor_nat]
@[simp] theorem bor_n1 (a : Nat) : Builtin.bitOr (a : Int) 1 = ((a ||| 1 : Nat) : Int) := bor_nat a 1
@[simp] theorem bor_1n (a : Nat) : Builtin.bitOr 1 (a : Int) = ((1 ||| a : Nat) : Int) := bor_nat 1 a
@[simp] theorem bor_1p (k : Nat) : Builtin.bitOr 1 ((2 : Int) ^ k) = ((1 ||| 2 ^ k : Nat) : Int) := by rw [p2_nat]; exact bor_nat 1 _
theorem sel_mem {F : List Nat} (hF : F.Nodup) (p : Nat → Bool) (k : Nat) : k ∈ (F.zipIdx.filter (fun q => p q.2)).map Prod.fst ↔ ∃ i, F[i]? = some k ∧ p i = true := by
  constructor
  · intro h
    obtain ⟨⟨a, i⟩, hm, rfl⟩ := List.mem_map.mp h
    obtain ⟨h1, h2⟩ := List.mem_filter.mp hm
    exact ⟨i, by simpa using List.mem_zipIdx_iff_getElem?.mp h1, h2⟩
  · rintro ⟨i, h1, h2⟩
    exact List.mem_map.mpr ⟨(k, i), List.mem_filter.mpr ⟨List.mem_zipIdx_iff_getElem?.mpr h1, h2⟩, rfl⟩
theorem sel_nodup {F : List Nat} (hF : F.Nodup) (p : Nat × Nat → Bool) : ((F.zipIdx.filter p).map Prod.fst).Nodup := by
  have h : (F.zipIdx.map Prod.fst).Nodup := by rw [List.zipIdx_map_fst]; exact hF
  exact (List.filter_sublist.map Prod.fst).nodup h
end Om.Law

/-! Ga4: the first group's stands; the sets within, of a tie's own options. -/
namespace Om.Law
open PySem PySem.Spec PyProof.Rows L2
def c_law_stand : Df := ⟨3, 7, [false, false, false], (.cons (.asg (.name 3) (.call "_law_cell_at" (.cons (.var 0) (.cons (.bop .add (.int 40) (.var 2)) .nil)))) (.cons (.asg (.name 4) (.bop .sub (.bop .shl (.int 1) (.var 1)) (.int 1))) (.cons (.asg (.name 5) (.bop .band (.bop .mod (.var 3) (.int 512)) (.var 4))) (.cons (.asg (.name 6) (.bop .band (.bop .band (.bop .fdiv (.var 3) (.int 512)) (.var 4)) (.ix (.lst (.cons (.var 4) (.cons (.bop .fdiv (.var 3) (.int 262144)) .nil))) (.bop .mod (.bop .fdiv (.var 3) (.int 7)) (.int 2))))) (.cons (.retT (.cons (.bop .sub (.var 5) (.bop .band (.var 5) (.var 6))) (.cons (.var 6) .nil))) .nil)))))⟩
def c_law_inside : Df := ⟨4, 12, [false, false, false, false], (.cons (.asg (.name 4) (.int 0)) (.cons (.cond (.cmp .inn (.ix (.var 0) (.int 0)) (.tup (.cons (.str "needs") (.cons (.str "bans") .nil)))) (.cons (.asg (.name 4) (.bop .bor (.bop .shl (.int 1) (.ix (.var 0) (.int 1))) (.bop .shl (.int 1) (.ix (.var 0) (.int 2))))) .nil) (.cons (.cond (.cmp .eq (.ix (.var 0) (.int 0)) (.str "most")) (.cons (.asg (.name 4) (.bcall .sum (.cons (.comp (.seq (.ix (.var 0) (.int 2))) (.tup (.cons (.name 9) (.cons (.name 10) .nil))) .yes (.bop .shl (.int 1) (.var 9)) [9, 10]) .nil))) .nil) (.cons (.asg (.name 4) (.bop .bor (.bcall .sum (.cons (.comp (.seq (.ix (.var 0) (.int 3))) (.name 9) .yes (.bop .shl (.int 1) (.var 9)) [9]) .nil)) (.bop .shl (.int 1) (.ix (.var 0) (.int 0))))) .nil)) .nil)) (.cons (.asg (.name 5) (.comp (.rng1 (.var 1)) (.name 9) (.test (.and (.cmp .eq (.bop .band (.bop .shr (.var 4) (.var 9)) (.int 1)) (.int 1)) (.cmp .eq (.bop .band (.bop .shr (.bop .bor (.var 2) (.var 3)) (.var 9)) (.int 1)) (.int 0)))) (.var 9) [9])) (.cons (.asg (.name 6) (.lst .nil)) (.cons (.for (.name 7) (.rng1 (.bop .shl (.int 1) (.bcall .len (.cons (.var 5) .nil)))) (.cons (.asg (.name 8) (.bop .add (.var 2) (.bcall .sum (.cons (.comp (.enum (.var 5)) (.tup (.cons (.name 11) (.cons (.name 9) .nil))) (.test (.cmp .eq (.bop .band (.bop .shr (.var 7) (.var 11)) (.int 1)) (.int 1))) (.bop .shl (.int 1) (.var 9)) [9, 11]) .nil)))) (.cons (.expr (.mut .append 6 .nil (.cons (.call "_law_keeps" (.cons (.var 0) (.cons (.var 8) .nil))) .nil))) .nil))) (.cons (.ret (.var 6)) .nil))))))⟩
structure OkStand (T : Tab) : Prop where
  m : T.mask "_law_stand" = [false, false, false]
  r : ∀ (ns : List Int) (m : Nat) (k : Int), m ≤ 9 → 0 ≤ k → k ≤ 100 → ∃ y n : Nat, y < 2 ^ m ∧ n < 2 ^ m ∧ Dis y n ∧ T.run "_law_stand" [.scr ns, .int m, .int k] = some (.ret false (.tup [.int y, .int n]) [])
theorem stand_fn {T : Tab} (C : OkCell T) (ns : List Int) (m : Nat) (k : Int) (h9 : m ≤ 9) (k0 : 0 ≤ k) (k1 : k ≤ 100) : Fn T c_law_stand [.scr ns, .int m, .int k] (fun r => ∃ y n : Nat, y < 2 ^ m ∧ n < 2 ^ m ∧ Dis y n ∧ r = .ret false (.tup [.int y, .int n]) []) := by
  obtain ⟨c, hc⟩ := C.r ns (40 + k) (by omega) (by omega)
  have hp : 0 < 2 ^ m := Nat.two_pow_pos m
  obtain ⟨full, hfull, e1⟩ : ∃ a : Nat, a = 2 ^ m - 1 ∧ (2 : Int) ^ m - 1 = (a : Int) := ⟨_, rfl, by rw [p2_nat]; omega⟩
  obtain ⟨a, e2⟩ : ∃ a : Nat, (c : Int) % 512 = (a : Int) := ⟨c % 512, by omega⟩
  obtain ⟨b, e3⟩ : ∃ a : Nat, (c : Int) / 512 = (a : Int) := ⟨c / 512, by omega⟩
  obtain ⟨d, e4⟩ : ∃ a : Nat, (c : Int) / 262144 = (a : Int) := ⟨c / 262144, by omega⟩
  obtain ⟨y0, hy⟩ : ∃ y0 : Nat, a &&& full = y0 := ⟨_, rfl⟩
  have ly : y0 < 2 ^ m := by rw [← hy]; exact Nat.lt_of_le_of_lt Nat.and_le_right (by omega)
  have fin : ∀ n : Nat, n < 2 ^ m → ∃ y n' : Nat, y < 2 ^ m ∧ n' < 2 ^ m ∧ Dis y n' ∧ (y0 : Int) - ((y0 &&& n : Nat) : Int) = (y : Int) ∧ (n : Int) = (n' : Int) := fun n hn => ⟨y0 - (y0 &&& n), n, by omega, hn, dis_sub y0 n, by have := Nat.and_le_left (n := y0) (m := n); omega, rfl⟩
  refine Fn.wpN 3 (by simp [c_law_stand]) ?_
  simp [c_law_stand, C.m, hc, powOk_1 (show m ≤ 1000 by omega), e1, e2, band_nat, hy]
  refine Wb.go ?_
  have h7 : (c : Int) / 7 % 2 = 0 ∨ (c : Int) / 7 % 2 = 1 := by omega
  rcases h7 with h7 | h7
  · simp [h7, e3, e4, band_nat]
    obtain ⟨y, n, a1, a2, a3, a4, a5⟩ := fin (b &&& full &&& full) (Nat.lt_of_le_of_lt Nat.and_le_right (by omega))
    exact ⟨y, a1, n, a2, a3, a4, a5⟩
  · simp [h7, e3, e4, band_nat]
    obtain ⟨y, n, a1, a2, a3, a4, a5⟩ := fin (b &&& full &&& d) (Nat.lt_of_le_of_lt Nat.and_le_left (Nat.lt_of_le_of_lt Nat.and_le_right (by omega)))
    exact ⟨y, a1, n, a2, a3, a4, a5⟩
/-- some options of a list, by the places -/
def sel (F : List Nat) (b : Nat) : Nat := sumPow ((F.zipIdx.filter (fun q => b.testBit q.2)).map Prod.fst)
structure OkInside (T : Tab) : Prop where
  m : T.mask "_law_inside" = [false, false, false, false]
  r : ∀ (t : Tie) (m y n : Nat), m ≤ 9 → t.wf m → y < 2 ^ m → n < 2 ^ m → Dis y n → ∃ fs : List Bool, (∀ b ∈ fs, ∃ s, InSt y n s ∧ t.keeps s = b) ∧ (∀ s, Near m y n t.own s → t.keeps s ∈ fs) ∧ T.run "_law_inside" [t.d, .int m, .int y, .int n] = some (.ret true (.lst (fs.map D.bl)) [])
theorem inside_fn {T : Tab} (L : OkLKeeps T) (t : Tie) (m y n : Nat) (h9 : m ≤ 9) (hw : t.wf m) (hy : y < 2 ^ m) (hn : n < 2 ^ m) (hd : Dis y n) : Fn T c_law_inside [t.d, .int m, .int y, .int n] (fun r => ∃ fs : List Bool, (∀ b ∈ fs, ∃ s, InSt y n s ∧ t.keeps s = b) ∧ (∀ s, Near m y n t.own s → t.keeps s ∈ fs) ∧ r = .ret true (.lst (fs.map D.bl)) []) := by
  have hsh := hw.short (by omega)
  have pw : ∀ k, k < m → powOk 1 (k : Int) = true := fun k hk => powOk_1 (by omega)
  refine Fn.wpN 1 (by simp [c_law_inside]) ?_
  simp [c_law_inside]
  refine Wb.seqX (X := Nat) (fun o => ∀ k, o.testBit k = decide (k ∈ t.own)) (fun o => ⟨[some (.sh, t.d), some (.sh, .int m), some (.sh, .int y), some (.sh, .int n), some (.sh, .int o), none, none, none, none, none, none, none], []⟩) ?_ ?_
  · cases t with
    | needs a b =>
      simp [Tie.d, pw a hw.1, pw b hw.2.1]
      refine ⟨2 ^ a ||| 2 ^ b, fun k => ?_, rfl⟩
      rw [Nat.testBit_or, Nat.testBit_two_pow, Nat.testBit_two_pow, ← Bool.decide_or]
      refine decide_eq_decide.mpr ?_
      simp [Tie.own, eq_comm]
    | bans a b =>
      simp [Tie.d, pw a hw.1, pw b hw.2.1]
      refine ⟨2 ^ a ||| 2 ^ b, fun k => ?_, rfl⟩
      rw [Nat.testBit_or, Nat.testBit_two_pow, Nat.testBit_two_pow, ← Bool.decide_or]
      refine decide_eq_decide.mpr ?_
      simp [Tie.own, eq_comm]
    | most top pairs =>
      have hf : fits pairs.length = true := fits_of (by have : pairs.length ≤ 1000 := hsh; omega)
      simp [Tie.d, hf]
      rw [collect_memA (fun p => D.int ((2 : Int) ^ p.1)) (fun p hp => by simp [pw _ (hw.2.2 p hp)])]
      simp
      refine ⟨sumPow (pairs.map Prod.fst), sumPow_bit (inc_nodup hw.2.1), ?_⟩
      rw [← sumPow_int, List.map_map]; rfl
    | bough up low high kids =>
      have hf : fits kids.length = true := fits_of (by have : kids.length ≤ 1000 := hsh; omega)
      simp [Tie.d, hf, pw up hw.1]
      rw [collect_memA (fun k => D.int ((2 : Int) ^ k)) (fun k hk => by simp [pw _ (hw.2.2.2.2.2 k hk).2])]
      simp
      have e : (kids.map (HPow.hPow (2 : Int))).sum = ((sumPow kids : Nat) : Int) := sumPow_int kids
      rw [e, bor_np]
      refine ⟨_, fun k => ?_, rfl⟩
      rw [Nat.testBit_or, sumPow_bit (inc_nodup hw.2.2.2.2.1), Nat.testBit_two_pow, ← Bool.decide_or]
      refine decide_eq_decide.mpr ?_
      simp [Tie.own, eq_comm, or_comm]
  · intro o ho
    have hfm : fits m = true := fits_of (by omega)
    simp [bit_int, hfm, show m < 4611686018427387904 by omega]
    generalize hF : List.filter _ (List.range m) = F
    have hFn : F.Nodup := by rw [← hF]; exact List.nodup_range.filter _
    have hFm : ∀ k, k ∈ F ↔ k ∈ t.own ∧ y.testBit k = false ∧ n.testBit k = false := fun k => by
      rw [← hF, List.mem_filter, List.mem_range]
      have := hw.own k
      simp [ho]
      exact fun h _ _ => this h
    have hFb : ∀ k ∈ F, k < m := fun k hk => hw.own k ((hFm k).mp hk).1
    have hFl : F.length ≤ m := by
      rw [← hF]
      have := List.length_filter_le (fun _ => true) (List.range m)
      refine Nat.le_trans (List.length_filter_le _ _) (by rw [List.length_range]; exact Nat.le_refl _)
    have hq : 2 ^ F.length ≤ 512 := Nat.le_trans (Nat.pow_le_pow_right (by omega) (show F.length ≤ 9 by omega)) (by decide)
    have hr : range62 ((2 : Int) ^ F.length) = true := by rw [p2_nat, range62_nat]; exact decide_eq_true (by omega)
    have hrn : rngD 0 ((2 : Int) ^ F.length) = (List.range (2 ^ F.length)).map fun i => D.int (i : Nat) := by rw [p2_nat, rngD_0]
    have hfF : fits F.length = true := fits_of (by omega)
    refine Wb.forX2 (X := List Bool × Mo) (is := List.range (2 ^ F.length)) (h := fun k : Nat => D.int (k : Int)) (fun pre x => x.1 = pre.map (fun b => t.keeps (y + sel F b)) ∧ (x.2 = .ow ∨ x.2 = .sh)) (fun x => ⟨[some (.sh, t.d), some (.sh, .int m), some (.sh, .int y), some (.sh, .int n), some (.sh, .int o), some (x.2, .lst (optL F)), some (.ow, .lst (x.1.map D.bl)), none, none, none, none, none], []⟩) ([], .ow) (by simp [powOk_1 (show F.length ≤ 1000 by omega), hr, hrn]; rfl) ⟨rfl, .inl rfl⟩ (by simp) ?_ ?_
    · rintro pre b suf ⟨fs, mo⟩ hx ⟨hfs, hmo⟩
      have hb := range_at hx
      have hl : fs.length < 16777216 := by
        rw [show fs = _ from hfs, List.length_map]
        omega
      obtain ⟨s, hs⟩ : ∃ s : Nat, s = y + sel F b := ⟨_, rfl⟩
      have es : (y : Int) + ((F.zipIdx.filter (fun q => b.testBit q.2)).map (fun q => (2 : Int) ^ q.1)).sum = (s : Int) := by
        rw [hs]
        unfold sel
        push_cast
        rw [← sumPow_int, List.map_map]; rfl
      have hk : ∀ q ∈ F.zipIdx, powOk 1 (q.1 : Int) = true := fun q hq => pw _ (hFb _ (List.mem_of_getElem? (List.mem_zipIdx_iff_getElem?.mp hq)))
      replace hfs : fs = pre.map (fun b => t.keeps (y + sel F b)) := hfs
      rcases hmo with rfl | rfl
      · simp [hfF, L.m, bit_int]
        rw [collect_memI (fun q => b.testBit q.2) (fun q => D.int ((2 : Int) ^ q.1)) (fun q hq => by simp [hk q hq])]
        simp [es, L.m, L.r t s hsh, hl]
        exact ⟨fs ++ [t.keeps s], .sh, ⟨by rw [hfs, hs], .inr rfl⟩, by simp⟩
      · simp [hfF, L.m, bit_int]
        rw [collect_memI (fun q => b.testBit q.2) (fun q => D.int ((2 : Int) ^ q.1)) (fun q hq => by simp [hk q hq])]
        simp [es, L.m, L.r t s hsh, hl]
        exact ⟨fs ++ [t.keeps s], .sh, ⟨by rw [hfs, hs], .inr rfl⟩, by simp⟩
    · rintro ⟨fs, mo⟩ ⟨rfl, hmo⟩
      simp
      have bits : ∀ b k, (y + sel F b).testBit k = true ↔ (y.testBit k = true ∨ ∃ i, F[i]? = some k ∧ b.testBit i = true) := fun b k => by
        unfold sel
        rw [add_bit, sumPow_bit (sel_nodup hFn _), Bool.or_eq_true, decide_eq_true_eq, sel_mem hFn (fun i => b.testBit i) k]
        intro k hk
        rw [sumPow_bit (sel_nodup hFn _)]
        refine decide_eq_false fun h => ?_
        obtain ⟨i, h1, _⟩ := (sel_mem hFn (fun i => b.testBit i) k).mp h
        have := ((hFm k).mp (List.mem_of_getElem? h1)).2.1
        rw [hk] at this; cases this
      have inn : ∀ b, InSt y n (y + sel F b) := fun b k => by
        refine ⟨fun h => (bits b k).mpr (.inl h), fun h => ?_⟩
        cases hs : (y + sel F b).testBit k with
        | false => rfl
        | true =>
          rcases (bits b k).mp hs with h' | ⟨i, h1, _⟩
          · rw [hd k h'] at h; cases h
          · have := ((hFm k).mp (List.mem_of_getElem? h1)).2.2
            rw [h] at this; cases this
      have out : ∀ s, Near m y n t.own s → ∃ b, b < 2 ^ F.length ∧ y + sel F b = s := fun s hs => by
        refine ⟨mk (fun i => match F[i]? with
          | some k => s.testBit k
          | none => false) F.length, mk_lt _ _, Nat.eq_of_testBit_eq fun k => Bool.eq_iff_iff.mpr ((bits _ k).trans ⟨fun h => ?_, fun hsk => ?_⟩)⟩
        · rcases h with h | ⟨i, hi, hb⟩
          · exact (hs.st k).1 h
          · rw [mk_bit, hi, Bool.and_eq_true] at hb
            exact hb.2
        · cases hyk : y.testBit k with
          | true => exact .inl rfl
          | false =>
            have hkF : k ∈ F := by
              refine (hFm k).mpr ⟨?_, hyk, ?_⟩
              · rcases hs.ex k hsk with h | h
                · rw [hyk] at h; cases h
                · exact h
              · cases hnk : n.testBit k with
                | false => rfl
                | true => rw [(hs.st k).2 hnk] at hsk; cases hsk
            obtain ⟨i, hi⟩ := List.mem_iff_getElem?.mp hkF
            refine .inr ⟨i, hi, ?_⟩
            rw [mk_bit, hi, decide_eq_true (List.getElem?_eq_some_iff.mp hi).1]
            exact hsk
      refine ⟨(List.range (2 ^ F.length)).map (fun b => t.keeps (y + sel F b)), ⟨?_, ?_⟩, ?_, by simp⟩
      · intro h
        obtain ⟨b, _, e⟩ := List.mem_map.mp h
        exact ⟨_, inn b, e⟩
      · intro h
        obtain ⟨b, _, e⟩ := List.mem_map.mp h
        exact ⟨_, inn b, e⟩
      · intro s hs
        obtain ⟨b, h1, h2⟩ := out s hs
        exact List.mem_map.mpr ⟨b, List.mem_range.mpr h1, by rw [h2]⟩
end Om.Law

/-! Up1: the specs at a program's tables. -/
namespace Om.Law
open PySem PySem.Spec PyProof.Rows L2
section
variable {P : Pg}
theorem mkHas (h : P.defs.lookup ("has" : Str) = some chas) (n : Nat) : OkHas (P.nt (n + 1)) := ⟨(nt_mask h _).trans rfl, fun s k => (has_fn _ s k).run h⟩
theorem mkMany (h : P.defs.lookup ("many_in" : Str) = some cmany_in) (H : ∀ n, OkHas (P.nt (n + 1))) (n : Nat) : OkMany (P.nt (n + 2)) := ⟨(nt_mask h _).trans rfl, fun a b c => (many_fn (H n) a b c).run h⟩
theorem mkKb (h : P.defs.lookup ("keeps_bough" : Str) = some ckeeps_bough) (H : ∀ n, OkHas (P.nt (n + 1))) (M : ∀ n, OkMany (P.nt (n + 2))) (n : Nat) : OkKb (P.nt (n + 3)) := ⟨(nt_mask h _).trans rfl, fun a b c d s x => (kb_fn (H _) (M n) a b c d s x).run h⟩
theorem mkKeeps (h : P.defs.lookup ("keeps" : Str) = some ckeeps) (H : ∀ n, OkHas (P.nt (n + 1))) (K : ∀ n, OkKb (P.nt (n + 3))) (n : Nat) : OkKeeps (P.nt (n + 4)) := ⟨(nt_mask h _).trans rfl, fun a b c => (keeps_fn (H _) (K n) a b c).run h⟩
theorem mkBb (h : P.defs.lookup ("bough_broken" : Str) = some cbough_broken) (H : ∀ n, OkHas (P.nt (n + 1))) (M : ∀ n, OkMany (P.nt (n + 2))) (n : Nat) : OkBb (P.nt (n + 3)) := ⟨(nt_mask h _).trans rfl, fun a b c d s x y => (bb_fn (H _) (M n) a b c d s x y).run h⟩
theorem mkBk (h : P.defs.lookup ("bough_kept" : Str) = some cbough_kept) (H : ∀ n, OkHas (P.nt (n + 1))) (M : ∀ n, OkMany (P.nt (n + 2))) (n : Nat) : OkBk (P.nt (n + 3)) := ⟨(nt_mask h _).trans rfl, fun a b c d s x y => (bk_fn (H _) (M n) a b c d s x y).run h⟩
theorem mkLs (h : P.defs.lookup ("least_sum" : Str) = some cleast_sum) (H : ∀ n, OkHas (P.nt (n + 1))) (n : Nat) : OkLs (P.nt (n + 2)) := ⟨(nt_mask h _).trans rfl, fun a b c d => (ls_fn (H _) a b c d).run h⟩
theorem mkGs (h : P.defs.lookup ("greatest_sum" : Str) = some cgreatest_sum) (H : ∀ n, OkHas (P.nt (n + 1))) (n : Nat) : OkGs (P.nt (n + 2)) := ⟨(nt_mask h _).trans rfl, fun a b c d => (gs_fn (H _) a b c d).run h⟩
theorem mkSb (h : P.defs.lookup ("sure_broken" : Str) = some csure_broken) (H : ∀ n, OkHas (P.nt (n + 1))) (B : ∀ n, OkBb (P.nt (n + 3))) (L : ∀ n, OkLs (P.nt (n + 2))) (n : Nat) : OkSb (P.nt (n + 4)) := ⟨(nt_mask h _).trans rfl, fun a b c d => (sb_fn (H _) (B n) (L _) a b c d).run h⟩
theorem mkSk (h : P.defs.lookup ("sure_kept" : Str) = some csure_kept) (H : ∀ n, OkHas (P.nt (n + 1))) (B : ∀ n, OkBk (P.nt (n + 3))) (L : ∀ n, OkGs (P.nt (n + 2))) (n : Nat) : OkSk (P.nt (n + 4)) := ⟨(nt_mask h _).trans rfl, fun a b c d => (sk_fn (H _) (B n) (L _) a b c d).run h⟩
/-! the first group -/
theorem mkCell (h : P.defs.lookup ("_law_cell_at" : Str) = some c_law_cell_at) (n : Nat) : OkCell (P.nt (n + 1)) := ⟨(nt_mask h _).trans rfl, fun ns k h0 h1 => by
  obtain ⟨r, e, c, rfl⟩ := (cell_fn (P.nt n) ns k h0 h1).up h
  exact ⟨c, e⟩⟩
theorem mkLKeeps (h : P.defs.lookup ("_law_keeps" : Str) = some c_law_keeps) (n : Nat) : OkLKeeps (P.nt (n + 1)) := ⟨(nt_mask h _).trans rfl, fun t s x => (lkeeps_fn _ t s x).run h⟩
theorem mkMany0 (h : P.defs.lookup ("_law_many" : Str) = some c_law_many) (C : ∀ n, OkCell (P.nt (n + 1))) (n : Nat) : OkMany0 (P.nt (n + 2)) := ⟨(nt_mask h _).trans rfl, fun ns => by
  obtain ⟨r, e, c, h1, h2, rfl⟩ := (many0_fn (C n) ns).up h
  exact ⟨c, h1, h2, e⟩⟩
theorem mkTie (h : P.defs.lookup ("_law_tie" : Str) = some c_law_tie) (n : Nat) : OkTie (P.nt (n + 1)) := ⟨(nt_mask h _).trans rfl, fun c m h1 h2 => by
  obtain ⟨r, e, t, h3, h4, rfl⟩ := (tie_fn (P.nt n) c m h1 h2).up h
  exact ⟨t, h3, h4, e⟩⟩
theorem mkCross (h : P.defs.lookup ("_law_cross" : Str) = some c_law_cross) (C : ∀ n, OkCell (P.nt (n + 1))) (L : ∀ n, OkTie (P.nt (n + 1))) (n : Nat) : OkCross (P.nt (n + 2)) := ⟨(nt_mask h _).trans rfl, fun ns m h1 h2 => by
  obtain ⟨r, e, t, h3, h4, rfl⟩ := (cross_fn (C n) (L n) ns m h1 h2).up h
  exact ⟨t, h3, h4, e⟩⟩
theorem mkBoughs (h : P.defs.lookup ("_law_boughs" : Str) = some c_law_boughs) (C : ∀ n, OkCell (P.nt (n + 1))) (n : Nat) : OkBoughs (P.nt (n + 2)) := ⟨(nt_mask h _).trans rfl, fun ns m h1 h2 => by
  obtain ⟨r, e, t, h3, h4, h5, rfl⟩ := (boughs_fn (C n) ns m h1 h2).up h
  exact ⟨t, h3, h4, h5, e⟩⟩
theorem mkStand (h : P.defs.lookup ("_law_stand" : Str) = some c_law_stand) (C : ∀ n, OkCell (P.nt (n + 1))) (n : Nat) : OkStand (P.nt (n + 2)) := ⟨(nt_mask h _).trans rfl, fun ns m k h1 h2 h3 => by
  obtain ⟨r, e, y, z, a, b, c, rfl⟩ := (stand_fn (C n) ns m k h1 h2 h3).up h
  exact ⟨y, z, a, b, c, e⟩⟩
theorem mkInside (h : P.defs.lookup ("_law_inside" : Str) = some c_law_inside) (L : ∀ n, OkLKeeps (P.nt (n + 1))) (n : Nat) : OkInside (P.nt (n + 2)) := ⟨(nt_mask h _).trans rfl, fun t m y z h1 h2 h3 h4 h5 => by
  obtain ⟨r, e, fs, a, b, rfl⟩ := (inside_fn (L n) t m y z h1 h2 h3 h4 h5).up h
  exact ⟨fs, a, b, e⟩⟩
end
end Om.Law

/-! L12: law k12. -/
namespace Om.Law
open PySem PySem.Spec PyProof.Rows L2
def claw : Df := ⟨1, 10, [false], (.cons (.asg (.name 1) (.call "_law_many" (.cons (.var 0) .nil))) (.cons (.asg (.name 2) (.bop .add (.call "_law_boughs" (.cons (.var 0) (.cons (.var 1) .nil))) (.call "_law_cross" (.cons (.var 0) (.cons (.var 1) .nil))))) (.cons (.for (.name 3) (.rng1 (.int 8)) (.cons (.asg (.tup (.cons (.name 5) (.cons (.name 6) .nil))) (.call "_law_stand" (.cons (.var 0) (.cons (.var 1) (.cons (.var 3) .nil))))) (.cons (.cond (.cmp .eq (.var 3) (.int 7)) (.cons (.par 5 6 (.cons (.bop .band (.var 5) (.int 3)) (.cons (.int 0) .nil))) .nil) .nil) (.cons (.for (.name 4) (.seq (.var 2)) (.cons (.asg (.name 7) (.call "_law_inside" (.cons (.var 4) (.cons (.var 1) (.cons (.var 5) (.cons (.var 6) .nil)))))) (.cons (.asg (.name 8) (.call "sure_broken" (.cons (.var 4) (.cons (.var 5) (.cons (.var 6) .nil))))) (.cons (.asg (.name 9) (.call "sure_kept" (.cons (.var 4) (.cons (.var 5) (.cons (.var 6) .nil))))) (.cons (.cond (.or (.not (.isi (.var 8) .bool)) (.not (.isi (.var 9) .bool))) (.cons (.ret (.bl false)) .nil) .nil) (.cons (.cond (.or (.cmp .ne (.var 8) (.cmp .nin (.bl true) (.var 7))) (.cmp .ne (.var 9) (.cmp .nin (.bl false) (.var 7)))) (.cons (.ret (.bl false)) .nil) .nil) .nil)))))) .nil)))) (.cons (.ret (.bl true)) .nil))))⟩
theorem sure_in {t : Tie} {m y n : Nat} {fs : List Bool} (hw : t.wf m) (hy : y < 2 ^ m) (hd : Dis y n) (h1 : ∀ b ∈ fs, ∃ s, InSt y n s ∧ t.keeps s = b) (h2 : ∀ s, Near m y n t.own s → t.keeps s ∈ fs) : t.broken y n = (!decide (true ∈ fs)) ∧ t.kept y n = (!decide (false ∈ fs)) := by
  constructor
  · cases hb : t.broken y n with
    | true =>
      rw [decide_eq_false fun h => ?_]; rfl
      obtain ⟨s, hs, e⟩ := h1 _ h
      rw [broken_all hw hb hs] at e; cases e
    | false =>
      obtain ⟨s, hs, e⟩ := broken_not hw hy hd hb
      rw [decide_eq_true (by rw [← e]; exact h2 s hs)]; rfl
  · cases hb : t.kept y n with
    | true =>
      rw [decide_eq_false fun h => ?_]; rfl
      obtain ⟨s, hs, e⟩ := h1 _ h
      rw [kept_all hw hb hs] at e; cases e
    | false =>
      obtain ⟨s, hs, e⟩ := kept_not hw hy hd hb
      rw [decide_eq_true (by rw [← e]; exact h2 s hs)]; rfl
theorem law_fn {T : Tab} (M : OkMany0 T) (B : OkBoughs T) (X : OkCross T) (S : OkStand T) (I : OkInside T) (Sb : OkSb T) (Sk : OkSk T) (ns : List Int) : Fn T claw [.scr ns] (fun r => r = .ret false (.bl true) []) := by
  obtain ⟨m, m1, m9, hm⟩ := M.r ns
  obtain ⟨bs, hb, hbp, hbl, hbr⟩ := B.r ns m m1 m9
  obtain ⟨cr, hc, hcl, hcr⟩ := X.r ns m m1 m9
  have hwf : ∀ t ∈ bs ++ cr, t.wf m := fun t ht => by
    rcases List.mem_append.mp ht with h | h
    · exact (hb t h).2
    · exact (hc t h).2
  have hf : fits (bs.length + cr.length) = true := fits_of (by omega)
  refine Fn.wp (by simp [claw]) ?_
  simp [claw, M.m, hm, B.m, X.m, hbr, hcr, hf]
  refine Wb.forZB (is := List.range 8) (h := fun k : Nat => D.int (k : Int)) (fun _ => ⟨[some (.sh, .scr ns), some (.sh, .int m), some (.ow, .lst ((bs ++ cr).map Tie.d)), none, none, none, none, none, none, none], []⟩) (by simp; rfl) (by simp) ?_ ?_
  · intro pre k suf e
    have hk := range_at e
    obtain ⟨y0, n0, hy0, hn0, hd0, hs⟩ := S.r ns m k m9 (by omega) (by omega)
    simp
    refine Wb.goN 1 ?_
    simp [S.m, hs]
    refine Wb.seqX (X := Nat × Nat) (fun x => x.1 < 2 ^ m ∧ x.2 < 2 ^ m ∧ Dis x.1 x.2) (fun x => ⟨[some (.sh, .scr ns), some (.sh, .int m), some (.ow, .lst ((bs ++ cr).map Tie.d)), none, none, some (.sh, .int x.1), some (.sh, .int x.2), none, none, none], []⟩) ?_ ?_
    · simp
      refine ⟨fun h7 => ?_, fun h7 => ?_⟩
      · refine ⟨y0 &&& 3, ⟨Nat.lt_of_le_of_lt Nat.and_le_left hy0, Nat.two_pow_pos m, fun k _ => Nat.zero_testBit k⟩, (band_nat y0 3).symm⟩
      · exact ⟨y0, n0, ⟨hy0, hn0, hd0⟩, rfl, rfl⟩
    · rintro ⟨y, n⟩ ⟨hy, hn, hd⟩
      simp
      refine Wb.forL2 (X := Unit) (is := bs ++ cr) (h := Tie.d) (mo := .sh) (lk := some 2) (fun _ _ => True) (fun _ => ⟨[some (.sh, .scr ns), some (.sh, .int m), some (.lk, .lst ((bs ++ cr).map Tie.d)), none, none, some (.sh, .int y), some (.sh, .int n), none, none, none], []⟩) () (by simp; rfl) trivial (by simp) ?_ ?_
      · intro pre t suf _ e2 _
        have ht := hwf t (by rw [e2]; simp)
        have hts := ht.short (show m ≤ 1000 by omega)
        obtain ⟨fs, f1, f2, hi⟩ := I.r t m y n m9 ht hy hn hd
        obtain ⟨s1, s2⟩ := sure_in ht hy hd f1 f2
        simp [I.m, hi, Sb.m, Sb.r t y n hts, Sk.m, Sk.r t y n hts, s1, s2]
      · simp
  · refine Wb.go ?_
    simp
end Om.Law

namespace Om.Law
open PySem PySem.Spec PyProof.Rows L2
def tp (i : Nat) : Stmt := PySem.Challenge.pw_optionwood_k12_broken_and_kept_for_sure.main.body.getD i (.Pass ⟨0, 0, 0, 0⟩)
def pg : Pg := ⟨[("has", chas), ("many_in", cmany_in), ("bough_broken", cbough_broken), ("bough_kept", cbough_kept), ("least_sum", cleast_sum), ("greatest_sum", cgreatest_sum), ("sure_broken", csure_broken), ("sure_kept", csure_kept), ("_law_cell_at", c_law_cell_at), ("_law_boughs", c_law_boughs), ("_law_tie", c_law_tie), ("_law_cross", c_law_cross), ("_law_many", c_law_many), ("_law_keeps", c_law_keeps), ("_law_stand", c_law_stand), ("_law_inside", c_law_inside), ("law", claw)], []⟩
theorem lkhas : pg.defs.lookup ("has" : Str) = some chas := rfl
theorem lkmany_in : pg.defs.lookup ("many_in" : Str) = some cmany_in := rfl
theorem lkbough_broken : pg.defs.lookup ("bough_broken" : Str) = some cbough_broken := rfl
theorem lkbough_kept : pg.defs.lookup ("bough_kept" : Str) = some cbough_kept := rfl
theorem lkleast_sum : pg.defs.lookup ("least_sum" : Str) = some cleast_sum := rfl
theorem lkgreatest_sum : pg.defs.lookup ("greatest_sum" : Str) = some cgreatest_sum := rfl
theorem lksure_broken : pg.defs.lookup ("sure_broken" : Str) = some csure_broken := rfl
theorem lksure_kept : pg.defs.lookup ("sure_kept" : Str) = some csure_kept := rfl
theorem lk_law_cell_at : pg.defs.lookup ("_law_cell_at" : Str) = some c_law_cell_at := rfl
theorem lk_law_boughs : pg.defs.lookup ("_law_boughs" : Str) = some c_law_boughs := rfl
theorem lk_law_tie : pg.defs.lookup ("_law_tie" : Str) = some c_law_tie := rfl
theorem lk_law_cross : pg.defs.lookup ("_law_cross" : Str) = some c_law_cross := rfl
theorem lk_law_many : pg.defs.lookup ("_law_many" : Str) = some c_law_many := rfl
theorem lk_law_keeps : pg.defs.lookup ("_law_keeps" : Str) = some c_law_keeps := rfl
theorem lk_law_stand : pg.defs.lookup ("_law_stand" : Str) = some c_law_stand := rfl
theorem lk_law_inside : pg.defs.lookup ("_law_inside" : Str) = some c_law_inside := rfl
theorem lklaw : pg.defs.lookup ("law" : Str) = some claw := rfl
def bl : List Str := ["len", "sum", "max", "tuple", "int", "range", "isinstance", "bool", "enumerate"]
def fns : List Str := ["has", "many_in", "bough_broken", "bough_kept", "least_sum", "greatest_sum", "sure_broken", "sure_kept", "_law_cell_at", "_law_boughs", "_law_tie", "_law_cross", "_law_many", "_law_keeps", "_law_stand", "_law_inside"]
def exs : List Str := []
def nhas : List Str := ["some", "k"]
theorem schas : FnScope nhas ["some", "k"] (defScope (tp 1)) := ⟨rfl, rfl, rfl, by decide +kernel, rfl, by decide +kernel, by decide +kernel⟩
theorem ckhas : ckBody ⟨nhas, defScope (tp 1), fun _ => true, maskIx chas.mask 0, bl, fns, exs⟩ chas.body (defBody (tp 1)) = true := by decide +kernel
def nmany_in : List Str := ["kids", "some", "kid"]
theorem scmany_in : FnScope nmany_in ["kids", "some"] (defScope (tp 3)) := ⟨rfl, rfl, rfl, by decide +kernel, rfl, by decide +kernel, by decide +kernel⟩
theorem ckmany_in : ckBody ⟨nmany_in, defScope (tp 3), fun _ => true, maskIx cmany_in.mask 0, bl, fns, exs⟩ cmany_in.body (defBody (tp 3)) = true := by decide +kernel
def nbough_broken : List Str := ["bough", "yes", "no", "there", "may", "up", "low", "high", "kids"]
theorem scbough_broken : FnScope nbough_broken ["bough", "yes", "no"] (defScope (tp 4)) := ⟨rfl, rfl, rfl, by decide +kernel, rfl, by decide +kernel, by decide +kernel⟩
theorem ckbough_broken : ckBody ⟨nbough_broken, defScope (tp 4), fun _ => true, maskIx cbough_broken.mask 0, bl, fns, exs⟩ cbough_broken.body (defBody (tp 4)) = true := by decide +kernel
def nbough_kept : List Str := ["bough", "yes", "no", "there", "may", "up", "low", "high", "kids"]
theorem scbough_kept : FnScope nbough_kept ["bough", "yes", "no"] (defScope (tp 5)) := ⟨rfl, rfl, rfl, by decide +kernel, rfl, by decide +kernel, by decide +kernel⟩
theorem ckbough_kept : ckBody ⟨nbough_kept, defScope (tp 5), fun _ => true, maskIx cbough_kept.mask 0, bl, fns, exs⟩ cbough_kept.body (defBody (tp 5)) = true := by decide +kernel
def nleast_sum : List Str := ["pairs", "yes", "no", "k", "number"]
theorem scleast_sum : FnScope nleast_sum ["pairs", "yes", "no"] (defScope (tp 6)) := ⟨rfl, rfl, rfl, by decide +kernel, rfl, by decide +kernel, by decide +kernel⟩
theorem ckleast_sum : ckBody ⟨nleast_sum, defScope (tp 6), fun _ => true, maskIx cleast_sum.mask 0, bl, fns, exs⟩ cleast_sum.body (defBody (tp 6)) = true := by decide +kernel
def ngreatest_sum : List Str := ["pairs", "yes", "no", "k", "number"]
theorem scgreatest_sum : FnScope ngreatest_sum ["pairs", "yes", "no"] (defScope (tp 7)) := ⟨rfl, rfl, rfl, by decide +kernel, rfl, by decide +kernel, by decide +kernel⟩
theorem ckgreatest_sum : ckBody ⟨ngreatest_sum, defScope (tp 7), fun _ => true, maskIx cgreatest_sum.mask 0, bl, fns, exs⟩ cgreatest_sum.body (defBody (tp 7)) = true := by decide +kernel
def nsure_broken : List Str := ["tie", "yes", "no", "word", "one", "other"]
theorem scsure_broken : FnScope nsure_broken ["tie", "yes", "no"] (defScope (tp 8)) := ⟨rfl, rfl, rfl, by decide +kernel, rfl, by decide +kernel, by decide +kernel⟩
theorem cksure_broken : ckBody ⟨nsure_broken, defScope (tp 8), fun _ => true, maskIx csure_broken.mask 0, bl, fns, exs⟩ csure_broken.body (defBody (tp 8)) = true := by decide +kernel
def nsure_kept : List Str := ["tie", "yes", "no", "word", "one", "other"]
theorem scsure_kept : FnScope nsure_kept ["tie", "yes", "no"] (defScope (tp 9)) := ⟨rfl, rfl, rfl, by decide +kernel, rfl, by decide +kernel, by decide +kernel⟩
theorem cksure_kept : ckBody ⟨nsure_kept, defScope (tp 9), fun _ => true, maskIx csure_kept.mask 0, bl, fns, exs⟩ csure_kept.body (defBody (tp 9)) = true := by decide +kernel
def n_law_cell_at : List Str := ["_law_script", "_law_k", "_law_number"]
theorem sc_law_cell_at : FnScope n_law_cell_at ["_law_script", "_law_k"] (defScope (tp 11)) := ⟨rfl, rfl, rfl, by decide +kernel, rfl, by decide +kernel, by decide +kernel⟩
theorem ck_law_cell_at : ckBody ⟨n_law_cell_at, defScope (tp 11), fun _ => true, maskIx c_law_cell_at.mask 0, bl, fns, exs⟩ c_law_cell_at.body (defBody (tp 11)) = true := by decide +kernel
def n_law_boughs : List Str := ["_law_script", "_law_many_here", "_law_groups", "_law_k", "_law_turn", "_law_boughs_here", "_law_cell", "_law_up", "_law_there", "_law_kids", "_law_high", "_law_group"]
theorem sc_law_boughs : FnScope n_law_boughs ["_law_script", "_law_many_here"] (defScope (tp 12)) := ⟨rfl, rfl, rfl, by decide +kernel, rfl, by decide +kernel, by decide +kernel⟩
theorem ck_law_boughs : ckBody ⟨n_law_boughs, defScope (tp 12), fun _ => true, maskIx c_law_boughs.mask 0, bl, fns, exs⟩ c_law_boughs.body (defBody (tp 12)) = true := by decide +kernel
def n_law_tie : List Str := ["_law_cell", "_law_many_here", "_law_one", "_law_other", "_law_some", "_law_pairs", "_law_k", "_law_top", "_law_number"]
theorem sc_law_tie : FnScope n_law_tie ["_law_cell", "_law_many_here"] (defScope (tp 13)) := ⟨rfl, rfl, rfl, by decide +kernel, rfl, by decide +kernel, by decide +kernel⟩
theorem ck_law_tie : ckBody ⟨n_law_tie, defScope (tp 13), fun _ => true, maskIx c_law_tie.mask 0, bl, fns, exs⟩ c_law_tie.body (defBody (tp 13)) = true := by decide +kernel
def n_law_cross : List Str := ["_law_script", "_law_many_here", "_law_count", "_law_k"]
theorem sc_law_cross : FnScope n_law_cross ["_law_script", "_law_many_here"] (defScope (tp 14)) := ⟨rfl, rfl, rfl, by decide +kernel, rfl, by decide +kernel, by decide +kernel⟩
theorem ck_law_cross : ckBody ⟨n_law_cross, defScope (tp 14), fun _ => true, maskIx c_law_cross.mask 0, bl, fns, exs⟩ c_law_cross.body (defBody (tp 14)) = true := by decide +kernel
def n_law_many : List Str := ["_law_script", "_law_cell"]
theorem sc_law_many : FnScope n_law_many ["_law_script"] (defScope (tp 15)) := ⟨rfl, rfl, rfl, by decide +kernel, rfl, by decide +kernel, by decide +kernel⟩
theorem ck_law_many : ckBody ⟨n_law_many, defScope (tp 15), fun _ => true, maskIx c_law_many.mask 0, bl, fns, exs⟩ c_law_many.body (defBody (tp 15)) = true := by decide +kernel
def n_law_keeps : List Str := ["_law_tie_here", "_law_some", "_law_count", "_law_k", "_law_summed", "_law_number"]
theorem sc_law_keeps : FnScope n_law_keeps ["_law_tie_here", "_law_some"] (defScope (tp 16)) := ⟨rfl, rfl, rfl, by decide +kernel, rfl, by decide +kernel, by decide +kernel⟩
theorem ck_law_keeps : ckBody ⟨n_law_keeps, defScope (tp 16), fun _ => true, maskIx c_law_keeps.mask 0, bl, fns, exs⟩ c_law_keeps.body (defBody (tp 16)) = true := by decide +kernel
def n_law_stand : List Str := ["_law_script", "_law_many_here", "_law_k", "_law_cell", "_law_full", "_law_yes", "_law_no"]
theorem sc_law_stand : FnScope n_law_stand ["_law_script", "_law_many_here", "_law_k"] (defScope (tp 17)) := ⟨rfl, rfl, rfl, by decide +kernel, rfl, by decide +kernel, by decide +kernel⟩
theorem ck_law_stand : ckBody ⟨n_law_stand, defScope (tp 17), fun _ => true, maskIx c_law_stand.mask 0, bl, fns, exs⟩ c_law_stand.body (defBody (tp 17)) = true := by decide +kernel
def n_law_inside : List Str := ["_law_tie_here", "_law_many_here", "_law_yes", "_law_no", "_law_own", "_law_free", "_law_found", "_law_bits", "_law_some", "_law_k", "_law_number", "_law_at"]
theorem sc_law_inside : FnScope n_law_inside ["_law_tie_here", "_law_many_here", "_law_yes", "_law_no"] (defScope (tp 18)) := ⟨rfl, rfl, rfl, by decide +kernel, rfl, by decide +kernel, by decide +kernel⟩
theorem ck_law_inside : ckBody ⟨n_law_inside, defScope (tp 18), fun _ => true, maskIx c_law_inside.mask 0, bl, fns, exs⟩ c_law_inside.body (defBody (tp 18)) = true := by decide +kernel
def nlaw : List Str := ["_law_script", "_law_many_here", "_law_ties", "_law_k", "_law_tie_here", "_law_yes", "_law_no", "_law_kept", "_law_broken", "_law_sure"]
theorem sclaw : FnScope nlaw ["_law_script"] (defScope (tp 19)) := ⟨rfl, rfl, rfl, by decide +kernel, rfl, by decide +kernel, by decide +kernel⟩
theorem cklaw : ckBody ⟨nlaw, defScope (tp 19), fun _ => true, maskIx claw.mask 0, bl, fns, exs⟩ claw.body (defBody (tp 19)) = true := by decide +kernel
set_option maxHeartbeats 0 in
theorem all_mk {w : World} {K : PySem.W.Frag} {h : Heap} {mg : Str → Option Value} {fa : Addr} (X : K.In h) (G : h.Ns mainGlobals mg) (hfa : mg "law" = some (.ref fa))
    {f0 f1 f2 f3 f4 f5 f6 f7 f8 f9 f10 f11 f12 f13 f14 f15 f16 : Addr}
    {od0 an0 od1 an1 od2 an2 od3 an3 od4 an4 od5 an5 od6 an6 od7 an7 od8 an8 od9 an9 od10 an10 od11 an11 od12 an12 od13 an13 od14 an14 od15 an15 od16 an16 : Option Addr} {sl0 sl1 sl2 sl3 sl4 sl5 sl6 sl7 sl8 sl9 sl10 sl11 sl12 sl13 sl14 sl15 sl16 : Array (Option Value)} {oc0 kV0 dc0 pm0 cd0 ct0 oc1 kV1 dc1 pm1 cd1 ct1 oc2 kV2 dc2 pm2 cd2 ct2 oc3 kV3 dc3 pm3 cd3 ct3 oc4 kV4 dc4 pm4 cd4 ct4 oc5 kV5 dc5 pm5 cd5 ct5 oc6 kV6 dc6 pm6 cd6 ct6 oc7 kV7 dc7 pm7 cd7 ct7 oc8 kV8 dc8 pm8 cd8 ct8 oc9 kV9 dc9 pm9 cd9 ct9 oc10 kV10 dc10 pm10 cd10 ct10 oc11 kV11 dc11 pm11 cd11 ct11 oc12 kV12 dc12 pm12 cd12 ct12 oc13 kV13 dc13 pm13 cd13 ct13 oc14 kV14 dc14 pm14 cd14 ct14 oc15 kV15 dc15 pm15 cd15 ct15 oc16 kV16 dc16 pm16 cd16 ct16 : Value}
    (a0 : PySem.W.nsIn K mainGlobals "has" = some (some (.ref f0))) (l0 : K.lookup f0 = some ⟨oc0, od0, .func (PySem.W.fnOf "has" "has" (defArgs (tp 1)) (defBody (tp 1)) (defScope (tp 1)) .none kV0 dc0 pm0 an0 cd0 ct0), sl0⟩) (c0 : PySem.W.codeIn K cd0 "has" = true) (k0 : PySem.W.keepIn K (.ref f0) = true)
    (a1 : PySem.W.nsIn K mainGlobals "many_in" = some (some (.ref f1))) (l1 : K.lookup f1 = some ⟨oc1, od1, .func (PySem.W.fnOf "many_in" "many_in" (defArgs (tp 3)) (defBody (tp 3)) (defScope (tp 3)) .none kV1 dc1 pm1 an1 cd1 ct1), sl1⟩) (c1 : PySem.W.codeIn K cd1 "many_in" = true) (k1 : PySem.W.keepIn K (.ref f1) = true)
    (a2 : PySem.W.nsIn K mainGlobals "bough_broken" = some (some (.ref f2))) (l2 : K.lookup f2 = some ⟨oc2, od2, .func (PySem.W.fnOf "bough_broken" "bough_broken" (defArgs (tp 4)) (defBody (tp 4)) (defScope (tp 4)) .none kV2 dc2 pm2 an2 cd2 ct2), sl2⟩) (c2 : PySem.W.codeIn K cd2 "bough_broken" = true) (k2 : PySem.W.keepIn K (.ref f2) = true)
    (a3 : PySem.W.nsIn K mainGlobals "bough_kept" = some (some (.ref f3))) (l3 : K.lookup f3 = some ⟨oc3, od3, .func (PySem.W.fnOf "bough_kept" "bough_kept" (defArgs (tp 5)) (defBody (tp 5)) (defScope (tp 5)) .none kV3 dc3 pm3 an3 cd3 ct3), sl3⟩) (c3 : PySem.W.codeIn K cd3 "bough_kept" = true) (k3 : PySem.W.keepIn K (.ref f3) = true)
    (a4 : PySem.W.nsIn K mainGlobals "least_sum" = some (some (.ref f4))) (l4 : K.lookup f4 = some ⟨oc4, od4, .func (PySem.W.fnOf "least_sum" "least_sum" (defArgs (tp 6)) (defBody (tp 6)) (defScope (tp 6)) .none kV4 dc4 pm4 an4 cd4 ct4), sl4⟩) (c4 : PySem.W.codeIn K cd4 "least_sum" = true) (k4 : PySem.W.keepIn K (.ref f4) = true)
    (a5 : PySem.W.nsIn K mainGlobals "greatest_sum" = some (some (.ref f5))) (l5 : K.lookup f5 = some ⟨oc5, od5, .func (PySem.W.fnOf "greatest_sum" "greatest_sum" (defArgs (tp 7)) (defBody (tp 7)) (defScope (tp 7)) .none kV5 dc5 pm5 an5 cd5 ct5), sl5⟩) (c5 : PySem.W.codeIn K cd5 "greatest_sum" = true) (k5 : PySem.W.keepIn K (.ref f5) = true)
    (a6 : PySem.W.nsIn K mainGlobals "sure_broken" = some (some (.ref f6))) (l6 : K.lookup f6 = some ⟨oc6, od6, .func (PySem.W.fnOf "sure_broken" "sure_broken" (defArgs (tp 8)) (defBody (tp 8)) (defScope (tp 8)) .none kV6 dc6 pm6 an6 cd6 ct6), sl6⟩) (c6 : PySem.W.codeIn K cd6 "sure_broken" = true) (k6 : PySem.W.keepIn K (.ref f6) = true)
    (a7 : PySem.W.nsIn K mainGlobals "sure_kept" = some (some (.ref f7))) (l7 : K.lookup f7 = some ⟨oc7, od7, .func (PySem.W.fnOf "sure_kept" "sure_kept" (defArgs (tp 9)) (defBody (tp 9)) (defScope (tp 9)) .none kV7 dc7 pm7 an7 cd7 ct7), sl7⟩) (c7 : PySem.W.codeIn K cd7 "sure_kept" = true) (k7 : PySem.W.keepIn K (.ref f7) = true)
    (a8 : PySem.W.nsIn K mainGlobals "_law_cell_at" = some (some (.ref f8))) (l8 : K.lookup f8 = some ⟨oc8, od8, .func (PySem.W.fnOf "_law_cell_at" "_law_cell_at" (defArgs (tp 11)) (defBody (tp 11)) (defScope (tp 11)) .none kV8 dc8 pm8 an8 cd8 ct8), sl8⟩) (c8 : PySem.W.codeIn K cd8 "_law_cell_at" = true) (k8 : PySem.W.keepIn K (.ref f8) = true)
    (a9 : PySem.W.nsIn K mainGlobals "_law_boughs" = some (some (.ref f9))) (l9 : K.lookup f9 = some ⟨oc9, od9, .func (PySem.W.fnOf "_law_boughs" "_law_boughs" (defArgs (tp 12)) (defBody (tp 12)) (defScope (tp 12)) .none kV9 dc9 pm9 an9 cd9 ct9), sl9⟩) (c9 : PySem.W.codeIn K cd9 "_law_boughs" = true) (k9 : PySem.W.keepIn K (.ref f9) = true)
    (a10 : PySem.W.nsIn K mainGlobals "_law_tie" = some (some (.ref f10))) (l10 : K.lookup f10 = some ⟨oc10, od10, .func (PySem.W.fnOf "_law_tie" "_law_tie" (defArgs (tp 13)) (defBody (tp 13)) (defScope (tp 13)) .none kV10 dc10 pm10 an10 cd10 ct10), sl10⟩) (c10 : PySem.W.codeIn K cd10 "_law_tie" = true) (k10 : PySem.W.keepIn K (.ref f10) = true)
    (a11 : PySem.W.nsIn K mainGlobals "_law_cross" = some (some (.ref f11))) (l11 : K.lookup f11 = some ⟨oc11, od11, .func (PySem.W.fnOf "_law_cross" "_law_cross" (defArgs (tp 14)) (defBody (tp 14)) (defScope (tp 14)) .none kV11 dc11 pm11 an11 cd11 ct11), sl11⟩) (c11 : PySem.W.codeIn K cd11 "_law_cross" = true) (k11 : PySem.W.keepIn K (.ref f11) = true)
    (a12 : PySem.W.nsIn K mainGlobals "_law_many" = some (some (.ref f12))) (l12 : K.lookup f12 = some ⟨oc12, od12, .func (PySem.W.fnOf "_law_many" "_law_many" (defArgs (tp 15)) (defBody (tp 15)) (defScope (tp 15)) .none kV12 dc12 pm12 an12 cd12 ct12), sl12⟩) (c12 : PySem.W.codeIn K cd12 "_law_many" = true) (k12 : PySem.W.keepIn K (.ref f12) = true)
    (a13 : PySem.W.nsIn K mainGlobals "_law_keeps" = some (some (.ref f13))) (l13 : K.lookup f13 = some ⟨oc13, od13, .func (PySem.W.fnOf "_law_keeps" "_law_keeps" (defArgs (tp 16)) (defBody (tp 16)) (defScope (tp 16)) .none kV13 dc13 pm13 an13 cd13 ct13), sl13⟩) (c13 : PySem.W.codeIn K cd13 "_law_keeps" = true) (k13 : PySem.W.keepIn K (.ref f13) = true)
    (a14 : PySem.W.nsIn K mainGlobals "_law_stand" = some (some (.ref f14))) (l14 : K.lookup f14 = some ⟨oc14, od14, .func (PySem.W.fnOf "_law_stand" "_law_stand" (defArgs (tp 17)) (defBody (tp 17)) (defScope (tp 17)) .none kV14 dc14 pm14 an14 cd14 ct14), sl14⟩) (c14 : PySem.W.codeIn K cd14 "_law_stand" = true) (k14 : PySem.W.keepIn K (.ref f14) = true)
    (a15 : PySem.W.nsIn K mainGlobals "_law_inside" = some (some (.ref f15))) (l15 : K.lookup f15 = some ⟨oc15, od15, .func (PySem.W.fnOf "_law_inside" "_law_inside" (defArgs (tp 18)) (defBody (tp 18)) (defScope (tp 18)) .none kV15 dc15 pm15 an15 cd15 ct15), sl15⟩) (c15 : PySem.W.codeIn K cd15 "_law_inside" = true) (k15 : PySem.W.keepIn K (.ref f15) = true)
    (a16 : PySem.W.nsIn K mainGlobals "law" = some (some (.ref f16))) (l16 : K.lookup f16 = some ⟨oc16, od16, .func (PySem.W.fnOf "law" "law" (defArgs (tp 19)) (defBody (tp 19)) (defScope (tp 19)) .none kV16 dc16 pm16 an16 cd16 ct16), sl16⟩) (c16 : PySem.W.codeIn K cd16 "law" = true) (k16 : PySem.W.keepIn K (.ref f16) = true)
    (z0 : PySem.W.nsIn K mainGlobals "len" = some none)
    (z1 : PySem.W.nsIn K mainGlobals "sum" = some none)
    (z2 : PySem.W.nsIn K mainGlobals "max" = some none)
    (z3 : PySem.W.nsIn K mainGlobals "tuple" = some none)
    (z4 : PySem.W.nsIn K mainGlobals "int" = some none)
    (z5 : PySem.W.nsIn K mainGlobals "range" = some none)
    (z6 : PySem.W.nsIn K mainGlobals "isinstance" = some none)
    (z7 : PySem.W.nsIn K mainGlobals "bool" = some none)
    (z8 : PySem.W.nsIn K mainGlobals "enumerate" = some none)
    : ∃ fd : FuncData, (∀ (s : Shared) (v : Value), BindsTo s fd ⟨[v], []⟩ [("_law_script", v)]) ∧ ∀ base : Heap, K.In base → base.Ns mainGlobals mg → FnOk PySem.Challenge.rw_optionwood_k12_broken_and_kept_for_sure.prog w K mg base (L2.CX PySem.Challenge.rw_optionwood_k12_broken_and_kept_for_sure.prog w) 8 fa fd ["_law_script"] (spT K (caOf K) ((pg.tab 8).run "law") ((pg.tab 8).mask "law")) := by
  have e := hfa.symm.trans (PySem.W.mg_of X G a16)
  cases e
  have F0 := fun_mk (st := tp 1) l0 c0 k0
  have B0 := F0.binds (ps := ["some", "k"]) fun _ _ _ _ _ _ us hl => match us, hl with | [_, _], _ => rfl
  have m0 := PySem.W.mg_of X G a0
  have F1 := fun_mk (st := tp 3) l1 c1 k1
  have B1 := F1.binds (ps := ["kids", "some"]) fun _ _ _ _ _ _ us hl => match us, hl with | [_, _], _ => rfl
  have m1 := PySem.W.mg_of X G a1
  have F2 := fun_mk (st := tp 4) l2 c2 k2
  have B2 := F2.binds (ps := ["bough", "yes", "no"]) fun _ _ _ _ _ _ us hl => match us, hl with | [_, _, _], _ => rfl
  have m2 := PySem.W.mg_of X G a2
  have F3 := fun_mk (st := tp 5) l3 c3 k3
  have B3 := F3.binds (ps := ["bough", "yes", "no"]) fun _ _ _ _ _ _ us hl => match us, hl with | [_, _, _], _ => rfl
  have m3 := PySem.W.mg_of X G a3
  have F4 := fun_mk (st := tp 6) l4 c4 k4
  have B4 := F4.binds (ps := ["pairs", "yes", "no"]) fun _ _ _ _ _ _ us hl => match us, hl with | [_, _, _], _ => rfl
  have m4 := PySem.W.mg_of X G a4
  have F5 := fun_mk (st := tp 7) l5 c5 k5
  have B5 := F5.binds (ps := ["pairs", "yes", "no"]) fun _ _ _ _ _ _ us hl => match us, hl with | [_, _, _], _ => rfl
  have m5 := PySem.W.mg_of X G a5
  have F6 := fun_mk (st := tp 8) l6 c6 k6
  have B6 := F6.binds (ps := ["tie", "yes", "no"]) fun _ _ _ _ _ _ us hl => match us, hl with | [_, _, _], _ => rfl
  have m6 := PySem.W.mg_of X G a6
  have F7 := fun_mk (st := tp 9) l7 c7 k7
  have B7 := F7.binds (ps := ["tie", "yes", "no"]) fun _ _ _ _ _ _ us hl => match us, hl with | [_, _, _], _ => rfl
  have m7 := PySem.W.mg_of X G a7
  have F8 := fun_mk (st := tp 11) l8 c8 k8
  have B8 := F8.binds (ps := ["_law_script", "_law_k"]) fun _ _ _ _ _ _ us hl => match us, hl with | [_, _], _ => rfl
  have m8 := PySem.W.mg_of X G a8
  have F9 := fun_mk (st := tp 12) l9 c9 k9
  have B9 := F9.binds (ps := ["_law_script", "_law_many_here"]) fun _ _ _ _ _ _ us hl => match us, hl with | [_, _], _ => rfl
  have m9 := PySem.W.mg_of X G a9
  have F10 := fun_mk (st := tp 13) l10 c10 k10
  have B10 := F10.binds (ps := ["_law_cell", "_law_many_here"]) fun _ _ _ _ _ _ us hl => match us, hl with | [_, _], _ => rfl
  have m10 := PySem.W.mg_of X G a10
  have F11 := fun_mk (st := tp 14) l11 c11 k11
  have B11 := F11.binds (ps := ["_law_script", "_law_many_here"]) fun _ _ _ _ _ _ us hl => match us, hl with | [_, _], _ => rfl
  have m11 := PySem.W.mg_of X G a11
  have F12 := fun_mk (st := tp 15) l12 c12 k12
  have B12 := F12.binds (ps := ["_law_script"]) fun _ _ _ _ _ _ us hl => match us, hl with | [_], _ => rfl
  have m12 := PySem.W.mg_of X G a12
  have F13 := fun_mk (st := tp 16) l13 c13 k13
  have B13 := F13.binds (ps := ["_law_tie_here", "_law_some"]) fun _ _ _ _ _ _ us hl => match us, hl with | [_, _], _ => rfl
  have m13 := PySem.W.mg_of X G a13
  have F14 := fun_mk (st := tp 17) l14 c14 k14
  have B14 := F14.binds (ps := ["_law_script", "_law_many_here", "_law_k"]) fun _ _ _ _ _ _ us hl => match us, hl with | [_, _, _], _ => rfl
  have m14 := PySem.W.mg_of X G a14
  have F15 := fun_mk (st := tp 18) l15 c15 k15
  have B15 := F15.binds (ps := ["_law_tie_here", "_law_many_here", "_law_yes", "_law_no"]) fun _ _ _ _ _ _ us hl => match us, hl with | [_, _, _, _], _ => rfl
  have m15 := PySem.W.mg_of X G a15
  have F16 := fun_mk (st := tp 19) l16 c16 k16
  have B16 := F16.binds (ps := ["_law_script"]) fun _ _ _ _ _ _ us hl => match us, hl with | [_], _ => rfl
  have m16 := PySem.W.mg_of X G a16
  have hbl : ∀ x ∈ bl, mg x = none := fun x hx => by
    rcases List.mem_cons.mp hx with rfl | hx
    · exact PySem.W.mg_none_of X G z0
    rcases List.mem_cons.mp hx with rfl | hx
    · exact PySem.W.mg_none_of X G z1
    rcases List.mem_cons.mp hx with rfl | hx
    · exact PySem.W.mg_none_of X G z2
    rcases List.mem_cons.mp hx with rfl | hx
    · exact PySem.W.mg_none_of X G z3
    rcases List.mem_cons.mp hx with rfl | hx
    · exact PySem.W.mg_none_of X G z4
    rcases List.mem_cons.mp hx with rfl | hx
    · exact PySem.W.mg_none_of X G z5
    rcases List.mem_cons.mp hx with rfl | hx
    · exact PySem.W.mg_none_of X G z6
    rcases List.mem_cons.mp hx with rfl | hx
    · exact PySem.W.mg_none_of X G z7
    rcases List.mem_cons.mp hx with rfl | hx
    · exact PySem.W.mg_none_of X G z8
    cases hx
  have hd : ∀ f ∈ fns, DefF K mg pg bl fns exs f := fun f hf => by
    rcases List.mem_cons.mp hf with rfl | hf
    · exact ⟨chas, _, _, _, _, _, _, _, F0, schas, B0, m0, rfl, rfl, ckhas, rfl⟩
    rcases List.mem_cons.mp hf with rfl | hf
    · exact ⟨cmany_in, _, _, _, _, _, _, _, F1, scmany_in, B1, m1, rfl, rfl, ckmany_in, rfl⟩
    rcases List.mem_cons.mp hf with rfl | hf
    · exact ⟨cbough_broken, _, _, _, _, _, _, _, F2, scbough_broken, B2, m2, rfl, rfl, ckbough_broken, rfl⟩
    rcases List.mem_cons.mp hf with rfl | hf
    · exact ⟨cbough_kept, _, _, _, _, _, _, _, F3, scbough_kept, B3, m3, rfl, rfl, ckbough_kept, rfl⟩
    rcases List.mem_cons.mp hf with rfl | hf
    · exact ⟨cleast_sum, _, _, _, _, _, _, _, F4, scleast_sum, B4, m4, rfl, rfl, ckleast_sum, rfl⟩
    rcases List.mem_cons.mp hf with rfl | hf
    · exact ⟨cgreatest_sum, _, _, _, _, _, _, _, F5, scgreatest_sum, B5, m5, rfl, rfl, ckgreatest_sum, rfl⟩
    rcases List.mem_cons.mp hf with rfl | hf
    · exact ⟨csure_broken, _, _, _, _, _, _, _, F6, scsure_broken, B6, m6, rfl, rfl, cksure_broken, rfl⟩
    rcases List.mem_cons.mp hf with rfl | hf
    · exact ⟨csure_kept, _, _, _, _, _, _, _, F7, scsure_kept, B7, m7, rfl, rfl, cksure_kept, rfl⟩
    rcases List.mem_cons.mp hf with rfl | hf
    · exact ⟨c_law_cell_at, _, _, _, _, _, _, _, F8, sc_law_cell_at, B8, m8, rfl, rfl, ck_law_cell_at, rfl⟩
    rcases List.mem_cons.mp hf with rfl | hf
    · exact ⟨c_law_boughs, _, _, _, _, _, _, _, F9, sc_law_boughs, B9, m9, rfl, rfl, ck_law_boughs, rfl⟩
    rcases List.mem_cons.mp hf with rfl | hf
    · exact ⟨c_law_tie, _, _, _, _, _, _, _, F10, sc_law_tie, B10, m10, rfl, rfl, ck_law_tie, rfl⟩
    rcases List.mem_cons.mp hf with rfl | hf
    · exact ⟨c_law_cross, _, _, _, _, _, _, _, F11, sc_law_cross, B11, m11, rfl, rfl, ck_law_cross, rfl⟩
    rcases List.mem_cons.mp hf with rfl | hf
    · exact ⟨c_law_many, _, _, _, _, _, _, _, F12, sc_law_many, B12, m12, rfl, rfl, ck_law_many, rfl⟩
    rcases List.mem_cons.mp hf with rfl | hf
    · exact ⟨c_law_keeps, _, _, _, _, _, _, _, F13, sc_law_keeps, B13, m13, rfl, rfl, ck_law_keeps, rfl⟩
    rcases List.mem_cons.mp hf with rfl | hf
    · exact ⟨c_law_stand, _, _, _, _, _, _, _, F14, sc_law_stand, B14, m14, rfl, rfl, ck_law_stand, rfl⟩
    rcases List.mem_cons.mp hf with rfl | hf
    · exact ⟨c_law_inside, _, _, _, _, _, _, _, F15, sc_law_inside, B15, m15, rfl, rfl, ck_law_inside, rfl⟩
    cases hf
  refine ⟨PySem.W.fnOf "law" "law" (defArgs (tp 19)) (defBody (tp 19)) (defScope (tp 19)) .none kV16 dc16 pm16 an16 cd16 ct16, fun s v => .of_eq rfl, fun base _ _ => ?_⟩
  have hgl : ∀ x d, pg.glob.lookup x = some d → ∃ (av : AV) (u : Value), mg x = some u ∧ RelV av.v u ∧ av.d = d ∧ ∀ H C, av.ok K H C := fun x d h => by
    have h2 : ([] : List (Str × D)).lookup x = some d := h
    cases h2
  have hex : ∀ (X : Cx), X.K = K → X.mg = mg → ∀ c ∈ exs, ExR X (caOf K c) c := fun Y eK eM c hc => by
    cases hc
  exact law_level 7 F16 sclaw rfl rfl cklaw rfl hd hbl hgl hex
end Om.Law
namespace Om.Law
open PySem PySem.Spec PyProof.Rows L2
theorem run_law (ns : List Int) (h : ns.length ≤ 63) : ∃ fl fin, (pg.tab 8).run "law" [.scr ns] = some (.ret fl (.bl true) fin) := by
  have c1 := mkCell (P := pg) lk_law_cell_at
  have h1 := mkHas (P := pg) lkhas
  have mi := mkMany lkmany_in h1
  have bb := mkBb lkbough_broken h1 mi
  have bk := mkBk lkbough_kept h1 mi
  have sb := mkSb lksure_broken h1 bb (mkLs lkleast_sum h1)
  have sk := mkSk lksure_kept h1 bk (mkGs lkgreatest_sum h1)
  exact nt_law ((law_fn (mkMany0 lk_law_many c1 5) (mkBoughs lk_law_boughs c1 5) (mkCross lk_law_cross c1 (mkTie lk_law_tie) 5) (mkStand lk_law_stand c1 5) (mkInside lk_law_inside (mkLKeeps lk_law_keeps) 5) (sb 3) (sk 3) ns).run lklaw)
end Om.Law
open PySem PySem.W PyProof.Rows
set_option maxRecDepth 100000 in
set_option maxHeartbeats 0 in
theorem PySem.Challenge.cw_optionwood_k12_broken_and_kept_for_sure_holds : PySem.Challenge.rw_optionwood_k12_broken_and_kept_for_sure.Holds := by
  w_on; o_law; k_head; (case hw => w_witness2)
  k_fill
  refine Om.walk_law (l := PySem.Challenge.rw_optionwood_k12_broken_and_kept_for_sure) (Pg := Om.Law.pg) (k := 8) (f := "law") (x := "_law_script") rfl (by decide) rfl ⟨rfl, by decide, by decide⟩ (fun w h Y => PySem.W.kIn_of Y) rfl ?F Om.Law.run_law
  case F =>
    intro w mg fa h KX G hmg
    refine' Om.Law.all_mk KX G hmg ?a0 ?l0 ?c0 ?k0 ?a1 ?l1 ?c1 ?k1 ?a2 ?l2 ?c2 ?k2 ?a3 ?l3 ?c3 ?k3 ?a4 ?l4 ?c4 ?k4 ?a5 ?l5 ?c5 ?k5 ?a6 ?l6 ?c6 ?k6 ?a7 ?l7 ?c7 ?k7 ?a8 ?l8 ?c8 ?k8 ?a9 ?l9 ?c9 ?k9 ?a10 ?l10 ?c10 ?k10 ?a11 ?l11 ?c11 ?k11 ?a12 ?l12 ?c12 ?k12 ?a13 ?l13 ?c13 ?k13 ?a14 ?l14 ?c14 ?k14 ?a15 ?l15 ?c15 ?k15 ?a16 ?l16 ?c16 ?k16 ?z0 ?z1 ?z2 ?z3 ?z4 ?z5 ?z6 ?z7 ?z8
    (case a0 => k_is)
    (case l0 => k_is)
    (case c0 => k_is)
    (case k0 => k_is)
    (case a1 => k_is)
    (case l1 => k_is)
    (case c1 => k_is)
    (case k1 => k_is)
    (case a2 => k_is)
    (case l2 => k_is)
    (case c2 => k_is)
    (case k2 => k_is)
    (case a3 => k_is)
    (case l3 => k_is)
    (case c3 => k_is)
    (case k3 => k_is)
    (case a4 => k_is)
    (case l4 => k_is)
    (case c4 => k_is)
    (case k4 => k_is)
    (case a5 => k_is)
    (case l5 => k_is)
    (case c5 => k_is)
    (case k5 => k_is)
    (case a6 => k_is)
    (case l6 => k_is)
    (case c6 => k_is)
    (case k6 => k_is)
    (case a7 => k_is)
    (case l7 => k_is)
    (case c7 => k_is)
    (case k7 => k_is)
    (case a8 => k_is)
    (case l8 => k_is)
    (case c8 => k_is)
    (case k8 => k_is)
    (case a9 => k_is)
    (case l9 => k_is)
    (case c9 => k_is)
    (case k9 => k_is)
    (case a10 => k_is)
    (case l10 => k_is)
    (case c10 => k_is)
    (case k10 => k_is)
    (case a11 => k_is)
    (case l11 => k_is)
    (case c11 => k_is)
    (case k11 => k_is)
    (case a12 => k_is)
    (case l12 => k_is)
    (case c12 => k_is)
    (case k12 => k_is)
    (case a13 => k_is)
    (case l13 => k_is)
    (case c13 => k_is)
    (case k13 => k_is)
    (case a14 => k_is)
    (case l14 => k_is)
    (case c14 => k_is)
    (case k14 => k_is)
    (case a15 => k_is)
    (case l15 => k_is)
    (case c15 => k_is)
    (case k15 => k_is)
    (case a16 => k_is)
    (case l16 => k_is)
    (case c16 => k_is)
    (case k16 => k_is)
    (case z0 => k_is)
    (case z1 => k_is)
    (case z2 => k_is)
    (case z3 => k_is)
    (case z4 => k_is)
    (case z5 => k_is)
    (case z6 => k_is)
    (case z7 => k_is)
    (case z8 => k_is)

