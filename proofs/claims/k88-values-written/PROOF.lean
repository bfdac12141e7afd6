import PyProof.Rows.All
import Wide.All
import OpenK.AllK
import Wide.FinOn
import HandS.ForMost
import HandS.IsInst
import HandS.Walk
import HandS.RaiseMore
import HandS.Wide
import HandS.Rev
import HandS.ExcIs
import HandS.ExcField
import HandS.ExcValue
import HandS.Lambda
import HandS.EndTab
import HandS.Exc
import HandS.ExcOwn
import HandS.WordsExc
import PySem.Challenge.RW_doublingbook_k88_values_written
import KE.KExcSuper
import HandS.ExcSuper
import HandS.Defaults
import KE.KExcIs
import PyProof.ReprRoads
set_option Elab.async false
set_option linter.all false
set_option maxRecDepth 100000
set_option maxHeartbeats 4000000
/-! # 1. Values, their texts, the reader: plain mathematics -/
namespace K88
open PySem L2 TL
abbrev D := PyData
def smallS : Str := Str.ofString "abcdefghijklmnopqrstuvwxyz"
def figS : Str := Str.ofString "0123456789"
def sepS : Str := Str.ofString "() "
def lowC (c : Nat) : Bool := decide (c ∈ tl smallS)
def figC (c : Nat) : Bool := decide (c ∈ tl figS)
def sepC (c : Nat) : Bool := decide (c ∈ tl sepS)
theorem lowC_rng {c : Nat} (h : lowC c = true) : 97 ≤ c ∧ c ≤ 122 := by
  have h := of_decide_eq_true h
  have q : ∀ c ∈ tl smallS, 97 ≤ c ∧ c ≤ 122 := by decide +kernel
  exact q c h
theorem figC_rng {c : Nat} (h : figC c = true) : 48 ≤ c ∧ c ≤ 57 := by
  have h := of_decide_eq_true h
  have q : ∀ c ∈ tl figS, 48 ≤ c ∧ c ≤ 57 := by decide +kernel
  exact q c h
theorem figC_of {c : Nat} (h : 48 ≤ c ∧ c ≤ 57) : figC c = true := by
  have q : ∀ k, k < 10 → figC (48 + k) = true := by decide +kernel
  have := q (c - 48) (by omega)
  rwa [show 48 + (c - 48) = c by omega] at this
theorem sepC_iff (c : Nat) : sepC c = true ↔ c = 40 ∨ c = 41 ∨ c = 32 := by
  have e : tl sepS = [40, 41, 32] := by decide +kernel
  unfold sepC
  rw [e]
  simp
theorem sepC_not {c : Nat} (h : c ≠ 40) (h2 : c ≠ 41) (h3 : c ≠ 32) : sepC c = false := by
  cases e : sepC c with
  | false => rfl
  | true =>
    rcases (sepC_iff c).mp e with q | q | q <;> omega
/-! ## values -/
def wordL (l : List Nat) : Bool := !l.isEmpty && l.all lowC
def wordB (s : Str) : Bool := wordL (tl s)
def figB (i : Int) : Bool := decide ((if i < 0 then -i else i) < 1000000000000)
def leafB : D → Bool
  | .none => true
  | .str s => wordB s
  | .int i => figB i
  | _ => false
def valB : Nat → D → Bool
  | 0, d => leafB d
  | n + 1, .tuple ds => ds.all (valB n)
  | _ + 1, d => leafB d
def kids : D → List D
  | .tuple ds => ds
  | _ => []
def badB (last : Bool) : D → Bool
  | .tuple _ => last
  | d => !leafB d
/-- the layers of is_value: so many rounds left -/
def bfsB : Nat → List D → Bool
  | 0, _ => false
  | n + 1, l => !(l.any (badB (n == 0))) && (let k := if n == 0 then [] else l.flatMap kids; k.isEmpty || bfsB n k)
theorem valB_leaf {n : Nat} {d : D} (h : ∀ ds, d ≠ .tuple ds) : valB n d = leafB d := by
  cases n with
  | zero => rfl
  | succ n => cases d <;> first | rfl | exact absurd rfl (h _)
theorem bfs_val : ∀ (n : Nat) (l : List D), bfsB (n + 1) l = l.all (valB n)
  | 0, l => by
    show (!(l.any (badB true)) && (List.isEmpty [] || bfsB 0 [])) = l.all leafB
    rw [List.isEmpty_nil, Bool.true_or, Bool.and_true]
    induction l with
    | nil => rfl
    | cons d r ih =>
      rw [List.any_cons, List.all_cons, Bool.not_or, ih]
      congr 1
      cases d <;> simp [badB, leafB]
  | n + 1, l => by
    have ih := bfs_val n
    show (!(l.any (badB false)) && (let k := l.flatMap kids; k.isEmpty || bfsB (n + 1) k)) = l.all (valB (n + 1))
    have e : ∀ k : List D, (k.isEmpty || bfsB (n + 1) k) = k.all (valB n) := fun k => by
      rw [ih k]
      cases k <;> rfl
    show (!(l.any (badB false)) && ((l.flatMap kids).isEmpty || bfsB (n + 1) (l.flatMap kids))) = _
    rw [e]
    clear e ih
    induction l with
    | nil => rfl
    | cons d r ih =>
      rw [List.any_cons, List.all_cons, Bool.not_or, List.flatMap_cons, List.all_append, ← ih]
      have : (!badB false d && (kids d).all (valB n)) = valB (n + 1) d := by
        cases d <;> simp [badB, kids, valB, leafB]
      rw [← this]
      cases (!badB false d) <;> cases ((kids d).all (valB n)) <;> cases (!(r.any (badB false))) <;> rfl
theorem valB_mono : ∀ {n m : Nat} {d : D}, n ≤ m → valB n d = true → valB m d = true
  | 0, 0, _, _, h => h
  | 0, m + 1, d, _, h => by
    cases d <;> first | exact h | (exact absurd h (by simp [valB, leafB]))
  | n + 1, 0, _, q, _ => absurd q (by omega)
  | n + 1, m + 1, d, q, h => by
    cases d with
    | tuple ds =>
      have h' : ds.all (valB n) = true := h
      show ds.all (valB m) = true
      rw [List.all_eq_true] at h' ⊢
      exact fun x hx => valB_mono (by omega) (h' x hx)
    | _ => exact h
/-! ## texts -/
def intL (i : Int) : List Nat := tl (Str.ofString (toString i))
theorem ofString_app (a b : String) : Str.ofString (a ++ b) = Str.ofString a ++ Str.ofString b := by
  apply ext_tl
  rw [tl_append, Str.ofString_eq_toList, Str.ofString_eq_toList, Str.ofString_eq_toList]
  simp [tl]
theorem intL_eq (i : Int) : intL i = if i < 0 then 45 :: numL i.natAbs else numL i.natAbs := by
  unfold intL
  cases i with
  | ofNat n =>
    rw [if_neg (by simp)]
    exact tl_num n
  | negSucc m =>
    rw [if_pos (Int.negSucc_lt_zero m)]
    have e : toString (Int.negSucc m) = "-" ++ toString (m + 1) := rfl
    rw [e, ofString_app, tl_append]
    have e2 : tl (Str.ofString "-") = [45] := by decide +kernel
    rw [e2]
    have e3 : tl (Str.ofString (toString (m + 1))) = numL (m + 1) := tl_num (m + 1)
    rw [e3]
    rfl
mutual
def vt : D → List Nat
  | .none => [45]
  | .str s => tl s
  | .int i => intL i
  | .tuple ds => 40 :: (vtA ds ++ [41])
  | _ => []
def vtA : List D → List Nat
  | [] => []
  | d :: r => vt d ++ vtR r
def vtR : List D → List Nat
  | [] => []
  | d :: r => 32 :: (vt d ++ vtR r)
end
mutual
def vp : D → List (List Nat)
  | .none => [[45]]
  | .str s => [tl s]
  | .int i => [intL i]
  | .tuple ds => [40] :: (vpA ds ++ [[41]])
  | _ => []
def vpA : List D → List (List Nat)
  | [] => []
  | d :: r => vp d ++ vpR r
def vpR : List D → List (List Nat)
  | [] => []
  | d :: r => [32] :: (vp d ++ vpR r)
end
def vtx (d : D) : Str := ⟨(vt d).toArray⟩
theorem tl_vtx (d : D) : tl (vtx d) = vt d := rfl
def flush (c : List Nat) : List (List Nat) := if c.isEmpty then [] else [c]
def tok : List Nat → List Nat → List (List Nat)
  | cur, [] => flush cur
  | cur, c :: cs => if sepC c then flush cur ++ [c] :: tok [] cs else tok (cur ++ [c]) cs
theorem tok_plain : ∀ (w cur rest : List Nat), (∀ c ∈ w, sepC c = false) → tok cur (w ++ rest) = tok (cur ++ w) rest
  | [], cur, rest, _ => by simp
  | c :: w, cur, rest, h => by
    have hc := h c List.mem_cons_self
    show (if sepC c then flush cur ++ [c] :: tok [] (w ++ rest) else tok (cur ++ [c]) (w ++ rest)) = _
    rw [hc, if_neg Bool.false_ne_true, tok_plain w (cur ++ [c]) rest fun z hz => h z (List.mem_cons_of_mem _ hz)]
    simp
/-- nothing, or a sign that parts -/
def Sep : List Nat → Prop
  | [] => True
  | c :: _ => sepC c = true
theorem tok_leaf {w rest : List Nat} (hne : w ≠ []) (h : ∀ c ∈ w, sepC c = false) (hs : Sep rest) : tok [] (w ++ rest) = w :: tok [] rest := by
  rw [tok_plain w [] rest h, List.nil_append]
  have fl : flush w = [w] := by
    unfold flush
    cases w with
    | nil => exact absurd rfl hne
    | cons => rfl
  cases rest with
  | nil =>
    show flush w = w :: flush []
    rw [fl]
    rfl
  | cons c r =>
    have hs : sepC c = true := hs
    show (if sepC c then flush w ++ [c] :: tok [] r else _) = w :: (if sepC c then flush [] ++ [c] :: tok [] r else _)
    rw [if_pos hs, if_pos hs, fl]
    rfl
theorem leaf_piece {d : D} (h : leafB d = true) : vp d = [vt d] ∧ vt d ≠ [] ∧ ∀ c ∈ vt d, sepC c = false := by
  cases d with
  | none => exact ⟨rfl, by simp [vt], fun c hc => by simp [vt] at hc; subst hc; exact sepC_not (by decide) (by decide) (by decide)⟩
  | str s =>
    have h' : (!(tl s).isEmpty && (tl s).all lowC) = true := h
    rw [Bool.and_eq_true] at h'
    refine ⟨rfl, fun e => ?_, fun c hc => ?_⟩
    · have e' : tl s = [] := e
      rw [e'] at h'
      exact absurd h'.1 (by decide)
    · have hc : c ∈ tl s := hc
      have := lowC_rng (List.all_eq_true.mp h'.2 c hc)
      exact sepC_not (by omega) (by omega) (by omega)
  | int i =>
    refine ⟨rfl, ?_, ?_⟩
    · show intL i ≠ []
      rw [intL_eq]
      split
      · simp
      · exact numL_ne _
    · intro c hc
      have hc : c ∈ intL i := hc
      rw [intL_eq] at hc
      have dg : ∀ n, ∀ c ∈ numL n, sepC c = false := fun n c hc => by
        have := numL_digits n c hc
        exact sepC_not (by omega) (by omega) (by omega)
      split at hc
      · rcases List.mem_cons.mp hc with e | hc
        · subst e; exact sepC_not (by decide) (by decide) (by decide)
        · exact dg _ c hc
      · exact dg _ c hc
  | _ => exact absurd h (by simp [leafB])
theorem tok_sep {c : Nat} {r : List Nat} (h : sepC c = true) : tok [] (c :: r) = [c] :: tok [] r := by
  show (if sepC c then flush [] ++ [c] :: tok [] r else _) = _
  rw [if_pos h]
  rfl
theorem tok_vt : ∀ (n : Nat) (d : D) (rest : List Nat), valB n d = true → Sep rest → tok [] (vt d ++ rest) = vp d ++ tok [] rest := by
  intro n
  induction n with
  | zero =>
    intro d rest h hs
    have h : leafB d = true := h
    obtain ⟨h1, h2, h3⟩ := leaf_piece h
    rw [h1, tok_leaf h2 h3 hs]
    rfl
  | succ n ih =>
    intro d rest h hs
    by_cases ht : ∃ ds, d = .tuple ds
    · obtain ⟨ds, rfl⟩ := ht
      have h : ds.all (valB n) = true := h
      have s40 : sepC 40 = true := by decide +kernel
      have s41 : sepC 41 = true := by decide +kernel
      have s32 : sepC 32 = true := by decide +kernel
      have hr : ∀ l : List D, l.all (valB n) = true → tok [] (vtR l ++ 41 :: rest) = vpR l ++ [41] :: tok [] rest := by
        intro l
        induction l with
        | nil =>
          intro _
          exact tok_sep s41
        | cons e l il =>
          intro hl
          rw [List.all_cons, Bool.and_eq_true] at hl
          show tok [] (32 :: (vt e ++ vtR l) ++ 41 :: rest) = ([32] :: (vp e ++ vpR l)) ++ [41] :: tok [] rest
          rw [List.cons_append, tok_sep s32, List.append_assoc, ih e _ hl.1, il hl.2]
          · simp
          · cases l with
            | nil => exact s41
            | cons => exact s32
      show tok [] (40 :: (vtA ds ++ [41]) ++ rest) = ([40] :: (vpA ds ++ [[41]])) ++ tok [] rest
      rw [List.cons_append, tok_sep s40]
      cases ds with
      | nil =>
        show [40] :: tok [] (41 :: rest) = _
        rw [tok_sep s41]
        rfl
      | cons e l =>
        rw [List.all_cons, Bool.and_eq_true] at h
        show [40] :: tok [] (vt e ++ vtR l ++ [41] ++ rest) = _
        rw [List.append_assoc, List.append_assoc, ih e _ h.1, show [41] ++ rest = 41 :: rest from rfl, hr l h.2]
        · show _ = ([40] :: (vp e ++ vpR l ++ [[41]])) ++ tok [] rest
          simp
        · cases l with
          | nil => exact s41
          | cons => exact s32
    · have h : leafB d = true := by
        rw [valB_leaf fun ds e => ht ⟨ds, e⟩] at h
        exact h
      obtain ⟨h1, h2, h3⟩ := leaf_piece h
      rw [h1, tok_leaf h2 h3 hs]
      rfl
/-! ## the reader -/
def bareOf (p : List Nat) : List Nat := if p.take 1 = [45] then p.drop 1 else p
def intOf (p : List Nat) : Int := if p.take 1 = [45] then -((NumText.digitsVal (p.drop 1) : Nat) : Int) else ((NumText.digitsVal p : Nat) : Int)
def plainOf (p : List Nat) : List D :=
  if p = [45] then [.none]
  else if wordL p then [.str ⟨p.toArray⟩]
  else if !(decide (1 ≤ (bareOf p).length) && decide ((bareOf p).length ≤ 12)) || !(bareOf p).all figC then []
  else if intL (intOf p) = p then [.int (intOf p)] else []
abbrev MS := List (List D) × List D
def put1 (op : List (List D)) (dn one : List D) : Option MS :=
  if one.isEmpty || (op.isEmpty && !dn.isEmpty) then none
  else match op with
    | [] => some ([], one)
    | t :: r => some ((t ++ one) :: r, dn)
def stepV (s : MS) (p : List Nat) : Option MS :=
  if p = [40] then some ([] :: s.1, s.2)
  else if p = [32] then some s
  else if p = [41] then match s.1 with
    | [] => none
    | t :: r => put1 r s.2 [.tuple t]
  else put1 s.1 s.2 (plainOf p)
def runV : MS → List (List Nat) → Option MS
  | s, [] => some s
  | s, p :: r => match stepV s p with
    | none => none
    | some s' => runV s' r
def valueOf (ps : List (List Nat)) : List D := match runV ([], []) ps with
  | some ([], dn) => dn
  | _ => []
def readV (t : List Nat) : Option D := match valueOf (tok [] t) with
  | d :: _ => if valB 59 d && vt d == t then some d else none
  | [] => none
theorem readV_some {t : List Nat} {d : D} (h : readV t = some d) : valB 59 d = true ∧ vt d = t := by
  unfold readV at h
  split at h
  · split at h
    · rename_i hq
      cases h
      rw [Bool.and_eq_true] at hq
      exact ⟨hq.1, by simpa using hq.2⟩
    · cases h
  · cases h
theorem intOf_intL (i : Int) : intOf (intL i) = i := by
  rw [intL_eq]
  unfold intOf
  by_cases h : i < 0
  · rw [if_pos h, if_pos (show List.take 1 (45 :: numL i.natAbs) = [45] from rfl)]
    show -((NumText.digitsVal (numL i.natAbs) : Nat) : Int) = i
    rw [numL_val]
    omega
  · rw [if_neg h, if_neg, numL_val]
    · omega
    · intro e
      cases hn : numL i.natAbs with
      | nil => exact numL_ne _ hn
      | cons c r =>
        rw [hn] at e
        have e : c = 45 := by simpa using e
        have := numL_digits i.natAbs c (by rw [hn]; exact List.mem_cons_self)
        omega
theorem bareOf_intL (i : Int) : bareOf (intL i) = numL i.natAbs := by
  rw [intL_eq]
  unfold bareOf
  by_cases h : i < 0
  · rw [if_pos h, if_pos (show List.take 1 (45 :: numL i.natAbs) = [45] from rfl)]
    rfl
  · rw [if_neg h, if_neg]
    intro e
    cases hn : numL i.natAbs with
    | nil => exact numL_ne _ hn
    | cons c r =>
      rw [hn] at e
      have e : c = 45 := by simpa using e
      have := numL_digits i.natAbs c (by rw [hn]; exact List.mem_cons_self)
      omega
theorem figB_nat {i : Int} (h : figB i = true) : i.natAbs < 10 ^ 12 := by
  have h := of_decide_eq_true h
  have e : (10 : Nat) ^ 12 = 1000000000000 := by decide
  rw [e]
  split at h <;> omega
theorem plain_leaf {d : D} (h : leafB d = true) : plainOf (vt d) = [d] := by
  cases d with
  | none => rfl
  | str s =>
    have h' : wordL (tl s) = true := h
    show plainOf (tl s) = _
    unfold plainOf
    rw [if_neg, if_pos h', mk_tl]
    intro e
    rw [e] at h'
    exact absurd h' (by decide +kernel)
  | int i =>
    have h' : figB i = true := h
    show plainOf (intL i) = _
    have hd : ∀ c ∈ intL i, c = 45 ∨ (48 ≤ c ∧ c ≤ 57) := by
      intro c hc
      rw [intL_eq] at hc
      split at hc
      · rcases List.mem_cons.mp hc with e | hc
        · exact .inl e
        · exact .inr (numL_digits _ c hc)
      · exact .inr (numL_digits _ c hc)
    have nw : wordL (intL i) = false := by
      cases e : wordL (intL i) with
      | false => rfl
      | true =>
        unfold wordL at e
        rw [Bool.and_eq_true] at e
        cases q : intL i with
        | nil => rw [q] at e; exact absurd e.1 (by decide)
        | cons c r =>
          have := lowC_rng (List.all_eq_true.mp e.2 c (by rw [q]; exact List.mem_cons_self))
          have := hd c (by rw [q]; exact List.mem_cons_self)
          omega
    have ne45 : intL i ≠ [45] := by
      intro e
      have := congrArg bareOf e
      rw [bareOf_intL] at this
      exact numL_ne _ this
    unfold plainOf
    rw [if_neg ne45, nw, if_neg Bool.false_ne_true, bareOf_intL, intOf_intL, if_pos rfl, if_neg]
    have l1 : (numL i.natAbs).length ≤ 12 := numL_len (by decide) (figB_nat h')
    have l2 : 1 ≤ (numL i.natAbs).length := by
      cases q : numL i.natAbs with
      | nil => exact absurd q (numL_ne _)
      | cons => simp
    have l3 : (numL i.natAbs).all figC = true := List.all_eq_true.mpr fun c hc => figC_of (numL_digits _ c hc)
    rw [decide_eq_true l1, decide_eq_true l2, l3]
    decide
  | _ => exact absurd h (by simp [leafB])
def after (s : MS) (d : D) : Option MS := put1 s.1 s.2 [d]
theorem runV_app : ∀ (a b : List (List Nat)) (s : MS), runV s (a ++ b) = (runV s a).bind fun s' => runV s' b
  | [], b, s => rfl
  | p :: a, b, s => by
    show (match stepV s p with | none => none | some s' => runV s' (a ++ b)) = (match stepV s p with | none => none | some s' => runV s' a).bind _
    cases stepV s p with
    | none => rfl
    | some s' => exact runV_app a b s'
theorem step_leaf {d : D} (h : leafB d = true) (s : MS) : stepV s (vt d) = after s d := by
  obtain ⟨_, h2, h3⟩ := leaf_piece h
  have ns : ∀ c, sepC c = true → vt d ≠ [c] := fun c hc e => by
    have := h3 c (by rw [e]; exact List.mem_cons_self)
    rw [hc] at this
    cases this
  unfold stepV
  rw [if_neg (ns 40 (by decide +kernel)), if_neg (ns 32 (by decide +kernel)), if_neg (ns 41 (by decide +kernel)), plain_leaf h]
  rfl
theorem run_vp : ∀ (n : Nat) (d : D) (s : MS), valB n d = true → runV s (vp d) = after s d := by
  intro n
  induction n with
  | zero =>
    intro d s h
    have h : leafB d = true := h
    rw [(leaf_piece h).1]
    show (match stepV s (vt d) with | none => none | some s' => some s') = _
    rw [step_leaf h]
    cases after s d <;> rfl
  | succ n ih =>
    intro d s h
    by_cases ht : ∃ ds, d = .tuple ds
    · obtain ⟨ds, rfl⟩ := ht
      have h : ds.all (valB n) = true := h
      have one : ∀ (e : D) (t : List D) (r : List (List D)) (dn : List D), valB n e = true → runV (t :: r, dn) (vp e) = some ((t ++ [e]) :: r, dn) := fun e t r dn he => by
        rw [ih e _ he]
        rfl
      have rest : ∀ (l t : List D) (r : List (List D)) (dn : List D), l.all (valB n) = true → runV (t :: r, dn) (vpR l) = some ((t ++ l) :: r, dn) := by
        intro l
        induction l with
        | nil => intro t r dn _; simp [vpR, runV]
        | cons e l il =>
          intro t r dn hl
          rw [List.all_cons, Bool.and_eq_true] at hl
          show runV (t :: r, dn) (vp e ++ vpR l) = _
          rw [runV_app, one e t r dn hl.1]
          show runV ((t ++ [e]) :: r, dn) (vpR l) = _
          rw [il (t ++ [e]) r dn hl.2]
          simp
      have all : runV ([] :: s.1, s.2) (vpA ds) = some (ds :: s.1, s.2) := by
        cases ds with
        | nil => rfl
        | cons e l =>
          rw [List.all_cons, Bool.and_eq_true] at h
          show runV ([] :: s.1, s.2) (vp e ++ vpR l) = _
          rw [runV_app, one e [] s.1 s.2 h.1]
          show runV (([] ++ [e]) :: s.1, s.2) (vpR l) = _
          rw [rest l _ s.1 s.2 h.2]
          simp
      show runV ([] :: s.1, s.2) (vpA ds ++ [[41]]) = _
      rw [runV_app, all]
      show (match put1 s.1 s.2 [.tuple ds] with | none => none | some s' => some s') = after s (.tuple ds)
      unfold after
      cases put1 s.1 s.2 [.tuple ds] <;> rfl
    · have h : leafB d = true := by
        rw [valB_leaf fun ds e => ht ⟨ds, e⟩] at h
        exact h
      rw [(leaf_piece h).1]
      show (match stepV s (vt d) with | none => none | some s' => some s') = _
      rw [step_leaf h]
      cases after s d <;> rfl
/-- what is written is read -/
theorem read_vt {d : D} (h : valB 59 d = true) : readV (vt d) = some d := by
  have e1 : tok [] (vt d) = vp d := by
    have := tok_vt 59 d [] h trivial
    rw [List.append_nil] at this
    rw [this]
    show vp d ++ [] = vp d
    rw [List.append_nil]
  have e2 : valueOf (vp d) = [d] := by
    unfold valueOf
    rw [run_vp 59 d _ h]
    rfl
  unfold readV
  rw [e1, e2]
  show (if valB 59 d && vt d == vt d then some d else none) = some d
  rw [h]
  simp
theorem vt_inj {d e : D} (hd : valB 59 d = true) (he : valB 59 e = true) (h : vt d = vt e) : d = e := by
  have h1 := read_vt hd
  rw [h, read_vt he] at h1
  exact (Option.some.inj h1).symm
end K88
set_option maxRecDepth 100000
set_option maxHeartbeats 4000000
/-! # 1b. Sizes -/
namespace K88
open PySem L2 TL
mutual
def sz : D → Nat
  | .str s => 1 + s.length
  | .int i => 1 + (intL i).length
  | .list ds => 2 + szA ds
  | .tuple ds => 2 + szA ds
  | .none => 1
  | .bool _ => 1
  | .dict _ => 1
def szA : List D → Nat
  | [] => 0
  | d :: r => sz d + szA r
end
theorem szA_app : ∀ a b : List D, szA (a ++ b) = szA a + szA b
  | [], b => by simp [szA]
  | d :: a, b => by simp [szA, szA_app a b]; omega
theorem sz_pos (d : D) : 1 ≤ sz d := by cases d <;> simp [sz] <;> omega
theorem len_szA : ∀ l : List D, l.length ≤ szA l
  | [] => Nat.le_refl _
  | d :: r => by
    have := len_szA r
    have := sz_pos d
    show r.length + 1 ≤ sz d + szA r
    omega
theorem szA_mem : ∀ {l : List D} {d : D}, d ∈ l → sz d ≤ szA l
  | e :: r, d, h => by
    show sz d ≤ sz e + szA r
    rcases List.mem_cons.mp h with rfl | h
    · omega
    · have := szA_mem h
      omega
theorem szA_kids (d : D) : szA (kids d) ≤ sz d := by
  cases d <;> simp [kids, szA, sz] <;> omega
theorem szA_flat : ∀ l : List D, szA (l.flatMap kids) ≤ szA l
  | [] => Nat.le_refl _
  | d :: r => by
    rw [List.flatMap_cons, szA_app]
    have := szA_flat r
    have := szA_kids d
    show _ ≤ sz d + szA r
    omega
theorem depthAll_app : ∀ a b : List D, PyData.depthAll (a ++ b) = max (PyData.depthAll a) (PyData.depthAll b)
  | [], b => by simp [PyData.depthAll]
  | d :: a, b => by simp [PyData.depthAll, depthAll_app a b, Nat.max_assoc]
theorem depth_kids (d : D) : PyData.depthAll (kids d) ≤ PyData.depth d := by
  cases d <;> simp [kids, PyData.depthAll, PyData.depth]
theorem depthAll_flat : ∀ l : List D, PyData.depthAll (l.flatMap kids) ≤ PyData.depthAll l
  | [] => Nat.le_refl _
  | d :: r => by
    rw [List.flatMap_cons, depthAll_app]
    have := depthAll_flat r
    have := depth_kids d
    show _ ≤ max (PyData.depth d) (PyData.depthAll r)
    omega
theorem canLay_app : ∀ a b : List D, PyData.canLayAll0 (a ++ b) = (PyData.canLayAll0 a && PyData.canLayAll0 b)
  | [], b => by simp [PyData.canLayAll0]
  | d :: a, b => by simp [PyData.canLayAll0, canLay_app a b, Bool.and_assoc]
theorem canLay_kids {d : D} (h : PyData.canLay0 d = true) : PyData.canLayAll0 (kids d) = true := by
  cases d <;> simp_all [kids, PyData.canLayAll0, PyData.canLay0]
theorem canLay_flat : ∀ {l : List D}, PyData.canLayAll0 l = true → PyData.canLayAll0 (l.flatMap kids) = true
  | [], _ => rfl
  | d :: r, h => by
    have h' : (PyData.canLay0 d && PyData.canLayAll0 r) = true := by simpa [PyData.canLayAll0] using h
    rw [Bool.and_eq_true] at h'
    rw [List.flatMap_cons, canLay_app, canLay_kids h'.1, canLay_flat h'.2]
    rfl
theorem canLay_mem : ∀ {l : List D} {d : D}, PyData.canLayAll0 l = true → d ∈ l → PyData.canLay0 d = true
  | e :: r, d, h, m => by
    have h' : (PyData.canLay0 e && PyData.canLayAll0 r) = true := by simpa [PyData.canLayAll0] using h
    rw [Bool.and_eq_true] at h'
    rcases List.mem_cons.mp m with rfl | m
    · exact h'.1
    · exact canLay_mem h'.2 m
/-- data of a size that may be walked -/
structure FitA (l : List D) : Prop where
  lay : PyData.canLayAll0 l = true
  dep : PyData.depthAll l ≤ 62
  siz : szA l ≤ 1000000
structure Fit (d : D) : Prop where
  lay : PyData.canLay0 d = true
  dep : PyData.depth d ≤ 62
  siz : sz d ≤ 1000000
theorem FitA.flat {l : List D} (h : FitA l) : FitA (l.flatMap kids) :=
  ⟨canLay_flat h.lay, Nat.le_trans (depthAll_flat l) h.dep, Nat.le_trans (szA_flat l) h.siz⟩
theorem Fit.one {d : D} (h : Fit d) : FitA [d] := ⟨by simp [PyData.canLayAll0, h.lay], by simp [PyData.depthAll]; exact h.dep, by simp [szA]; exact h.siz⟩
theorem FitA.shaped {l : List D} (h : FitA l) : SeqAt.shaped (.list l) = true := by
  unfold SeqAt.shaped
  rw [Bool.and_eq_true]
  refine ⟨by simpa [PyData.canLay0] using h.lay, decide_eq_true ?_⟩
  have := h.dep
  show PyData.depthAll l + 1 ≤ 64
  omega
theorem depthAll_mem : ∀ {l : List D} {d : D}, d ∈ l → PyData.depth d ≤ PyData.depthAll l
  | e :: r, d, m => by
    show _ ≤ max (PyData.depth e) (PyData.depthAll r)
    rcases List.mem_cons.mp m with rfl | m
    · omega
    · have := depthAll_mem m
      omega
theorem FitA.mem {l : List D} {d : D} (h : FitA l) (m : d ∈ l) : Fit d :=
  ⟨canLay_mem h.lay m, Nat.le_trans (depthAll_mem m) h.dep, Nat.le_trans (szA_mem m) h.siz⟩
theorem Fit.kids {d : D} (h : Fit d) : FitA (kids d) := ⟨canLay_kids h.lay, Nat.le_trans (depth_kids d) h.dep, Nat.le_trans (szA_kids d) h.siz⟩
theorem Fit.shaped {d : D} (h : Fit d) : SeqAt.shaped d = true := by
  unfold SeqAt.shaped
  rw [Bool.and_eq_true]
  have := h.dep
  exact ⟨h.lay, decide_eq_true (by omega)⟩
theorem eqv_nil (l : List D) : PyData.eqv (.list l) (.list []) = l.isEmpty := by cases l <;> simp [PyData.eqv, PyData.eqvAll]
end K88
set_option maxRecDepth 100000
set_option maxHeartbeats 4000000
/-! # 1c. What the reader has in hand stays small -/
namespace K88
open PySem L2 TL
def szL : List (List D) → Nat
  | [] => 0
  | t :: r => szA t + szL r
structure StOk (N C : Nat) (s : MS) : Prop where
  lay : ∀ t ∈ s.1, PyData.canLayAll0 t = true
  layD : PyData.canLayAll0 s.2 = true
  dep : ∀ t ∈ s.1, PyData.depthAll t + s.1.length ≤ N
  len : s.1.length ≤ N
  depD : PyData.depthAll s.2 ≤ N
  siz : szL s.1 + szA s.2 + 2 * s.1.length ≤ 2 * C
theorem StOk.mono {N C M B : Nat} {s : MS} (h : StOk N C s) (h1 : N ≤ M) (h2 : C ≤ B) : StOk M B s :=
  ⟨h.lay, h.layD, fun t ht => Nat.le_trans (h.dep t ht) h1, Nat.le_trans h.len h1, Nat.le_trans h.depD h1, by have := h.siz; omega⟩
theorem strOk_small {l : List Nat} (h : l.all lowC = true) : PyData.strOk ⟨l.toArray⟩ = true := by
  unfold PyData.strOk
  rw [← Array.all_toList, List.all_eq_true]
  intro c hc
  have := lowC_rng (List.all_eq_true.mp h c hc)
  exact decide_eq_true (by omega)
theorem plainOf_ok {p : List Nat} (hp : p ≠ []) : PyData.canLayAll0 (plainOf p) = true ∧ PyData.depthAll (plainOf p) = 0 ∧ szA (plainOf p) ≤ 2 * p.length := by
  have hl : 1 ≤ p.length := by
    cases p with
    | nil => exact absurd rfl hp
    | cons => simp
  unfold plainOf
  split
  · exact ⟨rfl, rfl, by simp [szA, sz]; omega⟩
  · split
    · rename_i hw
      unfold wordL at hw
      rw [Bool.and_eq_true] at hw
      refine ⟨by simp [PyData.canLayAll0, PyData.canLay0, strOk_small hw.2], rfl, ?_⟩
      simp [szA, sz, Str.length]
      omega
    · split
      · exact ⟨rfl, rfl, by simp [szA]⟩
      · split
        · rename_i hq
          exact ⟨rfl, rfl, by simp [szA, sz, hq]; omega⟩
        · exact ⟨rfl, rfl, by simp [szA]⟩
theorem depthAll_one (d : D) : PyData.depthAll [d] = PyData.depth d := by simp [PyData.depthAll]
theorem put1_ok {N C : Nat} {op : List (List D)} {dn one : List D} {s' : MS} (h : put1 op dn one = some s') (lay : ∀ t ∈ op, PyData.canLayAll0 t = true) (layD : PyData.canLayAll0 dn = true)
    (dep : ∀ t ∈ op, PyData.depthAll t + op.length ≤ N) (len : op.length ≤ N) (depD : PyData.depthAll dn ≤ N) (siz : szL op + szA dn + szA one + 2 * op.length ≤ 2 * C)
    (lay1 : PyData.canLayAll0 one = true) (dep1 : PyData.depthAll one + op.length ≤ N) : StOk N C s' := by
  unfold put1 at h
  split at h
  · cases h
  · cases op with
    | nil =>
      cases h
      refine ⟨fun t ht => (by cases ht), lay1, fun t ht => (by cases ht), Nat.zero_le _, by simpa using dep1, ?_⟩
      simp [szL] at siz ⊢
      omega
    | cons t r =>
      cases h
      refine ⟨fun u hu => ?_, layD, fun u hu => ?_, by simpa using len, depD, ?_⟩
      · rcases List.mem_cons.mp hu with rfl | hu
        · rw [canLay_app, lay t List.mem_cons_self, lay1]
          rfl
        · exact lay u (List.mem_cons_of_mem _ hu)
      · show _ + (r.length + 1) ≤ N
        rcases List.mem_cons.mp hu with rfl | hu
        · rw [depthAll_app]
          have h1 := dep t List.mem_cons_self
          simp only [List.length_cons] at h1 dep1
          omega
        · have h1 := dep u (List.mem_cons_of_mem _ hu)
          simpa using h1
      · show szA (t ++ one) + szL r + szA dn + 2 * (r.length + 1) ≤ 2 * C
        rw [szA_app]
        simp only [szL, List.length_cons] at siz
        omega
def isOpen (p : List Nat) : Nat := if p = [40] then 1 else 0
theorem stepV_ok {N C : Nat} {s s' : MS} {p : List Nat} (hp : p ≠ []) (h : stepV s p = some s') (o : StOk N C s) : StOk (N + isOpen p) (C + p.length) s' := by
  have hl : 1 ≤ p.length := by
    cases p with
    | nil => exact absurd rfl hp
    | cons => simp
  obtain ⟨op, dn⟩ := s
  unfold stepV at h
  unfold isOpen
  split at h
  · rename_i e
    cases h
    rw [if_pos e]
    refine ⟨fun t ht => ?_, o.layD, fun t ht => ?_, ?_, Nat.le_succ_of_le o.depD, ?_⟩
    · rcases List.mem_cons.mp ht with rfl | ht
      · rfl
      · exact o.lay t ht
    · have := o.len
      rcases List.mem_cons.mp ht with rfl | ht
      · simp [PyData.depthAll] at this ⊢
        omega
      · have := o.dep t ht
        simp at this ⊢
        omega
    · have := o.len
      simp at this ⊢
      omega
    · have := o.siz
      simp [szL, szA] at this ⊢
      omega
  · rename_i e
    rw [if_neg e, Nat.add_zero]
    split at h
    · cases h
      exact o.mono (Nat.le_refl _) (by omega)
    · split at h
      · cases op with
        | nil => cases h
        | cons t r =>
          have h : put1 r dn [.tuple t] = some s' := h
          have h1 := o.dep t List.mem_cons_self
          have h2 := o.siz
          have h3 := o.len
          simp only [List.length_cons, szL] at h1 h2 h3
          refine put1_ok h (fun u hu => o.lay u (List.mem_cons_of_mem _ hu)) o.layD (fun u hu => ?_) (by omega) o.depD ?_ ?_ ?_
          · have := o.dep u (List.mem_cons_of_mem _ hu)
            simp only [List.length_cons] at this
            omega
          · simp [szA, sz]
            omega
          · have := o.lay t List.mem_cons_self
            simpa [PyData.canLayAll0, PyData.canLay0] using this
          · rw [depthAll_one]
            show PyData.depthAll t + 1 + r.length ≤ N
            omega
      · have h : put1 op dn (plainOf p) = some s' := h
        obtain ⟨q1, q2, q3⟩ := plainOf_ok hp
        have h2 := o.siz
        simp only at h2
        refine put1_ok h o.lay o.layD o.dep o.len o.depD (by omega) q1 ?_
        rw [q2, Nat.zero_add]
        exact o.len
def openN : List (List Nat) → Nat
  | [] => 0
  | p :: r => isOpen p + openN r
def lenN : List (List Nat) → Nat
  | [] => 0
  | p :: r => p.length + lenN r
theorem runV_ok : ∀ {ps : List (List Nat)} {N C : Nat} {s s' : MS}, (∀ p ∈ ps, p ≠ []) → runV s ps = some s' → StOk N C s → StOk (N + openN ps) (C + lenN ps) s'
  | [], N, C, s, s', _, h, o => by
    cases h
    simpa [openN, lenN] using o
  | p :: r, N, C, s, s', hp, h, o => by
    have h : (match stepV s p with | none => none | some s1 => runV s1 r) = some s' := h
    cases e : stepV s p with
    | none => rw [e] at h; cases h
    | some s1 =>
      rw [e] at h
      have := runV_ok (fun q hq => hp q (List.mem_cons_of_mem _ hq)) h (stepV_ok (hp p List.mem_cons_self) e o)
      refine this.mono ?_ ?_
      · show _ ≤ N + (isOpen p + openN r)
        omega
      · show _ ≤ C + (p.length + lenN r)
        omega
theorem openN_take : ∀ (ps : List (List Nat)) (i : Nat), openN (ps.take i) ≤ openN ps
  | [], i => by simp
  | p :: r, 0 => Nat.zero_le _
  | p :: r, i + 1 => by
    have := openN_take r i
    show isOpen p + openN (r.take i) ≤ isOpen p + openN r
    omega
theorem lenN_take : ∀ (ps : List (List Nat)) (i : Nat), lenN (ps.take i) ≤ lenN ps
  | [], i => by simp
  | p :: r, 0 => Nat.zero_le _
  | p :: r, i + 1 => by
    have := lenN_take r i
    show p.length + lenN (r.take i) ≤ p.length + lenN r
    omega
theorem st0 : StOk 0 0 ([], []) := ⟨fun t ht => (by cases ht), rfl, fun t ht => (by cases ht), Nat.le_refl _, Nat.le_refl _, Nat.le_refl _⟩
/-- what stands in hand behind the first i pieces -/
theorem run_take {ps : List (List Nat)} {i : Nat} {s : MS} (hp : ∀ p ∈ ps, p ≠ []) (h : runV ([], []) (ps.take i) = some s) : StOk (openN ps) (lenN ps) s := by
  have := runV_ok (fun p hm => hp p (List.mem_of_mem_take hm)) h st0
  refine this.mono ?_ ?_
  · have := openN_take ps i
    omega
  · have := lenN_take ps i
    omega
theorem lenN_app : ∀ a b : List (List Nat), lenN (a ++ b) = lenN a + lenN b
  | [], b => by simp [lenN]
  | p :: a, b => by simp [lenN, lenN_app a b]; omega
theorem openN_app : ∀ a b : List (List Nat), openN (a ++ b) = openN a + openN b
  | [], b => by simp [openN]
  | p :: a, b => by simp [openN, openN_app a b]; omega
def count40 : List Nat → Nat
  | [] => 0
  | c :: r => (if c = 40 then 1 else 0) + count40 r
theorem count40_app : ∀ a b : List Nat, count40 (a ++ b) = count40 a + count40 b
  | [], b => by simp [count40]
  | c :: a, b => by simp [count40, count40_app a b]; omega
theorem flush_ok (cur : List Nat) (h : ∀ c ∈ cur, sepC c = false) : (∀ p ∈ flush cur, p ≠ []) ∧ lenN (flush cur) = cur.length ∧ openN (flush cur) = 0 := by
  cases cur with
  | nil => exact ⟨fun p hp => (by cases hp), rfl, rfl⟩
  | cons c r =>
    refine ⟨fun p hp => ?_, by simp [flush, lenN], ?_⟩
    · have : p = c :: r := by simpa [flush] using hp
      rw [this]
      simp
    · show isOpen (c :: r) + 0 = 0
      have hc := h c List.mem_cons_self
      unfold isOpen
      rw [if_neg]
      intro e
      cases e
      exact absurd hc (by decide +kernel)
theorem tok_ok : ∀ (t cur : List Nat), (∀ c ∈ cur, sepC c = false) → (∀ p ∈ tok cur t, p ≠ []) ∧ lenN (tok cur t) = cur.length + t.length ∧ openN (tok cur t) = count40 t
  | [], cur, h => by
    obtain ⟨a, b, c⟩ := flush_ok cur h
    exact ⟨a, by simpa [tok] using b, c⟩
  | c :: t, cur, h => by
    show (∀ p ∈ (if sepC c then flush cur ++ [c] :: tok [] t else tok (cur ++ [c]) t), p ≠ []) ∧ lenN (if sepC c then flush cur ++ [c] :: tok [] t else tok (cur ++ [c]) t) = _ ∧ openN (if sepC c then flush cur ++ [c] :: tok [] t else tok (cur ++ [c]) t) = _
    cases hs : sepC c with
    | true =>
      obtain ⟨a1, a2, a3⟩ := flush_ok cur h
      obtain ⟨b1, b2, b3⟩ := tok_ok t [] (fun c hc => by cases hc)
      rw [if_pos rfl]
      refine ⟨fun p hp => ?_, ?_, ?_⟩
      · rcases List.mem_append.mp hp with hp | hp
        · exact a1 p hp
        · rcases List.mem_cons.mp hp with rfl | hp
          · simp
          · exact b1 p hp
      · rw [lenN_app, a2]
        show cur.length + (1 + lenN (tok [] t)) = _
        rw [b2]
        simp
        omega
      · rw [openN_app, a3]
        show 0 + (isOpen [c] + openN (tok [] t)) = _
        rw [b3]
        unfold isOpen
        show _ = (if c = 40 then 1 else 0) + count40 t
        by_cases e : c = 40
        · simp [e]
        · simp [e]
    | false =>
      rw [if_neg Bool.false_ne_true]
      obtain ⟨b1, b2, b3⟩ := tok_ok t (cur ++ [c]) (fun d hd => by
        rcases List.mem_append.mp hd with hd | hd
        · exact h d hd
        · rw [List.mem_singleton.mp hd]; exact hs)
      refine ⟨b1, by rw [b2]; simp; omega, ?_⟩
      rw [b3]
      show _ = (if c = 40 then 1 else 0) + count40 t
      rw [if_neg]
      · omega
      · intro e
        subst e
        exact absurd hs (by decide +kernel)
end K88
set_option maxRecDepth 100000
set_option maxHeartbeats 4000000
/-! # 2. Words for the walk: a def of the text, its promise -/
namespace K88
open PySem PySem.Spec PyProof.Rows L2 TL
def topS (i : Nat) : Stmt := PySem.Challenge.pw_doublingbook_k88_values_written.main.body.getD i (.Pass ⟨0, 0, 0, 0⟩)
/-- a def of one parameter takes it by its name, too -/
def KB1 (fd : FuncData) (ps : List Str) : Prop := ∀ p, ps = [p] → ∀ (s : Shared) (u : Value), BindsTo s fd ⟨[], [(p, u)]⟩ [(p, u)]
/-- the def st stands in the module under the name x -/
def Df (K : PySem.W.Frag) (mg : Str → Option Value) (x : Str) (st : Stmt) (ps : List Str) : Prop :=
  ∃ (f : Addr) (fd : FuncData), Fun K x x st f fd ∧ Binds K fd ps [] ∧ mg x = some (.ref f) ∧ KB1 fd ps
/-- the module's name x holds a def with this promise -/
def Prom (P : Program) (w : World) (K : PySem.W.Frag) (mg : Str → Option Value) (base : Heap) (CX : CXT) (k : Nat) (x : Str) (ps : List Str) (sp : Sp) : Prop :=
  ∃ (f : Addr) (fd : FuncData), FnOk P w K mg base CX k f fd ps sp ∧ Binds K fd ps [] ∧ mg x = some (.ref f) ∧ PySem.W.keepIn K (.ref f) = true ∧ KB1 fd ps
section
variable {P : Program} {w : World} {K : PySem.W.Frag} {mg : Str → Option Value} {base : Heap} {CX : CXT} {k : Nat} {x : Str} {N ps : List Str} {sp : Sp} {st : Stmt}
theorem prom_of (D : Df K mg x st ps) (S : FnScope N ps (defScope st)) (len : ∀ vs H Q E, sp vs H Q E → vs.length = ps.length)
    (body : ∀ (f : Addr) (cdv : Value) (A : Around) (outer : List Env) (s : Shared) (H : Hp) (vs : List V) (Q : VK) (E : XK), Room k (A.deeper (envOfC x (defScope st) s.heap.objs.size f cdv)) → sp vs H Q E →
      ∃ t, PSs (cxOf CX0 P w K mg base N x (defScope st) f cdv A outer s H E).nox (defBody st) t ∧ t { nx := fun _ H' => Q .non H', rt := Q } (start N vs) H) : Prom P w K mg base CX0 (k + 1) x ps sp := by
  obtain ⟨f, fd, F, b, m, kb⟩ := D
  exact ⟨f, fd, F.ok S len (body f), b, m, F.kp, kb⟩
theorem prom_ofX (D : Df K mg x st ps) (S : FnScope N ps (defScope st)) (len : ∀ vs H Q E, sp vs H Q E → vs.length = ps.length)
    (body : ∀ (f : Addr) (cdv : Value) (A : Around) (outer : List Env) (s : Shared) (H : Hp) (vs : List V) (Q : VK) (E : XK), Room k (A.deeper (envOfC x (defScope st) s.heap.objs.size f cdv)) → sp vs H Q E →
      ∃ t, PSs (cxOf (L2.CX P w) P w K mg base N x (defScope st) f cdv A outer s H E) (defBody st) t ∧ t { nx := fun _ H' => Q .non H', rt := Q } (start N vs) H) : Prom P w K mg base (L2.CX P w) (k + 1) x ps sp := by
  obtain ⟨f, fd, F, b, m, kb⟩ := D
  exact ⟨f, fd, F.okX S len (body f), b, m, F.kp, kb⟩
theorem Prom.mono {j : Nat} (p : Prom P w K mg base CX j x ps sp) (h : j ≤ k) : Prom P w K mg base CX k x ps sp := by
  obtain ⟨f, fd, F, r⟩ := p
  exact ⟨f, fd, F.mono h, r⟩
end
section
variable {X : Cx} {CX : CXT} {k : Nat} {x : Str} {ps : List Str} {sp : Sp} {E : XK} {p pos : Pos} {e : Expr} {es : List Expr} {t : TA}
theorem pe_callP (F : Prom X.prog X.w X.K X.mg X.base CX k x ps sp) (hr : Room k X.A) (hx : Passes CX X E) (ha : PA X (e :: es) t) (hg : Gl X x := by rfl)
    (hdb : (x == ("__debug__" : Str)) = false := by decide) (he : starEach (e :: es) X.env = (false, eval e X.env) :: starEach es X.env := by rfl) (hpl : (backTo pos (starEach es X.env)).any (·.1) = false := by rfl) :
    PE X (.Call (.Name x p) (e :: es) [] pos) (tCall sp [] E t) := by
  obtain ⟨f, fd, F, b, m, kp, _⟩ := F
  exact pe_call F hr hg m kp b .nil hx ha hdb he hpl
end
/-- the facts of the module that the walk asks -/
structure Txt (K : PySem.W.Frag) (mg : Str → Option Value) : Prop where
  isinstance : mg "isinstance" = none
  str : mg "str" = none
  int : mg "int" = none
  bool : mg "bool" = none
  list : mg "list" = none
  tuple : mg "tuple" = none
  dict : mg "dict" = none
  all : mg "all" = none
  abs : mg "abs" = none
  range : mg "range" = none
  len : mg "len" = none
  reversed : mg "reversed" = none
  enumerate : mg "enumerate" = none
  repr : mg "repr" = none
  min : mg "min" = none
  deep : ∃ t, mg "MOST_DEEP" = some (.int 60 t)
  figs : ∃ t, mg "MOST_FIGURES" = some (.int 12 t)
  num : ∃ t, mg "MOST_NUMBER" = some (.int 1000000000000 t)
  small : ∃ t, mg "SMALL" = some (.str smallS t)
  figures : ∃ t, mg "FIGURES" = some (.str figS t)
theorem pe_mostDeep {X : Cx} {pos : Pos} (T : Txt X.K X.mg) (hg : Gl X "MOST_DEEP" := by rfl) : PE X (.Name "MOST_DEEP" pos) (tC (.int 60)) := by
  obtain ⟨t, m⟩ := T.deep
  exact pe_glob hg m ⟨_, rfl⟩
theorem pe_mostFigs {X : Cx} {pos : Pos} (T : Txt X.K X.mg) (hg : Gl X "MOST_FIGURES" := by rfl) : PE X (.Name "MOST_FIGURES" pos) (tC (.int 12)) := by
  obtain ⟨t, m⟩ := T.figs
  exact pe_glob hg m ⟨_, rfl⟩
theorem pe_mostNum {X : Cx} {pos : Pos} (T : Txt X.K X.mg) (hg : Gl X "MOST_NUMBER" := by rfl) : PE X (.Name "MOST_NUMBER" pos) (tC (.int 1000000000000)) := by
  obtain ⟨t, m⟩ := T.num
  exact pe_glob hg m ⟨_, rfl⟩
theorem pe_small {X : Cx} {pos : Pos} (T : Txt X.K X.mg) (hg : Gl X "SMALL" := by rfl) : PE X (.Name "SMALL" pos) (tC (.str smallS)) := by
  obtain ⟨t, m⟩ := T.small
  exact pe_glob hg m ⟨_, rfl⟩
theorem pe_figures {X : Cx} {pos : Pos} (T : Txt X.K X.mg) (hg : Gl X "FIGURES" := by rfl) : PE X (.Name "FIGURES" pos) (tC (.str figS)) := by
  obtain ⟨t, m⟩ := T.figures
  exact pe_glob hg m ⟨_, rfl⟩
end K88
set_option maxRecDepth 100000
set_option maxHeartbeats 4000000
namespace K88
open PySem PySem.Spec PyProof.Rows L2 TL
/-! ## data: their types -/
def tyName : D → String
  | .none => "NoneType"
  | .bool _ => "bool"
  | .int _ => "int"
  | .str _ => "str"
  | .list _ => "list"
  | .tuple _ => "tuple"
  | .dict _ => "dict"
theorem ty_dp {K : PySem.W.Frag} {H : Hp} {v : V} {d : D} (h : Dp K H v d) : TyX K H v (.type (tyName d)) := by
  cases h with
  | non => exact .base .non
  | bl b => exact .base (.bl b)
  | int i => exact .base (.int i)
  | str x => exact .base (.str x)
  | lst hs _ =>
    rcases hs with (h | ⟨o, h⟩) | ⟨o, _, _, e, c, _⟩
    · exact .base (.lst h)
    · exact .base (.frz h)
    · exact .kList e c
  | tup hs _ =>
    rcases hs with (h | ⟨o, h⟩) | ⟨o, _, _, e, c, _⟩
    · exact .base (.tup h)
    · exact .fTuple h
    · exact .kTuple e c
def isStr : D → Bool
  | .str _ => true
  | _ => false
def isInt : D → Bool
  | .int _ => true
  | .bool _ => true
  | _ => false
def isBool : D → Bool
  | .bool _ => true
  | _ => false
def isTup : D → Bool
  | .tuple _ => true
  | _ => false
def isLst : D → Bool
  | .list _ => true
  | _ => false
theorem kit_str (d : D) : kitB (tyName d) "str" = some (isStr d) := by cases d <;> (dsimp only [tyName, isStr]; decide +kernel)
theorem kit_int (d : D) : kitB (tyName d) "int" = some (isInt d) := by cases d <;> (dsimp only [tyName, isInt]; decide +kernel)
theorem kit_bool (d : D) : kitB (tyName d) "bool" = some (isBool d) := by cases d <;> (dsimp only [tyName, isBool]; decide +kernel)
theorem kit_tup (d : D) : kitB (tyName d) "tuple" = some (isTup d) := by cases d <;> (dsimp only [tyName, isTup]; decide +kernel)
theorem kit_lst (d : D) : kitB (tyName d) "list" = some (isLst d) := by cases d <;> (dsimp only [tyName, isLst]; decide +kernel)
theorem isi_ans {K : PySem.W.Frag} {H : Hp} {v : V} {d : D} {n : String} {b : Bool} {Q : VK} (h : Dp K H v d) (k : kitB (tyName d) n = some b) (q : Q (.bl b) H) : rIsi K [v, .ty n] H Q :=
  ⟨v, .ty n, .type (tyName d), .type n, b, rfl, .ty n, ty_dp h, kit_ty k, q⟩
section
variable {X : Cx} {e : Expr} {te : TE} {p pos : Pos}
theorem pe_ty {T : Str} {n : String} (hm : X.mg T = none) (hv : bootBuiltins T = some (.type n)) (hg : Gl X T := by rfl) (hn : T ≠ "__name__" := by decide) (hd : (T == ("__debug__" : Str)) = false := by decide) : PE X (.Name T p) (tC (.ty n)) := pe_bltn hg hm hv rfl hn hd
/-- isinstance(e, T) -/
def tIsi (K : PySem.W.Frag) (te : TE) (n : String) : TE := fun σ H Q => te σ H fun v H1 => rIsi K [v, .ty n] H1 Q
theorem pe_isi {T : Str} {n : String} (hi : X.mg "isinstance" = none) (hm : X.mg T = none) (hv : bootBuiltins T = some (.type n)) (he : PE X e te) (hgi : Gl X "isinstance" := by rfl) (hg : Gl X T := by rfl) (hn : T ≠ "__name__" := by decide) (hd : (T == ("__debug__" : Str)) = false := by decide)
    (hs : starEach [e, .Name T p] X.env = (false, eval e X.env) :: starEach [.Name T p] X.env := by rfl) (hs2 : starEach [.Name T p] X.env = (false, eval (.Name T p) X.env) :: starEach [] X.env := by rfl) {p2 : Pos}
    (hpl : (backTo pos (starEach [.Name T p] X.env)).any (·.1) = false := by rfl) :
    PE X (.Call (.Name "isinstance" p2) [e, .Name T p] [] pos) (tIsi X.K te n) :=
  pe_callB call_isi hgi hi PyProof.Rows.boot_isinstance (pa_cons he (pa_cons (pe_ty hm hv hg hn hd) pa_nil hs2) hs) (he := hs) (hpl := hpl)
end
/-! ## is_word, is_figure -/
abbrev sIsWord : Stmt := topS 24
abbrev sIsFig : Stmt := topS 25
def wordD : D → Bool
  | .str s => wordB s
  | _ => false
def figD : D → Bool
  | .int i => figB i
  | _ => false
/-- a text of this length may be walked -/
def lenD : D → Nat
  | .str s => s.length
  | _ => 0
def spIsWord (K : PySem.W.Frag) : Sp := fun vs H Q _ => ∃ (v : V) (d : D), vs = [v] ∧ Dp K H v d ∧ lenD d ≤ 1000000 ∧ ∀ H', Same H H' → Q (.bl (wordD d)) H'
def spIsFig (K : PySem.W.Frag) : Sp := fun vs H Q _ => ∃ (v : V) (d : D), vs = [v] ∧ Dp K H v d ∧ Q (.bl (figD d)) H
theorem dp_str {K : PySem.W.Frag} {H : Hp} {v : V} {s : Str} (h : Dp K H v (.str s)) : v = .str s := by cases h; rfl
theorem dp_int {K : PySem.W.Frag} {H : Hp} {v : V} {i : Int} (h : Dp K H v (.int i)) : v = .int i := by cases h; rfl
theorem dp_bool {K : PySem.W.Frag} {H : Hp} {v : V} {b : Bool} (h : Dp K H v (.bool b)) : v = .bl b := by cases h; rfl
theorem dp_none {K : PySem.W.Frag} {H : Hp} {v : V} (h : Dp K H v .none) : v = .non := by cases h; rfl
theorem le_line {n : Nat} (h : n ≤ 16000000) : n ≤ sizeLine := by rw [sizeLine_eq]; omega
theorem lt_line {n : Nat} (h : n ≤ 16000000) : n < sizeLine := by rw [sizeLine_eq]; omega
section
variable {P : Program} {w : World} {K : PySem.W.Frag} {mg : Str → Option Value} {base : Heap}
theorem scIsWord : FnScope ["thing", "sign"] ["thing"] (defScope sIsWord) := ⟨rfl, rfl, rfl, by decide +kernel, rfl, by decide +kernel, by decide +kernel⟩
theorem ok_isWord (T : Txt K mg) (Dd : Df K mg "is_word" sIsWord ["thing"]) : Prom P w K mg base CX0 2 "is_word" ["thing"] (spIsWord K) := by
  refine prom_of Dd scIsWord (fun vs H Q E h => ?_) (fun f cdv A outer s H vs Q E hr h => ?_)
  · obtain ⟨v, d, rfl, _⟩ := h
    rfl
  · obtain ⟨v, d, rfl, hd, hl, k⟩ := h
    refine ⟨_, pss_one (ps_ret (pe_and (pe_isi T.isinstance T.str PyProof.Rows.boot_str (pv 0)) (pe_and (pe_cmpR op_ne (pv 0) pe_str (nomark _))
      (pe_one (pe_callB (cr_all rfl) (by rfl) T.all PyProof.Rows.boot_all (pa_cons (pe_lc (own := [("sign", 1)]) (g := gName 1) (tt := tYes) rfl scIsWord.nd (pi_str (pv 0)) (blkOk_by (own := [("sign", 1)]) (N := ["thing", "sign"]) (sc := defScope sIsWord) (by decide +kernel))
        (fun _ _ _ _ _ => pg_name (i := 1) scIsWord.nd rfl (Or.inl rfl)) (fun _ _ _ _ _ => pts_nil) (fun _ _ _ _ _ => pe_cmpR op_in_sign (pv 1) (pe_small T) (by rfl))) pa_nil)))))), ?_⟩
    refine ⟨_, rfl, isi_ans hd (kit_str d) ⟨_, rfl, ?_⟩⟩
    cases d with
    | str z =>
      obtain rfl := dp_str hd
      have ez : (!decide (V.str z = V.str (Str.ofString ""))) = !(tl z).isEmpty := by
        congr 1
        by_cases e : z = Str.ofString ""
        · subst e; decide +kernel
        · rw [decide_eq_false (fun q => e (V.str.inj q))]
          cases e2 : tl z with
          | nil => exact absurd (ext_tl (e2.trans (by decide +kernel))) e
          | cons => rfl
      refine iteT ⟨_, rfl, rfl, (!(tl z).isEmpty), congrArg V.bl ez, ?_⟩
      have ew : wordD (.str z) = (!(tl z).isEmpty && (tl z).all lowC) := rfl
      cases en : (tl z).isEmpty with
      | true =>
        refine iteF ?_
        have := k H (Same.refl H)
        rw [ew, en] at this
        exact this
      | false =>
        refine iteT ?_
        refine ⟨_, rfl, _, rfl, fun D hD => lc_it walk_str (fun i H' => Same H H' ∧ H' D = some (.lst (((tl z).take i).map fun c => V.bl (lowC c)))) ⟨fun b o e => by rw [upd_ne (ne_of_none e hD)]; exact e, upd_same⟩ (fun _ _ _ _ => trivial) ?_ ?_⟩
        · rintro i x H1 H2 hi ⟨s1, h1⟩ ⟨rfl, c, hc, rfl⟩
          refine ⟨rfl, _, rfl, c, smallS, rfl, rfl, _, h1, ?_, ?_, ?_⟩
          · rw [List.length_map, List.length_take]
            exact lt_line (by have : z.length ≤ 1000000 := hl; rw [len_tl] at this; omega)
          · exact fun b o e => by rw [upd_ne (ne_of_none e hD)]; exact s1 b o e
          · rw [upd_same]
            have hc' : (tl z)[i]? = some c := by rw [← hc]; exact Array.getElem?_toList
            rw [List.take_add_one, hc']
            simp [lowC]
        · rintro H1 ⟨s1, h1⟩
          refine ⟨D, (tl z).map lowC, rfl, SqL.of ?_, ?_⟩
          · rw [h1, List.map_map, show z.cps.size = (tl z).length by simp [tl], List.take_length]
            rfl
          · have := k H1 s1
            rw [ew, en] at this
            rw [show (List.map lowC (tl z)).all id = (tl z).all lowC by rw [List.all_map]; rfl]
            exact this
    | _ => exact iteF (k H (Same.refl H))
theorem scIsFig : FnScope ["thing"] ["thing"] (defScope sIsFig) := ⟨rfl, rfl, rfl, by decide +kernel, rfl, by decide +kernel, by decide +kernel⟩
theorem ok_isFig (T : Txt K mg) (Dd : Df K mg "is_figure" sIsFig ["thing"]) : Prom P w K mg base CX0 1 "is_figure" ["thing"] (spIsFig K) := by
  refine prom_of Dd scIsFig (fun vs H Q E h => ?_) (fun f cdv A outer s H vs Q E hr h => ?_)
  · obtain ⟨v, d, rfl, _⟩ := h
    rfl
  · obtain ⟨v, d, rfl, hd, k⟩ := h
    refine ⟨_, pss_one (ps_ret (pe_and (pe_isi T.isinstance T.int PyProof.Rows.boot_int (pv 0)) (pe_and (pe_not (pe_isi T.isinstance T.bool PyProof.Rows.boot_bool (pv 0)))
      (pe_one (pe_cmpR op_lt (pe_callB call_abs (by rfl) T.abs PyProof.Rows.boot_abs (pa_cons (pv 0) pa_nil)) (pe_mostNum T) (nomark _)))))), ?_⟩
    refine ⟨_, rfl, isi_ans hd (kit_int d) ⟨_, rfl, ?_⟩⟩
    cases d with
    | int i =>
      obtain rfl := dp_int hd
      refine iteT ?_
      refine ⟨_, rfl, isi_ans hd (kit_bool _) ⟨_, rfl, _, rfl, ?_⟩⟩
      refine iteT ?_
      exact ⟨_, rfl, _, rfl, _, _, rfl, rfl, k⟩
    | bool b =>
      obtain rfl := dp_bool hd
      refine iteT ?_
      refine ⟨_, rfl, isi_ans hd (kit_bool _) ⟨_, rfl, _, rfl, ?_⟩⟩
      exact iteF k
    | _ => exact iteF k
end
end K88
set_option maxRecDepth 100000
set_option maxHeartbeats 4000000
namespace K88
open PySem PySem.Spec PyProof.Rows L2 TL
/-! ## data stand while what is tracked stands -/
theorem Same.tup {K : PySem.W.Frag} {H H' : Hp} {a : Addr} {xs : List V} (e : Same H H') (h : SqT K H a xs) : SqT K H' a xs := by
  rcases h with (h | ⟨o, h⟩) | h
  · exact .inl (.inl (e _ _ h))
  · exact .inl (.inr ⟨o, e _ _ h⟩)
  · exact .inr h
mutual
theorem dp_keep {K : PySem.W.Frag} {H H' : Hp} (kl : ∀ a xs, SqL K H a xs → SqL K H' a xs) (kt : ∀ a xs, SqT K H a xs → SqT K H' a xs) : ∀ {d : D} {v : V}, Dp K H v d → Dp K H' v d
  | .none, _, h => by cases h; exact .non
  | .bool b, _, h => by cases h; exact .bl b
  | .int i, _, h => by cases h; exact .int i
  | .str x, _, h => by cases h; exact .str x
  | .list ds, _, h => by
    cases h with
    | lst hs ha => exact .lst (kl _ _ hs) (dp_keepA kl kt ha)
  | .tuple ds, _, h => by
    cases h with
    | tup hs ha => exact .tup (kt _ _ hs) (dp_keepA kl kt ha)
  | .dict _, _, h => by cases h
theorem dp_keepA {K : PySem.W.Frag} {H H' : Hp} (kl : ∀ a xs, SqL K H a xs → SqL K H' a xs) (kt : ∀ a xs, SqT K H a xs → SqT K H' a xs) : ∀ {ds : List D} {vs : List V}, DpAll K H vs ds → DpAll K H' vs ds
  | [], _, h => by cases h; exact .nil
  | d :: ds, _, h => by
    cases h with
    | cons h1 h2 => exact .cons (dp_keep kl kt h1) (dp_keepA kl kt h2)
end
theorem dp_same {K : PySem.W.Frag} {H H' : Hp} (e : Same H H') {d : D} {v : V} (h : Dp K H v d) : Dp K H' v d := dp_keep (fun _ _ => e.seq) (fun _ _ => Same.tup e) h
theorem dpA_same {K : PySem.W.Frag} {H H' : Hp} (e : Same H H') {ds : List D} {vs : List V} (h : DpAll K H vs ds) : DpAll K H' vs ds := dp_keepA (fun _ _ => e.seq) (fun _ _ => Same.tup e) h
theorem dpA_app {K : PySem.W.Frag} {H : Hp} : ∀ {ds es : List D} {vs us : List V}, DpAll K H vs ds → DpAll K H us es → DpAll K H (vs ++ us) (ds ++ es)
  | [], _, _, _, h, k => by cases h; exact k
  | _ :: _, _, _, _, h, k => by
    cases h with
    | cons h1 h2 => exact .cons h1 (dpA_app h2 k)
theorem dpA_len {K : PySem.W.Frag} {H : Hp} : ∀ {ds : List D} {vs : List V}, DpAll K H vs ds → vs.length = ds.length
  | [], _, h => by cases h; rfl
  | _ :: _, _, h => by
    cases h with
    | cons h1 h2 => simp [dpA_len h2]
theorem dpA_get {K : PySem.W.Frag} {H : Hp} : ∀ {ds : List D} {vs : List V} {i : Nat} {v : V}, DpAll K H vs ds → vs[i]? = some v → ∃ d, ds[i]? = some d ∧ Dp K H v d
  | [], _, _, _, h, e => by cases h; simp at e
  | d :: ds, _, 0, v, h, e => by
    cases h with
    | cons h1 h2 => simp at e; subst e; exact ⟨d, rfl, h1⟩
  | d :: ds, _, i + 1, v, h, e => by
    cases h with
    | cons h1 h2 =>
      obtain ⟨x, q1, q2⟩ := dpA_get (i := i) (v := v) h2 (by simpa using e)
      exact ⟨x, by simpa using q1, q2⟩
theorem same_new {H H1 : Hp} {p : Addr} {o : HO} (s : Same H H1) (n : H p = none) : Same H (upd H1 p o) := fun b u e => by
  rw [upd_ne (ne_of_none e n)]
  exact s b u e
/-! ## xs.extend(a tuple) -/
theorem extend_tup (l : Addr) (items : Array Value) (n : Nat) (b : Addr) (items2 : Array Value) (n2 : Nat) (dd : Option Addr) (sl : Array (Option Value)) (hs0 : ¬(!items.isEmpty && Builtin.List.listTooLong (items.size + items2.size)) = true) (hs1 : items.size ≤ sizeLine) (hs2 : items.size + items2.size ≤ sizeLine + 1) :
    Meets (Builtin.«list.extend» ⟨[.ref l, .ref b], []⟩) (fun _ R s => s.heap.get? l = some { cls := .type "list", dict := none, data := .seq items n, slots := #[] } ∧ s.heap.get? b = some ⟨.type "tuple", dd, .seq items2 n2, sl⟩ ∧ R (.ok (.ret Value.none)) { s with heap := s.heap.update l (Obj.mapSeq fun x => x ++ items2), toks := s.toks }) := by
  refine .of_wp fun prog w A R s h => ?_
  obtain ⟨hp, g, d, tk, os⟩ := s
  obtain ⟨hl, hb, h⟩ := h
  have f4 := sub_tuple_list
  have f5 := sub_list_tuple
  have f2 := sub_tuple_tuple
  have f3 := sub_list_list
  have hz' : (items ++ items2).size ≤ sizeLine + 1 := by rw [Array.size_append]; exact hs2
  wp_walk using (wpAny_updateSeq hl rfl (hz := hs1) (_hz' := hz')), wpAny_loadPart' hl, wpAny_loadPart' hb
  exact ⟨_, rfl, h⟩
def rExtendT (K : PySem.W.Frag) : V → List V → Hp → VK → Prop := fun x vs H Q => ∃ l b xs zs, x = .ref l ∧ vs = [.ref b] ∧ H l = some (.lst xs) ∧ SqT K H b zs ∧ xs.length + zs.length ≤ sizeLine ∧ Q .non (upd H l (.lst (xs ++ zs)))
theorem mt_extendT {X : Cx} : MtM X "list.extend" (rExtendT X.K) := by
  intro pins s σ H x vs v us Q I rx rv h
  obtain ⟨l, b, xs, zs, rfl, rfl, hH, hB, hz, q⟩ := h
  cases rx
  obtain ⟨u, rfl, ru⟩ := rv.one
  cases ru
  obtain ⟨z, its, n, r, hl, e⟩ := I.lstM hH
  obtain ⟨its2, r2, ⟨⟨oc, dd, dt, sl⟩, e2, c2, n2, d2⟩, z2⟩ := I.tuple hB
  dsimp only at c2 d2
  subst c2 d2
  have hl2 := r2.length
  have hsz : its.toArray.size + its2.toArray.size ≤ sizeLine := by rw [List.size_toArray, List.size_toArray]; omega
  have hlong : ¬ (!its.toArray.isEmpty && Builtin.List.listTooLong (its.toArray.size + its2.toArray.size)) = true := by
    rw [notLongL hsz, Bool.and_false]
    exact Bool.false_ne_true
  refine call_meets F.slot_list_extend ⟨_, e, rfl⟩ F.entry_list_extend (F.args_list_extend_2 _ _)
    (extend_tup l its.toArray n b its2.toArray n2 dd sl hlong (by rw [List.size_toArray]; omega) (by omega)) ⟨e, e2, ?_⟩
  refine ⟨.non, _, I.lset (its' := its ++ its2) hH e (by simp) (r.append r2) ?_, rfl, q⟩
  rw [List.length_append]
  omega
/-! ## is_value -/
abbrev sIsVal : Stmt := topS 26
def spIsVal (K : PySem.W.Frag) : Sp := fun vs H Q _ => ∃ (v : V) (d : D), vs = [v] ∧ Dp K H v d ∧ Fit d ∧ ∀ H', Same H H' → Q (.bl (valB 59 d)) H'
abbrev nmIsVal : List Str := ["thing", "layer", "deep", "later", "one"]
theorem lenD_sz (d : D) : lenD d ≤ sz d := by cases d <;> simp [lenD, sz]
def isNon : D → Bool
  | .none => true
  | _ => false
theorem leaf_test (d : D) (h : isTup d = false) : leafB d = (isNon d || (wordD d || figD d)) := by cases d <;> simp_all [leafB, wordD, figD, isTup, isNon]
theorem non_dec {K : PySem.W.Frag} {H : Hp} {v : V} {d : D} (h : Dp K H v d) : decide (v = V.non) = isNon d := by cases h <;> simp [isNon]
theorem tup_dp {K : PySem.W.Frag} {H : Hp} {v : V} {d : D} (h : Dp K H v d) (t : isTup d = true) : ∃ a xs, v = .ref a ∧ SqT K H a xs ∧ DpAll K H xs (kids d) := by
  cases h with
  | tup hs ha => exact ⟨_, _, rfl, hs, ha⟩
  | _ => cases t
theorem bad_tup {d : D} (t : isTup d = true) (b : Bool) : badB b d = b := by cases d <;> simp_all [isTup, badB]
theorem bad_not {d : D} (t : isTup d = false) (b : Bool) : badB b d = !leafB d := by cases d <;> simp_all [isTup, badB]
theorem kids_not {d : D} (t : isTup d = false) : kids d = [] := by cases d <;> simp_all [isTup, kids]
/-- what comes behind a layer -/
def nextL (last : Bool) (l : List D) : List D := if last then [] else l.flatMap kids
theorem bfs_step (n : Nat) (l : List D) : bfsB (n + 1) l = (!(l.any (badB (n == 0))) && ((nextL (n == 0) l).isEmpty || bfsB n (nextL (n == 0) l))) := rfl
theorem FitA.next {l : List D} (h : FitA l) (b : Bool) : FitA (nextL b l) := by
  unfold nextL
  split
  · exact ⟨rfl, Nat.zero_le _, Nat.zero_le _⟩
  · exact h.flat
theorem take_get {α : Type} {l : List α} {i : Nat} {x : α} (h : l[i]? = some x) : l.take (i + 1) = l.take i ++ [x] := by
  rw [List.take_add_one, h]
  rfl
theorem any_take {α : Type} {l : List α} {p : α → Bool} {i : Nat} {x : α} (h : l[i]? = some x) (hp : p x = true) : l.any p = true := List.any_eq_true.mpr ⟨x, List.mem_of_getElem? h, hp⟩
theorem FitA.take {l : List D} (h : FitA l) (i : Nat) : FitA (l.take i) := by
  have e := List.take_append_drop i l
  have h1 := h.lay
  have h2 := h.dep
  have h3 := h.siz
  rw [← e] at h1 h2 h3
  rw [canLay_app, Bool.and_eq_true] at h1
  rw [depthAll_app] at h2
  rw [szA_app] at h3
  exact ⟨h1.1, by omega, by omega⟩
theorem nextL_snoc (b : Bool) (l : List D) (d : D) : nextL b (l ++ [d]) = nextL b l ++ nextL b [d] := by
  unfold nextL
  cases b <;> simp
section
variable {P : Program} {w : World} {K : PySem.W.Frag} {mg : Str → Option Value} {base : Heap}
theorem scIsVal : FnScope nmIsVal ["thing"] (defScope sIsVal) := ⟨rfl, rfl, rfl, by decide +kernel, rfl, by decide +kernel, by decide +kernel⟩
theorem ok_isVal (T : Txt K mg) (GW : Prom P w K mg base CX0 2 "is_word" ["thing"] (spIsWord K)) (GF : Prom P w K mg base CX0 1 "is_figure" ["thing"] (spIsFig K)) (Dd : Df K mg "is_value" sIsVal ["thing"]) :
    Prom P w K mg base CX0 3 "is_value" ["thing"] (spIsVal K) := by
  refine prom_of Dd scIsVal (fun vs H Q E h => ?_) (fun f cdv A outer s H vs Q E hr h => ?_)
  · obtain ⟨v, d, rfl, _⟩ := h
    rfl
  · obtain ⟨v, d, rfl, hd, hfit, k⟩ := h
    have nd := scIsVal.nd
    have hr1 : Room 1 (A.deeper (envOfC "is_value" (defScope sIsVal) s.heap.objs.size f cdv)) := hr.mono (by decide)
    refine ⟨_, pss_cons (ps_set (i := 1) nd rfl (Or.inl rfl) (pe_lst (pa_cons (pv 0) pa_nil)))
      (pss_cons (ps_for PassesOwn.never rfl (pi_range1 rfl T.range (pa_cons (pe_mostDeep T) pa_nil)) (pg_name (i := 2) nd rfl (Or.inl rfl))
        (pss_cons (ps_set (i := 3) nd rfl (Or.inl rfl) (pe_lst pa_nil))
        (pss_cons (ps_for PassesOwn.never rfl (pi_list (pv 1)) (pg_name (i := 4) nd rfl (Or.inl rfl))
          (pss_one (ps_if (PW.pt (pw_and (pt_val (pe_isi T.isinstance T.tuple PyProof.Rows.boot_tuple (pv 4))) (pw_and1 (pt_cmpR op_lt (pv 2) (pe_op op_sub (pe_mostDeep T) pe_int) (nomark _)))))
            (pss_one (ps_expr (pe_bm PySem.F.plainAttrs_list PySem.F.slot_list_extend PySem.F.type_list_extend mt_extendT (pv 3) (pa_cons (pv 4) pa_nil))))
            (pss_one (ps_if (PW.pt (pw_and (pt_cmpR op_notN (pv 4) pe_non (nomark _)) (pw_and (pt_not (pt_val (pe_callP GW hr pass0 (pa_cons (pv 4) pa_nil)))) (pw_and1 (pt_not (pt_val (pe_callP GF hr1 pass0 (pa_cons (pv 4) pa_nil))))))))
              (pss_one (ps_ret pe_bl)) pss_nil)))))
        (pss_cons (ps_if (pt_cmpR (op_eqD hr.units) (pv 3) (pe_lst pa_nil) (nomark _)) (pss_one (ps_ret pe_bl)) pss_nil)
        (pss_one (ps_set (i := 1) nd rfl (Or.inl rfl) (pv 3)))))))
      (pss_one (ps_ret pe_bl))), ?_⟩
    refine ⟨_, rfl, by show 1 ≤ sizeLine; decide, fun L0 nL0 => ?_⟩
    refine ⟨60, rfl, by decide, by decide, for_range (lo := 0) (n := 60) (fun i σ H' => ∃ (L : Addr) (vs : List V) (ds : List D) (x y z : Option V), σ = [some v, some (.ref L), x, y, z] ∧ Same H H' ∧ H L = none ∧ H' L = some (.lst vs) ∧ DpAll K H vs ds ∧ FitA ds ∧ bfsB (60 - i) ds = valB 59 d)
      ⟨L0, [v], [d], none, none, none, rfl, same_new (Same.refl H) nL0, nL0, upd_same, .cons hd .nil, hfit.one, ?_⟩ ?_ ?_⟩
    · rw [show 60 - 0 = 59 + 1 from rfl, bfs_val]
      simp
    · rintro i σ H1 hi ⟨L, us, ds, x, y, z, rfl, s1, nL, hL, hds, hf, hb⟩
      -- later = []
      refine ⟨Nat.zero_le _, fun M nM => ?_⟩
      have lM : L ≠ M := ne_of_none hL nM
      have nM0 : H M = none := s1.free nM
      have e60 : 60 - i = (59 - i) + 1 := by omega
      rw [e60, bfs_step] at hb
      have elast : decide ((0 : Int) + (i : Nat) < 60 - 1) = !((59 - i) == 0) := by
        by_cases q : i < 59
        · rw [decide_eq_true (by omega)]
          have : (59 - i == 0) = false := beq_eq_false_iff_ne.mpr (by omega)
          rw [this]
          rfl
        · rw [decide_eq_false (by omega)]
          have : (59 - i == 0) = true := beq_iff_eq.mpr (by omega)
          rw [this]
          rfl
      have hnx : 60 - (i + 1) = 59 - i := by omega
      generalize hlast : ((59 - i) == 0) = last at hb elast
      have hlen := dpA_len hds
      refine ⟨_, rfl, L, rfl, ⟨us, SqL.of (by rw [upd_ne lM]; exact hL)⟩, for_list (K := K) (a := L) (xs := us)
        (fun j σ H' => ∃ (ms : List V) (z : Option V), σ = [some v, some (.ref L), some (.int (0 + (i : Nat))), some (.ref M), z] ∧ Same H H' ∧ H' L = some (.lst us) ∧ H' M = some (.lst ms) ∧ DpAll K H ms (nextL last (ds.take j)) ∧ (ds.take j).any (badB last) = false)
        ⟨[], z, rfl, same_new s1 nM0, by rw [upd_ne lM]; exact hL, upd_same, by cases last <;> exact .nil, rfl⟩ (fun j σ H' _ ⟨ms, z, _, _, hl, _⟩ => SqL.of hl) ?_ ?_⟩
      · rintro j u σ H2 hj ⟨ms, z, rfl, s2, hl2, hm2, hms, hbd⟩
        obtain ⟨e, he, hde⟩ := dpA_get hds hj
        have fe : Fit e := hf.mem (List.mem_of_getElem? he)
        have hde2 := dp_same s2 hde
        have tk : ds.take (j + 1) = ds.take j ++ [e] := take_get he
        have szm : ms.length ≤ 1000000 := by
          rw [dpA_len hms]
          exact Nat.le_trans (len_szA _) ((hf.take j).next last).siz
        refine ⟨_, rfl, isi_ans hde2 (kit_tup e) ⟨_, rfl, ?_⟩⟩
        by_cases hx : isTup e = true ∧ last = false
        · obtain ⟨ht, hl⟩ := hx
          rw [ht]
          obtain ⟨b, zs, rfl, hT, hA⟩ := tup_dp hde ht
          refine iteT ?_
          refine ⟨_, rfl, _, _, rfl, rfl, _, _, rfl, rfl, _, rfl, ?_⟩
          have e2 : (!last) = true := by rw [hl]; rfl
          rw [elast, e2]
          refine iteT ?_
          have kz : zs.length ≤ 1000000 := by
            rw [dpA_len hA]
            exact Nat.le_trans (len_szA _) fe.kids.siz
          refine ⟨_, rfl, .inl ⟨rfl, _, SqL.of hm2⟩, _, rfl, M, b, ms, zs, rfl, rfl, hm2, Same.tup s2 hT, le_line (by omega), ?_⟩
          refine ⟨ms ++ zs, _, rfl, fun c o q => ?_, by rw [upd_ne lM]; exact hl2, upd_same, ?_, ?_⟩
          · rw [upd_ne (fun q2 => by rw [q2, nM0] at q; cases q)]
            exact s2 c o q
          · rw [tk, nextL_snoc]
            refine dpA_app hms ?_
            rw [hl]
            show DpAll K H zs ([e].flatMap kids)
            simpa using hA
          · rw [tk, List.any_append, hbd, hl]
            show (false || (badB false e || false)) = false
            rw [bad_tup ht]
            rfl
        · have hbad : badB last e = !(isNon e || (wordD e || figD e)) := by
            cases ht : isTup e with
            | false => rw [bad_not ht, leaf_test e ht]
            | true =>
              have hl : last = true := by
                cases hl : last with
                | true => rfl
                | false => exact absurd ⟨ht, hl⟩ hx
              rw [bad_tup ht, hl]
              cases e <;> simp_all [isTup, isNon, wordD, figD]
          have hnext : nextL last [e] = [] := by
            cases hl : last with
            | true => rfl
            | false =>
              have ht : isTup e = false := by
                cases ht : isTup e with
                | false => rfl
                | true => exact absurd ⟨ht, hl⟩ hx
              show [e].flatMap kids = []
              simp [kids_not ht]
          have good : badB last e = false → ∀ H3, Same H2 H3 → ∃ (ms : List V) (z : Option V), ([some v, some (.ref L), some (.int (0 + (i : Nat))), some (.ref M), some u] : L2.St) = [some v, some (.ref L), some (.int (0 + (i : Nat))), some (.ref M), z] ∧ Same H H3 ∧ H3 L = some (.lst us) ∧ H3 M = some (.lst ms) ∧ DpAll K H ms (nextL last (ds.take (j + 1))) ∧ (ds.take (j + 1)).any (badB last) = false := by
            intro hb3 H3 s3
            refine ⟨ms, _, rfl, s2.trans s3, s3 _ _ hl2, s3 _ _ hm2, ?_, ?_⟩
            · rw [tk, nextL_snoc, hnext, List.append_nil]
              exact hms
            · rw [tk, List.any_append, hbd]
              show (false || (badB last e || false)) = false
              rw [hb3]
              rfl
          have pre : isTup e = false ∨ (isTup e = true ∧ last = true) := by
            cases ht : isTup e with
            | false => exact .inl rfl
            | true =>
              cases hl : last with
              | true => exact .inr ⟨rfl, rfl⟩
              | false => exact absurd ⟨ht, hl⟩ hx
          rcases pre with ht | ⟨ht, hl⟩
          case' inl =>
            rw [ht]
            refine iteF ?_
          case' inr =>
            rw [ht]
            refine iteT ?_
            refine ⟨_, rfl, _, _, rfl, rfl, _, _, rfl, rfl, _, rfl, ?_⟩
            have e2 : (!last) = false := by rw [hl]; rfl
            rw [elast, e2]
            refine iteF ?_
          all_goals
            refine ⟨_, rfl, rfl, _, rfl, ?_⟩
            rw [non_dec hde2]
            cases hn : isNon e with
            | true =>
              refine iteF ?_
              exact good (by rw [hbad, hn]; rfl) H2 (Same.refl _)
            | false =>
              refine iteT ?_
              refine ⟨_, rfl, u, e, rfl, hde2, Nat.le_trans (lenD_sz e) fe.siz, fun H3 s3 => ⟨_, rfl, ?_⟩⟩
              cases hw : wordD e with
              | true =>
                refine iteF ?_
                exact good (by rw [hbad, hn, hw]; rfl) H3 s3
              | false =>
                refine iteT ?_
                refine ⟨_, rfl, u, e, rfl, dp_same s3 hde2, ⟨_, rfl, ?_⟩⟩
                cases hg : figD e with
                | true =>
                  refine iteF ?_
                  exact good (by rw [hbad, hn, hw, hg]; rfl) H3 s3
                | false =>
                  refine iteT ?_
                  have hb4 : badB last e = true := by rw [hbad, hn, hw, hg]; rfl
                  have : valB 59 d = false := by
                    rw [← hb, any_take he hb4]
                    rfl
                  rw [← this]
                  exact k H3 (s2.trans s3)
      · rintro σ H2 ⟨ms, z, rfl, s2, hl2, hm2, hms, hbd⟩
        rw [hlen, List.take_length] at hms hbd
        rw [hbd] at hb
        have fn := hf.next last
        refine ⟨_, rfl, Nat.zero_le _, fun p np => ⟨.list (nextL last ds), .list [], .lst (SqL.of (by rw [upd_ne (ne_of_none hm2 np)]; exact hm2)) (dpA_same (same_new s2 (s2.free np)) hms), .lst (SqL.of upd_same) .nil, fn.shaped, by decide +kernel, _, rfl, ?_⟩⟩
        rw [eqv_nil]
        cases he : (nextL last ds).isEmpty with
        | true =>
          refine iteT ?_
          rw [he] at hb
          have hb : valB 59 d = true := by rw [← hb]; rfl
          rw [← hb]
          exact k _ (same_new s2 (s2.free np))
        | false =>
          refine iteF ?_
          refine ⟨_, rfl, M, ms, nextL last ds, _, _, _, rfl, same_new s2 (s2.free np), nM0, by rw [upd_ne (ne_of_none hm2 np)]; exact hm2, hms, fn, ?_⟩
          rw [he] at hb
          rw [hnx, ← hb]
          rfl
    · rintro σ H1 ⟨L, us, ds, x, y, z, rfl, s1, nL, hL, hds, hf, hb⟩
      have hb : valB 59 d = false := hb.symm
      rw [← hb]
      exact k H1 s1
end
end K88
set_option maxRecDepth 100000
set_option maxHeartbeats 4000000
namespace K88
open PySem PySem.Spec PyProof.Rows L2 TL
/-! ## pieces_of -/
abbrev sPieces : Stmt := topS 28
abbrev nmPieces : List Str := ["text", "found", "at", "end"]
def S (l : List Nat) : Str := ⟨l.toArray⟩
def vS (l : List Nat) : V := .str (S l)
theorem cut_nat (z : Str) (i j : Nat) (hj : j ≤ z.length) (hi : i ≤ j) : cutS z (some (i : Int)) (some (j : Int)) = S (((tl z).drop i).take (j - i)) := by
  unfold cutS
  rw [HT.sIx_nat, HT.sIx_nat, Nat.min_eq_left hj, Nat.min_eq_left (by omega)]
  rfl
/-- the rest of a row of plain signs up to j, its sep behind -/
theorem tok_cut {t : List Nat} {i j : Nat} (hij : i < j) (hj : j ≤ t.length) (hp : ∀ k, i ≤ k → k < j → ∀ c, t[k]? = some c → sepC c = false) (hs : ∀ c, t[j]? = some c → sepC c = true) :
    tok [] (t.drop i) = ((t.drop i).take (j - i)) :: tok [] (t.drop j) := by
  have e : t.drop i = (t.drop i).take (j - i) ++ t.drop j := by
    conv => lhs; rw [← List.take_append_drop (j - i) (t.drop i)]
    rw [List.drop_drop, show i + (j - i) = j by omega]
  conv => lhs; rw [e]
  refine tok_leaf (fun q => ?_) (fun c hc => ?_) ?_
  · have := congrArg List.length q
    rw [List.length_take, List.length_drop] at this
    simp at this
    omega
  · obtain ⟨k, hk⟩ := List.mem_iff_getElem?.mp hc
    have hk2 := hk
    rw [List.getElem?_take] at hk
    split at hk
    · rw [List.getElem?_drop] at hk
      exact hp (i + k) (by omega) (by omega) c hk
    · cases hk
  · cases e2 : t.drop j with
    | nil => trivial
    | cons c r =>
      have : t[j]? = some c := by
        have := congrArg (·[0]?) e2
        simpa using this
      exact hs c this
theorem tok_one {t : List Nat} {i c : Nat} (hc : t[i]? = some c) (hs : sepC c = true) : tok [] (t.drop i) = ((t.drop i).take 1) :: tok [] (t.drop (i + 1)) := by
  have e : t.drop i = c :: t.drop (i + 1) := by
    rw [List.drop_eq_getElem?_toList_append, hc]
    rfl
  rw [e, tok_sep hs]
  rfl
def spPieces : Sp := fun vs H Q _ => ∃ z : Str, vs = [.str z] ∧ z.length ≤ 1000000 ∧ ∀ H' p, Same H H' → H p = none → H' p = some (.lst ((tok [] (tl z)).map vS)) → Q (.ref p) H'
section
variable {P : Program} {w : World} {K : PySem.W.Frag} {mg : Str → Option Value} {base : Heap}
theorem scPieces : FnScope nmPieces ["text"] (defScope sPieces) := ⟨rfl, rfl, rfl, by decide +kernel, rfl, by decide +kernel, by decide +kernel⟩
theorem ok_pieces (T : Txt K mg) (Dd : Df K mg "pieces_of" sPieces ["text"]) : Prom P w K mg base CX0 1 "pieces_of" ["text"] spPieces := by
  refine prom_of Dd scPieces (fun vs H Q E h => ?_) (fun f cdv A outer s H vs Q E hr h => ?_)
  · obtain ⟨z, rfl, _⟩ := h
    rfl
  · obtain ⟨z, rfl, hz, k⟩ := h
    have nd := scPieces.nd
    refine ⟨_, pss_cons (ps_par (i := 1) (j := 2) rfl nd rfl rfl (by decide) rfl rfl (pa_cons (pe_lst pa_nil) (pa_cons pe_int pa_nil)) (by rfl))
      (pss_cons (ps_while PassesOwn.never (pt_cmpR op_lt (pv 2) (pe_callB call_len_str (by rfl) T.len PySem.boot_len (pa_cons (pv 0) pa_nil)) (nomark _))
        (pss_cons (ps_set (i := 3) nd rfl (Or.inl rfl) (pe_op op_add (pv 2) pe_int))
        (pss_cons (ps_if (pt_cmpR op_notIn_sign (pe_item_str (pv 0) (pv 2) (fun _ _ => rfl)) pe_str (by rfl))
          (pss_one (ps_while PassesOwn.never (PW.pt (pw_and (pt_cmpR op_lt (pv 3) (pe_callB call_len_str (by rfl) T.len PySem.boot_len (pa_cons (pv 0) pa_nil)) (nomark _))
              (pw_and1 (pt_cmpR op_notIn_sign (pe_item_str (pv 0) (pv 3) (fun _ _ => rfl)) pe_str (by rfl)))))
            (pss_one (ps_aug (i := 3) nd rfl (Or.inl rfl) pe_int ip_add)))) pss_nil)
        (pss_cons (ps_expr (pe_bm PySem.F.plainAttrs_list PySem.F.slot_list_append PySem.F.type_list_append mt_append (pv 1) (pa_cons (pe_slice sl_str (pv 0) (po_some (pv 2)) (po_some (pv 3))) pa_nil)))
        (pss_one (ps_set (i := 2) nd rfl (Or.inl rfl) (pv 3)))))))
      (pss_one (ps_ret (pv 1)))), ?_⟩
    refine ⟨Nat.zero_le _, fun F nF => ⟨_, _, rfl, ?_⟩⟩
    have hz2 : z.length ≤ sizeLine := le_line (by omega)
    have lz : (tl z).length = z.length := (len_tl z).symm
    refine ⟨fun m σ H' => ∃ (i : Nat) (e : Option V) (ps : List (List Nat)), m = z.length - i ∧ σ = [some (.str z), some (.ref F), some (.int (i : Nat)), e] ∧ i ≤ z.length ∧ Same H H' ∧ H' F = some (.lst (ps.map vS)) ∧ ps ++ tok [] ((tl z).drop i) = tok [] (tl z) ∧ ps.length ≤ i,
      ⟨_, 0, none, [], rfl, rfl, Nat.zero_le _, same_new (Same.refl H) nF, upd_same, by simp, Nat.le_refl _⟩, ?_⟩
    rintro m σ H1 ⟨i, e, ps, rfl, rfl, hi, s1, hF, hps, hpl⟩
    refine ⟨_, rfl, _, rfl, z, rfl, hz2, _, _, rfl, rfl, _, rfl, ?_⟩
    by_cases hlt : i < z.length
    · rw [decide_eq_true (show ((i : Nat) : Int) < (z.length : Nat) by omega)]
      refine iteT ⟨_, fun _ _ q => q, ?_⟩
      have hil : i < (tl z).length := by omega
      obtain ⟨c, hc⟩ : ∃ c, (tl z)[i]? = some c := ⟨_, List.getElem?_eq_getElem hil⟩
      have hcc : z.cps[i]? = some c := by rw [← hc]; exact Array.getElem?_toList.symm
      refine ⟨_, rfl, _, _, rfl, rfl, ?_⟩
      refine ⟨_, rfl, _, rfl, z, _, c, rfl, rfl, by omega, by omega, by omega, hcc, c, sepS, rfl, rfl, _, rfl, ?_⟩
      -- what comes behind a found end j
      have step : ∀ j : Nat, i < j → j ≤ z.length → tok [] ((tl z).drop i) = (((tl z).drop i).take (j - i)) :: tok [] ((tl z).drop j) →
          ∃ m', m' < z.length - i ∧ ∃ (i' : Nat) (e : Option V) (ps' : List (List Nat)), m' = z.length - i' ∧ ([some (.str z), some (.ref F), some (.int (j : Nat)), some (.int (j : Nat))] : L2.St) = [some (.str z), some (.ref F), some (.int (i' : Nat)), e] ∧ i' ≤ z.length ∧
            Same H (upd H1 F (.lst (ps.map vS ++ [.str (cutS z (some (i : Int)) (some (j : Int)))]))) ∧ (upd H1 F (.lst (ps.map vS ++ [.str (cutS z (some (i : Int)) (some (j : Int)))]))) F = some (.lst (ps'.map vS)) ∧ ps' ++ tok [] ((tl z).drop i') = tok [] (tl z) ∧ ps'.length ≤ i' := by
        intro j hij hj ht
        refine ⟨z.length - j, by omega, j, _, ps ++ [((tl z).drop i).take (j - i)], rfl, rfl, hj, same_new s1 nF, ?_, ?_, ?_⟩
        · rw [upd_same, cut_nat z i j hj (by omega), List.map_append]
          rfl
        · rw [← hps, ht, List.append_assoc]
          rfl
        · rw [List.length_append]
          simp
          omega
      have small : (ps.map vS).length < sizeLine := by
        rw [List.length_map]
        exact lt_line (by omega)
      show if (!sepC c) = true then _ else _
      cases hsep : sepC c with
      | true =>
        refine iteF ?_
        refine ⟨_, rfl, .inl ⟨rfl, _, SqL.of hF⟩, _, rfl, _, rfl, _, rfl, _, rfl, _, rfl, z, rfl, hz2, F, _, _, rfl, rfl, hF, small, ?_⟩
        exact ⟨_, rfl, step (i + 1) (by omega) (by omega) (by rw [tok_one hc hsep, show i + 1 - i = 1 by omega])⟩
      | false =>
        refine iteT ?_
        refine ⟨fun m σ H' => ∃ j : Nat, m = z.length - j ∧ σ = [some (.str z), some (.ref F), some (.int (i : Nat)), some (.int (j : Nat))] ∧ H' = H1 ∧ i < j ∧ j ≤ z.length ∧ ∀ k, i ≤ k → k < j → ∀ c, (tl z)[k]? = some c → sepC c = false,
          ⟨_, i + 1, rfl, rfl, rfl, by omega, by omega, fun k h1 h2 d hd => ?_⟩, ?_⟩
        · have : k = i := by omega
          subst this
          rw [hc] at hd
          cases hd
          exact hsep
        · rintro m σ H2 ⟨j, rfl, rfl, rfl, hij, hj, hp⟩
          refine ⟨_, rfl, _, rfl, z, rfl, hz2, _, _, rfl, rfl, _, rfl, ?_⟩
          by_cases hlt2 : j < z.length
          · rw [decide_eq_true (show ((j : Nat) : Int) < (z.length : Nat) by omega)]
            refine iteT ?_
            obtain ⟨d, hd⟩ : ∃ d, (tl z)[j]? = some d := ⟨_, List.getElem?_eq_getElem (by omega)⟩
            have hdd : z.cps[j]? = some d := by rw [← hd]; exact Array.getElem?_toList.symm
            refine ⟨_, rfl, _, rfl, z, _, d, rfl, rfl, by omega, by omega, by omega, hdd, d, sepS, rfl, rfl, _, rfl, ?_⟩
            show if (!sepC d) = true then _ else _
            cases hsd : sepC d with
            | true =>
              refine iteF ?_
              refine ⟨_, rfl, .inl ⟨rfl, _, SqL.of hF⟩, _, rfl, _, rfl, _, rfl, _, rfl, _, rfl, z, rfl, hz2, F, _, _, rfl, rfl, hF, small, ?_⟩
              refine ⟨_, rfl, step j hij hj (tok_cut hij (by omega) hp fun c' hc' => ?_)⟩
              rw [hd] at hc'
              cases hc'
              exact hsd
            | false =>
              refine iteT ⟨_, fun _ _ q => q, ?_⟩
              refine ⟨_, rfl, _, _, rfl, rfl, ?_⟩
              refine ⟨z.length - (j + 1), by omega, j + 1, rfl, rfl, rfl, by omega, by omega, fun k h1 h2 d' hd' => ?_⟩
              by_cases hk : k = j
              · subst hk
                rw [hd] at hd'
                cases hd'
                exact hsd
              · exact hp k h1 (by omega) d' hd'
          · rw [decide_eq_false (show ¬ ((j : Nat) : Int) < (z.length : Nat) by omega)]
            refine iteF ?_
            refine ⟨_, rfl, .inl ⟨rfl, _, SqL.of hF⟩, _, rfl, _, rfl, _, rfl, _, rfl, _, rfl, z, rfl, hz2, F, _, _, rfl, rfl, hF, small, ?_⟩
            refine ⟨_, rfl, step j hij hj (tok_cut hij (by omega) hp fun c' hc' => ?_)⟩
            rw [List.getElem?_eq_none (by omega)] at hc'
            cases hc'
    · rw [decide_eq_false (show ¬ ((i : Nat) : Int) < (z.length : Nat) by omega)]
      refine iteF ?_
      refine ⟨_, rfl, k H1 F s1 nF ?_⟩
      rw [hF, ← hps, show i = z.length by omega, ← lz, List.drop_length]
      simp [tok, flush]
end
end K88
set_option maxRecDepth 100000
set_option maxHeartbeats 4000000
namespace K88
open PySem PySem.Spec PyProof.Rows L2 TL
/-! ## plain_of -/
abbrev sPlain : Stmt := topS 29
abbrev nmPlain : List Str := ["piece", "bare", "sign"]
theorem digitsVal_lt : ∀ (l : List Nat) (a : Nat), NumText.AllDigits l → l.foldl (fun acc c => acc * 10 + (c - 48)) a < (a + 1) * 10 ^ l.length
  | [], a, _ => by simp
  | c :: r, a, h => by
    have hc := h.head
    have ih := digitsVal_lt r (a * 10 + (c - 48)) h.tail
    rw [List.foldl_cons, List.length_cons, Nat.pow_succ]
    refine Nat.lt_of_lt_of_le ih ?_
    rw [show (a + 1) * (10 ^ r.length * 10) = ((a + 1) * 10) * 10 ^ r.length by rw [Nat.mul_assoc, Nat.mul_comm 10]]
    exact Nat.mul_le_mul_right _ (by omega)
theorem allD_of {l : List Nat} (h : l.all figC = true) : NumText.AllDigits l := fun c hc => figC_rng (List.all_eq_true.mp h c hc)
theorem bare_form {p : List Nat} : (p.take 1 = [45] ∧ p = 45 :: bareOf p) ∨ (p.take 1 ≠ [45] ∧ bareOf p = p) := by
  unfold bareOf
  cases p with
  | nil => exact .inr ⟨by simp, by simp⟩
  | cons c r =>
    by_cases h : c = 45
    · subst h
      exact .inl ⟨rfl, rfl⟩
    · refine .inr ⟨by simp [h], ?_⟩
      rw [if_neg (by simp [h])]
theorem int_of_piece {z : Str} (h1 : 1 ≤ (bareOf (tl z)).length) (h2 : (bareOf (tl z)).length ≤ 12) (h3 : (bareOf (tl z)).all figC = true) :
    PySem.intText? z = some (intOf (tl z)) ∧ z.length ≤ 640 ∧ (intOf (tl z)).natAbs < 10 ^ 12 := by
  have hd := allD_of h3
  have ne : bareOf (tl z) ≠ [] := fun e => by rw [e] at h1; simp at h1
  have lz : z.length = (tl z).length := len_tl z
  have vl : NumText.digitsVal (bareOf (tl z)) < 10 ^ 12 := by
    have := digitsVal_lt (bareOf (tl z)) 0 hd
    unfold NumText.digitsVal
    refine Nat.lt_of_lt_of_le this ?_
    rw [Nat.zero_add, Nat.one_mul]
    exact Nat.pow_le_pow_right (by decide) h2
  rcases bare_form (p := tl z) with ⟨ht, e⟩ | ⟨ht, e⟩
  · have el : (tl z).length = (bareOf (tl z)).length + 1 := by
      conv => lhs; rw [e]
      simp
    have ed : (tl z).drop 1 = bareOf (tl z) := by
      conv => lhs; rw [e]
      rfl
    have ei : intOf (tl z) = -((NumText.digitsVal (bareOf (tl z)) : Nat) : Int) := by
      unfold intOf
      rw [if_pos ht, ed]
    refine ⟨?_, by omega, by rw [ei]; omega⟩
    rw [ei]
    exact intText_neg e hd ne (by omega)
  · have ei : intOf (tl z) = ((NumText.digitsVal (bareOf (tl z)) : Nat) : Int) := by
      unfold intOf
      rw [if_neg ht, e]
    refine ⟨?_, by rw [e] at h2; omega, by rw [ei]; omega⟩
    rw [ei, e]
    rw [e] at hd ne h2
    exact intText_digits hd ne (by omega)
theorem log_small {i : Int} (h : i.natAbs < 10 ^ 12) : i.natAbs.log2 < 1920 := by
  by_cases h0 : i.natAbs = 0
  · rw [h0]; decide
  · rw [Nat.log2_lt h0]
    exact Nat.lt_of_lt_of_le h (by
      have : (10 : Nat) ^ 12 ≤ 2 ^ 40 := by decide
      exact Nat.le_trans this (Nat.pow_le_pow_right (by decide) (by decide)))
theorem same_newF {H H1 : Hp} {p : Addr} {o : HO} (s : Same H H1) (n : H1 p = none) : Same H (upd H1 p o) := same_new s (s.free n)
def spPlain (K : PySem.W.Frag) : Sp := fun vs H Q _ => ∃ z : Str, vs = [.str z] ∧ z.length ≤ 1000000 ∧ ∀ H' p xs, Same H H' → H p = none → H' p = some (.lst xs) → (∀ H2, DpAll K H2 xs (plainOf (tl z))) → Q (.ref p) H'
section
variable {P : Program} {w : World} {K : PySem.W.Frag} {mg : Str → Option Value} {base : Heap}
theorem scPlain : FnScope nmPlain ["piece"] (defScope sPlain) := ⟨rfl, rfl, rfl, by decide +kernel, rfl, by decide +kernel, by decide +kernel⟩
theorem ok_plain (T : Txt K mg) (GW : Prom P w K mg base CX0 2 "is_word" ["thing"] (spIsWord K)) (Dd : Df K mg "plain_of" sPlain ["piece"]) : Prom P w K mg base CX0 3 "plain_of" ["piece"] (spPlain K) := by
  refine prom_of Dd scPlain (fun vs H Q E h => ?_) (fun f cdv A outer s H vs Q E hr h => ?_)
  · obtain ⟨z, rfl, _⟩ := h
    rfl
  · obtain ⟨z, rfl, hz, k⟩ := h
    have nd := scPlain.nd
    refine ⟨_, pss_cons (ps_if (pt_cmpR op_eq (pv 0) pe_str (nomark _)) (pss_one (ps_ret (pe_lst (pa_cons pe_non pa_nil)))) pss_nil)
      (pss_cons (ps_if (pt_val (pe_callP GW hr pass0 (pa_cons (pv 0) pa_nil))) (pss_one (ps_ret (pe_lst (pa_cons (pv 0) pa_nil)))) pss_nil)
      (pss_cons (ps_set (i := 1) nd rfl (Or.inl rfl) (pe_ifExp (pt_cmpR op_eq (pe_slice sl_str (pv 0) po_none (po_some pe_int)) pe_str (nomark _)) (pe_slice sl_str (pv 0) (po_some pe_int) po_none) (pv 0)))
      (pss_cons (ps_if (PW.pt (pw_or (pt_not (pt_chain op_le op_le pe_int (pe_callB call_len_str (by rfl) T.len PySem.boot_len (pa_cons (pv 1) pa_nil)) (pe_mostFigs T)))
          (pw_or1 (pt_not (pt_val (pe_callB (cr_all rfl) (by rfl) T.all PyProof.Rows.boot_all (pa_cons (pe_lc (own := [("sign", 2)]) (g := gName 2) (tt := tYes) rfl nd (pi_str (pv 1)) (blkOk_by (own := [("sign", 2)]) (N := nmPlain) (sc := defScope sPlain) (by decide +kernel))
            (fun _ _ _ _ _ => pg_name (i := 2) nd rfl (Or.inl rfl)) (fun _ _ _ _ _ => pts_nil) (fun _ _ _ _ _ => pe_cmpR op_in_sign (pv 2) (pe_figures T) (by rfl))) pa_nil)))))))
        (pss_one (ps_ret (pe_lst pa_nil))) pss_nil)
      (pss_one (ps_ret (pe_ifExp (pt_cmpR op_eq (pe_callTy call_str_int (by rfl) T.str PyProof.Rows.boot_str (pa_cons (pe_callTy call_int_str (by rfl) T.int PyProof.Rows.boot_int (pa_cons (pv 0) pa_nil)) pa_nil)) (pv 0) (nomark _))
        (pe_lst (pa_cons (pe_callTy call_int_str (by rfl) T.int PyProof.Rows.boot_int (pa_cons (pv 0) pa_nil)) pa_nil)) (pe_lst pa_nil))))))), ?_⟩
    have hz2 : z.length ≤ sizeLine := le_line (by omega)
    refine ⟨_, rfl, rfl, _, rfl, ?_⟩
    by_cases h0 : z = Str.ofString "-"
    · rw [decide_eq_true (congrArg V.str h0)]
      refine iteT ?_
      refine ⟨by show 1 ≤ sizeLine; decide, fun p np => k _ p _ (same_newF (Same.refl H) np) np upd_same fun H2 => ?_⟩
      rw [show plainOf (tl z) = [.none] by rw [h0]; unfold plainOf; rw [if_pos (by decide +kernel)]]
      exact .cons .non .nil
    have n45 : tl z ≠ [45] := fun e => h0 (ext_tl (e.trans (by decide +kernel)))
    rw [decide_eq_false (fun q => h0 (V.str.inj q))]
    refine iteF ?_
    refine ⟨_, rfl, _, .str z, rfl, .str z, hz, fun H1 s1 => ⟨_, rfl, ?_⟩⟩
    have pl : plainOf (tl z) = if wordL (tl z) then [.str ⟨(tl z).toArray⟩] else if !(decide (1 ≤ (bareOf (tl z)).length) && decide ((bareOf (tl z)).length ≤ 12)) || !(bareOf (tl z)).all figC then [] else if intL (intOf (tl z)) = tl z then [.int (intOf (tl z))] else [] := by
      unfold plainOf
      rw [if_neg n45]
    cases hw : wordD (.str z) with
    | true =>
      have hw : wordL (tl z) = true := hw
      rw [hw, if_pos rfl] at pl
      refine iteT ?_
      refine ⟨_, rfl, by show 1 ≤ sizeLine; decide, fun p np => k _ p _ (same_newF s1 np) (s1.free np) upd_same fun H2 => ?_⟩
      rw [pl, mk_tl]
      exact .cons (.str z) .nil
    | false =>
      have hw : wordL (tl z) = false := hw
      rw [hw, if_neg Bool.false_ne_true] at pl
      refine iteF ?_
      -- bare
      have lz : z.length = (tl z).length := len_tl z
      have c1 : cutS z none (some 1) = S ((tl z).take 1) := by
        unfold cutS
        rw [show (some (1 : Int)) = some ((1 : Nat) : Int) from rfl, HT.sIx_nat, HT.sIx_none, List.drop_zero]
        unfold S
        congr 2
        rw [show (min 1 z.length - 0) = min 1 (tl z).length by omega]
        show (tl z).take (min 1 (tl z).length) = _
        rw [List.take_eq_take_iff]
        omega
      have c2 : cutS z (some 1) none = S ((tl z).drop 1) := by
        unfold cutS
        rw [show (some (1 : Int)) = some ((1 : Nat) : Int) from rfl, HT.sIx_nat, HT.sIx_none]
        unfold S
        congr 1
        show (((tl z).drop (min 1 z.length)).take (z.length - min 1 z.length)).toArray = _
        rw [List.take_of_length_le (by rw [List.length_drop]; omega)]
        by_cases q : 1 ≤ z.length
        · rw [Nat.min_eq_left q]
        · rw [List.drop_eq_nil_of_le (by omega), List.drop_eq_nil_of_le (by omega)]
      have lb : (bareOf (tl z)).length ≤ 1000000 := by
        rcases bare_form (p := tl z) with ⟨_, e⟩ | ⟨_, e⟩
        · have := congrArg List.length e
          simp only [List.length_cons] at this
          omega
        · rw [e]
          omega
      have ly : (S (bareOf (tl z))).length = (bareOf (tl z)).length := len_tl _
      refine ⟨_, rfl, _, rfl, z, rfl, hz2, rfl, _, rfl, ?_⟩
      have e45 : tl (Str.ofString "-") = [45] := by decide +kernel
      rcases bare_form (p := tl z) with ⟨ht, e⟩ | ⟨ht, e⟩
      case' inl =>
        rw [decide_eq_true (show V.str (cutS z none (some 1)) = V.str (Str.ofString "-") by rw [c1]; exact congrArg V.str (ext_tl (ht.trans e45.symm)))]
        refine iteT ?_
        refine ⟨_, rfl, _, rfl, z, rfl, hz2, ?_⟩
        rw [show cutS z (some 1) none = S (bareOf (tl z)) by rw [c2]; exact congrArg S (by rw [e]; rfl)]
      case' inr =>
        rw [decide_eq_false (show ¬ V.str (cutS z none (some 1)) = V.str (Str.ofString "-") by
          rw [c1]
          intro q
          have := congrArg tl (V.str.inj q)
          rw [e45] at this
          exact ht this)]
        refine iteF ?_
        refine ⟨.str (S (bareOf (tl z))), congrArg (fun q => some (some (V.str q))) (show z = S (bareOf (tl z)) by rw [e]; exact (mk_tl z).symm), ?_⟩
      all_goals
        generalize hb : bareOf (tl z) = b at pl lb ly
        refine ⟨_, rfl, _, rfl, le_line (by omega), _, _, rfl, rfl, _, rfl, ?_⟩
        have empt : ∀ H2 p, Same H H2 → H2 p = none → plainOf (tl z) = [] → Q (.ref p) (upd H2 p (.lst [])) := fun H2 p s2 np ep => k _ p _ (same_newF s2 np) (s2.free np) upd_same fun H2 => by rw [ep]; exact .nil
        by_cases h1 : 1 ≤ b.length
        case' neg =>
          rw [decide_eq_false (show ¬ (1 : Int) ≤ ((S b).length : Nat) by omega)]
          refine iteF ⟨_, rfl, ?_⟩
          refine iteT ?_
          refine ⟨Nat.zero_le _, fun p np => empt H1 p s1 np ?_⟩
          rw [pl, decide_eq_false h1]
          rfl
        case' pos =>
          rw [decide_eq_true (show (1 : Int) ≤ ((S b).length : Nat) by omega)]
          refine iteT ⟨_, _, rfl, rfl, _, rfl, ?_⟩
          by_cases h2 : b.length ≤ 12
          case' neg =>
            rw [decide_eq_false (show ¬ ((S b).length : Int) ≤ 12 by omega)]
            refine iteT ?_
            refine ⟨Nat.zero_le _, fun p np => empt H1 p s1 np ?_⟩
            rw [pl, decide_eq_false h2, Bool.and_false]
            rfl
          case' pos =>
            rw [decide_eq_true (show ((S b).length : Int) ≤ 12 by omega)]
            refine iteF ?_
            refine ⟨_, rfl, _, rfl, fun D hD => lc_it walk_str (fun i H' => Same H1 H' ∧ H' D = some (.lst ((b.take i).map fun c => V.bl (figC c)))) ⟨fun b o e => by rw [upd_ne (ne_of_none e hD)]; exact e, upd_same⟩ (fun _ _ _ _ => trivial) ?_ ?_⟩
            · rintro i x H2 H3 hi ⟨s2, h2'⟩ ⟨rfl, c, hc, rfl⟩
              refine ⟨rfl, _, rfl, c, figS, rfl, rfl, _, h2', ?_, ?_, ?_⟩
              · rw [List.length_map, List.length_take]
                exact lt_line (by omega)
              · exact fun b o e => by rw [upd_ne (ne_of_none e hD)]; exact s2 b o e
              · rw [upd_same]
                have hc' : b[i]? = some c := by rw [← hc]; simp [S]
                rw [List.take_add_one, hc']
                simp [figC]
            · rintro H2 ⟨s2, h2'⟩
              refine ⟨D, b.map figC, rfl, SqL.of ?_, ?_⟩
              · rw [h2', List.map_map, show (S b).cps.size = b.length by simp [S], List.take_length]
                rfl
              · rw [show (List.map figC b).all id = b.all figC by rw [List.all_map]; rfl]
                refine ⟨_, rfl, ?_⟩
                have s12 := s1.trans s2
                rw [decide_eq_true h1, decide_eq_true h2] at pl
                cases h3 : b.all figC with
                | false =>
                  refine iteT ?_
                  refine ⟨Nat.zero_le _, fun p np => empt H2 p s12 np ?_⟩
                  rw [pl, h3]
                  rfl
                | true =>
                  refine iteF ?_
                  rw [h3] at pl
                  obtain ⟨g1, g2, g3⟩ := int_of_piece (z := z) (by rw [hb]; exact h1) (by rw [hb]; exact h2) (by rw [hb]; exact h3)
                  refine ⟨_, rfl, z, _, rfl, g1, g2, _, rfl, log_small g3, _, rfl, rfl, _, rfl, ?_⟩
                  by_cases hq : intL (intOf (tl z)) = tl z
                  · rw [decide_eq_true (congrArg V.str (ext_tl hq))]
                    refine iteT ?_
                    refine ⟨_, rfl, z, _, rfl, g1, g2, by show 1 ≤ sizeLine; decide, fun p np => k _ p _ (same_newF s12 np) (s12.free np) upd_same fun H3 => ?_⟩
                    rw [pl, if_pos hq]
                    exact .cons (.int _) .nil
                  · rw [decide_eq_false (fun q => hq (congrArg tl (V.str.inj q)))]
                    refine iteF ?_
                    refine ⟨Nat.zero_le _, fun p np => empt H2 p s12 np ?_⟩
                    rw [pl, if_neg hq]
                    rfl
end
end K88
set_option maxRecDepth 100000
set_option maxHeartbeats 4000000
namespace K88
open PySem PySem.Spec PyProof.Rows L2 TL
/-! ## values that lean on tuples alone -/
/-- the tuples of a heap -/
def Ht (H : Hp) : Hp := fun a => match H a with
  | some (.tup xs) => some (.tup xs)
  | _ => none
theorem ht_tup {H : Hp} {a : Addr} {xs : List V} (h : H a = some (.tup xs)) : Ht H a = some (.tup xs) := by
  unfold Ht
  rw [h]
theorem ht_of {H : Hp} {a : Addr} {o : HO} (h : Ht H a = some o) : ∃ xs, o = .tup xs ∧ H a = some (.tup xs) := by
  unfold Ht at h
  split at h
  · rename_i xs e
    cases h
    exact ⟨xs, rfl, e⟩
  · cases h
/-- all tuples stay -/
def KeepT (H H' : Hp) : Prop := ∀ b xs, H b = some (.tup xs) → H' b = some (.tup xs)
theorem KeepT.refl (H : Hp) : KeepT H H := fun _ _ h => h
theorem KeepT.trans {H H1 H2 : Hp} (a : KeepT H H1) (b : KeepT H1 H2) : KeepT H H2 := fun c xs h => b c xs (a c xs h)
theorem KeepT.of {H H' : Hp} (s : Same H H') : KeepT H H' := fun b xs h => s b _ h
theorem KeepT.ht {H H' : Hp} (k : KeepT H H') : Same (Ht H) (Ht H') := fun b o h => by
  obtain ⟨xs, rfl, e⟩ := ht_of h
  exact ht_tup (k b xs e)
theorem ht_same (H : Hp) : Same (Ht H) H := fun b o h => by
  obtain ⟨xs, rfl, e⟩ := ht_of h
  exact e
theorem KeepT.chg {H H1 : Hp} {p : Addr} {o : HO} (k : KeepT H H1) (h : ∀ xs, H1 p ≠ some (.tup xs)) : KeepT H (upd H1 p o) := fun b xs e => by
  have q := k b xs e
  rw [upd_ne (fun z => by subst z; exact h xs q)]
  exact q
theorem KeepT.updL {H H1 : Hp} {p : Addr} {o : HO} {xs : List V} (k : KeepT H H1) (h : H1 p = some (.lst xs)) : KeepT H (upd H1 p o) := k.chg fun ys e => by rw [h] at e; cases e
theorem KeepT.updN {H H1 : Hp} {p : Addr} {o : HO} (k : KeepT H H1) (h : H1 p = none) : KeepT H (upd H1 p o) := k.chg fun ys e => by rw [h] at e; cases e
/-- a value that leans on tuples alone -/
abbrev Dt (K : PySem.W.Frag) (H : Hp) (v : V) (d : D) : Prop := Dp K (Ht H) v d
abbrev DtA (K : PySem.W.Frag) (H : Hp) (vs : List V) (ds : List D) : Prop := DpAll K (Ht H) vs ds
theorem Dt.keep {K : PySem.W.Frag} {H H' : Hp} {v : V} {d : D} (h : Dt K H v d) (k : KeepT H H') : Dt K H' v d := dp_same k.ht h
theorem DtA.keep {K : PySem.W.Frag} {H H' : Hp} {vs : List V} {ds : List D} (h : DtA K H vs ds) (k : KeepT H H') : DtA K H' vs ds := dpA_same k.ht h
theorem Dt.dp {K : PySem.W.Frag} {H : Hp} {v : V} {d : D} (h : Dt K H v d) : Dp K H v d := dp_same (ht_same H) h
theorem DtA.dp {K : PySem.W.Frag} {H : Hp} {vs : List V} {ds : List D} (h : DtA K H vs ds) : DpAll K H vs ds := dpA_same (ht_same H) h
/-! ## value_of -/
abbrev sValueOf : Stmt := topS 30
abbrev nmValueOf : List Str := ["pieces", "open_ones", "done", "piece", "one"]
def lstOf (K : PySem.W.Frag) (H : Hp) (a : Addr) (t : List D) : Prop := ∃ vs, H a = some (.lst vs) ∧ DtA K H vs t
/-- what stands between two pieces: the open lists (the last at the top), what is done -/
structure VO (K : PySem.W.Frag) (H H' : Hp) (O N : Addr) (as : List Addr) (op : List (List D)) (dn : List D) : Prop where
  same : Same H H'
  nO : H O = none
  hO : H' O = some (.lst (as.reverse.map V.ref))
  opn : Paired (lstOf K H') as op
  nd : as.Nodup
  out : O ∉ as
  new : ∀ a ∈ as, H a = none
  don : lstOf K H' N dn
  nN : H N = none
  neO : N ≠ O
  neA : N ∉ as
theorem Paired.mem {α β : Type} {F : α → β → Prop} : ∀ {l : List α} {m : List β} {a : α}, Paired F l m → a ∈ l → ∃ b ∈ m, F a b
  | _, _, _, .nil, h => by cases h
  | _, _, _, .cons r t, h => by
    rcases List.mem_cons.mp h with rfl | h
    · exact ⟨_, List.mem_cons_self, r⟩
    · obtain ⟨b, hb, q⟩ := Paired.mem t h
      exact ⟨b, List.mem_cons_of_mem _ hb, q⟩
theorem Paired.mapM {α β : Type} {F G : α → β → Prop} : ∀ {l : List α} {m : List β}, Paired F l m → (∀ a b, a ∈ l → F a b → G a b) → Paired G l m
  | _, _, .nil, _ => .nil
  | _, _, .cons r t, f => .cons (f _ _ List.mem_cons_self r) (Paired.mapM t fun a b h => f a b (List.mem_cons_of_mem _ h))
section
variable {K : PySem.W.Frag} {H H' : Hp} {O N : Addr} {as : List Addr} {op : List (List D)} {dn : List D}
theorem lstOf.keep {a : Addr} {t : List D} {p : Addr} {o : HO} (h : lstOf K H' a t) (ne : a ≠ p) (k : KeepT H' (upd H' p o)) : lstOf K (upd H' p o) a t := by
  obtain ⟨vs, h1, h2⟩ := h
  exact ⟨vs, by rw [upd_ne ne]; exact h1, DtA.keep h2 k⟩
/-- another new object -/
theorem VO.alloc {p : Addr} {o : HO} (h : VO K H H' O N as op dn) (np : H' p = none) : VO K H (upd H' p o) O N as op dn := by
  have kt : KeepT H' (upd H' p o) := (KeepT.refl H').updN np
  refine ⟨same_newF h.same np, h.nO, by rw [upd_ne (ne_of_none h.hO np)]; exact h.hO, Paired.mapM h.opn fun a t _ q => ?_, h.nd, h.out, h.new, ?_, h.nN, h.neO, h.neA⟩
  · obtain ⟨vs, q1, _⟩ := id q
    exact q.keep (ne_of_none q1 np) kt
  · obtain ⟨vs, q1, _⟩ := h.don
    exact h.don.keep (ne_of_none q1 np) kt
/-- the open ones as data -/
theorem VO.open_dp (h : VO K H H' O N as op dn) : DpAll K H' (as.reverse.map V.ref) (op.reverse.map PyData.list) := by
  have go : ∀ {as : List Addr} {op : List (List D)}, Paired (lstOf K H') as op → DpAll K H' (as.reverse.map V.ref) (op.reverse.map PyData.list) := by
    intro as op q
    induction q with
    | nil => exact .nil
    | cons r t ih =>
      obtain ⟨vs, h1, h2⟩ := r
      rw [List.reverse_cons, List.map_append, List.reverse_cons, List.map_append]
      exact dpA_app ih (.cons (.lst (SqL.of h1) (DtA.dp h2)) .nil)
  exact go h.opn
theorem VO.len (h : VO K H H' O N as op dn) : as.length = op.length := Paired.length h.opn
end
theorem open_fit {N C : Nat} {op : List (List D)} {dn : List D} (o : StOk N C (op, dn)) (hN : N ≤ 60) : SeqAt.shaped (.list (op.reverse.map PyData.list)) = true := by
  unfold SeqAt.shaped
  rw [Bool.and_eq_true]
  have lay : ∀ l : List (List D), (∀ t ∈ l, PyData.canLayAll0 t = true) → PyData.canLayAll0 (l.map PyData.list) = true := by
    intro l
    induction l with
    | nil => intro _; rfl
    | cons t r ih =>
      intro hl
      have h1 := hl t List.mem_cons_self
      have h2 := ih fun u hu => hl u (List.mem_cons_of_mem _ hu)
      show (PyData.canLay0 (.list t) && PyData.canLayAll0 (r.map PyData.list)) = true
      rw [h2, Bool.and_true]
      simpa [PyData.canLay0] using h1
  have dep : ∀ l : List (List D), (∀ t ∈ l, PyData.depthAll t ≤ 60) → PyData.depthAll (l.map PyData.list) ≤ 61 := by
    intro l
    induction l with
    | nil => intro _; exact Nat.zero_le _
    | cons t r ih =>
      intro hl
      have h1 := hl t List.mem_cons_self
      have h2 := ih fun u hu => hl u (List.mem_cons_of_mem _ hu)
      show max (PyData.depthAll t + 1) (PyData.depthAll (r.map PyData.list)) ≤ 61
      omega
  refine ⟨?_, decide_eq_true ?_⟩
  · have := lay op.reverse fun t ht => o.lay t (List.mem_reverse.mp ht)
    simpa [PyData.canLay0] using this
  · have := dep op.reverse fun t ht => by
      have := o.dep t (List.mem_reverse.mp ht)
      omega
    show PyData.depthAll (op.reverse.map PyData.list) + 1 ≤ 64
    omega
theorem lay_fit {l : List D} (h1 : PyData.canLayAll0 l = true) (h2 : PyData.depthAll l ≤ 62) : SeqAt.shaped (.list l) = true := by
  unfold SeqAt.shaped
  rw [Bool.and_eq_true]
  refine ⟨by simpa [PyData.canLay0] using h1, decide_eq_true ?_⟩
  show PyData.depthAll l + 1 ≤ 64
  omega
theorem shaped_nil : SeqAt.shaped (.list []) = true := by decide +kernel
def forBody : Stmt → List Stmt
  | .For _ _ b _ _ => b
  | _ => []
theorem pss_imp {X : Cx} {sts : List Stmt} {t t' : TS} (h : PSs X sts t) (hi : ∀ D σ H, t' D σ H → t D σ H) : PSs X sts t' := ⟨fun pins s σ H D I q => h.run pins s σ H D I (hi D σ H q)⟩
/-- what stands in hand is put where it belongs -/
def tPut (K : PySem.W.Frag) (H0 : Hp) : TS := fun Dd σ H' => ∃ (O N M : Addr) (v0 v3 : Option V) (as : List Addr) (op : List (List D)) (dn one : List D) (xs : List V),
  σ = [v0, some (.ref O), some (.ref N), v3, some (.ref M)] ∧ VO K H0 H' O N as op dn ∧ H' M = some (.lst xs) ∧ DtA K H' xs one ∧ H0 M = none ∧ M ≠ O ∧ M ≠ N ∧ M ∉ as ∧
  SeqAt.shaped (.list (op.reverse.map PyData.list)) = true ∧ SeqAt.shaped (.list dn) = true ∧ SeqAt.shaped (.list one) = true ∧ one.length ≤ 1 ∧ (∀ t ∈ op, szA t ≤ 1000000) ∧
  (put1 op dn one = none → ∀ p H2, Same H0 H2 → H0 p = none → H2 p = some (.lst []) → Dd.rt (.ref p) H2) ∧
  (∀ s' : MS, put1 op dn one = some s' → ∀ H2 N2 as2, VO K H0 H2 O N2 as2 s'.1 s'.2 → Dd.nx [v0, some (.ref O), some (.ref N2), v3, some (.ref M)] H2)
theorem eqv_nilM (l : List (List D)) : PyData.eqv (.list (l.reverse.map PyData.list)) (.list []) = l.isEmpty := by
  rw [eqv_nil]
  cases l with
  | nil => rfl
  | cons a r =>
    rw [List.reverse_cons, List.map_append]
    simp
def spValueOf (K : PySem.W.Frag) : Sp := fun vs H Q _ => ∃ (a : Addr) (ps : List (List Nat)), vs = [.ref a] ∧ SqL K H a (ps.map vS) ∧ (∀ p ∈ ps, p ≠ []) ∧ openN ps ≤ 60 ∧ lenN ps ≤ 100000 ∧
  ∀ H' p xs, Same H H' → H p = none → H' p = some (.lst xs) → DtA K H' xs (valueOf ps) → Q (.ref p) H'
section
variable {P : Program} {w : World} {K : PySem.W.Frag} {mg : Str → Option Value} {base : Heap}
theorem scValueOf : FnScope nmValueOf ["pieces"] (defScope sValueOf) := ⟨rfl, rfl, rfl, by decide +kernel, rfl, by decide +kernel, by decide +kernel⟩
theorem put_reads {f : Addr} {cdv : Value} {A : Around} {outer : List Env} {s : Shared} {H : Hp} {E : XK} (hr : Room 3 (A.deeper (envOfC "value_of" (defScope sValueOf) s.heap.objs.size f cdv))) :
    PSs (cxOf CX0 P w K mg base nmValueOf "value_of" (defScope sValueOf) f cdv A outer s H E).nox ((forBody ((defBody sValueOf).getD 1 (.Pass ⟨0, 0, 0, 0⟩))).drop 3) (tPut K H) := by
  have nd := scValueOf.nd
  refine pss_imp (pss_cons (ps_if (PW.pt (pw_or (pt_cmpR (op_eqD hr.units) (pv 4) (pe_lst pa_nil) (nomark _)) (pw_or1 (PW.pt (pw_and (pt_cmpR (op_eqD hr.units) (pv 1) (pe_lst pa_nil) (nomark _)) (pw_and1 (pt_cmpR (op_neD hr.units) (pv 2) (pe_lst pa_nil) (nomark _)))))))) (pss_one (ps_ret (pe_lst pa_nil))) pss_nil)
    (pss_one (ps_if (pt_cmpR (op_eqD hr.units) (pv 1) (pe_lst pa_nil) (nomark _)) (pss_one (ps_set (i := 2) nd rfl (Or.inl rfl) (pv 4)))
      (pss_one (ps_expr (pe_bm PySem.F.plainAttrs_list PySem.F.slot_list_append PySem.F.type_list_append mt_append (pe_ix ix_list (pv 1) (pe_un un_neg pe_int) (fun _ _ => rfl)) (pa_cons (pe_ix ix_list (pv 4) pe_int (fun _ _ => rfl)) pa_nil))))))) ?_
  rintro D σ H1 ⟨O, N, M, v0, v3, as, op, dn, one, xs, rfl, V0, hM, hone, nM, mO, mN, mA, f1, f2, f3, l1, z1, knone, ksome⟩
  -- one == []
  refine ⟨_, rfl, Nat.zero_le _, fun p np => ⟨.list one, .list [], .lst (SqL.of (by rw [upd_ne (ne_of_none hM np)]; exact hM)) (dpA_same (same_newF (Same.refl H1) np) hone.dp), .lst (SqL.of upd_same) .nil, f3, shaped_nil, _, rfl, ?_⟩⟩
  rw [eqv_nil]
  have V1 := V0.alloc (o := .lst []) np
  have hM1 : (upd H1 p (.lst [])) M = some (.lst xs) := by rw [upd_ne (ne_of_none hM np)]; exact hM
  have hone1 : DtA K (upd H1 p (.lst [])) xs one := hone.keep ((KeepT.refl H1).updN np)
  cases ho : one.isEmpty with
  | true =>
    refine iteT ?_
    refine iteT ?_
    refine ⟨Nat.zero_le _, fun q nq => knone ?_ q _ (same_newF V1.same nq) (V1.same.free nq) upd_same⟩
    unfold put1
    rw [ho]
    rfl
  | false =>
    refine iteF ?_
    -- open_ones == []
    generalize hH2 : upd H1 p (.lst []) = H2 at V1 hM1 hone1
    refine ⟨_, rfl, Nat.zero_le _, fun q nq => ⟨.list (op.reverse.map PyData.list), .list [], .lst (SqL.of (by rw [upd_ne (ne_of_none V1.hO nq)]; exact V1.hO)) (dpA_same (same_newF (Same.refl H2) nq) V1.open_dp), .lst (SqL.of upd_same) .nil, f1, shaped_nil, _, rfl, ?_⟩⟩
    rw [eqv_nilM]
    have V2 := V1.alloc (o := .lst []) nq
    have hM2 : (upd H2 q (.lst [])) M = some (.lst xs) := by rw [upd_ne (ne_of_none hM1 nq)]; exact hM1
    have hone2 : DtA K (upd H2 q (.lst [])) xs one := hone1.keep ((KeepT.refl H2).updN nq)
    generalize hH3 : upd H2 q (.lst []) = H3 at V2 hM2 hone2
    obtain ⟨d, rfl⟩ : ∃ d, one = [d] := by
      cases one with
      | nil => cases ho
      | cons d r =>
        cases r with
        | nil => exact ⟨d, rfl⟩
        | cons => simp at l1
    obtain ⟨v, rfl, hv⟩ : ∃ v, xs = [v] ∧ Dt K H3 v d := by
      cases hone2 with
      | cons h1 h2 =>
        cases h2
        exact ⟨_, rfl, h1⟩
    cases op with
    | nil =>
      have has : as = [] := by
        have := V0.len
        cases as with
        | nil => rfl
        | cons => cases this
      subst has
      refine iteT ?_
      -- done != []
      obtain ⟨dvs, hN, hdn⟩ := V2.don
      refine ⟨_, rfl, Nat.zero_le _, fun q2 nq2 => ⟨.list dn, .list [], .lst (SqL.of (by rw [upd_ne (ne_of_none hN nq2)]; exact hN)) (dpA_same (same_newF (Same.refl H3) nq2) hdn.dp), .lst (SqL.of upd_same) .nil, f2, shaped_nil, _, rfl, ?_⟩⟩
      rw [eqv_nil]
      have V3 := V2.alloc (o := .lst []) nq2
      have hM3 : (upd H3 q2 (.lst [])) M = some (.lst [v]) := by rw [upd_ne (ne_of_none hM2 nq2)]; exact hM2
      have hv3 : Dt K (upd H3 q2 (.lst [])) v d := Dt.keep hv ((KeepT.refl H3).updN nq2)
      generalize hH4 : upd H3 q2 (.lst []) = H4 at V3 hM3 hv3
      cases hd : dn.isEmpty with
      | false =>
        refine iteT ?_
        refine ⟨Nat.zero_le _, fun p3 np3 => knone ?_ p3 _ (same_newF V3.same np3) (V3.same.free np3) upd_same⟩
        unfold put1
        rw [hd]
        rfl
      | true =>
        refine iteF ?_
        refine ⟨_, rfl, Nat.zero_le _, fun q3 nq3 => ⟨.list [], .list [], .lst (SqL.of (by rw [upd_ne (ne_of_none V3.hO nq3)]; exact V3.hO)) .nil, .lst (SqL.of upd_same) .nil, shaped_nil, shaped_nil, _, rfl, ?_⟩⟩
        rw [eqv_nil]
        refine iteT ?_
        have V4 := V3.alloc (o := .lst []) nq3
        have e1 : put1 [] dn [d] = some ([], [d]) := by
          unfold put1
          rw [hd]
          rfl
        refine ⟨_, rfl, ksome _ e1 _ M [] ?_⟩
        exact ⟨V4.same, V4.nO, V4.hO, .nil, List.nodup_nil, by simp, by simp, ⟨[v], by rw [upd_ne (ne_of_none hM3 nq3)]; exact hM3, .cons (Dt.keep hv3 ((KeepT.refl H4).updN nq3)) .nil⟩, nM, mO, by simp⟩
    | cons t r =>
      obtain ⟨a, as', rfl⟩ : ∃ a as', as = a :: as' := by
        have := V0.len
        cases as with
        | nil => cases this
        | cons a as' => exact ⟨a, as', rfl⟩
      refine iteF ?_
      refine iteF ?_
      refine ⟨_, rfl, Nat.zero_le _, fun q3 nq3 => ⟨.list ((t :: r).reverse.map PyData.list), .list [], .lst (SqL.of (by rw [upd_ne (ne_of_none V2.hO nq3)]; exact V2.hO)) (dpA_same (same_newF (Same.refl H3) nq3) V2.open_dp), .lst (SqL.of upd_same) .nil, f1, shaped_nil, _, rfl, ?_⟩⟩
      rw [eqv_nilM]
      refine iteF ?_
      have V3 := V2.alloc (o := .lst []) nq3
      have hM3 : (upd H3 q3 (.lst [])) M = some (.lst [v]) := by rw [upd_ne (ne_of_none hM2 nq3)]; exact hM2
      have hv3 : Dt K (upd H3 q3 (.lst [])) v d := Dt.keep hv ((KeepT.refl H3).updN nq3)
      generalize hH4 : upd H3 q3 (.lst []) = H4 at V3 hM3 hv3
      have hop := V3.opn
      cases hop with
      | cons ht hr' =>
        obtain ⟨us, hus, hut⟩ := ht
        have hsz : us.length ≤ 1000000 := by
          rw [dpA_len hut]
          exact Nat.le_trans (len_szA t) (z1 t List.mem_cons_self)
        refine ⟨_, rfl, _, rfl, O, _, _, .ref a, rfl, rfl, SqL.of V3.hO, by rw [List.reverse_cons, List.map_append]; exact atI_last _ _, .inl ⟨rfl, _, SqL.of hus⟩, _, rfl, M, [v], _, v, rfl, rfl, SqL.of hM3, atI_nat (j := 0) rfl, a, us, v, rfl, rfl, hus, lt_line (by omega), ?_⟩
        have e1 : put1 (t :: r) dn [d] = some ((t ++ [d]) :: r, dn) := rfl
        have nda : a ∉ as' ∧ as'.Nodup := List.nodup_cons.mp V3.nd
        have Oa : O ≠ a := fun z => V3.out (by rw [z]; exact List.mem_cons_self)
        have Na : N ≠ a := fun z => V3.neA (by rw [z]; exact List.mem_cons_self)
        have kt : KeepT H4 (upd H4 a (.lst (us ++ [v]))) := (KeepT.refl H4).updL hus
        refine ksome _ e1 _ N (a :: as') ⟨same_new V3.same (V3.new a List.mem_cons_self), V3.nO, by rw [upd_ne Oa]; exact V3.hO, .cons ⟨_, upd_same, dpA_app (DtA.keep hut kt) (.cons (Dt.keep hv3 kt) .nil)⟩ (Paired.mapM hr' fun b t' hb q => q.keep (fun z => nda.1 (by rw [← z]; exact hb)) kt), V3.nd, V3.out, V3.new, V3.don.keep Na kt, V3.nN, V3.neO, V3.neA⟩
end
end K88
set_option maxRecDepth 100000
set_option maxHeartbeats 4000000
namespace K88
open PySem PySem.Spec PyProof.Rows L2 TL
theorem runV_snoc (a : List (List Nat)) (p : List Nat) (s : MS) : runV s (a ++ [p]) = (runV s a).bind fun s' => stepV s' p := by
  rw [runV_app]
  cases runV s a with
  | none => rfl
  | some s' =>
    show (match stepV s' p with | none => none | some s1 => some s1) = stepV s' p
    cases stepV s' p <;> rfl
theorem runV_fail {ps : List (List Nat)} {i : Nat} {p : List Nat} {s : MS} (hp : ps[i]? = some p) (h : runV ([], []) (ps.take i) = some s) (hs : stepV s p = none) : runV ([], []) ps = none := by
  have e : ps = ps.take i ++ p :: ps.drop (i + 1) := by
    conv => lhs; rw [← List.take_append_drop i ps]
    congr 1
    rw [List.drop_eq_getElem?_toList_append, hp]
    rfl
  rw [e, runV_app, h]
  show (match stepV s p with | none => none | some s' => runV s' _) = none
  rw [hs]
theorem runV_next {ps : List (List Nat)} {i : Nat} {p : List Nat} {s s' : MS} (hp : ps[i]? = some p) (h : runV ([], []) (ps.take i) = some s) (hs : stepV s p = some s') : runV ([], []) (ps.take (i + 1)) = some s' := by
  rw [take_get hp, runV_snoc, h]
  exact hs
theorem valueOf_none {ps : List (List Nat)} (h : runV ([], []) ps = none) : valueOf ps = [] := by
  unfold valueOf
  rw [h]
theorem plainOf_len (p : List Nat) : (plainOf p).length ≤ 1 := by
  unfold plainOf
  split
  · exact Nat.le_refl _
  · split
    · exact Nat.le_refl _
    · split
      · exact Nat.zero_le _
      · split
        · exact Nat.le_refl _
        · exact Nat.zero_le _
section
variable {P : Program} {w : World} {K : PySem.W.Frag} {mg : Str → Option Value} {base : Heap}
theorem ok_valueOf (T : Txt K mg) (GP : Prom P w K mg base CX0 3 "plain_of" ["piece"] (spPlain K)) (Dd : Df K mg "value_of" sValueOf ["pieces"]) : Prom P w K mg base CX0 4 "value_of" ["pieces"] (spValueOf K) := by
  refine prom_of Dd scValueOf (fun vs H Q E h => ?_) (fun f cdv A outer s H vs Q E hr h => ?_)
  · obtain ⟨a, ps, rfl, _⟩ := h
    rfl
  · obtain ⟨Pp, ps, rfl, hPp, hne, hN, hC, k⟩ := h
    have nd := scValueOf.nd
    refine ⟨_, pss_cons (ps_par (i := 1) (j := 2) rfl nd rfl rfl (by decide) rfl rfl (pa_cons (pe_lst pa_nil) (pa_cons (pe_lst pa_nil) pa_nil)) (by rfl))
      (pss_cons (ps_for PassesOwn.never rfl (pi_list (pv 0)) (pg_name (i := 3) nd rfl (Or.inl rfl))
        (pss_cons (ps_if (pt_cmpR op_eq (pv 3) pe_str (nomark _)) (pss_cons (ps_expr (pe_bm PySem.F.plainAttrs_list PySem.F.slot_list_append PySem.F.type_list_append mt_append (pv 1) (pa_cons (pe_lst pa_nil) pa_nil))) (pss_one ps_continue)) pss_nil)
        (pss_cons (ps_if (pt_cmpR op_eq (pv 3) pe_str (nomark _)) (pss_one ps_continue) pss_nil)
        (pss_cons (ps_if (pt_cmpR op_eq (pv 3) pe_str (nomark _))
          (pss_cons (ps_if (pt_cmpR (op_eqD hr.units) (pv 1) (pe_lst pa_nil) (nomark _)) (pss_one (ps_ret (pe_lst pa_nil))) pss_nil)
            (pss_one (ps_set (i := 4) nd rfl (Or.inl rfl) (pe_lst (pa_cons (pe_callTy call_tuple_of (by rfl) T.tuple PyProof.Rows.boot_tuple (pa_cons (pe_bm0 PySem.F.plainAttrs_list PySem.F.slot_list_pop PySem.F.type_list_pop mt_pop (pv 1)) pa_nil)) pa_nil)))))
          (pss_one (ps_set (i := 4) nd rfl (Or.inl rfl) (pe_callP GP hr pass0 (pa_cons (pv 3) pa_nil)))))
        (put_reads hr)))))
      (pss_one (ps_ret (pe_ifExp (pt_cmpR (op_eqD hr.units) (pv 1) (pe_lst pa_nil) (nomark _)) (pv 2) (pe_lst pa_nil))))), ?_⟩
    refine ⟨Nat.zero_le _, fun O nO => ⟨Nat.zero_le _, fun N nN => ⟨_, _, rfl, ?_⟩⟩⟩
    have nO' : O ≠ N := ne_of_none upd_same nN
    have nN0 : H N = none := (same_newF (Same.refl H) nO).free nN
    have fit : ∀ {i : Nat} {s : MS}, runV ([], []) (ps.take i) = some s → StOk (openN ps) (lenN ps) s := fun h => run_take hne h
    refine ⟨_, rfl, Pp, rfl, ⟨_, (same_newF (same_newF (Same.refl H) nO) nN).seq hPp⟩, for_list (K := K) (a := Pp) (xs := ps.map vS)
      (fun i σ H' => ∃ (N : Addr) (as : List Addr) (s : MS) (x y : Option V), σ = [some (.ref Pp), some (.ref O), some (.ref N), x, y] ∧ VO K H H' O N as s.1 s.2 ∧ runV ([], []) (ps.take i) = some s)
      ⟨N, [], ([], []), none, none, rfl, ⟨same_newF (same_newF (Same.refl H) nO) nN, nO, by rw [upd_ne nO']; exact upd_same, .nil, List.nodup_nil, by simp, by simp, ⟨[], upd_same, .nil⟩, nN0, nO'.symm, by simp⟩, rfl⟩
      (fun i σ H' _ ⟨_, _, _, _, _, _, V0, _⟩ => V0.same.seq hPp) ?_ ?_⟩
    · rintro i u σ H1 hi ⟨N, as, s, x, y, rfl, V0, hrun⟩
      obtain ⟨p, hp, rfl⟩ : ∃ p, ps[i]? = some p ∧ u = vS p := by
        rw [List.getElem?_map] at hi
        cases e : ps[i]? with
        | none => rw [e] at hi; cases hi
        | some p => rw [e] at hi; exact ⟨p, rfl, (Option.some.inj hi).symm⟩
      have pne := hne p (List.mem_of_getElem? hp)
      have fs := fit hrun
      have next : ∀ s', stepV s p = some s' → ∀ H2 N2 as2 z w', VO K H H2 O N2 as2 s'.1 s'.2 → ∃ (N : Addr) (as : List Addr) (s : MS) (x y : Option V), ([some (.ref Pp), some (.ref O), some (.ref N2), z, w'] : L2.St) = [some (.ref Pp), some (.ref O), some (.ref N), x, y] ∧ VO K H H2 O N as s.1 s.2 ∧ runV ([], []) (ps.take (i + 1)) = some s :=
        fun s' hs H2 N2 as2 z w' V2 => ⟨N2, as2, s', z, w', rfl, V2, runV_next hp hrun hs⟩
      have fail : stepV s p = none → ∀ q H2, Same H H2 → H q = none → H2 q = some (.lst []) → Q (.ref q) H2 := fun hs q H2 s2 nq hq => k H2 q [] s2 nq hq (by rw [valueOf_none (runV_fail hp hrun hs)]; exact .nil)
      obtain ⟨op, dn⟩ := s
      have eqS : ∀ (l : List Nat) (t : Str), tl t = l → (decide (vS p = V.str t)) = decide (p = l) := fun l t ht => by
        by_cases e : p = l
        · rw [decide_eq_true e, decide_eq_true]
          exact congrArg V.str (ext_tl (show p = tl t by rw [ht, e]))
        · rw [decide_eq_false e, decide_eq_false]
          intro q
          have := congrArg tl (V.str.inj q)
          exact e (this.trans ht)
      have e1 : tl (Str.ofString "(") = [40] := by decide +kernel
      have e2 : tl (Str.ofString " ") = [32] := by decide +kernel
      have e3 : tl (Str.ofString ")") = [41] := by decide +kernel
      refine ⟨_, rfl, rfl, _, rfl, ?_⟩
      rw [eqS _ _ e1]
      by_cases p40 : p = [40]
      · rw [decide_eq_true p40]
        refine iteT ?_
        have hs : stepV (op, dn) p = some ([] :: op, dn) := by
          unfold stepV
          rw [if_pos p40]
        have f1 : op.length ≤ openN ps := fs.len
        refine ⟨_, rfl, .inl ⟨rfl, _, SqL.of V0.hO⟩, Nat.zero_le _, fun q nq => ?_⟩
        have V1 := V0.alloc (o := .lst []) nq
        have la : as.length = op.length := V0.len
        have Oq : O ≠ q := ne_of_none V0.hO nq
        have Nq : N ≠ q := by
          obtain ⟨_, h1, _⟩ := V0.don
          exact ne_of_none h1 nq
        have aq : q ∉ as := fun hm => by
          obtain ⟨t, _, us, h1, _⟩ := Paired.mem V0.opn hm
          exact ne_of_none h1 nq rfl
        refine ⟨O, _, .ref q, rfl, rfl, V1.hO, ?_, ?_⟩
        · rw [List.length_map, List.length_reverse, la]
          exact lt_line (by omega)
        · have kt : KeepT (upd H1 q (.lst [])) (upd (upd H1 q (.lst [])) O (.lst (as.reverse.map V.ref ++ [V.ref q]))) := (KeepT.refl _).updL V1.hO
          refine next _ hs _ N (q :: as) _ _ ⟨same_new V1.same V1.nO, V1.nO, by rw [upd_same, List.reverse_cons, List.map_append]; rfl, .cons ⟨[], by rw [upd_ne (Ne.symm Oq)]; exact upd_same, .nil⟩ (Paired.mapM V1.opn fun b t hb q' => q'.keep (fun z => V0.out (by rw [← z]; exact hb)) kt),
            List.nodup_cons.mpr ⟨aq, V0.nd⟩, fun hm => ?_, fun b hb => ?_, V1.don.keep V0.neO kt, V0.nN, V0.neO, fun hm => ?_⟩
          · rcases List.mem_cons.mp hm with e | hm
            · exact Oq e
            · exact V0.out hm
          · rcases List.mem_cons.mp hb with rfl | hb
            · exact V0.same.free nq
            · exact V0.new b hb
          · rcases List.mem_cons.mp hm with e | hm
            · exact Nq e
            · exact V0.neA hm
      rw [decide_eq_false p40]
      refine iteF ?_
      refine ⟨_, rfl, rfl, _, rfl, ?_⟩
      rw [eqS _ _ e2]
      by_cases p32 : p = [32]
      · rw [decide_eq_true p32]
        refine iteT ?_
        have hs : stepV (op, dn) p = some (op, dn) := by
          unfold stepV
          rw [if_neg p40, if_pos p32]
        exact next _ hs _ N as _ _ V0
      rw [decide_eq_false p32]
      refine iteF ?_
      refine ⟨_, rfl, rfl, _, rfl, ?_⟩
      rw [eqS _ _ e3]
      have shD : SeqAt.shaped (.list dn) = true := lay_fit fs.layD (Nat.le_trans fs.depD (by omega))
      have zs : ∀ t ∈ op, szA t ≤ 1000000 := by
        have h2 := fs.siz
        simp only at h2
        have go : ∀ (l : List (List D)) (t : List D), t ∈ l → szA t ≤ szL l := by
          intro l
          induction l with
          | nil => intro t ht; cases ht
          | cons u r ih =>
            intro t ht
            show szA t ≤ szA u + szL r
            rcases List.mem_cons.mp ht with rfl | ht
            · omega
            · have := ih t ht
              omega
        intro t ht
        have := go op t ht
        omega
      by_cases p41 : p = [41]
      · rw [decide_eq_true p41]
        refine iteT ?_
        refine ⟨_, rfl, Nat.zero_le _, fun q nq => ⟨.list (op.reverse.map PyData.list), .list [], .lst (SqL.of (by rw [upd_ne (ne_of_none V0.hO nq)]; exact V0.hO)) (dpA_same (same_newF (Same.refl H1) nq) V0.open_dp), .lst (SqL.of upd_same) .nil, open_fit fs hN, shaped_nil, _, rfl, ?_⟩⟩
        rw [eqv_nilM]
        have V1 := V0.alloc (o := .lst []) nq
        generalize hH2 : upd H1 q (.lst []) = H2 at V1
        cases op with
        | nil =>
          refine iteT ?_
          have hs : stepV ([], dn) p = none := by
            unfold stepV
            rw [if_neg p40, if_neg p32, if_pos p41]
          exact ⟨Nat.zero_le _, fun q2 nq2 => fail hs q2 _ (same_newF V1.same nq2) (V1.same.free nq2) upd_same⟩
        | cons t r =>
          refine iteF ?_
          obtain ⟨a, as', rfl⟩ : ∃ a as', as = a :: as' := by
            have := V0.len
            cases as with
            | nil => cases this
            | cons a as' => exact ⟨a, as', rfl⟩
          have hs : stepV (t :: r, dn) p = put1 r dn [.tuple t] := by
            unfold stepV
            rw [if_neg p40, if_neg p32, if_pos p41]
          have hO : H2 O = some (.lst (as'.reverse.map V.ref ++ [V.ref a])) := by
            have := V1.hO
            rw [List.reverse_cons, List.map_append] at this
            exact this
          have nda := List.nodup_cons.mp V1.nd
          have Oa : O ≠ a := fun z => V1.out (by rw [z]; exact List.mem_cons_self)
          have Na : N ≠ a := fun z => V1.neA (by rw [z]; exact List.mem_cons_self)
          cases V1.opn with
          | cons ht hr' =>
            obtain ⟨us, hus, hut⟩ := ht
            refine ⟨_, rfl, .inl ⟨rfl, _, SqL.of hO⟩, O, _, .ref a, rfl, rfl, hO, by simp, ?_⟩
            have kt : KeepT H2 (upd H2 O (.lst (as'.reverse.map V.ref ++ [V.ref a]).dropLast)) := (KeepT.refl _).updL hO
            have hus3 : (upd H2 O (.lst (as'.reverse.map V.ref ++ [V.ref a]).dropLast)) a = some (.lst us) := by rw [upd_ne (Ne.symm Oa)]; exact hus
            refine ⟨a, us, rfl, .inl ⟨SqL.of hus3, fun l nl => ?_⟩⟩
            have V3 : VO K H (upd H2 O (.lst (as'.reverse.map V.ref ++ [V.ref a]).dropLast)) O N as' r dn :=
              ⟨same_new V1.same V1.nO, V1.nO, by rw [upd_same, List.dropLast_concat], Paired.mapM hr' fun b t' hb q' => q'.keep (fun z => V1.out (by rw [← z]; exact List.mem_cons_of_mem _ hb)) kt, nda.2, fun hm => V1.out (List.mem_cons_of_mem _ hm), fun b hb => V1.new b (List.mem_cons_of_mem _ hb), V1.don.keep V1.neO kt, V1.nN, V1.neO, fun hm => V1.neA (List.mem_cons_of_mem _ hm)⟩
            have hut3 : DtA K (upd H2 O (.lst (as'.reverse.map V.ref ++ [V.ref a]).dropLast)) us t := DtA.keep hut kt
            generalize hH3 : upd H2 O (.lst (as'.reverse.map V.ref ++ [V.ref a]).dropLast) = H3 at V3 hut3 nl
            have V4 := V3.alloc (o := .tup us) nl
            have hl : Dt K (upd H3 l (.tup us)) (.ref l) (.tuple t) := .tup (SqT.of (ht_tup upd_same)) (DtA.keep hut3 ((KeepT.refl H3).updN nl))
            generalize hH4 : upd H3 l (.tup us) = H4 at V4 hl
            refine ⟨by show 1 ≤ sizeLine; decide, fun m nm => ?_⟩
            have V5 := V4.alloc (o := .lst [.ref l]) nm
            have fm := fs.dep t List.mem_cons_self
            refine ⟨O, N, m, _, _, as', r, dn, [.tuple t], [.ref l], rfl, V5, upd_same, .cons (Dt.keep hl ((KeepT.refl H4).updN nm)) .nil, V4.same.free nm, (ne_of_none V4.hO nm).symm, ?_, fun hm => ?_, ?_, shD, ?_, Nat.le_refl _, fun u hu => zs u (List.mem_cons_of_mem _ hu), fun hp' q' H' => fail (hs.trans hp') q' H', fun s' hs' H' N2 as2 V' => next s' (hs.trans hs') H' N2 as2 _ _ V'⟩
            · obtain ⟨_, h1, _⟩ := V4.don
              exact (ne_of_none h1 nm).symm
            · obtain ⟨_, _, us', h1, _⟩ := Paired.mem V4.opn hm
              exact ne_of_none h1 nm rfl
            · refine open_fit (N := openN ps) (C := lenN ps) (dn := dn) ⟨fun u hu => fs.lay u (List.mem_cons_of_mem _ hu), fs.layD, fun u hu => ?_, ?_, fs.depD, ?_⟩ hN
              · have := fs.dep u (List.mem_cons_of_mem _ hu)
                simp only [List.length_cons] at this ⊢
                omega
              · have := fs.len
                simp only [List.length_cons] at this ⊢
                omega
              · have := fs.siz
                simp only [List.length_cons, szL] at this ⊢
                omega
            · refine lay_fit ?_ ?_
              · have := fs.lay t List.mem_cons_self
                simpa [PyData.canLayAll0, PyData.canLay0] using this
              · rw [depthAll_one]
                show PyData.depthAll t + 1 ≤ 62
                omega
      rw [decide_eq_false p41]
      refine iteF ?_
      have hs : stepV (op, dn) p = put1 op dn (plainOf p) := by
        unfold stepV
        rw [if_neg p40, if_neg p32, if_neg p41]
      have hpl : p.length ≤ lenN ps := by
        have go : ∀ (l : List (List Nat)) (q : List Nat), q ∈ l → q.length ≤ lenN l := by
          intro l
          induction l with
          | nil => intro q hq; cases hq
          | cons u r ih =>
            intro q hq
            show q.length ≤ u.length + lenN r
            rcases List.mem_cons.mp hq with rfl | hq
            · omega
            · have := ih q hq
              omega
        exact go ps p (List.mem_of_getElem? hp)
      refine ⟨_, rfl, S p, rfl, ?_, fun H2 m xs s2 nm hm hxs => ?_⟩
      · have : (S p).length = p.length := len_tl _
        omega
      · have kt : KeepT H1 H2 := KeepT.of s2
        have V1 : VO K H H2 O N as op dn := ⟨V0.same.trans s2, V0.nO, s2 _ _ V0.hO, Paired.mapM V0.opn fun a t ha ⟨us, h1, h2⟩ => ⟨us, s2 _ _ h1, DtA.keep h2 kt⟩, V0.nd, V0.out, V0.new, (by obtain ⟨us, h1, h2⟩ := V0.don; exact ⟨us, s2 _ _ h1, DtA.keep h2 kt⟩), V0.nN, V0.neO, V0.neA⟩
        obtain ⟨q1, q2, q3⟩ := plainOf_ok pne
        refine ⟨O, N, m, _, _, as, op, dn, plainOf p, xs, rfl, V1, hm, hxs _, V0.same.free nm, (ne_of_none V0.hO nm).symm, ?_, fun hm' => ?_, open_fit fs hN, shD, lay_fit q1 (by rw [q2]; exact Nat.zero_le _), plainOf_len p, zs, fun hp' q' H' => fail (hs.trans hp') q' H', fun s' hs' H' N2 as2 V' => next s' (hs.trans hs') H' N2 as2 _ _ V'⟩
        · obtain ⟨_, h1, _⟩ := V0.don
          exact (ne_of_none h1 nm).symm
        · obtain ⟨_, _, us', h1, _⟩ := Paired.mem V0.opn hm'
          exact ne_of_none h1 nm rfl
    · rintro σ H1 ⟨N, as, ⟨op, dn⟩, x, y, rfl, V0, hrun⟩
      rw [List.length_map, List.take_length] at hrun
      have fs := runV_ok hne hrun st0
      rw [Nat.zero_add, Nat.zero_add] at fs
      refine ⟨_, rfl, Nat.zero_le _, fun q nq => ⟨.list (op.reverse.map PyData.list), .list [], .lst (SqL.of (by rw [upd_ne (ne_of_none V0.hO nq)]; exact V0.hO)) (dpA_same (same_newF (Same.refl H1) nq) V0.open_dp), .lst (SqL.of upd_same) .nil, open_fit fs hN, shaped_nil, _, rfl, ?_⟩⟩
      rw [eqv_nilM]
      have V1 := V0.alloc (o := .lst []) nq
      cases op with
      | nil =>
        refine iteT ?_
        obtain ⟨us, h1, h2⟩ := V1.don
        refine ⟨_, rfl, k _ N us V1.same V1.nN h1 ?_⟩
        have : valueOf ps = dn := by
          unfold valueOf
          rw [hrun]
        rw [this]
        exact h2
      | cons t r =>
        refine iteF ?_
        refine ⟨Nat.zero_le _, fun q2 nq2 => k _ q2 [] (same_newF V1.same nq2) (V1.same.free nq2) upd_same ?_⟩
        have : valueOf ps = [] := by
          unfold valueOf
          rw [hrun]
        rw [this]
        exact .nil
end
end K88
set_option maxRecDepth 100000
set_option maxHeartbeats 4000000
/-! # for i, x in enumerate(reversed(a tuple)) -/
namespace K88
open PySem PySem.Spec PyProof.Rows L2 RT
section
variable {prog : Program} {w : World} {A : Around} {E : Value → Shared → Prop} {s : Shared}
theorem nextOf_rt {it t : Addr} {i : Nat} {items : Array Value} {x : Value} {Q : Value → Shared → Prop} (hit : IsRt s.heap it t (i : Int)) (ht : IsTup s.heap t items) (hx : items[i]? = some x) (hsz : items.size ≤ sizeLine)
    (hQ : ∀ h', IsRt h' it t ((i : Int) - 1) → Heap.SameBut it s.heap h' → Q x { s with heap := h', toks := s.toks + 1 }) : wpAny (model prog w) A (Builtin.SmallTypes.nextOf (.ref it)) Q E s := by
  obtain ⟨o, ho, hc, hd⟩ := id hit
  have hi : i < items.size := (Array.getElem?_eq_some_iff.mp hx).1
  have hT : s.TypeIs (.ref t) "tuple" := IsTup.typeOf' ht
  rw [sizeLine_eq] at hsz
  unfold Builtin.SmallTypes.nextOf
  refine wpAny_bind (wpAny_callSpecial?_slot (name := Str.ofString "__next__") hit.typeIs slot_rt_next
    (wpAny_call_entry slot_rt_next hit.typeIs entry_rt_next ?_ (args_rt_next _)))
  unfold Builtin.«reversed.__next__»
  refine wpAny_bind (wpAny_of_eq (a := (Value.ref it, [])) rfl ?_)
  try dsimp only
  refine wpAny_bind (wpAny_field ho hd (x := .ref t) rfl ?_)
  try dsimp only
  refine wpAny_bind (wpAny_field ho hd (x := rawInt (i : Int)) rfl ?_)
  show wpAny _ _ (if (i : Int) < 0 then _ else _) _ _ s
  rw [if_neg (by omega)]
  try dsimp only
  refine wpAny_bind (wpAny_specialOf hT get_tuple ?_)
  try dsimp only
  try rw [if_neg (by decide)]
  try dsimp only
  refine wpAny_bind (wpAny_mkInt ?_)
  refine wpAny_bind (wpAny_attempt ?_)
  have fin : seqIndex? (i : Int) items.size = some i := seqIndex_of (by omega) (by omega)
  refine PyProof.Rows.getItem_tuple (s := { s with toks := s.toks + 1 }) ht (by omega) (by omega) fin hx ?_
  try dsimp only
  refine wpAny_bind (wpAny_field (s := { s with toks := s.toks + 1 }) ho hd (x := rawInt (i : Int)) rfl ?_)
  try dsimp only
  refine wpAny_bind (wpAny_setField (s := { s with toks := s.toks + 1 }) ho hd (by simp) ?_)
  first
  | refine wpAny_pure ⟨x, rfl, wpAny_pure (hQ _ ?_ (Heap.SameBut.update ..))⟩
  | refine wpAny_bind (wpAny_pure (wpAny_pure ⟨x, rfl, wpAny_pure (hQ _ ?_ (Heap.SameBut.update ..))⟩))
  exact ⟨_, Heap.get?_update_self _ ho (Obj.isFreed_of_fields (Obj.data_mapFields hd _)), (Obj.cls_mapFields ..).trans hc, by
    rw [Obj.data_mapFields hd]; simp⟩
theorem nextOf_rt_end {it t : Addr} {Q : Value → Shared → Prop} (hh : A.handled = none) (hit : IsRt s.heap it t (-1))
    (hE : ∀ h' e, Heap.ExtBut it s.heap h' → (∃ o, h'.get? e = some o ∧ o.cls = .type "StopIteration") → E (.ref e) { s with heap := h' }) : wpAny (model prog w) A (Builtin.SmallTypes.nextOf (.ref it)) Q E s := by
  obtain ⟨o, ho, hc, hd⟩ := id hit
  unfold Builtin.SmallTypes.nextOf
  refine wpAny_bind (wpAny_callSpecial?_slot (name := Str.ofString "__next__") hit.typeIs slot_rt_next
    (wpAny_call_entry slot_rt_next hit.typeIs entry_rt_next ?_ (args_rt_next _)))
  unfold Builtin.«reversed.__next__»
  refine wpAny_bind (wpAny_of_eq (a := (Value.ref it, [])) rfl ?_)
  try dsimp only
  refine wpAny_bind (wpAny_field ho hd (x := .ref t) rfl ?_)
  try dsimp only
  refine wpAny_bind (wpAny_field ho hd (x := rawInt (-1)) rfl ?_)
  show wpAny _ _ (if (-1 : Int) < 0 then _ else _) _ _ s
  rw [if_pos (by decide)]
  try dsimp only
  refine wpAny_bind (wpAny_rule ?_)
  refine wpAny_bind ?_
  wp_delta
  refine wpAny_bind (wpAny_setField ho hd (by simp) ?_)
  have ho2 := Heap.get?_update_self (Obj.mapFields (·.setIfInBounds 1 (rawInt (-1)))) ho (Obj.isFreed_of_fields (Obj.data_mapFields hd _))
  refine wpAny_setField (s := { s with heap := s.heap.update it (Obj.mapFields (·.setIfInBounds 1 (rawInt (-1)))) }) ho2 (Obj.data_mapFields hd _) (by simp) ?_
  try dsimp only
  first
  | show wpAny _ _ (newExc (.type "StopIteration") [] >>= _) _ _ _
  | (refine wpAny_bind ?_; show wpAny _ _ (newExc (.type "StopIteration") [] >>= _) _ _ _)
  | (refine wpAny_bind ?_; wp_delta; show wpAny _ _ (newExc (.type "StopIteration") [] >>= _) _ _ _)
  refine wpAny_bind ?_
  simp only [newExc, newTuple]
  refine wpAny_bind (wpAny_newObj_type ?_ (by size_fits))
  refine wpAny_bind (m := firstArgMember _ _) (wpAny_of_eq (a := Value.none) (by first | rfl | (simp only [firstArgMember]; rfl)) ?_)
  refine wpAny_newObj_type ?_ (by size_fits)
  simp only [raiseNew]
  refine wpAny_bind (wpAny_handled ?_)
  first | rw [show A.in1.handled = none from hh] | rw [hh]
  refine wpAny_bind (wpAny_pure (wpAny_throw ?_))
  refine hE _ _ ?_ ⟨_, Heap.get?_push_size _ rfl, rfl⟩
  refine ((?_ : Heap.ExtBut it s.heap _).push _).push _
  exact fun b ob hb e => (Heap.get?_update_other _ _ (Ne.symm hb)).trans ((Heap.get?_update_other _ _ (Ne.symm hb)).trans e)
end
/-- what a reversed tuple draws -/
theorem draws_rt {prog : Program} {w : World} {A : Around} (hh : A.handled = none) (it t : Addr) (hne : t ≠ it) (items : Array Value) (hsz : items.size ≤ sizeLine) :
    Draws prog w A it [it, t] items.size (fun i v => items[items.size - 1 - i]? = some v) (fun i h => (i ≤ items.size ∧ IsRt h it t ((items.size : Int) - 1 - (i : Nat))) ∧ IsTup h t items) where
  live := fun _ _ st => let ⟨o, ho, _⟩ := st.1.2; ⟨o, ho⟩
  frame := fun _ _ _ st hk => ⟨⟨st.1.1, st.1.2.at fun o e => hk it (by simp) o e⟩, let ⟨o, e, r⟩ := st.2; ⟨o, hk t (by simp) o e, r⟩⟩
  item := fun i s Q E hi st hQ => by
    obtain ⟨⟨h1, h2⟩, h3⟩ := st
    have e1 : (items.size : Int) - 1 - ((i : Nat) : Int) = ((items.size - 1 - i : Nat) : Int) := by omega
    rw [e1] at h2
    obtain ⟨x, hx⟩ : ∃ x, items[items.size - 1 - i]? = some x := ⟨_, Array.getElem?_eq_getElem (by omega)⟩
    refine nextOf_rt h2 h3 hx hsz fun h' r' sb => hQ x h' _ hx ⟨⟨hi, ?_⟩, ?_⟩ sb
    · have e2 : ((items.size - 1 - i : Nat) : Int) - 1 = (items.size : Int) - 1 - ((i + 1 : Nat) : Int) := by omega
      rw [← e2]
      exact r'
    · obtain ⟨o, e, r⟩ := h3
      exact ⟨o, (sb.2 t hne).trans e, r⟩
  done := fun s Q E st hE => by
    obtain ⟨⟨_, h2⟩, _⟩ := st
    have e1 : (items.size : Int) - 1 - ((items.size : Nat) : Int) = -1 := by omega
    rw [e1] at h2
    exact nextOf_rt_end hh h2 hE
theorem meets_enum_rt (r t : Addr) (i : Int) :
    Meets (Builtin.«enumerate.__new__» ⟨[.type "enumerate", .ref r], []⟩) (fun _ R s => IsRt s.heap r t i ∧
      R (.ok (.ret (.ref s.heap.objs.size))) { s with heap := s.heap.push { cls := .type "enumerate", data := .fields #[.none, .bool false, .ref r, rawInt 0, .none, .none] } }) :=
  .of_wp fun prog w A R s h => by
    obtain ⟨hp, g, d, tk, os⟩ := s
    obtain ⟨hr, h⟩ := h
    have hsub := sub_enumerate
    have q1 : ∀ {A' : Around} {E : Value → Shared → Prop} {Q : Value → Shared → Prop}, Q (.ref r) ⟨hp, g, d, tk, os⟩ → wpAny (model prog w) A' (pyIter (.ref r)) Q E ⟨hp, g, d, tk, os⟩ := fun q => iter_rt hr q
    wp_walk using q1
    refine wpAny_stack_any fun st => wpAny_pure ?_
    split
    · rename_i c _ _ _ _ _
      cases (c == Value.type "enumerate")
      · wp_walk using q1
        exact ⟨_, rfl, h⟩
      · wp_walk using q1
        exact ⟨_, rfl, h⟩
    · wp_walk using q1
      exact ⟨_, rfl, h⟩
end K88
set_option maxRecDepth 100000
set_option maxHeartbeats 4000000
namespace K88
open PySem PySem.Spec PyProof.Rows L2 RT
section
variable {prog : Program} {w : World} {A : Around} {E : Value → Shared → Prop} {s : Shared}
theorem call_enum_rt {r t : Addr} {i : Int} {Q : Value → Shared → Prop} (hr : IsRt s.heap r t i)
    (h : ∀ h', IsEnum h' s.heap.objs.size r 0 .none → (∀ b o, s.heap.get? b = some o → h'.get? b = some o) → Q (.ref s.heap.objs.size) { s with heap := h' }) :
    wpAny (model prog w) A (call (.type "enumerate") [.ref r]) Q E s := by
  refine callType_new F.called_enumerate (by decide) (F.typeCall_enumerate_1 _) (F.newCall_enumerate_1 _) (fun obj => F.args_object_init_2 obj _) F.entry_enumerate_new
    (meets_enum_rt r t i) ⟨hr, ?_⟩
  have he : IsEnum (s.heap.push { cls := .type "enumerate", data := .fields #[.none, .bool false, .ref r, rawInt 0, .none, .none] }) s.heap.objs.size r 0 .none := Heap.get?_push_size _ rfl
  exact ⟨⟨_, he, rfl⟩, h _ he fun b o x => Heap.get?_push_of_some _ x⟩
end
/-- pairs of a place and the item there from behind, in new tuples -/
def Iter' (K : PySem.W.Frag) (a : Addr) (n : Nat) : It :=
  ⟨fun i H => i < n ∧ ∃ (xs : List V) (x : V), SqT K H a xs ∧ xs.length = n ∧ xs[n - 1 - i]? = some x,
    fun i H v H' => ∃ T x, v = .ref T ∧ H T = none ∧ H' = upd H T (.tup [.int (i : Nat), x]) ∧ ∀ xs, SqT K H a xs → xs[n - 1 - i]? = some x,
    fun i H => n ≤ i ∧ ∃ (xs : List V), SqT K H a xs ∧ xs.length = n⟩
theorem turn_enumR {P : Program} {w : World} {K : PySem.W.Frag} {elts : List Expr} {kk : Nat} {tpos : Pos} (a e it : Addr) (n : Nat) :
    Turn P w K (.Tuple elts kk tpos) (Iter' K a n) [e, it] e (fun i h => (∃ old, IsEnum h e it ((i : Nat) : Int) old) ∧ (i ≤ n ∧ IsRt h it a ((n : Int) - 1 - (i : Nat))) ∧ e ≠ it ∧ e ≠ a ∧ a ≠ it) where
  mem := by simp
  obj := fun i h st b hb => by
    obtain ⟨⟨old, he⟩, ⟨_, o, ho, hc, hd⟩, _⟩ := st
    have e' : b = e ∨ b = it := by simpa using hb
    rcases e' with z | z
    · rw [z]; exact ⟨_, he, fun v q => nomatch q⟩
    · rw [z]; exact ⟨o, ho, fun v q => by rw [hd] at q; cases q⟩
  keep := fun i h h' st k => let ⟨⟨old, he⟩, hi, hne⟩ := st; ⟨⟨old, k e (by simp) _ he⟩, ⟨hi.1, hi.2.at fun o q => k it (by simp) o q⟩, hne⟩
  item := by
    intro X hP hw hK hc i pins s σ H E I hf st hg
    subst hP hw hK
    obtain ⟨⟨old, he⟩, ⟨hin, hit⟩, hne, hea, hai⟩ := st
    obtain ⟨hlt, xs, x, hq, hln, hx⟩ := hg
    obtain ⟨its, rv, p, hz⟩ := I.tuple hq
    obtain ⟨u, hu, ru⟩ := rv.get hx
    have hel : e < s.heap.objs.size := Heap.lt_size he
    have hil : it < s.heap.objs.size := by obtain ⟨_, q, _⟩ := hit; exact Heap.lt_size q
    have hsz : its.toArray.size = n := by rw [List.size_toArray, ← rv.length]; exact hln
    have D := draws_rt (prog := X.prog) (w := X.w) (A := X.A.in1) (I.ok.hd hc) it a hai its.toArray (by rw [hsz, ← hln]; exact hz)
    rw [hsz] at D
    refine wpAny_pyNext_enum_itemD D he ⟨⟨hin, hit⟩, p⟩ hlt hne (by simp only [List.mem_cons, List.not_mem_nil, or_false, not_or]; exact ⟨hne, hea⟩) fun x' h' tk hP' ho st' hT hsz' hk => ?_
    obtain ⟨⟨hin', hit'⟩, _⟩ := st'
    have hxu : x' = u := by
      have q : its.toArray[n - 1 - i]? = some u := by simpa using hu
      rw [q] at hP'
      exact (Option.some.inj hP').symm
    subst hxu
    refine ⟨_, rfl, wpAny_letOwnedTupleGo_enum (s := { s with heap := h', toks := tk + 1 }) ho fun h'' he' sb => ?_⟩
    have hT2 : h''.get? s.heap.objs.size = some { cls := .type "tuple", data := .seq #[.int i tk, x'] } := (sb.2 _ (Nat.ne_of_gt hel)).trans hT
    have new : ObjOk X.prog X.w (upd H s.heap.objs.size (.tup [.int (i : Nat), x])) h'' s.heap.objs.size (.tup [.int (i : Nat), x]) :=
      ⟨by show 2 ≤ sizeLine; decide, [.int i tk, x'], .cons ⟨_, rfl⟩ (.cons ru .nil), ⟨_, hT2, rfl, _, rfl⟩⟩
    have I1 : Inv X pins σ (upd H s.heap.objs.size (.tup [.int (i : Nat), x])) { s with heap := h'', toks := tk + 1 } :=
      I.turnedNew (ch := [e, it]) (fun b ob hb q => (sb.2 b (fun z => hb (by simp [z]))).trans (hk b ob (fun z => hb (by simp [z])) (fun z => hb (by simp [z])) q)) hf (Nat.le_refl _) new
    refine ⟨.ref s.heap.objs.size, _, I1, rfl, ⟨_, x, rfl, I.hok.fresh (Nat.le_refl _), rfl, fun ys hy => by rw [I.tuple_inj hy hq]; exact hx⟩, ⟨⟨x', ?_⟩, ⟨hin', hit'.at fun o q => (sb.2 it (Ne.symm hne)).trans q⟩, hne, hea, hai⟩, fun b hb => ?_⟩
    · have e1 : ((i + 1 : Nat) : Int) = (i : Int) + 1 := by omega
      rw [e1]; exact he'
    · have hb' : b < s.heap.objs.size := by
        have e' : b = e ∨ b = it := by simpa using hb
        rcases e' with z | z
        · rw [z]; exact hel
        · rw [z]; exact hil
      rw [upd_ne (Nat.ne_of_lt hb')]
      exact (hf b hb).1
  done := by
    intro X hP hw hK hc i pins s σ H E I hf st hg
    subst hP hw hK
    obtain ⟨⟨old, he⟩, ⟨hin, hit⟩, hne, hea, hai⟩ := st
    obtain ⟨hge, xs, hq, hln⟩ := hg
    obtain ⟨its, rv, p, hz⟩ := I.tuple hq
    have hsz : its.toArray.size = n := by rw [List.size_toArray, ← rv.length]; exact hln
    have D := draws_rt (prog := X.prog) (w := X.w) (A := X.A.in1) (I.ok.hd hc) it a hai its.toArray (by rw [hsz, ← hln]; exact hz)
    rw [hsz] at D
    obtain rfl : i = n := by omega
    obtain ⟨f0, f1, f2, f3, f4, f5⟩ := hf it (by simp)
    exact wpAny_pyNext_enum_endD D he ⟨⟨hin, hit⟩, p⟩ fun h' eb => ⟨rfl, I.turned (t' := s.toks) (fun b o hb q => eb b o hb q) f0 f1 f3 f4 f5⟩
  self := fun A i s Q E st h => let ⟨⟨_, he⟩, _⟩ := st; wpAny_pyIter_enum he h
def iEnumR (K : PySem.W.Frag) (te : TE) : TI := fun σ H R => te σ H fun v H1 => ∃ a xs, v = .ref a ∧ SqT K H1 a xs ∧ R (Iter' K a xs.length) H1
theorem pi_enumR {X : Cx} {e : Expr} {te : TE} {p p2 pos pos2 tpos : Pos} {elts : List Expr} {kk : Nat} (hm : X.mg "enumerate" = none) (hm2 : X.mg "reversed" = none) (he : PE X e te) (hg : Gl X "enumerate" := by rfl) (hg2 : Gl X "reversed" := by rfl)
    (hs : starEach [e] X.env = (false, eval e X.env) :: starEach [] X.env := by rfl)
    (hs2 : starEach [.Call (.Name "reversed" p2) [e] [] pos2] X.env = (false, eval (.Call (.Name "reversed" p2) [e] [] pos2) X.env) :: starEach [] X.env := by rfl) :
    PI X (.Tuple elts kk tpos) (.Call (.Name "enumerate" p) [.Call (.Name "reversed" p2) [e] [] pos2] [] pos) (iEnumR X.K te) := by
  refine ⟨fun pins s σ H R I h => ?_⟩
  refine Call_ (ld_blt I hg hm PyProof.Rows.boot_enumerate (PyProof.Rows.callWith_type1 (args_cons ?_ hs2) hs2 rfl))
  refine Call_ (ld_blt I hg2 hm2 PyProof.Rows.boot_reversed (PyProof.Rows.callWith_type1 (args_cons (thn (he.run pins s σ H _ I h) fun u s1 ⟨v, H1, I1, r1, q1⟩ => args_nil ?_) hs) hs rfl))
  obtain ⟨a, xs, ev, hq, q⟩ := q1
  subst ev
  obtain rfl : u = Value.ref a := r1
  obtain ⟨its, rv, p', hz⟩ := I1.tuple hq
  have hl := rv.length
  have hn := line63
  have e1 : ((its.toArray.size : Nat) : Int) - 1 = (xs.length : Int) - 1 - ((0 : Nat) : Int) := by simp only [List.size_toArray]; omega
  refine call_reversed_tup p' (fun A E Q k => len_tuple p' (by simp only [List.size_toArray] <;> omega) k) (args_nil ?_)
  have hr : IsRt (s1.heap.push (rtObj a ((its.toArray.size : Int) - 1))) s1.heap.objs.size a ((its.toArray.size : Int) - 1) := ⟨_, Heap.get?_push_size _ rfl, rfl, rfl⟩
  refine call_enum_rt (s := { s1 with heap := s1.heap.push (rtObj a ((its.toArray.size : Int) - 1)), toks := s1.toks + 1 + 1 }) hr fun h' hen hk => wpAny_pyIter_enum hen ?_
  have hk2 : ∀ b o, s1.heap.get? b = some o → h'.get? b = some o := fun b o q => hk b o (Heap.get?_push_of_some _ q)
  have I2 : Inv X pins σ H1 { s1 with heap := h', toks := s1.toks + 1 + 1 } := I1.kept (t' := s1.toks + 1 + 1) hk2
  have sz : (s1.heap.push (rtObj a ((its.toArray.size : Int) - 1))).objs.size = s1.heap.objs.size + 1 := Heap.size_push ..
  have hal : a < s1.heap.objs.size := p'.lt
  refine ⟨_, [(s1.heap.push (rtObj a ((its.toArray.size : Int) - 1))).objs.size, s1.heap.objs.size], _, _, H1, rfl, I2, turn_enumR a _ s1.heap.objs.size xs.length, ⟨⟨.none, hen⟩, ⟨Nat.zero_le _, ?_⟩, ?_, ?_, ?_⟩, fun b hb => ?_, q⟩
  · rw [← e1]
    exact hr.at fun o q => hk _ o q
  · rw [sz]; exact Nat.succ_ne_self _
  · rw [sz]
    exact Nat.ne_of_gt (Nat.lt_succ_of_lt hal)
  · exact Nat.ne_of_lt hal
  · have e' : b = (s1.heap.push (rtObj a ((its.toArray.size : Int) - 1))).objs.size ∨ b = s1.heap.objs.size := by simpa using hb
    have hle : s1.heap.objs.size ≤ b := by
      rcases e' with z | z
      · rw [z, sz]; exact Nat.le_succ _
      · rw [z]; exact Nat.le_refl _
    exact I1.fpOk hle (I1.hok.fresh hle)
end K88
set_option maxRecDepth 100000
set_option maxHeartbeats 4000000
namespace PySem
namespace NtX
open PySem.W PySem.Calls PyProof.Rows PySem.HandSPX
/-! ### NoText.__init__ -/
def iA : Arguments := { posonlyargs := [], args := [{ arg := "self", annotation := none, pos := ⟨32, 17, 32, 21⟩ }, { arg := "text", annotation := none, pos := ⟨32, 23, 32, 27⟩ }, { arg := "line", annotation := none, pos := ⟨32, 29, 32, 33⟩ }], vararg := none, kwonlyargs := [], kw_defaults := [], kwarg := none, defaults := [.Constant .none 0 ⟨32, 34, 32, 38⟩] }
def iB : List Stmt :=
  [.Expr (.Call (.Attribute (.Call (.Name "super" ⟨33, 8, 33, 13⟩) [] [] ⟨33, 8, 33, 15⟩) "__init__" ⟨33, 8, 33, 24⟩) [.Name "text" ⟨33, 25, 33, 29⟩] [] ⟨33, 8, 33, 30⟩) ⟨33, 8, 33, 30⟩,
   .Assign [.Attribute (.Name "self" ⟨34, 8, 34, 12⟩) "line" ⟨34, 8, 34, 17⟩] (.Name "line" ⟨34, 20, 34, 24⟩) ⟨34, 8, 34, 24⟩]
def iS : Scope := { kind := .function, names := [(PySem.Str.ofString "self", .local), (PySem.Str.ofString "text", .local), (PySem.Str.ofString "line", .local), (PySem.Str.ofString "__class__", .free), (PySem.Str.ofString "super", .globalImplicit)], isGenerator := false, isCoroutine := false, more := [] }
structure NtTxt (P : Program) (K : Frag) (mg : Str → Option Value) (C fI : Addr) : Prop where
  gC : mg "NoText" = some (.ref C)
  sup : mg "super" = none
  cls : ∃ nm q N bs bm sn sub ab col dd k0 k1 k2 k3 k5, K.lookup C = some (excClassObj nm q C N bs bm true sn sub ab col dd k0 k1 k2 k3 k5 "ValueError.__new__") ∧ refsVE bm = true
  sa : findIn K (.ref C) "__setattr__" = some (some (.builtin "object.__setattr__"))
  ga : findIn K (.ref C) "__getattribute__" = some (some (.builtin "BaseException.__getattribute__"))
  gg : findIn K (.ref C) "__getattr__" = some none
  noN : findIn K (.ref C) "line" = some none
  iC : findIn K (.ref C) "__init__" = some (some (.ref fI))
  tC : typeIn K (.ref fI) = some (.type "function")
  kC : keepIn K (.ref C) = true
  exC : subIn K (.ref C) (.type "BaseException") = some true
  tyC : typeIn K (.ref C) = some (.type "type")
  hdC : hasDictIn K C = true
  mro : mroIn K C (.ref C) = some true
  subV : subIn K (.ref C) (.type "ValueError") = some true
  sup2 : ks_superIn K C C "__init__" = some (some (.builtin "ValueError.__init__"))
  opq : nsIn K cStatics "thirdparty.any" = some none
  top : (P.main.scope.names.lookup ("super" : Str)).isSome = false
  fn : ∃ (oc : Value) (od : Option Addr) (dT : Addr) (doc pm : Value) (an : Option Addr) (cda cc : Addr) (ct : Value) (osl : Array (Option Value)),
    K.lookup fI = some ⟨oc, od, .func (ksFn "__init__" "NoText.__init__" iA iB iS (.ref dT) .none doc pm an (.ref cda) ct cc), osl⟩ ∧ codeIn K (.ref cda) "NoText.__init__" = true ∧
    (∃ cl cld csl, K.lookup cc = some ⟨cl, cld, .cell (some (.ref C)), csl⟩) ∧ (∃ oT n, K.lookup dT = some oT ∧ oT.data = .seq #[.none] n) ∧ ∃ ccl cdd vs ccs file tf, K.lookup cda = some ⟨ccl, cdd, .fields vs, ccs⟩ ∧ vs[2]? = some (.str file tf) ∧ (P.main.file == file) = true
theorem kept_but {K : Frag} {h h' : Heap} {x : Addr} (X : K.In h) (hx : K.lookup x = none) (k : ∀ b o, b ≠ x → h.get? b = some o → h'.get? b = some o) : K.In h' := fun a o e =>
  k a o (fun z => by rw [z, hx] at e; cases e) (X a o e)
structure InitEnd (h h' : Heap) (x C dx t1 : Addr) (v : Value) : Prop where
  keep : ∀ b o, b ≠ x → h.get? b = some o → h'.get? b = some o
  obj : h'.get? x = some { cls := .ref C, dict := some dx, data := .fields #[.ref t1, .none, .none, .none, .bool false, .none] }
  dbig : h.objs.size ≤ dx
  dne : dx ≠ x
  ns : h'.Ns1 dx (fun y => if y = "line" then some v else none)
section
variable {prog : Program} {w : World} {A : Around} {E : Value → Shared → Prop} {h : Heap} {g : Array GenState} {d : Drawn} {t : Nat} {os : OsState}
variable {nm q : Str} {C N : Addr} {bs bm : List Value} {hdct : Bool} {sn : List Str} {sub : List Value} {ab : Bool} {col : Option Bool} {dd : Option Addr} {k0 k1 k2 k3 k5 : Option Value}
theorem call_mw {u e t0 : Addr} {rest : List Value} {Q : Value → Shared → Prop}
    (hC : h.get? C = some (excClassObj nm q C N bs bm hdct sn sub ab col dd k0 k1 k2 k3 k5 "ValueError.__new__")) (he : h.get? e = some (excO C t0)) (hu : h.get? u = some (kxs_mw "ValueError.__init__" e)) (hrest : rest.length ≤ sizeLine)
    (hq : ∀ h', (∀ b o, b ≠ e → h.get? b = some o → h'.get? b = some o) → h'.get? e = some (excO C h.objs.size) → Q .none ⟨h', g, d, t, os⟩) :
    wpAny (model prog w) A (call (.ref u) rest) Q E ⟨h, g, d, t, os⟩ := by
  refine wpAny_call (codeAny_of_tree ?_)
  show wpAny _ A.in1 (callAny (.ref u) ⟨rest, []⟩) _ _ _
  simp only [callAny]
  refine wpAny_bind (wpAny_load hu ?_)
  simp only [kxs_mw, show (Value.type "method-wrapper" == Value.type "method" || Value.type "method-wrapper" == Value.type "builtin_function_or_method" || Value.type "method-wrapper" == Value.type "method-wrapper") = true by decide, if_true]
  refine W.KFB.if_so (by decide) ?_
  refine wpAny_bind (ESX.check_bound F.excBase_ValueError hC he rfl ?_)
  refine wpAny_bind (wpAny_pure (wpAny_pure ?_))
  refine ⟨plainId_quiet F.excBase_ValueError.init.plain _, codeAny_builtin F.excBase_ValueError.initEntry ?_⟩
  exact exc_init_tree (cls := .ref C) (t0 := t0) (dv := none) (c2 := .none) (c3 := .none) (b4 := .bool false) he hrest fun h' k e' _ => hq h' k e'
end
section
variable {prog : Program} {w : World} {A : Around} {E : Value → Shared → Prop} {R : Result → Shared → Prop} {s : Shared} {K : Frag} {mg mb : Str → Option Value} {C fI : Addr}
theorem nt_init (T : NtTxt prog K mg C fI) {x t0 : Addr} {v l : Value} (X : K.In s.heap) (hg : s.heap.Ns mainGlobals mg) (hb : s.heap.Ns builtinsNs mb) (hbs : mb "super" = some (.type "super")) (hlim : s.heap.NoLimit)
    (hx : s.heap.get? x = some (excO C t0)) (hnx : K.lookup x = none) (hroom : A.depth < recursionLimit)
    (hq : ∀ h' tk dx t1, InitEnd s.heap h' x C dx t1 l → R (.ok (.ret .none)) { s with heap := h', toks := tk }) :
    codeAny (model prog w) A (.call (.ref fI) ⟨[.ref x, v, l], []⟩) R s := by
  obtain ⟨oc, od, dT, doc, pm, an, cda, cc, ct, osl, ho, hcd, ⟨cl, cld, csl, hcc⟩, ⟨oT, nT, lT, eT⟩, ccl, cdd, vs, ccs, file, tf, hcode, hvs, hfile⟩ := T.fn
  obtain ⟨nm, q, N, bs, bm, sn, sub, ab, col, dd, k0, k1, k2, k3, k5, hC, hbm⟩ := T.cls
  have hcl : clsIn K C = some { name := nm, bases := bs, mro := .ref C :: bm, ns := N, qualname := q, hasDict := true, slotNames := sn, subclasses := sub, abstract := ab, collection := col, hasDel := false } := by unfold clsIn; rw [hC] <;> rfl
  refine ks_codeAny_call_defAt (fd := ksFn "__init__" "NoText.__init__" iA iB iS (.ref dT) .none doc pm an (.ref cda) ct cc) (body := iB) (binds := [("self", .ref x), ("text", v), ("line", l)])
    hroom (X _ _ ho) rfl hlim (codeRec_of X hcd) rfl (L2.BindsTo.of_looks fun M => L2.looks_items X lT eT (.of_pure (by first | rfl | with_unfolding_all rfl))) (by show ∀ x ∈ iS.names, x.2 ≠ .cell; decide) (fun y hy => by
      simp only [List.mem_cons, List.not_mem_nil, or_false] at hy
      rcases hy with rfl | rfl | rfl <;> (dsimp only; decide +kernel)) (fun h₁ hn hk => ?_)
  have X₁ : K.In h₁ := X.keeps hk
  have hx₁ := hk _ _ hx
  have hxs : x < s.heap.objs.size := Heap.lt_size hx
  have hC₁ := X₁ _ _ hC
  show _root_.PySem.wpAt (model prog w) (A.deeper (ksEnv "NoText.__init__" iS s.heap.objs.size fI (.ref cda) cc)) (.func iB (ksEnv "NoText.__init__" iS s.heap.objs.size fI (.ref cda) cc)) (execs iB (ksEnv "NoText.__init__" iS s.heap.objs.size fI (.ref cda) cc)) _ _ _
  refine ks_wpAt_execs_cons (ks_wpAt_Expr_any ?_)
  refine ks_wpAt_MethodCall ?_
  refine ks_wpAt_super_base (env := ksEnv "NoText.__init__" iS s.heap.objs.size fI (.ref cda) cc) (by rfl) (by rfl) rfl rfl (X₁ _ _ ho) rfl rfl rfl (X₁ _ _ hcode) rfl hvs hfile T.top ?_
  refine ks_loadName_global rfl (by rfl) (loadGlobal_builtin (env := ksEnv "NoText.__init__" iS s.heap.objs.size fI (.ref cda) cc) (hg.keeps hk) T.sup (hb.keeps hk) hbs ⟨rfl, ?_⟩)
  refine wpAny_loadName_free rfl (by rfl) rfl ⟨_, X₁ _ _ hcc, rfl⟩ ?_
  refine wpAny_loadName_local rfl (by rfl) hn (v := .ref x) (by first | rfl | with_unfolding_all rfl | kernel_rfl) ?_
  refine ks_wpAny_isType_cls hC₁ rfl ⟨rfl, ?_⟩
  refine ks_wpAny_call_super hC₁ rfl hx₁ rfl (fun c e => by cases e) (looks_mroIn X₁ T.mro) (fun h₂ hso hk2 => ?_)
  have X₂ : K.In h₂ := X₁.keeps hk2
  have hx₂ := hk2 _ _ hx₁
  have I₂ : InstAt h₂ x (excO C t0) C none := ⟨hx₂, rfl, rfl, trivial⟩
  have sm : ks_superIn K C C "__init__" = alongIn K "__init__" (((Value.ref C :: bm).dropWhile (· != .ref C)).drop 1) := by
    unfold ks_superIn
    rw [hcl]
    rfl
  refine kxs_getMethod kxs_ValueError hso (looks_opaque X₂ T.opq) (l₀ := .ref C :: bm) (fun A Q E s k q => wpAny_bind ((looks_clsIn X₂ hcl) A _ E s k (wpAny_pure q))) rfl X₂ (sm ▸ T.sup2) (I₂.type.andThen (looks_subIn X₂ T.subV)) (ks_ne X₂ I₂ hcl) (by decide +kernel) ?_
  have hk3 : ∀ b o, h₂.get? b = some o → (h₂.push (kxs_mw "ValueError.__init__" x)).get? b = some o := fun b o e => Heap.get?_push_of_some _ e
  have hn3 := (hn.keeps hk2).keeps hk3
  refine kxs_callWith (i := "ValueError.__init__") (x := x) rfl (evalArgs_plain ?_)
  refine spliced_cons (wpAny_Name (wpAny_loadName_local rfl (by rfl) hn3 (v := v) (by first | rfl | with_unfolding_all rfl | kernel_rfl) ?_) (by decide +kernel))
  refine spliced_nil ?_
  refine ⟨Heap.get?_push_at rfl rfl, ?_⟩
  refine call_mw (e := x) (t0 := t0) (hk3 _ _ (hk2 _ _ hC₁)) (hk3 _ _ hx₂) (Heap.get?_push_at rfl rfl) (by show 1 ≤ sizeLine; rw [sizeLine_eq]; decide) (fun h₄ k4 e4 => ?_)
  have hLx : s.heap.objs.size ≠ x := Nat.ne_of_gt hxs
  have X₄ : K.In h₄ := kept_but ((X₂.keeps hk3)) hnx k4
  have hn4 : h₄.Ns s.heap.objs.size (fun y => [(("self" : Str), Value.ref x), ("text", v), ("line", l)].reverse.lookup y) := by
    obtain ⟨oL, es, ep, hL, r⟩ := hn3
    exact ⟨oL, es, ep, k4 _ _ hLx hL, r⟩
  refine wpAt_of_wpAny (wpAny_execs_cons (plainObj_wpAny_Assign_Attribute ?_))
  refine wpAny_Name (wpAny_loadName_local rfl (by rfl) hn4 (v := l) (by first | rfl | with_unfolding_all rfl | kernel_rfl) ?_) (by decide +kernel)
  refine wpAny_Name (wpAny_loadName_local rfl (by rfl) hn4 (v := .ref x) (by first | rfl | with_unfolding_all rfl | kernel_rfl) ?_) (by decide +kernel)
  refine set_plain X₄ (ox := excO C (h₂.push (kxs_mw "ValueError.__init__" x)).objs.size) (od := none) ⟨e4, rfl, rfl, trivial⟩ T.sa ?_
  refine exc_osa X₄ e4 hcl (show refsVE (.ref C :: bm) = true from hbm) rfl T.noN (fun h₅ tk₅ dx k₅ dn dne hx₅ hn₅ => ?_)
  show wpAny _ _ (execs _ _) _ _ _
  refine wpAny_execs_nil (hq h₅ tk₅ dx _ ⟨fun b o hb e => k₅ b o hb (k4 b o hb (hk3 _ _ (hk2 _ _ (hk b o e)))), hx₅, ?_, dne, hn₅⟩)
  obtain ⟨oL, es, ep, hL, r⟩ := hn4
  exact Nat.le_trans (Nat.le_of_lt (Heap.lt_size hL)) dn
end
end NtX
end PySem
set_option maxRecDepth 100000
set_option maxHeartbeats 4000000
namespace PySem
namespace NtX
open PySem.W PySem.Calls PyProof.Rows PySem.HandSPX
structure OwnMade (h h' : Heap) (e C d : Addr) (v : Value) : Prop where
  keep : ∀ b o, h.get? b = some o → h'.get? b = some o
  new : h.objs.size ≤ e
  obj : ∃ oe vs, h'.get? e = some oe ∧ oe.cls = .ref C ∧ oe.dict = some d ∧ oe.data = .fields vs ∧ vs[1]? = some .none
  dbig : h.objs.size ≤ d
  dne : d ≠ e
  ns : h'.Ns1 d (fun y => if y = "line" then some v else none)
section
variable {prog : Program} {w : World} {A : Around} {E : Value → Shared → Prop} {R : Result → Shared → Prop} {s : Shared} {K : Frag} {mg mb : Str → Option Value} {C fI : Addr}
theorem two_size (v l : Value) : [v, l].length ≤ sizeLine := by
  rw [sizeLine_eq]
  exact (by decide : 2 ≤ 16777216)
theorem nt_made (T : NtTxt prog K mg C fI) {v l : Value} (X : K.In s.heap) (hg : s.heap.Ns mainGlobals mg) (hb : s.heap.Ns builtinsNs mb) (hbs : mb "super" = some (.type "super")) (hlim : s.heap.NoLimit) (hroom : A.depth + 1 < recursionLimit)
    (hq : ∀ h' tk e d, OwnMade s.heap h' e C d l → R (.ok (.ret (.ref e))) { s with heap := h', toks := tk }) :
    codeAny (model prog w) A (.call (.ref C) ⟨[v, l], []⟩) R s := by
  obtain ⟨nm, q, N, bs, bm, sn, sub, ab, col, dd, k0, k1, k2, k3, k5, hC, hbm⟩ := T.cls
  obtain ⟨hp, g, dr, tk, os⟩ := s
  have k : ∀ b o, hp.get? b = some o → ((hp.push (kdv_tup [v, l])).push (excO C hp.objs.size)).get? b = some o := fun b o e => Heap.get?_push_of_some _ (Heap.get?_push_of_some _ e)
  have hget : ((hp.push (kdv_tup [v, l])).push (excO C hp.objs.size)).get? (hp.objs.size + 1) = some (excO C hp.objs.size) := by heap_get
  have hnx : K.lookup (hp.objs.size + 1) = none := by
    cases e : K.lookup (hp.objs.size + 1) with
    | none => rfl
    | some o =>
      have z : hp.get? (hp.objs.size + 1) = some o := X _ _ e
      exact absurd (Nat.lt_of_succ_lt (Heap.lt_size z)) (Nat.lt_irrefl _)
  refine call_own F.excBase_ValueError (fun X => refsVE_contains X bm hbm) (X _ _ hC) (looks_findIn X T.iC) (fun self => bind_fn X self T.tC) (two_size v l) ?_
  refine nt_init (s := ⟨(hp.push (kdv_tup [v, l])).push (excO C hp.objs.size), g, dr, tk, os⟩) T (X.keeps k) (hg.keeps k) (hb.keeps k) hbs (hlim.keeps k) hget hnx ?_ fun h' tk' dx t1 ⟨k', hx, dn, dne, hns⟩ => ?_
  · show A.depth + 1 < recursionLimit
    exact hroom
  · have old : ∀ b o, hp.get? b = some o → h'.get? b = some o := fun b o e => k' b o (Nat.ne_of_lt (Nat.lt_succ_of_lt (Heap.lt_size e))) (k b o e)
    have z : hp.objs.size + 1 + 1 ≤ dx := by
      first
        | (simpa only [Heap.size_push] using dn)
        | exact dn
        | (have q := dn; rw [Heap.size_push, Heap.size_push] at q; exact q)
    exact ⟨rfl, hq h' tk' (hp.objs.size + 1) dx ⟨old, Nat.le_succ _, ⟨_, _, hx, rfl, rfl, rfl, rfl⟩, Nat.le_trans (Nat.le_trans (Nat.le_succ _) (Nat.le_succ _)) z, dne, hns⟩⟩
end
end NtX
end PySem
namespace K88
open PySem PySem.Spec PyProof.Rows L2
theorem relO_line {v : V} {v' : Value} (r : RelV v v') (f : Str) : RelO (List.lookup f [(("line" : Str), v)]) (if f = "line" then some v' else none) := by
  by_cases hw : f = "line"
  · subst hw
    rw [if_pos rfl]
    have q : List.lookup ("line" : Str) [(("line" : Str), v)] = some v := by simp [List.lookup]
    rw [q]
    exact r
  · rw [if_neg hw]
    have qw : (f == ("line" : Str)) = false := by simpa using hw
    have q2 : List.lookup f [(("line" : Str), v)] = none := by simp [List.lookup, qw]
    rw [q2]
    trivial
section
variable {X : Cx} {C fI : Addr}
/-- what is left behind: a dict with the line -/
def ntD (l : V) : HO := .xd [(("line" : Str), l)]
/-- NoText(a, b) -/
def tMkNt (C : Addr) (ta : TA) : L2.St → Hp → XK → Prop := fun σ H Q => ta σ H fun vs H1 => ∃ v l, vs = [v, l] ∧ ∀ d, H1 d = none → Q (.ref C) (some d) (upd H1 d (ntD l))
theorem pmk_nt {a b : Expr} {ta : TA} {p pos : Pos} {k : Nat} (T : PySem.NtX.NtTxt X.prog X.K X.mg C fI) (hr : Room k X.A) (ha : PA X [a, b] ta) (hg : Gl X "NoText" := by rfl)
    (he : starEach (a :: [b]) X.env = (false, eval a X.env) :: starEach [b] X.env := by rfl) (hpl : (backTo pos (starEach [b] X.env)).any (·.1) = false := by rfl) :
    PMk X (.Call (.Name "NoText" p) [a, b] [] pos) (tMkNt C ta) := by
  intro pins s σ H Q I h
  refine wpAny_Call_Name_kw (ld_glob I hg T.gC ?_)
  refine PySem.W.callWith_K (h₀ := X.base) I.ok.mod.kin T.kC (thn (ha.run pos pins s σ H _ I h) fun us s1 hh => ?_) he hpl
  obtain ⟨vs, H1, I1, r1, v, l, ev, q1⟩ := hh
  subst ev
  refine ⟨I1.kIn, ?_⟩
  cases r1 with
  | cons rv rn =>
    rename_i v' us'
    cases rn with
    | cons rl rn =>
    rename_i l' us'
    cases rn
    show wpAny _ _ (call (.ref C) [v', l']) _ _ _
    have hlim := I1.nolimit
    obtain ⟨mb, hb1, hb2⟩ := I1.mod.blt
    have bk := I1.bk
    have gg := I1.mod.glob.keeps bk
    have bb := hb1.keeps bk
    obtain ⟨hp, g, dr, tk, os⟩ := s1
    refine wpAny_call (PySem.NtX.nt_made T I1.kIn gg bb ((hb2 "super" (by decide)).trans (by decide +kernel)) hlim (by have := hr.dp; omega) fun h' tk' e d M => ?_)
    show MkP X pins σ Q (.ref e) ⟨h', g, dr, tk', os⟩
    obtain ⟨oe, fv, hoe, hc, hd, hdat, h1⟩ := M.obj
    have hns := M.ns
    obtain ⟨G', g1, g2⟩ := restrict h' fun b => decide (b ≠ e)
    have gk : ∀ b, b ≠ e → G'.get? b = h'.get? b := fun b hb => g1 b (decide_eq_true hb)
    have ge : G'.get? e = none := g2 e (by simp)
    have old : ∀ b o, hp.get? b = some o → G'.get? b = some o := fun b o q => (gk b (Nat.ne_of_lt (Nat.lt_of_lt_of_le (Heap.lt_size q) M.new))).trans (M.keep b o q)
    have ob : ObjOk X.prog X.w (upd H1 d (ntD l)) G' d (ntD l) :=
      ⟨_, hns.at (fun o q => (gk d M.dne).trans q), fun f => relO_line rl f⟩
    have J : Inv X pins σ (upd H1 d (ntD l)) ⟨G', g, dr, tk', os⟩ := I1.laid (t' := tk') old M.dbig ob
    refine ⟨e, oe, fv, ⟨G', g, dr, tk', os⟩, _, .ref C, some d, rfl, J, fun b o q => ?_, ge, hoe, ⟨hc, hd⟩, hdat, h1, ?_, rfl, I1.bare, raises_own T.exC T.tyC, q1 d (I1.hok.fresh M.dbig)⟩
    · by_cases hb : b = e
      · have q' : G'.get? b = some o := q
        rw [hb, ge] at q'; cases q'
      · exact (gk b hb).symm.trans q
    · rw [upd_ne (Ne.symm M.dne)]
      exact I1.hok.fresh M.new
/-- raise NoText(a, b) -/
def tRaiseNt (C : Addr) (W : WX) (ta : TA) : TS := fun _ σ H => tMkNt C ta σ H fun cls d H' => W cls d σ H'
theorem ps_raiseNt {a b : Expr} {ta : TA} {W : WX} {p pos pos2 : Pos} {k : Nat} (hc : X.calm = true) (T : PySem.NtX.NtTxt X.prog X.K X.mg C fI) (hr : Room k X.A) (tk : Takes X W) (ha : PA X [a, b] ta) (hg : Gl X "NoText" := by rfl)
    (he : starEach (a :: [b]) X.env = (false, eval a X.env) :: starEach [b] X.env := by rfl) (hpl : (backTo pos (starEach [b] X.env)).any (·.1) = false := by rfl) :
    PS X (.Raise (some (.Call (.Name "NoText" p) [a, b] [] pos)) none pos2) (tRaiseNt C W ta) := ps_raise hc tk (pmk_nt T hr ha hg he hpl)
end
end K88
set_option maxRecDepth 100000
set_option maxHeartbeats 4000000
/-! # the writer: its stack, plain -/
namespace K88
open PySem L2 TL
def mkS (s : Str) : D := .list [.str s]
/-- the text of what lies on the stack -/
def vx : D → List Nat
  | .list (.str s :: _) => tl s
  | d => vt d
def flatS (st : List D) : List Nat := st.flatMap vx
def wt : D → Nat
  | .list _ => 1
  | d => 2 * sz d - 1
def wS : List D → Nat
  | [] => 0
  | d :: r => wt d + wS r
theorem wS_app : ∀ a b : List D, wS (a ++ b) = wS a + wS b
  | [], b => by simp [wS]
  | d :: a, b => by simp [wS, wS_app a b]; omega
theorem wt_pos (d : D) : 1 ≤ wt d := by
  have := sz_pos d
  cases d <;> simp [wt] <;> first | omega | (simp [sz] at * <;> omega)
theorem len_wS : ∀ l : List D, l.length ≤ wS l
  | [] => Nat.le_refl _
  | d :: r => by
    have := len_wS r
    have := wt_pos d
    show r.length + 1 ≤ wt d + wS r
    omega
theorem flatS_app (a b : List D) : flatS (a ++ b) = flatS a ++ flatS b := by simp [flatS]
theorem flatS_cons (a : D) (b : List D) : flatS (a :: b) = vx a ++ flatS b := by simp [flatS]
/-- a value, not a list -/
theorem val_notList {n : Nat} {d : D} (h : valB n d = true) : isLst d = false := by
  cases d <;> first | rfl | (cases n <;> simp [valB, leafB] at h)
theorem vx_val {n : Nat} {d : D} (h : valB n d = true) : vx d = vt d := by
  have := val_notList h
  cases d <;> first | rfl | simp [isLst] at this
theorem wt_val {n : Nat} {d : D} (h : valB n d = true) : wt d = 2 * sz d - 1 := by
  have := val_notList h
  cases d <;> first | rfl | simp [isLst] at this
theorem vx_mk (s : Str) : vx (mkS s) = tl s := rfl
theorem wt_mk (s : Str) : wt (mkS s) = 1 := rfl
def sepK (l : List D) : List D := l.flatMap fun k => [mkS (Str.ofString " "), k]
def finK : List D → List D
  | [] => []
  | k :: r => k :: sepK r
theorem flat_sep : ∀ {l : List D}, (∀ k ∈ l, valB 58 k = true) → flatS (sepK l) = vtR l
  | [], _ => rfl
  | k :: r, h => by
    have ih := flat_sep (l := r) fun x hx => h x (List.mem_cons_of_mem _ hx)
    show flatS (mkS (Str.ofString " ") :: k :: sepK r) = 32 :: (vt k ++ vtR r)
    rw [flatS_cons, flatS_cons, ih, vx_val (h k List.mem_cons_self), vx_mk]
    rfl
theorem flat_fin {l : List D} (h : ∀ k ∈ l, valB 58 k = true) : flatS (finK l) = vtA l := by
  cases l with
  | nil => rfl
  | cons k r =>
    show flatS (k :: sepK r) = vt k ++ vtR r
    rw [flatS_cons, flat_sep fun x hx => h x (List.mem_cons_of_mem _ hx), vx_val (h k List.mem_cons_self)]
theorem wS_sep : ∀ {l : List D}, (∀ k ∈ l, valB 58 k = true) → wS (sepK l) = 2 * szA l
  | [], _ => rfl
  | k :: r, h => by
    have ih := wS_sep (l := r) fun x hx => h x (List.mem_cons_of_mem _ hx)
    show wS (mkS (Str.ofString " ") :: k :: sepK r) = 2 * (sz k + szA r)
    have := sz_pos k
    have := wt_val (h k List.mem_cons_self)
    show 1 + (wt k + wS (sepK r)) = _
    omega
theorem wS_fin {l : List D} (h : ∀ k ∈ l, valB 58 k = true) : wS (finK l) ≤ 2 * szA l := by
  cases l with
  | nil => exact Nat.zero_le _
  | cons k r =>
    have := wS_sep fun x hx => h x (List.mem_cons_of_mem _ hx)
    have := wt_val (h k List.mem_cons_self)
    show wt k + wS (sepK r) ≤ 2 * (sz k + szA r)
    omega
mutual
theorem vt_len : ∀ d : D, (vt d).length + 1 ≤ 2 * sz d
  | .none => by simp [vt, sz]
  | .str s => by
    show (tl s).length + 1 ≤ 2 * (1 + s.length)
    rw [← len_tl]; omega
  | .int i => by
    show (intL i).length + 1 ≤ 2 * (1 + (intL i).length)
    omega
  | .tuple ds => by
    have := vtA_len ds
    show (40 :: (vtA ds ++ [41])).length + 1 ≤ 2 * (2 + szA ds)
    simp
    omega
  | .list ds => by simp [vt, sz]; omega
  | .bool b => by simp [vt, sz]
  | .dict ds => by simp [vt, sz]
theorem vtA_len : ∀ ds : List D, (vtA ds).length ≤ 2 * szA ds
  | [] => Nat.zero_le _
  | d :: r => by
    have := vt_len d
    have := vtR_len r
    show (vt d ++ vtR r).length ≤ 2 * (sz d + szA r)
    simp
    omega
theorem vtR_len : ∀ ds : List D, (vtR ds).length ≤ 2 * szA ds
  | [] => Nat.zero_le _
  | d :: r => by
    have := vt_len d
    have := vtR_len r
    show (32 :: (vt d ++ vtR r)).length ≤ 2 * (sz d + szA r)
    simp
    omega
end
/-- the texts found, what is left -/
structure VM (d : D) (fs : List Str) (st : List D) : Prop where
  txt : (fs.flatMap tl) ++ flatS st = vt d
  wgt : fs.length + wS st ≤ 2 * sz d - 1
theorem VM.zero {d : D} (h : valB 59 d = true) : VM d [] [d] := ⟨by simp [flatS, vx_val h], by simp [wS, wt_val h]⟩
theorem VM.one {d e : D} {fs : List Str} {st : List D} {s : Str} (m : VM d fs (e :: st)) (h : tl s = vx e) : VM d (fs ++ [s]) st := by
  obtain ⟨t, w⟩ := m
  have := wt_pos e
  refine ⟨?_, ?_⟩
  · rw [← t, flatS_cons, ← h]; simp
  · simp only [List.length_append, List.length_cons, List.length_nil]
    have : wS (e :: st) = wt e + wS st := rfl
    omega
theorem VM.tup {d : D} {fs : List Str} {st ds : List D} (m : VM d fs (.tuple ds :: st)) (h : ∀ k ∈ ds, valB 58 k = true) : VM d fs (mkS (Str.ofString "(") :: (finK ds ++ mkS (Str.ofString ")") :: st)) := by
  obtain ⟨t, w⟩ := m
  have e1 : vx (mkS (Str.ofString "(")) = [40] := by decide +kernel
  have e2 : vx (mkS (Str.ofString ")")) = [41] := by decide +kernel
  have wf := wS_fin h
  refine ⟨?_, ?_⟩
  · rw [← t, flatS_cons, flatS_app, flatS_cons, flatS_cons, flat_fin h, e1, e2]
    show _ = _ ++ ((40 :: (vtA ds ++ [41])) ++ _)
    simp
  · have a1 : wS (mkS (Str.ofString "(") :: (finK ds ++ mkS (Str.ofString ")") :: st)) = 1 + (wS (finK ds) + (1 + wS st)) := by
      show 1 + wS (finK ds ++ mkS (Str.ofString ")") :: st) = _
      rw [wS_app]; rfl
    have a2 : wS (.tuple ds :: st) = (2 * (2 + szA ds) - 1) + wS st := rfl
    omega
/-- a turn makes the stack lighter -/
theorem wS_tup {st ds : List D} (h : ∀ k ∈ ds, valB 58 k = true) : wS (mkS (Str.ofString "(") :: (finK ds ++ mkS (Str.ofString ")") :: st)) < wS (.tuple ds :: st) := by
  have wf := wS_fin h
  have a1 : wS (mkS (Str.ofString "(") :: (finK ds ++ mkS (Str.ofString ")") :: st)) = 1 + (wS (finK ds) + (1 + wS st)) := by
    show 1 + wS (finK ds ++ mkS (Str.ofString ")") :: st) = _
    rw [wS_app]; rfl
  have a2 : wS (.tuple ds :: st) = (2 * (2 + szA ds) - 1) + wS st := rfl
  omega
theorem drop_pre {α : Type} {l : List α} {i : Nat} {x : α} (h : l[i]? = some x) : l.drop i = x :: l.drop (i + 1) := by
  obtain ⟨hi, rfl⟩ := List.getElem?_eq_some_iff.mp h
  exact List.drop_eq_getElem_cons hi
/-- what the loop has laid behind i turns -/
def laidK (ds : List D) (i : Nat) : List D := if i < ds.length then sepK (ds.drop (ds.length - i)) else finK ds
theorem laidK_zero (ds : List D) : laidK ds 0 = [] := by
  unfold laidK
  split
  · rw [Nat.sub_zero, List.drop_length]; rfl
  · rename_i h
    have : ds = [] := List.eq_nil_of_length_eq_zero (by omega)
    rw [this]; rfl
theorem laidK_end (ds : List D) : laidK ds ds.length = finK ds := by
  unfold laidK
  rw [if_neg (by omega)]
theorem laidK_sep {ds : List D} {i : Nat} {e : D} (h : ds[ds.length - 1 - i]? = some e) (hi : i + 1 < ds.length) : laidK ds (i + 1) = mkS (Str.ofString " ") :: e :: laidK ds i := by
  unfold laidK
  rw [if_pos hi, if_pos (by omega)]
  have e1 : ds.length - (i + 1) = ds.length - 1 - i := by omega
  rw [e1, drop_pre h, show ds.length - 1 - i + 1 = ds.length - i by omega]
  rfl
theorem laidK_last {ds : List D} {i : Nat} {e : D} (h : ds[ds.length - 1 - i]? = some e) (hi : i + 1 = ds.length) : laidK ds (i + 1) = e :: laidK ds i := by
  unfold laidK
  rw [if_neg (by omega), if_pos (by omega)]
  have e0 : ds.length - 1 - i = 0 := by omega
  rw [e0] at h
  cases ds with
  | nil => simp at h
  | cons k r =>
    simp at h
    subst h
    have e1 : (k :: r).length - i = 1 := by omega
    rw [e1]
    rfl
theorem laid_wS {ds : List D} {i : Nat} (h : ∀ k ∈ ds, valB 58 k = true) : wS (laidK ds i) ≤ 2 * szA ds := by
  unfold laidK
  split
  · rw [wS_sep fun x hx => h x (List.mem_of_mem_drop hx)]
    have e := List.take_append_drop (ds.length - i) ds
    have : szA ds = szA (ds.take (ds.length - i)) + szA (ds.drop (ds.length - i)) := by rw [← szA_app, e]
    omega
  · exact wS_fin h
end K88
set_option maxRecDepth 100000
set_option maxHeartbeats 4000000
namespace K88
open PySem PySem.Spec PyProof.Rows L2 TL
/-! ## value_text -/
abbrev sValText : Stmt := topS 27
abbrev nmValText : List Str := ["value", "found", "left", "here", "at", "one"]
/-- one of the stack: a sign in a list of its own, or a value -/
def ItO (K : PySem.W.Frag) (H H' : Hp) (F L : Addr) (v : V) (e : D) : Prop :=
  (∃ s p, e = mkS s ∧ PyData.strOk s = true ∧ v = .ref p ∧ H' p = some (.lst [.str s]) ∧ p ≠ F ∧ p ≠ L) ∨ (Dp K H v e ∧ valB 59 e = true ∧ Fit e)
structure VS (K : PySem.W.Frag) (H H' : Hp) (F L : Addr) (fs : List Str) (ws : List V) (st : List D) : Prop where
  same : Same H H'
  nF : H F = none
  nL : H L = none
  hF : H' F = some (.lst (fs.map V.str))
  hL : H' L = some (.lst ws.reverse)
  it : Paired (ItO K H H' F L) ws st
  ne : F ≠ L
section
variable {K : PySem.W.Frag} {H H' : Hp} {F L : Addr} {fs : List Str} {ws : List V} {st : List D}
theorem ItO.keep {H2 : Hp} {v : V} {e : D} (h : ItO K H H' F L v e) (k : ∀ b o, b ≠ F → b ≠ L → H' b = some o → H2 b = some o) : ItO K H H2 F L v e := by
  rcases h with ⟨s, p, h1, hs, h2, h3, h4, h5⟩ | h
  · exact .inl ⟨s, p, h1, hs, h2, k _ _ h4 h5 h3, h4, h5⟩
  · exact .inr h
theorem VS.alloc {p : Addr} {o : HO} (h : VS K H H' F L fs ws st) (np : H' p = none) : VS K H (upd H' p o) F L fs ws st :=
  ⟨same_newF h.same np, h.nF, h.nL, by rw [upd_ne (ne_of_none h.hF np)]; exact h.hF, by rw [upd_ne (ne_of_none h.hL np)]; exact h.hL,
    Paired.mapM h.it fun v e _ q => q.keep fun b u _ _ e2 => by rw [upd_ne (ne_of_none e2 np)]; exact e2, h.ne⟩
theorem VS.push {v : V} {e : D} (h : VS K H H' F L fs ws st) (i : ItO K H H' F L v e) : VS K H (upd H' L (.lst (ws.reverse ++ [v]))) F L fs (v :: ws) (e :: st) :=
  ⟨same_new h.same h.nL, h.nF, h.nL, by rw [upd_ne h.ne]; exact h.hF, by rw [upd_same, List.reverse_cons],
    .cons (i.keep fun b u _ n e2 => by rw [upd_ne n]; exact e2) (Paired.mapM h.it fun v e _ q => q.keep fun b u _ n e2 => by rw [upd_ne n]; exact e2), h.ne⟩
theorem VS.push2 {v w : V} {e f : D} (h : VS K H H' F L fs ws st) (i : ItO K H H' F L v e) (j : ItO K H H' F L w f) : VS K H (upd H' L (.lst (ws.reverse ++ [v, w]))) F L fs (w :: v :: ws) (f :: e :: st) :=
  ⟨same_new h.same h.nL, h.nF, h.nL, by rw [upd_ne h.ne]; exact h.hF, by rw [upd_same]; simp,
    .cons (j.keep fun b u _ n e2 => by rw [upd_ne n]; exact e2) (.cons (i.keep fun b u _ n e2 => by rw [upd_ne n]; exact e2) (Paired.mapM h.it fun v e _ q => q.keep fun b u _ n e2 => by rw [upd_ne n]; exact e2)), h.ne⟩
theorem VS.pop {v : V} {e : D} (h : VS K H H' F L fs (v :: ws) (e :: st)) : VS K H (upd H' L (.lst ws.reverse)) F L fs ws st ∧ ItO K H (upd H' L (.lst ws.reverse)) F L v e := by
  cases h.it with
  | cons a r =>
    exact ⟨⟨same_new h.same h.nL, h.nF, h.nL, by rw [upd_ne h.ne]; exact h.hF, upd_same,
      Paired.mapM r fun v e _ q => q.keep fun b u _ n e2 => by rw [upd_ne n]; exact e2, h.ne⟩, a.keep fun b u _ n e2 => by rw [upd_ne n]; exact e2⟩
theorem VS.found {s : Str} (h : VS K H H' F L fs ws st) : VS K H (upd H' F (.lst (fs.map V.str ++ [.str s]))) F L (fs ++ [s]) ws st :=
  ⟨same_new h.same h.nF, h.nF, h.nL, by rw [upd_same]; simp, by rw [upd_ne (Ne.symm h.ne)]; exact h.hL,
    Paired.mapM h.it fun v e _ q => q.keep fun b u n _ e2 => by rw [upd_ne n]; exact e2, h.ne⟩
theorem ItO.dp {v : V} {e : D} (s : Same H H') (h : ItO K H H' F L v e) : Dp K H' v e := by
  rcases h with ⟨s, p, rfl, _, rfl, h3, _⟩ | ⟨h, _⟩
  · exact .lst (SqL.of h3) (.cons (.str s) .nil)
  · exact dp_same s h
theorem ItO.fit {v : V} {e : D} (h : ItO K H H' F L v e) : PyData.canLay0 e = true ∧ PyData.depth e ≤ 62 := by
  rcases h with ⟨s, p, rfl, hs, _⟩ | ⟨_, _, f⟩
  · exact ⟨by simp [mkS, PyData.canLay0, PyData.canLayAll0, hs], by simp [mkS, PyData.depth, PyData.depthAll]⟩
  · exact ⟨f.lay, f.dep⟩
theorem VS.dp (h : VS K H H' F L fs ws st) : Dp K H' (.ref L) (.list st.reverse) := by
  refine .lst (SqL.of h.hL) ?_
  have go : ∀ {ws : List V} {st : List D}, Paired (ItO K H H' F L) ws st → DpAll K H' ws.reverse st.reverse := by
    intro ws st q
    induction q with
    | nil => exact .nil
    | cons r t ih =>
      rw [List.reverse_cons, List.reverse_cons]
      exact dpA_app ih (.cons (r.dp h.same) .nil)
  exact go h.it
theorem VS.shaped (h : VS K H H' F L fs ws st) : SeqAt.shaped (.list st.reverse) = true := by
  have go : ∀ {ws : List V} {st : List D}, Paired (ItO K H H' F L) ws st → PyData.canLayAll0 st.reverse = true ∧ PyData.depthAll st.reverse ≤ 62 := by
    intro ws st q
    induction q with
    | nil => exact ⟨rfl, Nat.zero_le _⟩
    | cons r t ih =>
      obtain ⟨f1, f2⟩ := r.fit
      rw [List.reverse_cons, canLay_app, depthAll_app, ih.1]
      refine ⟨by simp [PyData.canLayAll0, f1], ?_⟩
      have := ih.2
      simp only [PyData.depthAll]
      omega
  obtain ⟨a, b⟩ := go h.it
  exact lay_fit a b
theorem VS.len (h : VS K H H' F L fs ws st) : ws.length = st.length := Paired.length h.it
end
def spVT (K : PySem.W.Frag) (C : Addr) : Sp := fun vs H Q E => ∃ (v : V) (d : D), vs = [v] ∧ Dp K H v d ∧ Fit d ∧ (valB 59 d = true → ∀ H', Same H H' → Q (.str (vtx d)) H') ∧
  (valB 59 d = false → ∀ H' dd, Same H H' → H dd = none → H' dd = some (ntD (.int 0)) → E (.ref C) (some dd) H')
theorem joinL_nil : ∀ l : List (List Nat), joinL [] l = l.flatten
  | [] => rfl
  | [p] => by simp [joinL]
  | p :: q :: r => by
    show p ++ ([] ++ joinL [] (q :: r)) = _
    rw [joinL_nil (q :: r)]
    simp
theorem join_nil (fs : List Str) : tl (Txt.join (Str.ofString "") fs) = fs.flatMap tl := by
  rw [join_eq, tl_join, show tl (Str.ofString "") = [] from by decide +kernel, joinL_nil, List.flatMap_def]
section
variable {P : Program} {w : World} {K : PySem.W.Frag} {mg : Str → Option Value} {base : Heap}
theorem scValText : FnScope nmValText ["value"] (defScope sValText) := ⟨rfl, rfl, rfl, by decide +kernel, rfl, by decide +kernel, by decide +kernel⟩
theorem walk_enumR {K : PySem.W.Frag} {a : Addr} {n : Nat} : Walk (Iter' K a n) n (fun H => ∃ xs, SqT K H a xs ∧ xs.length = n) (fun i H v H' => ∃ T x, v = .ref T ∧ H T = none ∧ H' = upd H T (.tup [.int (i : Nat), x]) ∧ ∀ xs, SqT K H a xs → xs[n - 1 - i]? = some x) :=
  ⟨fun i H hi ⟨xs, q, e⟩ => ⟨hi, xs, xs[n - 1 - i]'(by omega), q, e, by simp⟩, fun H ⟨xs, q, e⟩ => ⟨Nat.le_refl _, xs, q, e⟩, fun i H x H' hi _ y => y⟩
theorem log_fig {i : Int} (h : figB i = true) : i.natAbs.log2 < 1920 := by
  have h1 := figB_nat h
  by_cases z : i.natAbs = 0
  · rw [z]; decide
  · exact (Nat.log2_lt z).mpr (Nat.lt_of_lt_of_le h1 (Nat.le_trans (by decide : 10 ^ 12 ≤ 2 ^ 40) (Nat.pow_le_pow_right (by decide) (by decide))))
theorem ok_valueText {C fI : Addr} (T : Txt K mg) (TN : PySem.NtX.NtTxt P K mg C fI) (GV : Prom P w K mg base CX0 3 "is_value" ["thing"] (spIsVal K)) (Dd : Df K mg "value_text" sValText ["value"]) :
    Prom P w K mg base (L2.CX P w) 4 "value_text" ["value"] (spVT K C) := by
  refine prom_ofX Dd scValText (fun vs H Q E h => ?_) (fun f cdv A outer s H vs Q E hr h => ?_)
  · obtain ⟨v, d, rfl, _⟩ := h
    rfl
  · obtain ⟨v, d, rfl, hd, hfit, kgood, kbad⟩ := h
    have nd := scValText.nd
    refine ⟨_, pss_cons (ps_if (pt_not (pt_val (pe_callP GV hr pass0 (pa_cons (pv 0) pa_nil)))) (pss_one (ps_raiseNt rfl TN hr (takes_of rfl rfl rfl rfl) (pa_cons pe_str (pa_cons pe_int pa_nil)))) pss_nil)
      (pss_cons (ps_par (i := 1) (j := 2) rfl nd rfl rfl (by decide) rfl rfl (pa_cons (pe_lst pa_nil) (pa_cons (pe_lst (pa_cons (pv 0) pa_nil)) pa_nil)) (by rfl))
      (pss_cons (ps_while (passes_of rfl) (pt_cmpR (op_neD hr.units) (pv 2) (pe_lst pa_nil) (nomark _))
        (pss_cons (ps_set (i := 3) nd rfl (Or.inl rfl) (pe_bm0 PySem.F.plainAttrs_list PySem.F.slot_list_pop PySem.F.type_list_pop mt_pop (pv 2)))
        (pss_one (ps_if (pt_val (pe_isi T.isinstance T.list PyProof.Rows.boot_list (pv 3)))
          (pss_one (ps_expr (pe_bm PySem.F.plainAttrs_list PySem.F.slot_list_append PySem.F.type_list_append mt_append (pv 1) (pa_cons (pe_ix ix_list (pv 3) pe_int (fun _ _ => rfl)) pa_nil))))
          (pss_one (ps_if (pt_val (pe_isi T.isinstance T.tuple PyProof.Rows.boot_tuple (pv 3)))
            (pss_cons (ps_expr (pe_bm PySem.F.plainAttrs_list PySem.F.slot_list_append PySem.F.type_list_append mt_append (pv 2) (pa_cons (pe_lst (pa_cons pe_str pa_nil)) pa_nil)))
            (pss_cons (ps_for (passes_of rfl) rfl (pi_enumR T.enumerate T.reversed (pv 3)) (pg_tup (n := 2) rfl (pgs_cons (pg_name (i := 4) nd rfl (Or.inl rfl)) (pgs_cons (pg_name (i := 5) nd rfl (Or.inl rfl)) pgs_nil)))
              (pss_one (ps_expr (pe_bm PySem.F.plainAttrs_list PySem.F.slot_list_extend PySem.F.type_list_extend mt_extend (pv 2)
                (pa_cons (pe_ifExp (pt_cmpR op_eq (pv 4) (pe_op op_sub (pe_callB call_len (by rfl) T.len (by decide +kernel) (pa_cons (pv 3) pa_nil)) pe_int) (nomark _)) (pe_lst (pa_cons (pv 5) pa_nil)) (pe_lst (pa_cons (pv 5) (pa_cons (pe_lst (pa_cons pe_str pa_nil)) pa_nil)))) pa_nil)))))
            (pss_one (ps_expr (pe_bm PySem.F.plainAttrs_list PySem.F.slot_list_append PySem.F.type_list_append mt_append (pv 2) (pa_cons (pe_lst (pa_cons pe_str pa_nil)) pa_nil))))))
            (pss_one (ps_expr (pe_bm PySem.F.plainAttrs_list PySem.F.slot_list_append PySem.F.type_list_append mt_append (pv 1)
              (pa_cons (pe_ifExp (pt_cmpR op_isN (pv 3) pe_non (nomark _)) pe_str (pe_callTy (call_str_int.or SkE.call_str_str) (by rfl) T.str PyProof.Rows.boot_str (pa_cons (pv 3) pa_nil))) pa_nil))))))))))
      (pss_one (ps_ret (pe_bm PySem.F.plainAttrs_str PySem.F.slot_str_join PySem.F.type_str_join mt_join pe_str (pa_cons (pv 1) pa_nil)))))), ?_⟩
    refine ⟨_, rfl, v, d, rfl, hd, hfit, fun H1 s1 => ⟨_, rfl, ?_⟩⟩
    cases hv : valB 59 d with
    | false =>
      refine iteT ?_
      exact ⟨_, _, rfl, fun dd nd' => kbad hv _ dd (same_newF s1 nd') (s1.free nd') upd_same⟩
    | true =>
      refine iteF ?_
      have kgood := kgood hv
      clear kbad
      refine ⟨Nat.zero_le _, fun F nF => ⟨_, rfl, by show 1 ≤ sizeLine; decide, fun L nL => ?_⟩⟩
      have FL : F ≠ L := ne_of_none upd_same nL
      have nF0 : H F = none := s1.free nF
      have nL0 : H L = none := (same_newF s1 nF).free nL
      refine ⟨_, _, rfl, ?_⟩
      refine ⟨fun m σ H2 => ∃ (fs : List Str) (ws : List V) (st : List D) (a b c : Option V), σ = [some v, some (.ref F), some (.ref L), a, b, c] ∧ VS K H H2 F L fs ws st ∧ VM d fs st ∧ m = wS st,
        ⟨_, [], [v], [d], none, none, none, rfl, ⟨same_newF (same_newF s1 nF) nL, nF0, nL0, by rw [upd_ne FL]; exact upd_same, upd_same, .cons (.inr ⟨hd, hv, hfit⟩) .nil, FL⟩, VM.zero hv, rfl⟩, ?_⟩
      rintro m σ H2 ⟨fs, ws, st, a, b, c, rfl, S0, M0, rfl⟩
      -- left != []
      refine ⟨_, rfl, Nat.zero_le _, fun p np => ?_⟩
      have S1 := S0.alloc (o := .lst []) np
      refine ⟨.list st.reverse, .list [], S1.dp, .lst (SqL.of upd_same) .nil, S1.shaped, shaped_nil, _, rfl, ?_⟩
      rw [eqv_nil]
      generalize upd H2 p (.lst []) = H3 at S1
      have siz := hfit.siz
      have w0 := M0.wgt
      cases st with
      | nil =>
        refine iteF ?_
        have t0 : fs.flatMap tl = vt d := by
          have := M0.txt
          simpa [flatS] using this
        refine ⟨rfl, _, rfl, _, F, fs, rfl, rfl, .inl (SqL.of S1.hF), ?_, ?_⟩
        · have e1 : (fs.map (·.length)).sum = (fs.flatMap tl).length := by
            rw [List.length_flatMap]
            congr 1
          rw [e1, t0]
          have := vt_len d
          have e2 : (Str.ofString "").length = 0 := by decide +kernel
          rw [e2]
          omega
        · have e1 : Txt.join (Str.ofString "") fs = vtx d := ext_tl (by rw [join_nil, t0, tl_vtx])
          rw [e1]
          exact kgood _ S1.same
      | cons e st =>
        have er : (!(e :: st).reverse.isEmpty) = true := by simp
        rw [er]
        refine iteT ⟨_, fun _ _ q => q, ?_⟩
        obtain ⟨x, ws, rfl⟩ : ∃ x ws', ws = x :: ws' := by
          have := S0.len
          cases ws with
          | nil => cases this
          | cons x ws' => exact ⟨x, ws', rfl⟩
        have lw := len_wS (e :: st)
        have lw2 := S1.len
        simp only [List.length_cons] at lw lw2
        have hL := S1.hL
        rw [List.reverse_cons] at hL
        -- here = left.pop()
        refine ⟨_, rfl, .inl ⟨rfl, _, SqL.of hL⟩, L, _, x, rfl, rfl, hL, by simp, ?_⟩
        rw [List.dropLast_concat]
        obtain ⟨S2, i2⟩ := S1.pop
        generalize upd H3 L (.lst ws.reverse) = H4 at S2 i2
        refine ⟨_, rfl, isi_ans (i2.dp S2.same) (kit_lst e) ⟨_, rfl, ?_⟩⟩
        rcases i2 with ⟨s, p2, rfl, hs, rfl, h3, pF, pL⟩ | ⟨hx, hxv, hxf⟩
        · -- a sign
          refine iteT ?_
          refine ⟨_, rfl, .inl ⟨rfl, _, SqL.of S2.hF⟩, _, rfl, p2, _, 0, _, rfl, rfl, SqL.of h3, rfl, F, _, .str s, rfl, rfl, S2.hF, ?_, ?_⟩
          · rw [List.length_map]
            exact lt_line (by omega)
          · exact ⟨wS st, by show _ < wt (mkS s) + wS st; rw [wt_mk]; omega, _, _, _, _, _, _, rfl, S2.found, M0.one rfl, rfl⟩
        · have nl := val_notList hxv
          rw [nl]
          refine iteF ?_
          have hx4 := dp_same S2.same hx
          refine ⟨_, rfl, isi_ans hx4 (kit_tup e) ⟨_, rfl, ?_⟩⟩
          cases ht : isTup e with
          | false =>
            refine iteF ?_
            have hlf : leafB e = true := by
              rw [valB_leaf (fun ds q => by subst q; cases ht)] at hxv
              exact hxv
            have b1 : (fs.map V.str).length < sizeLine := by
              rw [List.length_map]
              exact lt_line (by omega)
            have l2 : wS st < wS (e :: st) := by
              have := wt_pos e
              show _ < wt e + wS st
              omega
            refine ⟨_, rfl, .inl ⟨rfl, _, SqL.of S2.hF⟩, _, rfl, rfl, _, rfl, ?_⟩
            rw [non_dec hx4]
            cases e with
            | none =>
              refine iteT ?_
              exact ⟨F, _, .str _, rfl, rfl, S2.hF, b1, wS st, l2, _, _, _, _, _, _, rfl, S2.found, M0.one (by decide +kernel), rfl⟩
            | str z =>
              obtain rfl := dp_str hx4
              refine iteF ?_
              exact ⟨_, rfl, .inr ⟨z, rfl, F, _, .str _, rfl, rfl, S2.hF, b1, wS st, l2, _, _, _, _, _, _, rfl, S2.found, M0.one rfl, rfl⟩⟩
            | int i =>
              obtain rfl := dp_int hx4
              refine iteF ?_
              exact ⟨_, rfl, .inl ⟨i, rfl, log_fig hlf, F, _, .str _, rfl, rfl, S2.hF, b1, wS st, l2, _, _, _, _, _, _, rfl, S2.found, M0.one rfl, rfl⟩⟩
            | _ => cases hlf
          | true =>
            refine iteT ?_
            obtain ⟨ds, rfl⟩ : ∃ ds, e = .tuple ds := by cases e <;> first | exact ⟨_, rfl⟩ | cases ht
            have hk58 : ∀ k ∈ ds, valB 58 k = true := by
              have h : ds.all (valB 58) = true := hxv
              exact List.all_eq_true.mp h
            obtain ⟨ta, xs, rfl, hT, hA⟩ := tup_dp hx ht
            have hA : DpAll K H xs ds := hA
            have lenx := dpA_len hA
            -- left.append([')'])
            have b0 : ws.length + 2 * szA ds + 10 ≤ 16000000 := by
              have a2 : wS (.tuple ds :: st) = (2 * (2 + szA ds) - 1) + wS st := rfl
              have := len_wS st
              have := S2.len
              omega
            refine ⟨_, rfl, .inl ⟨rfl, _, SqL.of S2.hL⟩, by show 1 ≤ sizeLine; decide, fun p np => ?_⟩
            have pF := (ne_of_none S2.hF np).symm
            have pL := (ne_of_none S2.hL np).symm
            have S3 := (S2.alloc (o := .lst [.str (Str.ofString ")")]) np)
            refine ⟨L, _, .ref p, rfl, rfl, S3.hL, ?_, ?_⟩
            · rw [List.length_reverse]
              exact lt_line (by omega)
            have S4 := S3.push (v := .ref p) (e := mkS (Str.ofString ")")) (.inl ⟨_, p, rfl, by decide +kernel, rfl, upd_same, pF, pL⟩)
            generalize upd (upd H4 p (.lst [.str (Str.ofString ")")])) L (.lst (ws.reverse ++ [.ref p])) = H5 at S4
            -- the loop
            refine ⟨_, rfl, ta, xs, rfl, Same.tup S4.same hT, for_it walk_enumR (fun i σ H6 => ∃ (us : List V) (x4 x5 : Option V), σ = [some v, some (.ref F), some (.ref L), some (.ref ta), x4, x5] ∧ VS K H H6 F L fs us (laidK ds i ++ mkS (Str.ofString ")") :: st))
              ⟨_, b, c, rfl, by rw [laidK_zero]; exact S4⟩ (fun i σ H6 _ ⟨_, _, _, _, S6⟩ => ⟨xs, Same.tup S6.same hT, rfl⟩) ?_ ?_⟩
            · rintro i y σ H6 H7 hi ⟨us, x4, x5, rfl, S6⟩ ⟨T6, z, rfl, nT, rfl, hz⟩
              have hz := hz xs (Same.tup S6.same hT)
              obtain ⟨k, hk, hkd⟩ := dpA_get hA hz
              have hk' : ds[ds.length - 1 - i]? = some k := by rw [← lenx]; exact hk
              have km := List.mem_of_getElem? hk
              have kI : ∀ H', ItO K H H' F L z k := fun H' => .inr ⟨hkd, valB_mono (by decide) (hk58 k km), hxf.kids.mem km⟩
              have S7 := S6.alloc (o := .tup [.int (i : Nat), z]) nT
              have lu : us.length ≤ 2 * szA ds + st.length + 1 := by
                have q1 := S6.len
                have q2 := len_wS (laidK ds i)
                have q3 := laid_wS (i := i) hk58
                rw [q1, List.length_append, List.length_cons]
                omega
              have ls := len_wS st
              have lst : 2 * szA ds + st.length + 10 ≤ 16000000 := by
                have := S2.len
                omega
              refine ⟨T6, _, rfl, SqT.of upd_same, rfl, _, _, rfl, _, _, rfl, rfl, ?_⟩
              generalize upd H6 T6 (.tup [.int (i : Nat), z]) = H7 at S7
              refine ⟨_, rfl, .inl ⟨rfl, _, SqL.of S7.hL⟩, _, rfl, _, rfl, _, xs.length, rfl, .inr ⟨xs, Same.tup S7.same hT, rfl⟩, ?_⟩
              refine ⟨_, _, rfl, rfl, rfl, _, rfl, ?_⟩
              by_cases hl : i + 1 = ds.length
              · rw [decide_eq_true (congrArg V.int (by omega : ((i : Nat) : Int) = ((xs.length : Nat) : Int) - 1))]
                refine iteT ?_
                refine ⟨_, rfl, by show 1 ≤ sizeLine; decide, fun q nq => ?_⟩
                have S8 := S7.alloc (o := .lst [z]) nq
                refine ⟨L, q, _, _, rfl, rfl, S8.hL, upd_same, ?_, ?_⟩
                · rw [List.length_reverse]
                  exact le_line (by show _ + 1 ≤ _; omega)
                · have S9 := S8.push (kI _)
                  rw [← List.cons_append, ← laidK_last hk' hl] at S9
                  exact ⟨_, _, _, rfl, S9⟩
              · rw [decide_eq_false (fun q => by have := V.int.inj q; omega)]
                refine iteF ?_
                refine ⟨_, rfl, by show 1 ≤ sizeLine; decide, fun q nq => ?_⟩
                have qF := (ne_of_none S7.hF nq).symm
                have qL := (ne_of_none S7.hL nq).symm
                have S8 := S7.alloc (o := .lst [.str (Str.ofString " ")]) nq
                refine ⟨by show 2 ≤ sizeLine; decide, fun r nr => ?_⟩
                have S9 := S8.alloc (o := .lst [z, .ref q]) nr
                refine ⟨L, r, _, _, rfl, rfl, S9.hL, upd_same, ?_, ?_⟩
                · rw [List.length_reverse]
                  exact le_line (by show _ + 2 ≤ _; omega)
                · have S10 := S9.push2 (kI _) (.inl ⟨Str.ofString " ", q, rfl, by decide +kernel, rfl, by rw [upd_ne (ne_of_none upd_same nr)]; exact upd_same, qF, qL⟩)
                  rw [← List.cons_append, ← List.cons_append, ← laidK_sep hk' (by omega)] at S10
                  exact ⟨_, _, _, rfl, S10⟩

            · rintro σ H6 ⟨us, x4, x5, rfl, S6⟩
              rw [lenx, laidK_end] at S6
              refine ⟨_, rfl, .inl ⟨rfl, _, SqL.of S6.hL⟩, by show 1 ≤ sizeLine; decide, fun q nq => ?_⟩
              have qF := (ne_of_none S6.hF nq).symm
              have qL := (ne_of_none S6.hL nq).symm
              have S7 := S6.alloc (o := .lst [.str (Str.ofString "(")]) nq
              refine ⟨L, _, .ref q, rfl, rfl, S7.hL, ?_, ?_⟩
              · rw [List.length_reverse]
                have q1 := S6.len
                have q2 := len_wS (finK ds)
                have q3 := wS_fin hk58
                rw [List.length_append, List.length_cons] at q1
                have ls := S2.len
                exact lt_line (by omega)
              · have S8 := S7.push (v := .ref q) (e := mkS (Str.ofString "(")) (.inl ⟨_, q, rfl, by decide +kernel, rfl, upd_same, qF, qL⟩)
                exact ⟨_, wS_tup hk58, _, _, _, _, _, _, rfl, S8, M0.tup hk58, rfl⟩
end
end K88
set_option maxRecDepth 100000
set_option maxHeartbeats 4000000
namespace K88
open PySem PySem.Spec PyProof.Rows L2 TL
/-! ## read_value -/
abbrev sRead : Stmt := topS 31
abbrev nmRead : List Str := ["text", "found"]
theorem valueOf_fit {ps : List (List Nat)} (hne : ∀ p ∈ ps, p ≠ []) (h1 : openN ps ≤ 60) (h2 : lenN ps ≤ 100000) : FitA (valueOf ps) := by
  unfold valueOf
  cases h : runV ([], []) ps with
  | none => exact ⟨rfl, Nat.zero_le _, Nat.zero_le _⟩
  | some s =>
    have o := runV_ok hne h st0
    obtain ⟨op, dn⟩ := s
    cases op with
    | nil =>
      have a1 := o.layD
      have a2 := o.depD
      have a3 := o.siz
      simp only at a1 a2 a3
      exact ⟨a1, by show PyData.depthAll dn ≤ 62; omega, by show szA dn ≤ 1000000; omega⟩
    | cons => exact ⟨rfl, Nat.zero_le _, Nat.zero_le _⟩
def spRead (K : PySem.W.Frag) (C : Addr) : Sp := fun vs H Q E => ∃ v : V, vs = [v] ∧
  ((∃ z : Str, v = .str z ∧ z.length ≤ 100000 ∧ count40 (tl z) ≤ 60 ∧ (∀ d, readV (tl z) = some d → ∀ v' H', Same H H' → Dt K H' v' d → Fit d → Q v' H') ∧
      (readV (tl z) = none → ∀ H' dd, Same H H' → H dd = none → H' dd = some (ntD (.int 0)) → E (.ref C) (some dd) H')) ∨
   (∃ d, Dp K H v d ∧ isStr d = false ∧ ∀ H' dd, Same H H' → H dd = none → H' dd = some (ntD (.int 0)) → E (.ref C) (some dd) H'))
theorem atI_zero {α : Type} (x : α) (r : List α) : atI (x :: r) 0 = some x := by simp [atI, ixN]
section
variable {P : Program} {w : World} {K : PySem.W.Frag} {mg : Str → Option Value} {base : Heap}
theorem scRead : FnScope nmRead ["text"] (defScope sRead) := ⟨rfl, rfl, rfl, by decide +kernel, rfl, by decide +kernel, by decide +kernel⟩
theorem ok_read {C fI : Addr} (T : Txt K mg) (TN : PySem.NtX.NtTxt P K mg C fI) (GP : Prom P w K mg base CX0 1 "pieces_of" ["text"] spPieces) (GO : Prom P w K mg base CX0 4 "value_of" ["pieces"] (spValueOf K))
    (GV : Prom P w K mg base CX0 3 "is_value" ["thing"] (spIsVal K)) (GT : Prom P w K mg base (L2.CX P w) 4 "value_text" ["value"] (spVT K C)) (Dd : Df K mg "read_value" sRead ["text"]) :
    Prom P w K mg base (L2.CX P w) 5 "read_value" ["text"] (spRead K C) := by
  refine prom_ofX Dd scRead (fun vs H Q E h => ?_) (fun f cdv A outer s H vs Q E hr h => ?_)
  · obtain ⟨v, rfl, _⟩ := h
    rfl
  · obtain ⟨v, rfl, h⟩ := h
    have nd := scRead.nd
    have hr1 : Room 1 (A.deeper (envOfC "read_value" (defScope sRead) s.heap.objs.size f cdv)) := hr.mono (by decide)
    have hr3 : Room 3 (A.deeper (envOfC "read_value" (defScope sRead) s.heap.objs.size f cdv)) := hr.mono (by decide)
    refine ⟨_, pss_cons (ps_if (pt_not (pt_val (pe_isi T.isinstance T.str PyProof.Rows.boot_str (pv 0)))) (pss_one (ps_raiseNt rfl TN hr (takes_of rfl rfl rfl rfl) (pa_cons pe_str (pa_cons pe_int pa_nil)))) pss_nil)
      (pss_cons (ps_set (i := 1) nd rfl (Or.inl rfl) (pe_callP GO hr pass0 (pa_cons (pe_callP GP hr1 pass0 (pa_cons (pv 0) pa_nil)) pa_nil)))
      (pss_cons (ps_if (PW.pt (pw_or (pt_cmpR (op_eqD hr.units) (pv 1) (pe_lst pa_nil) (nomark _)) (pw_or (pt_not (pt_val (pe_callP GV hr3 pass0 (pa_cons (pe_ix ix_list (pv 1) pe_int (fun _ _ => rfl)) pa_nil))))
          (pw_or1 (pt_cmpR op_ne (pe_callP (E := E0) GT hr passL (pa_cons (pe_ix ix_list (pv 1) pe_int (fun _ _ => rfl)) pa_nil)) (pv 0) (nomark _))))))
        (pss_one (ps_raiseNt rfl TN hr (takes_of rfl rfl rfl rfl) (pa_cons pe_str (pa_cons pe_int pa_nil)))) pss_nil)
      (pss_one (ps_ret (pe_ix ix_list (pv 1) pe_int (fun _ _ => rfl)))))), ?_⟩
    rcases h with ⟨z, rfl, hl, hc, kgood, kbad⟩ | ⟨d, hd, hn, kbad⟩
    · refine ⟨_, rfl, isi_ans (.str z) (kit_str (.str z)) ⟨_, rfl, ?_⟩⟩
      refine iteF ?_
      obtain ⟨tk1, tk2, tk3⟩ := tok_ok (tl z) [] (fun c h => by cases h)
      have hlz : (tl z).length ≤ 100000 := by rw [← len_tl]; exact hl
      have f1 : openN (tok [] (tl z)) ≤ 60 := by rw [tk3]; exact hc
      have f2 : lenN (tok [] (tl z)) ≤ 100000 := by rw [tk2]; simpa using hlz
      refine ⟨_, rfl, z, rfl, by omega, fun H1 p s1 np hp => ⟨p, tok [] (tl z), rfl, SqL.of hp, tk1, f1, f2, fun H2 q xs s2 nq hq hxs => ?_⟩⟩
      have hfit := valueOf_fit tk1 f1 f2
      have s12 := s1.trans s2
      have nq0 := s1.free nq
      -- found == []
      refine ⟨_, rfl, Nat.zero_le _, fun r nr => ⟨.list (valueOf (tok [] (tl z))), .list [], .lst (SqL.of (by rw [upd_ne (ne_of_none hq nr)]; exact hq)) (dpA_same (same_newF (Same.refl H2) nr) hxs.dp), .lst (SqL.of upd_same) .nil, hfit.shaped, shaped_nil, _, rfl, ?_⟩⟩
      rw [eqv_nil]
      have hq3 : (upd H2 r (.lst [])) q = some (.lst xs) := by rw [upd_ne (ne_of_none hq nr)]; exact hq
      have hxs3 := hxs.keep ((KeepT.refl H2).updN (o := .lst []) nr)
      have s13 := same_newF s12 (o := .lst []) nr
      generalize upd H2 r (.lst []) = H3 at hq3 hxs3 s13
      have fail : readV (tl z) = none → ∀ H4, Same H3 H4 → ∀ dd, H4 dd = none → E (.ref C) (some dd) (upd H4 dd (ntD (.int 0))) := fun hrd H4 s4 dd nd4 =>
        kbad hrd _ dd (same_newF (s13.trans s4) nd4) ((s13.trans s4).free nd4) upd_same
      cases hv : valueOf (tok [] (tl z)) with
      | nil =>
        have hrd : readV (tl z) = none := by
          unfold readV
          rw [hv]
        refine iteT ?_
        refine iteT ?_
        exact ⟨_, _, rfl, fun dd nd4 => fail hrd _ (Same.refl _) dd nd4⟩
      | cons d rest =>
        refine iteF ?_
        rw [hv] at hxs3 hfit
        obtain ⟨x, xr, rfl⟩ : ∃ x xr, xs = x :: xr := by cases hxs3; exact ⟨_, _, rfl⟩
        have hx : Dt K H3 x d := by
          cases hxs3 with
          | cons a b => exact a
        have fd : Fit d := hfit.mem List.mem_cons_self
        have hrd : readV (tl z) = if valB 59 d && vt d == tl z then some d else none := by
          unfold readV
          rw [hv]
        refine ⟨_, rfl, q, _, 0, x, rfl, rfl, SqL.of hq3, atI_zero _ _, x, d, rfl, hx.dp, fd, fun H4 s4 => ⟨_, rfl, ?_⟩⟩
        cases hb : valB 59 d with
        | false =>
          rw [hb] at hrd
          refine iteT ?_
          refine iteT ?_
          exact ⟨_, _, rfl, fun dd nd4 => fail hrd _ s4 dd nd4⟩
        | true =>
          rw [hb, Bool.true_and] at hrd
          refine iteF ?_
          have hx4 := hx.keep (KeepT.of s4)
          refine ⟨_, rfl, q, _, 0, x, rfl, rfl, SqL.of (s4 _ _ hq3), atI_zero _ _, x, d, rfl, hx4.dp, fd, fun _ H5 s5 => ⟨_, rfl, rfl, _, rfl, ?_⟩, fun c => by rw [hb] at c; cases c⟩
          have hx5 := hx4.keep (KeepT.of s5)
          have eb : decide (V.str (vtx d) = V.str z) = (vt d == tl z) := by
            by_cases e : vt d = tl z
            · rw [decide_eq_true (congrArg V.str (ext_tl (e : tl (vtx d) = tl z))), e]
              simp
            · rw [decide_eq_false (fun q => e (congrArg tl (V.str.inj q)))]
              exact (beq_eq_false_iff_ne.mpr e).symm
          rw [eb]
          cases hq : vt d == tl z with
          | false =>
            rw [hq] at hrd
            refine iteT ?_
            exact ⟨_, _, rfl, fun dd nd4 => fail hrd _ (s4.trans s5) dd nd4⟩
          | true =>
            rw [hq] at hrd
            refine iteF ?_
            refine ⟨_, rfl, q, _, 0, x, rfl, rfl, SqL.of (s5 _ _ (s4 _ _ hq3)), atI_zero _ _, kgood d hrd x _ ((s13.trans s4).trans s5) hx5 fd⟩
    · refine ⟨_, rfl, isi_ans hd (kit_str d) ⟨_, rfl, ?_⟩⟩
      rw [hn]
      refine iteT ?_
      exact ⟨_, _, rfl, fun dd nd4 => kbad _ dd (same_newF (Same.refl H) nd4) nd4 upd_same⟩
end
end K88
set_option maxRecDepth 100000
set_option maxHeartbeats 4000000
namespace K88
open PySem PySem.Spec PyProof.Rows L2 TL LamX
/-! ## lists of unlike length -/
def rNeL (K : PySem.W.Frag) : R2 := fun x y H Q => ∃ a b xs ys, x = .ref a ∧ y = .ref b ∧ SqL K H a xs ∧ SqL K H b ys ∧ xs.length ≠ ys.length ∧ Q (.bl true) H
theorem op_neL {X : Cx} (hu : X.A.units < cLine) : OpR X (compareOp .NotEq) (rNeL X.K) := by
  intro pins s σ H x y v u Q I rx ry h
  obtain ⟨a, b, xs, ys, rfl, rfl, hx, hy, hne, q⟩ := h
  cases rx
  cases ry
  obtain ⟨its, r1, p1, _⟩ := I.list hx
  obtain ⟨its2, r2, p2, _⟩ := I.list hy
  have l1 := r1.length
  have l2 := r2.length
  refine (PySem.SeqAt.RcNeAt.lists_lengths p1.isList p2.isList ?_ hu) X.prog X.w X.xe _ ⟨.bl true, H, I, rfl, q⟩
  simp only [List.size_toArray, bne_iff_ne, ne_eq]
  omega
/-! ## an object that may be called, told of a state; what it does later, further within -/
theorem Un.widen {fs fs2 : List Addr} {H H1 H2 : Hp} {h h1 h2 : Heap} (a : Un fs [] H H1 h h1) (b : Un fs2 [] H1 H2 h1 h2) (hf : ∀ c ∈ fs2, c ∈ fs ∨ h.get? c = none) : Un fs [] H H2 h h2 where
  keep := fun c o q n hc hx => by
    refine b.keep c o (a.keep c o q n hc hx) (a.free c o q n hx) (fun hm => ?_) hx
    rcases hf c hm with z | z
    · exact hc z
    · rw [z] at q; cases q
  slot := fun c o q n hc hx => by
    obtain ⟨sl, e1⟩ := a.slot c o q n hc hx
    obtain ⟨sl2, e2⟩ := b.any e1 (a.free c o q n hx) hx
    exact ⟨sl2, e2⟩
  free := fun c o q n hx => by
    obtain ⟨o1, e1⟩ := a.there c o q hx
    exact b.free c o1 e1 (a.free c o q n hx) hx
  there := fun c o q hx => by
    obtain ⟨o1, e1⟩ := a.there c o q hx
    exact b.there c o1 e1 hx
  tups := fun c xs q => b.tups c xs (a.tups c xs q)
  frzs := fun c o xs q => b.frzs c o xs (a.frzs c o xs q)
  tbls := fun c ps q => by
    obtain ⟨m1, e1⟩ := a.tbls c ps q
    obtain ⟨m2, e2⟩ := b.tbls c _ e1
    exact ⟨m1 ++ m2, by rw [e2, Array.append_assoc]⟩
abbrev AP := Hp → VK → XK → Prop
/-- f may be called without arguments, later than (H, h), out of frames that are fs or newer -/
structure Runs (P : Program) (w : World) (K : PySem.W.Frag) (mg : Str → Option Value) (base : Heap) (k : Nat) (f : Addr) (fs : List Addr) (H : Hp) (h : Heap) (sp : AP) : Prop where
  obj : PySem.W.FnAt f h
  free : H f = none
  nofs : f ∉ fs
  run : ∀ (A : Around) (outer : List Env) (s : Shared) (HZ : Hp) (Q : VK) (E : XK), Room k A → Env0 P w K mg base A outer s HZ → Un fs [] H HZ h s.heap → (∀ b ∈ frs outer, b ∈ fs ∨ h.get? b = none) → sp HZ Q E →
    codeAny (model P w) A (.call (.ref f) ⟨[], []⟩) (CR (L2.CX P w) outer P w HZ s Q E) s
theorem Un.newer {fs ex : List Addr} {H H1 : Hp} {h h1 : Heap} (u : Un fs ex H H1 h h1) (hx : ex = []) {c : Addr} (hc : h1.objs.size ≤ c) : h.get? c = none := by
  cases q : h.get? c with
  | none => rfl
  | some o =>
    obtain ⟨o1, e1⟩ := u.there c o q (by rw [hx]; simp)
    exact absurd (Nat.lt_of_lt_of_le (Heap.lt_size e1) hc) (Nat.lt_irrefl _)
section
variable {P : Program} {w : World} {K : PySem.W.Frag} {mg : Str → Option Value} {base : Heap} {k : Nat} {f : Addr} {fs : List Addr} {H : Hp} {h : Heap} {sp : AP}
/-- .. told of a later state -/
theorem Runs.later {H1 : Hp} {h1 : Heap} (R : Runs P w K mg base k f fs H h sp) (u : Un fs [] H H1 h h1) : Runs P w K mg base k f fs H1 h1 sp := by
  obtain ⟨oc, od, fd, sl, e⟩ := R.obj
  refine ⟨⟨oc, od, fd, sl, u.keep f _ e R.free R.nofs (fun z => nomatch z)⟩, u.free f _ e R.free (fun z => nomatch z), R.nofs, fun A outer s HZ Q E hr e0 un hfo q => R.run A outer s HZ Q E hr e0 (u.trans un) (fun b hb => ?_) q⟩
  rcases hfo b hb with z | z
  · exact .inl z
  · refine .inr ?_
    cases q2 : h.get? b with
    | none => rfl
    | some o =>
      obtain ⟨o1, e1⟩ := u.there b o q2 (fun z => nomatch z)
      rw [z] at e1
      cases e1
theorem Runs.mono {j : Nat} {sp2 : AP} (R : Runs P w K mg base k f fs H h sp) (hj : k ≤ j) (hs : ∀ HZ Q E, sp2 HZ Q E → sp HZ Q E) : Runs P w K mg base j f fs H h sp2 :=
  ⟨R.obj, R.free, R.nofs, fun A outer s HZ Q E hr e0 un hfo q => R.run A outer s HZ Q E (hr.mono hj) e0 un hfo (hs _ _ _ q)⟩
end
section
variable {Y : Cx} {k i : Nat} {f : Addr} {fs : List Addr} {H : Hp} {h : Heap} {sp : AP} {a : Str} {p1 p2 : Pos}
/-- a(), a one of the names, what it holds told of an earlier state -/
theorem pe_runs {E : L2.St → XK} (R : Runs Y.prog Y.w Y.K Y.mg Y.base k f fs H h sp) (hx : Y.ex = []) (un : Un fs [] H Y.H_0 h Y.s_0.heap) (fr : ∀ b ∈ frs Y.stack, b ∈ fs ∨ h.get? b = none) (fr2 : ∀ b ∈ Y.fs, b ∈ fs ∨ h.get? b = none) (hr : Room k Y.A)
    (hE : ∀ σ, PassesAt (L2.CX Y.prog Y.w) Y σ (E σ)) (hN : Y.N[i]? = some a) (hv : Vis Y.env.scope a) (hd : (a == ("__debug__" : Str)) = false := by decide) (hcd : (a == ("__classdict__" : Str)) = false := by decide) :
    PE Y (.Call (.Name a p1) [] [] p2) (fun σ HZ Q => σ[i]? = some (some (.ref f)) ∧ sp HZ Q (E σ)) := by
  refine ⟨fun pins s σ HZ Q I hq => ?_⟩
  obtain ⟨hs, q⟩ := hq
  refine wpAny_Call_Name_kw (thn ((pe_var (pos := p1) (i := i) hN hv hd hcd).run pins s σ HZ (fun v H1 => v = .ref f ∧ H1 = HZ) I ⟨.ref f, hs, rfl, rfl⟩) fun u s1 ⟨v, H1, I1, r1, q1⟩ => ?_)
  obtain ⟨ev, eH⟩ := q1
  subst ev
  rw [eH] at I1
  obtain rfl : u = Value.ref f := r1
  have base : Un Y.fs [] Y.H_0 HZ Y.s_0.heap s1.heap := by
    have := I1.base
    rw [hx] at this
    exact this
  have un1 : Un fs [] H HZ h s1.heap := Un.widen un base fr2
  have R1 := R.later un1
  refine PySem.W.callWith_F0 R1.obj ?_
  refine wpAny_call (codeAny_mono (R.run Y.A Y.stack s1 HZ Q (E σ) hr I1.env0 un1 fr q) fun r s' hq => ?_)
  cases r with
  | error e => exact hE σ pins HZ s1 e s' I1 hq
  | ok fl =>
    cases fl with
    | ret u => exact I1.after hq
    | next => exact False.elim hq
    | brk => exact False.elim hq
    | cont => exact False.elim hq
end
section
variable {X : Cx} {pins : List (Addr × Obj)} {σ : L2.St} {H : Hp} {s : Shared}
/-- a made lambda runs its body -/
theorem runs_lam {f c' : Addr} {pm ctv : Value} {params : Arguments} {body : Expr} {scope : Scope} {k : Nat} {tb : XK → TE}
    (I : Inv X pins σ H s) (L : LamS X.env.scope scope) (hf : s.heap.get? f = some (PySem.W.kla_obj "<lambda>" (X.env.qual ++ "<lambda>") params body scope (cloFrom X.env.cells scope.names []) pm c' ctv)) (hfn : H f = none) (hfr : f ∉ frs X.stack)
    (hbind : bindArgs (PySem.W.kla_fn "<lambda>" (X.env.qual ++ "<lambda>") params body scope (cloFrom X.env.cells scope.names []) pm (.ref c') ctv) ⟨[], []⟩ = pure [])
    (hbody : ∀ (A : Around) (outer : List Env) (s1 : Shared) (HZ : Hp) (E : XK), Room k (A.deeper (lamEnv X scope s1.heap.objs.size f c')) → Un (frs X.stack) [] H HZ s.heap s1.heap → (∀ b ∈ frs outer, b ∈ frs X.stack ∨ s.heap.get? b = none) →
      PE (lamCx X A outer s1 HZ E scope f c') body (tb E)) :
    Runs X.prog X.w X.K X.mg X.base (k + 1) f (frs X.stack) H s.heap (fun HZ Q E => HZ c' = some (CodeO c' (X.env.qual ++ "<lambda>")) ∧ tb E σ HZ Q) := by
  refine ⟨⟨_, _, _, _, hf⟩, hfn, hfr, fun A outer s1 HZ Q E hr e0 un hfo ⟨hc, ht⟩ => ?_⟩
  have of1 := un.keep f _ hf hfn hfr (fun z => nomatch z)
  obtain ⟨⟨oc, vs, t, hoc, hdc, hvc⟩, _, _⟩ := e0.hok c' _ hc
  have lim : s1.heap.NoLimit := e0.mod.nolimit.keeps fun b o e => (e0.bs b o e).1
  refine PySem.W.kla_callFunE hr.depth of1 rfl L.co L.gen rfl ⟨c', oc, vs, t, rfl, hoc, hdc, hvc⟩ ?_
  rw [hbind]
  refine wpAny_pure (wpAny_newFunctionEnv (fun y hy => (L.own y hy).2) (fun y hy => absurd hy (by simp)) (fun h1 hns hsb => ⟨lim.fresh _ hsb, ?_⟩) L.kind)
  show codeAny _ _ (.expr body (lamEnv X scope s1.heap.objs.size f c')) _ _
  have kp : ∀ b o, s1.heap.get? b = some o → h1.get? b = some o := fun b o e => hsb.extBut b o (Nat.ne_of_lt (Heap.lt_size e)) (Heap.get?_push_of_some _ e)
  have J := lam_start2 (A := A) (outer := outer) (E := E) (f := f) (c' := c') (tk := s1.toks + ([] : List (Str × Value)).length) I L e0 hr.hd un hns kp
  refine PySem.W.kla_codeExpr (wpAny_mono ((hbody A outer s1 HZ E (hr.deeper _) un hfo).run [] _ _ HZ Q J ht) (fun v s2 hq => ?_) fun e s2 hq => hq)
  obtain ⟨v2, H2, J2, rv, q⟩ := hq
  exact ⟨v2, H2, J2.os, J2.bare, J2.base, J2.hok, rv, q⟩
end
end K88
set_option maxRecDepth 100000
set_option maxHeartbeats 4000000
namespace K88
open PySem PySem.Spec PyProof.Rows L2 TL LamX
/-! ## an exception, caught, tracked -/
def ErrO (cls : Value) (d : Option Addr) (a : Addr) : HO := .ext fun h => ∃ (oe : Obj) (vs : Array Value), h.get? a = some oe ∧ Zc cls d oe ∧ oe.data = .fields vs
theorem errO_ok {P : Program} {w : World} {H : Hp} {h : Heap} {a : Addr} {cls : Value} {d : Option Addr} {oe : Obj} {vs : Array Value} (e : h.get? a = some oe) (z : Zc cls d oe) (dd : oe.data = .fields vs) : ObjOk P w H h a (ErrO cls d a) :=
  ⟨⟨oe, vs, e, z, dd⟩, ⟨oe, e⟩, fun h1 h2 ⟨o, v, a1, a2, a3⟩ st => ⟨o, v, st _ a1, a2, a3⟩⟩
section
variable {X : Cx} {C fI : Addr}
/-- an instance with its dict -/
theorem inst_of {pins : List (Addr × Obj)} {σ : L2.St} {H : Hp} {s : Shared} {D a dd : Addr} {l : V} (I : Inv X pins σ H s) (ha : H a = some (ErrO (.ref D) (some dd) a)) (hd : H dd = some (ntD l)) :
    ∃ oe od u, PySem.W.InstAt s.heap a oe D (some od) ∧ RelV l u ∧ PySem.W.lookIn "line" od = some (some u) := by
  obtain ⟨⟨oe, vs, e1, z, e2⟩, _, _⟩ := I.hok a _ ha
  have hx : ObjOk X.prog X.w H s.heap dd (ntD l) := I.hok dd _ hd
  obtain ⟨mA, hns, hr⟩ := hx
  obtain ⟨od, ho, hl⟩ := lookIn_ns hns
  have lk : List.lookup ("line" : Str) [(("line" : Str), l)] = some l := by simp [List.lookup]
  obtain ⟨u, hu, ru⟩ := RelO.some_of (v := l) (o := mA "line") (by rw [← lk]; exact hr "line")
  exact ⟨oe, od, u, ⟨e1, z.1, by unfold PySem.W.notCls; rw [e2] <;> rfl, by rw [z.2]; exact ho⟩, ru, by rw [hl, hu]⟩
def rIsT (K : PySem.W.Frag) (D : Addr) : List V → Hp → VK → Prop := fun xs H Q => ∃ (a dd : Addr) (l c : V) (cv : Value) (b : Bool), xs = [.ref a, c] ∧ H a = some (ErrO (.ref D) (some dd) a) ∧ H dd = some (ntD l) ∧ (∀ u, RelV c u → u = cv) ∧ PySem.W.kitOne K (.ref D) cv = some b ∧ Q (.bl b) H
theorem call_isT {D : Addr} (CE : ExcC X.K D) (hc : (PySem.W.clsIn X.K D).isSome = true) : CallR X (.builtin "isinstance") (rIsT X.K D) := by
  intro pins s σ H xs us Q I r h
  obtain ⟨a, dd, l, c, cv, b, rfl, ha, hd, hcv, e, q⟩ := h
  cases r with
  | cons rx rr =>
    cases rr with
    | cons rt rr =>
      cases rr
      cases rx
      have ec := hcv _ rt
      subst ec
      obtain ⟨oe, od, u, J, _, _⟩ := inst_of I ha hd
      exact PySem.W.kia_one (PySem.W.kitx_exc hc CE.hg CE.hk CE.hs CE.ha CE.hn CE.ht CE.hm) I.kIn J e (fun z => nomatch z) fun tk => ⟨.bl b, H, I.kept (t' := tk) fun _ _ z => z, rfl, q⟩
def tLine (C : Addr) (te : TE) : TE := fun σ H Q => te σ H fun x H1 => ∃ (a dd : Addr) (l : V), x = .ref a ∧ H1 a = some (ErrO (.ref C) (some dd) a) ∧ H1 dd = some (ntD l) ∧ Q l H1
theorem pe_line {e : Expr} {te : TE} {pos : Pos} (T : PySem.NtX.NtTxt X.prog X.K X.mg C fI) (he : PE X e te) (hb : attributeBase e "line" X.env (eval e X.env) = eval e X.env := by rfl) :
    PE X (.Attribute e "line" pos) (tLine C te) := by
  refine ⟨fun pins s σ H Q I h => ?_⟩
  refine attr_of hb (thn (he.run pins s σ H _ I h) fun u s1 hh => ?_)
  obtain ⟨x, H1, I1, rx, a, dd, l, rfl, ha, hd, q⟩ := hh
  obtain rfl : u = Value.ref a := rx
  obtain ⟨oe, od, u, J, ru, hl⟩ := inst_of I1 ha hd
  exact HandSPX.exc_get I1.kIn J T.ga T.gg T.exC (PySem.W.findObj_own T.hdC T.noN rfl hl) (handed_of ru) ⟨l, H1, I1.tok _, ru, q⟩
end
/-! ## try .. except .. as: the error is tracked in the suite and behind it -/
/-- the wish of an exception of the body: it is taken -/
def wTrk (K : PySem.W.Frag) (c : Value) (i : Nat) (ts : Addr → TS) (D : Ends) : WX := fun cls d σ H =>
  PySem.W.exmOne K cls c = some true ∧ ∀ a, H a = none →
    ts a { nx := fun σ' H' => D.nx (σ'.set i none) H', rt := D.rt, bk := fun σ' H' => D.bk (σ'.set i none) H', ct := fun σ' H' => D.ct (σ'.set i none) H' } (σ.set i (some (.ref a))) (upd H a (ErrO cls d a))
section
variable {X : Cx} {pins : List (Addr × Obj)} {σ : L2.St} {H : Hp} {s : Shared}
theorem _root_.L2.Inv.toSuite (I : Inv X pins σ H s) (a : Addr) : Inv (X.suite a (X.pn ++ pins)) [] σ H s :=
  ⟨I.ok.suite _ _, I.os, I.bare, I.base, I.loc, I.cell, I.free, I.freeC, fun p hp => I.pin p (by
    have hp' : p ∈ (X.pn ++ pins) ++ [] := hp
    rwa [List.append_nil] at hp'), I.hok, I.len⟩
theorem _root_.L2.Inv.ofSuite {a : Addr} {pn' : List (Addr × Obj)} (I : Inv (X.suite a (X.pn ++ pins)) pn' σ H s) (ok : X.Ok) : Inv X pins σ H s :=
  ⟨ok, I.os, I.bare, I.base, I.loc, I.cell, I.free, I.freeC, fun p hp => I.pin p (List.mem_append_left _ hp), I.hok, I.len⟩
end
section
variable {X : Cx} {x n : Str} {c : Value} {i : Nat} {body suite : List Stmt} {b₀ : Stmt} {np pos pos' : Pos} {tb : WX → TS} {ts : Addr → TS}
theorem ps_try_trk (hs : X.stack = X.env :: X.outer) (hf : X.env.frame = some X.env.locals) (hN : X.N.Nodup) (hi : X.N[i]? = some n) (hln : X.env.kindOf n = some .local) (hc : Names X x c)
    (hb : ∀ (W : WX) (pn : List (Addr × Obj)) (xe : Value → Shared → Prop), Takes (X.tr pn xe) W → PassesOwn (model X.prog X.w) X.A X.env xe → PSs (X.tr pn xe) body (tb W))
    (hsu : ∀ (a : Addr) (pn : List (Addr × Obj)), PSs (X.suite a pn) (b₀ :: suite) (ts a)) :
    PS X (.Try body [.ExceptHandler (some (.Name x np)) (some n) (b₀ :: suite) pos'] [] [] pos) (fun D σ H => tb (wTrk X.K c i ts D) D σ H) := by
  refine ⟨fun pins s σ H D I h => ?_⟩
  have ok := I.ok
  have hfr : X.A.frames = some (X.env :: X.outer) := by
    rw [ok.frames, hs]
  have hloc : Loc X.env.scope n := Or.inl hln
  have start := (hb (wTrk X.K c i ts D) (X.pn ++ pins)
    (fun e s₁ => wpAny (model X.prog X.w) X.A (noteFrame e X.env)
      (fun _ s₂ => wpAny (model X.prog X.w) X.A (setFlight e none)
        (fun _ s₃ => wpAny (model X.prog X.w) X.A
          (handleBy e X.env [.ExceptHandler (some (.Name x np)) (some n) (b₀ :: suite) pos'])
          (SP X pins D) X.xe s₃) X.xe s₂) X.xe s₁)
    (fun u s' xx => ?_) PassesOwn.looking).run [] s σ H D (I.toTry _) h
  · refine wpAny_Try_except (wpAny_mono start (fun f s1 hsp => ?_) (fun e s1 he => he))
    cases f with
    | next => obtain ⟨σ1, H1, J1, q⟩ := hsp; exact wpAny_execs_nil ⟨σ1, H1, J1.ofTry ok, q⟩
    | brk => obtain ⟨σ1, H1, J1, q⟩ := hsp; exact ⟨σ1, H1, J1.ofTry ok, q⟩
    | cont => obtain ⟨σ1, H1, J1, q⟩ := hsp; exact ⟨σ1, H1, J1.ofTry ok, q⟩
    | ret v => obtain ⟨y, σ1, H1, J1, r, q⟩ := hsp; exact ⟨y, σ1, H1, J1.ofTry ok, r, q⟩
  · obtain ⟨a, B, sI, pins1, σ1, H1, cls, d, rfl, J0, nb, up, sky, na, os, ag, hm, hyes⟩ := xx
    have J := J0.ofTry ok
    have sky1 : Sky B (X.env :: X.outer) a (Zc cls d) X.env.locals s'.heap := by
      rw [← hs]; exact sky
    show wpAny (model X.prog X.w) X.A (noteFrame (.ref a) X.env) _ _ _
    refine Sky.land Zc.steady hfr hf sky1 fun g3 fl3 up3 => ?_
    -- the error stands at a, not in the ground, not a frame
    obtain ⟨oe3, vs3, he3, hz3, hd3⟩ := fl3.there
    have nfr : a ∉ frs (X.env :: X.outer) := fun hm2 => by
      obtain ⟨_, o2, e2, hnf⟩ := fl3.2.2.1.mem hm2
      rw [he3] at e2; cases e2
      exact hnf _ hd3
    have nI : sI.heap.get? a = none := by
      cases q : sI.heap.get? a with
      | none => rfl
      | some o2 =>
        have z := nb a o2 q (by rw [hs]; exact nfr)
        rw [fl3.2.1] at z; cases z
    -- from a landing on: the state with the error tracked
    have track : ∀ (g : Heap), HandSPX.FlyingZ B (X.env :: X.outer) a (Zc cls d) g → s'.heap.UpToSlots g →
        Inv X pins σ1 (upd H1 a (ErrO cls d a)) { s' with heap := g } := fun g fl upg => by
      obtain ⟨G, g1, g2⟩ := restrict g fun b => decide (b ≠ a)
      have gk : ∀ b, b ≠ a → G.get? b = g.get? b := fun b hb2 => g1 b (decide_eq_true hb2)
      have ga : G.get? a = none := g2 a (by simp)
      have JG : Inv X pins σ1 H1 { s' with heap := G } := by
        refine J.landed nb (fun b o e => ?_) (fun b o e nd => ?_) os ag
        · exact (gk b (fun z => by rw [z, fl.2.1] at e; cases e)).trans (fl.1 b o e)
        · obtain ⟨sl, e2⟩ := (up.trans upg) b o e nd
          exact ⟨sl, (gk b (fun z => by rw [z, nI] at e; cases e)).trans e2⟩
      obtain ⟨oe, vs, he, hz, hd⟩ := fl.there
      exact JG.laidN (t' := s'.toks) (h' := g) (fun b u e => by
        by_cases z : b = a
        · rw [z] at e
          exact absurd (ga.symm.trans e) (fun q => by cases q)
        · exact (gk b z).symm.trans e) ga na (errO_ok he hz hd)
    have S3 := (track g3 fl3 up3).toSuite a
    refine wpAny_handleBy_cons (codeAny_handlers_test ?_) (by intro q; cases q)
    have LT : PySem.W.Looks (model X.prog X.w) g3 (typeOf (.ref a)) cls := fun A Q E s k q =>
      wpAny_typeOf_ref (k _ _ he3) (by rw [hz3.1]; exact q)
    have LM := PySem.W.exm_one (M := model X.prog X.w) S3.kIn LT hm
    have name : ∀ {Q : Value → Shared → Prop} {E : Value → Shared → Prop}, Q c { s' with heap := g3 } →
        wpAny (model X.prog X.w) (X.A.mark (some (.ref a))) (eval (.Name x np) X.env) Q E { s' with heap := g3 } := fun {Q E} q => by
      obtain ⟨hg, hdbg, hk | ⟨hk, hv, hnn⟩⟩ := hc
      · exact ld_glob (X := X.suite a (X.pn ++ pins)) S3 hg hk q hdbg
      · exact ld_blt (X := X.suite a (X.pn ++ pins)) S3 hg hk hv q hnn hdbg
    refine name (LM.here ?_)
    refine codeAny_handlers_suite_as ?_
    refine HandSPX.lands_againZ fl3 fun g4 fl4 up4 => ?_
    have S4 := (track g4 fl4 (up3.trans up4)).toSuite a
    refine store_ok (X := X.suite a (X.pn ++ pins)) (v := .ref a) S4 hN hi hloc rfl (fun s5 S5 => ?_) (.inr hln)
    refine wpAny_mono ((hsu a (X.pn ++ pins)).run [] s5 _ _ _ S5 (hyes a na)) (fun f s6 hsp => ?_) (fun _ _ z => False.elim z)
    have gone : ∀ {σ6 : L2.St} {H6 : Hp} {Q : Shared → Prop}, Inv (X.suite a (X.pn ++ pins)) [] σ6 H6 s6 → (∀ s7, Inv X pins (σ6.set i none) H6 s7 → Q s7) →
        wpAny (model X.prog X.w) X.A (do bindName X.env n .none; unbindBehindTheSuite X.env n pos') (fun _ s7 => Q s7) X.xe s6 := fun {σ6 H6 Q} S6 hq => gone_ok (S6.ofSuite ok) hN hi hln hq
    cases f with
    | next => obtain ⟨σ6, H6, S6, q6⟩ := hsp; exact gone S6 fun s7 J7 => ⟨_, _, J7, q6⟩
    | brk => obtain ⟨σ6, H6, S6, q6⟩ := hsp; exact gone S6 fun s7 J7 => ⟨_, _, J7, q6⟩
    | cont => obtain ⟨σ6, H6, S6, q6⟩ := hsp; exact gone S6 fun s7 J7 => ⟨_, _, J7, q6⟩
    | ret u => obtain ⟨v6, σ6, H6, S6, r6, q6⟩ := hsp; exact gone S6 fun s7 J7 => ⟨_, _, _, J7, r6, q6⟩
end
end K88
set_option maxRecDepth 100000
set_option maxHeartbeats 4000000
namespace K88
open PySem PySem.Spec PyProof.Rows L2 TL LamX
def codeOf (K : PySem.W.Frag) (g : Addr) : Option Value := match K.lookup g with
  | some ⟨_, _, .func fd, _⟩ => some fd.code
  | _ => none
/-- a def x(a), handed a thing that may be called: its body, read at the very state; TT: what it makes of the thing's reading -/
def GivesR (P : Program) (w : World) (K : PySem.W.Frag) (mg : Str → Option Value) (base : Heap) (N : List Str) (x : Str) (st : Stmt) (g : Addr) (k kb : Nat) (TT : AP → Hp → VK → Prop) : Prop :=
  ∀ (cdv : Value), codeOf K g = some cdv → ∀ (A : Around) (outer : List Env) (f : Addr) (s : Shared) (H : Hp) (Q : VK) (sp : AP), Runs P w K mg base k f (frs outer) H s.heap sp → Room kb (A.deeper (envOfC x (defScope st) s.heap.objs.size g cdv)) → TT sp H Q →
    ∃ t, PSs (cxOf CX0 P w K mg base N x (defScope st) g cdv A outer s H E0).nox (defBody st) t ∧ t { nx := fun _ H' => Q .non H', rt := Q } (start N [.ref f]) H
def tLamR (T : List (Addr × Str)) (q : Str) (TT : AP → Hp → VK → Prop) (tb : XK → TE) : TE := fun σ H Q =>
  Tabs T H ∧ ∀ H1 c', ExtN H H1 → Tabs T H1 → H1 c' = some (CodeO c' q) → TT (fun HZ Q' E' => HZ c' = some (CodeO c' q) ∧ tb E' σ HZ Q') H1 Q
section
variable {X : Cx}
/-- x(lambda: body) -/
theorem pe_lamR {T : List (Addr × Str)} {TT : AP → Hp → VK → Prop} {x a : Str} {c PT : Addr} {kl kb : Nat} {st : Stmt} {N : List Str} {params : Arguments} {body : Expr} {scope : Scope} {tb : XK → TE} {p lpos pos : Pos}
    (hX : X.ex = []) (hst : X.stack = X.env :: X.outer) (hfr : X.env.frame = some X.env.locals) (D : Df X.K X.mg x st [a]) (S : FnScope N [a] (defScope st)) (hg : Gl X x)
    (hG : ∀ g fd, X.mg x = some (.ref g) → Fun X.K x x st g fd → GivesR X.prog X.w X.K X.mg X.base N x st g (kl + 1) kb TT)
    (TB : TabB X.base X.mg c PT) (hcode : X.env.code = .ref c) (hmT : (PT, X.env.qual ++ "<lambda>") ∈ T) (hu : ∀ p ∈ T, p.1 = PT → p.2 = X.env.qual ++ "<lambda>") (hr : Room (kb + 1) X.A) (L : LamS X.env.scope scope) (hdef : defaultsOf params X.env = ([], []))
    (hbind : ∀ (q : Str) (cl : List (Str × Addr)) (pm cv ctv : Value), bindArgs (PySem.W.kla_fn "<lambda>" q params body scope cl pm cv ctv) ⟨[], []⟩ = pure [])
    (hbody : ∀ (A : Around) (outer : List Env) (s1 : Shared) (HZ : Hp) (E : XK) (f c' : Addr), Room kl (A.deeper (lamEnv X scope s1.heap.objs.size f c')) → Un X.fs [] X.H_0 HZ X.s_0.heap s1.heap → (∀ b ∈ frs outer, b ∈ X.fs ∨ X.s_0.heap.get? b = none) →
      PE (lamCx X A outer s1 HZ E scope f c') body (tb E))
    (hdb : (x == ("__debug__" : Str)) = false := by decide) :
    PE X (.Call (.Name x p) [.Lambda params body scope lpos] [] pos) (tLamR T (X.env.qual ++ "<lambda>") TT tb) := by
  refine ⟨fun pins s σ H Q I h => ?_⟩
  obtain ⟨hT, h⟩ := h
  obtain ⟨g, fd, F, hb, hm, _⟩ := D
  refine wpAny_Call_Name_kw (ld_glob I hg hm ?_ hdb)
  refine PySem.W.callWith_K (h₀ := X.base) I.ok.mod.kin F.kp ?_ (by rfl) (by rfl)
  show wpAny _ _ (spliced ((false, eval (.Lambda params body scope lpos) X.env) :: backTo pos (starEach [] X.env))) _ _ s
  refine Calls.spliced_cons (lam_make2 I TB hcode hmT hu hT hdef (L.has I.ok) fun f c' pm' ctv H1 s' I1 eN T1 hf hfn hff hco => ?_)
  refine Calls.spliced_nil ⟨I1.kIn, ?_⟩
  have hbase : Un X.fs [] X.H_0 H1 X.s_0.heap s'.heap := by
    have := I1.base
    rw [hX] at this
    exact this
  have hL : X.s_0.heap.get? X.env.locals = none := by
    cases q : X.s_0.heap.get? X.env.locals with
    | none => rfl
    | some o => exact absurd (Nat.lt_of_lt_of_le (Heap.lt_size q) I1.ok.above) (Nat.lt_irrefl _)
  have stk : ∀ b ∈ frs X.stack, b ∈ X.fs ∨ X.s_0.heap.get? b = none := fun b hb => by
    rw [hst] at hb
    obtain ⟨e, he, q⟩ := List.mem_filterMap.mp hb
    rcases List.mem_cons.mp he with z | z
    · subst z
      rw [hfr] at q
      cases q
      exact .inr hL
    · exact .inl (List.mem_filterMap.mpr ⟨e, z, q⟩)
  have R : Runs X.prog X.w X.K X.mg X.base (kl + 1) f (frs X.stack) H1 s'.heap (fun HZ Q' E' => HZ c' = some (CodeO c' (X.env.qual ++ "<lambda>")) ∧ tb E' σ HZ Q') :=
    runs_lam I1 L hf hfn hff (hbind _ _ _ _ _) fun A outer s1 HZ E hr2 un hfo => hbody A outer s1 HZ E f c' hr2 (Un.widen hbase un stk) fun b hb => by
      rcases hfo b hb with z | z
      · exact stk b z
      · refine .inr ?_
        cases q : X.s_0.heap.get? b with
        | none => rfl
        | some o =>
          obtain ⟨o1, e1⟩ := hbase.there b o q (fun z => nomatch z)
          rw [z] at e1
          cases e1
  have G := hG g fd hm F
  obtain ⟨oc, od, kV, doc, pm, an, cdv, ct, osl, rfl, lk, hcd⟩ := F.ex
  have rc : codeAny (model X.prog X.w) X.A (.call (.ref g) ⟨[.ref f], []⟩) (CR CX0 X.stack X.prog X.w H1 s' Q E0) s' := by
    refine run_ofS (N := N) (ps := [a]) (us := [.ref f]) (vs := [.ref f]) lk hcd S hr I1.env0 (hb s' [.ref f] I1.kIn rfl) (.cons rfl .nil) rfl fun hr' => ?_
    obtain ⟨t', ht', hq'⟩ := G cdv (by unfold codeOf; rw [lk]) X.A X.stack f s' H1 Q _ R hr' (h H1 c' eN T1 hco)
    exact ⟨t', ht'.nox, hq'⟩
  refine wpAny_call (codeAny_mono rc fun r s2 hq => ?_)
  cases r with
  | error e => exact (show False from hq).elim
  | ok fl =>
    cases fl with
    | ret u => exact I1.after hq
    | next => exact False.elim hq
    | brk => exact False.elim hq
    | cont => exact False.elim hq
end
/-! ## _law_caught -/
abbrev sCaught : Stmt := topS 40
abbrev nmCaught : List Str := ["action", "found", "error"]
theorem scCaught : FnScope nmCaught ["action"] (defScope sCaught) := ⟨rfl, rfl, rfl, by decide +kernel, rfl, by decide +kernel, by decide +kernel⟩
def TTc (K : PySem.W.Frag) (CD : Addr) : AP → Hp → VK → Prop := fun sp H Q => ∀ F, H F = none → ∀ (Q' : VK) (E' : XK),
  (∀ v H1, H1 F = some (.lst []) → (∀ p, H1 p = none → Q .non (upd H1 p (.lst []))) → Q' v H1) →
  (∀ cls d H1, PySem.W.exmOne K cls (.ref CD) = some true → H1 F = some (.lst []) → (∀ a p, H1 a = none → (upd (upd H1 a (ErrO cls d a)) F (.lst [.ref a])) p = none → Q (.ref a) (upd (upd (upd H1 a (ErrO cls d a)) F (.lst [.ref a])) p (.lst []))) → E' cls d H1) →
  sp (upd H F (.lst [])) Q' E'
section
variable {P : Program} {w : World} {K : PySem.W.Frag} {mg : Str → Option Value} {base : Heap}
theorem frs_new {P : Program} {w : World} {K : PySem.W.Frag} {mg : Str → Option Value} {A : Around} {outer : List Env} {s : Shared} {x : Str} {sc : Scope} {g : Addr} {cdv : Value} : ∀ b ∈ frs (envOfC x sc s.heap.objs.size g cdv :: outer), b ∈ frs outer ∨ s.heap.get? b = none := fun b hb => by
  obtain ⟨e, he, q⟩ := List.mem_filterMap.mp hb
  rcases List.mem_cons.mp he with z | z
  · subst z
    have q' : some s.heap.objs.size = some b := q
    cases q'
    refine .inr ?_
    cases q2 : s.heap.get? s.heap.objs.size with
    | none => rfl
    | some o => exact absurd (Heap.lt_size q2) (Nat.lt_irrefl _)
  · exact .inl (List.mem_filterMap.mpr ⟨e, z, q⟩)
theorem caught_gives {CD : Addr} {k : Nat} (gD : mg "DoublingError" = some (.ref CD)) (g : Addr) (fd : FuncData) (F : Fun K "_law_caught" "_law_caught" sCaught g fd) : GivesR P w K mg base nmCaught "_law_caught" sCaught g k k (TTc K CD) := by
  intro cdv _ A outer f s H Q sp R hr h
  have nd := scCaught.nd
  refine' ⟨_, pss_cons (ps_set (i := 1) nd rfl (Or.inl rfl) (pe_lst pa_nil))
    (pss_cons (ps_try_trk (ts := fun _ => tDrop (tBM K "list" rAppend (tVar 1) (tCons (tVar 2) tNil))) (i := 2) rfl rfl nd rfl rfl ⟨by rfl, by decide, .inl gD⟩ (fun W pn xe tk _ => ?hb) (fun a pn => ?hsu))
    (pss_one (ps_ret (pe_ifExp (pt_cmpR ((op_neD hr.units).or (op_neL (Nat.lt_of_le_of_lt (Nat.le_add_right _ 64) hr.units))) (pv 1) (pe_lst pa_nil) (nomark _)) (pe_ix ix_list (pv 1) pe_int (fun _ _ => rfl)) pe_non)))), ?_⟩
  case hb => exact pss_one (ps_expr (pe_runs (i := 0) R rfl Un.refl (frs_new (P := P) (w := w) (K := K) (mg := mg) (A := A)) (fun b hb => .inl hb) hr (fun σ => passAt tk σ) rfl (Or.inl rfl)))
  case hsu => exact pss_one (ps_expr (pe_bm PySem.F.plainAttrs_list PySem.F.slot_list_append PySem.F.type_list_append mt_append (pv 1) (pa_cons (pv 2) pa_nil)))
  refine ⟨Nat.zero_le _, fun F0 nF => ?_⟩
  refine ⟨rfl, h F0 nF _ _ (fun v H1 hF k => ?_) (fun cls d H1 hm hF k => ⟨hm, fun a na => ?_⟩)⟩
  · refine ⟨_, rfl, Nat.zero_le _, fun p np => .inl ⟨.list [], .list [], .lst (SqL.of (by rw [upd_ne (ne_of_none hF np)]; exact hF)) .nil, .lst (SqL.of upd_same) .nil, shaped_nil, shaped_nil, _, rfl, ?_⟩⟩
    rw [eqv_nil]
    refine iteF ?_
    exact k p np
  · have aF : a ≠ F0 := (ne_of_none hF na).symm
    have hF2 : (upd H1 a (ErrO cls d a)) F0 = some (.lst []) := by rw [upd_ne (Ne.symm aF)]; exact hF
    refine ⟨_, rfl, .inl ⟨rfl, _, SqL.of hF2⟩, _, rfl, F0, _, .ref a, rfl, rfl, hF2, by rw [sizeLine_eq]; decide, ?_⟩
    refine ⟨_, rfl, Nat.zero_le _, fun p np => .inr ⟨F0, p, [.ref a], [], rfl, rfl, SqL.of (by rw [upd_ne (ne_of_none upd_same np)]; exact upd_same), SqL.of upd_same, by simp, _, rfl, ?_⟩⟩
    refine iteT ?_
    exact ⟨_, rfl, F0, [.ref a], 0, .ref a, rfl, rfl, SqL.of (by rw [upd_ne (ne_of_none upd_same np)]; exact upd_same), rfl, k a p na np⟩
end
end K88
set_option maxRecDepth 100000
set_option maxHeartbeats 4000000
namespace K88
open PySem PySem.Spec PyProof.Rows L2 TL LamX
/-! ## _law_word -/
abbrev sWord : Stmt := topS 41
abbrev nmWord : List Str := ["action", "error", "word", "is_one", "told"]
theorem scWord : FnScope nmWord ["action"] (defScope sWord) := ⟨rfl, rfl, rfl, by decide +kernel, rfl, by decide +kernel, by decide +kernel⟩
structure ErrTxt (K : PySem.W.Frag) (mg : Str → Option Value) (C CD : Addr) : Prop where
  gD : mg "DoublingError" = some (.ref CD)
  exm : PySem.W.exmOne K (.ref C) (.ref CD) = some true
  CE : ExcC K C
  hc : (PySem.W.clsIn K C).isSome = true
  used : ∃ CU, mg "Used" = some (.ref CU) ∧ PySem.W.kitOne K (.ref C) (.ref CU) = some false
  many : ∃ CU, mg "TooMany" = some (.ref CU) ∧ PySem.W.kitOne K (.ref C) (.ref CU) = some false
  kit : PySem.W.kitOne K (.ref C) (.ref C) = some true
theorem pss_nope {X : Cx} {sts : List Stmt} : PSs X sts (fun _ _ _ => False) := ⟨fun _ _ _ _ _ _ h => h.elim⟩
theorem Tabs.but {T : List (Addr × Str)} {H H' : Hp} (t : Tabs T H) (e : ∀ b o, H b = some o → (∀ xs, o ≠ .lst xs) → H' b = some o) : Tabs T H' := fun p hp => by
  obtain ⟨ps, h1, h2, h3⟩ := t p hp
  refine ⟨ps, e _ _ h1 (fun xs z => by cases z), h2, fun pos cv hc => ?_⟩
  obtain ⟨c, e1, e2⟩ := h3 pos cv hc
  exact ⟨c, e1, e _ _ e2 (fun xs z => by unfold CodeO at z; cases z)⟩
theorem lam_frs {X : Cx} {A : Around} {outer : List Env} {s : Shared} {HZ : Hp} {E : XK} {scope : Scope} {f c' : Addr} {fs : List Addr} {H : Hp} {h : Heap} (un : Un fs [] H HZ h s.heap) (fr : ∀ b ∈ frs outer, b ∈ fs ∨ h.get? b = none) :
    ∀ b ∈ frs (lamCx X A outer s HZ E scope f c').stack, b ∈ fs ∨ h.get? b = none := fun b hb => by
  obtain ⟨e, he, q⟩ := List.mem_filterMap.mp hb
  rcases List.mem_cons.mp he with z | z
  · subst z
    have q' : some s.heap.objs.size = some b := q
    cases q'
    exact .inr (Un.newer un rfl (Nat.le_refl _))
  · exact fr b (List.mem_filterMap.mpr ⟨e, z, q⟩)
def TTw (K : PySem.W.Frag) (T : List (Addr × Str)) (C : Addr) : AP → Hp → VK → Prop := fun sp H Q => Tabs T H ∧
  ((∃ d, (∀ HZ Q' E', ExtN H HZ → (∀ v H', Same HZ H' → Dt K H' v d → Q' v H') → sp HZ Q' E') ∧ (∀ v H', ExtN H H' → Tabs T H' → Dt K H' v d → Q v H')) ∨
   ((∀ HZ Q' E', ExtN H HZ → (∀ H' dd, Same HZ H' → HZ dd = none → H' dd = some (ntD (.int 0)) → E' (.ref C) (some dd) H') → sp HZ Q' E') ∧
     (∀ p H', ExtN H H' → Tabs T H' → H' p = some (.tup [.str "text", .int 0]) → Q (.ref p) H')))
section
variable {P : Program} {w : World} {K : PySem.W.Frag} {mg : Str → Option Value} {base : Heap}
theorem word_gives {T : List (Addr × Str)} {C fI CD cW PW : Addr} {k : Nat} (Tx : Txt K mg) (TN : PySem.NtX.NtTxt P K mg C fI) (TE : ErrTxt K mg C CD) (Dc : Df K mg "_law_caught" sCaught ["action"])
    (TB : TabB base mg cW PW) (hmT : (PW, ("_law_word.<locals>.<lambda>" : Str)) ∈ T) (hu : ∀ p ∈ T, p.1 = PW → p.2 = ("_law_word.<locals>.<lambda>" : Str))
    (g : Addr) (fd : FuncData) (F : Fun K "_law_word" "_law_word" sWord g fd) (hcW : codeOf K g = some (.ref cW)) : GivesR P w K mg base nmWord "_law_word" sWord g k (k + 2) (TTw K T C) := by
  intro cdv hcdv A outer f s H Q sp R hr h
  rw [hcW] at hcdv
  cases hcdv
  have nd := scWord.nd
  obtain ⟨CU, gU, kU⟩ := TE.used
  obtain ⟨CM, gM, kM⟩ := TE.many
  refine' ⟨_, pss_cons (ps_set (i := 4) nd rfl (Or.inr rfl) (pe_lst pa_nil))
    (pss_cons (ps_set (i := 1) nd rfl (Or.inl rfl) (pe_lamR (T := T) (kl := k) (tb := fun E => tBM K "list" rAppend (tVar 4) (tCons (fun σ HZ Q => σ[0]? = some (some (.ref f)) ∧ sp HZ Q E) tNil)) rfl rfl rfl Dc scCaught rfl (fun g fd _ F => caught_gives TE.gD g fd F) TB rfl hmT hu hr (lamS_by (sc := defScope sWord) (by decide +kernel)) rfl (fun _ _ _ _ _ => rfl)
      (fun A2 outer2 s1 HZ E f' c' hr2 un fr => ?hb)))
    (pss_cons (ps_if (pt_cmpR op_isN (pv 1) pe_non (nomark _)) (pss_one (ps_ret (pe_ix ix_list (pv 4) pe_int (fun _ _ => rfl)))) pss_nil)
    (pss_cons (ps_if (pt_val (pe_callB (call_isT TE.CE TE.hc) (by rfl) Tx.isinstance PyProof.Rows.boot_isinstance (pa_cons (pv 1) (pa_cons (pe_glob (v := .ref CU) (by rfl) gU rfl) pa_nil)))) pss_nope pss_nil)
    (pss_cons (ps_if (pt_val (pe_callB (call_isT TE.CE TE.hc) (by rfl) Tx.isinstance PyProof.Rows.boot_isinstance (pa_cons (pv 1) (pa_cons (pe_glob (v := .ref CM) (by rfl) gM rfl) pa_nil)))) pss_nope pss_nil)
    (pss_cons (ps_if (pt_val (pe_callB (call_isT TE.CE TE.hc) (by rfl) Tx.isinstance PyProof.Rows.boot_isinstance (pa_cons (pv 1) (pa_cons (pe_glob (v := .ref C) (by rfl) TN.gC rfl) pa_nil))))
      (pss_one (ps_ret (pe_tup (pa_cons pe_str (pa_cons (pe_line TN (pv 1)) pa_nil))))) pss_nil)
    pss_nope))))), ?_⟩
  case hb =>
    exact pe_bm PySem.F.plainAttrs_list PySem.F.slot_list_append PySem.F.type_list_append mt_append (pv 4) (pa_cons (pe_runs (i := 0) (E := fun _ => E) R rfl un (lam_frs un fr) fr hr2 (fun σ => passAt (takes_of rfl rfl rfl rfl) σ) rfl (Or.inr (Or.inr rfl))) pa_nil)
  obtain ⟨hT, hcases⟩ := h
  refine ⟨Nat.zero_le _, fun To nTo => ?_⟩
  have T1 : Tabs T (upd H To (.lst [])) := Tabs.ext hT fun b o e => by rw [upd_ne (ne_of_none e nTo)]; exact e
  refine ⟨T1, fun H2 c' eN T2 hc' => ?_⟩
  intro F nF Q' E' kq ke
  have hTo2 : H2 To = some (.lst []) := eN _ _ upd_same (fun ps z => by cases z)
  have hcF : (upd H2 F (.lst [])) c' = some (CodeO c' "_law_word.<locals>.<lambda>") := by
    rw [upd_ne (ne_of_none hc' nF)]
    exact hc'
  have eZ : ExtN H (upd H2 F (.lst [])) := fun b o e n => by
    have e2 : H2 b = some o := eN b o (by rw [upd_ne (ne_of_none e nTo)]; exact e) n
    rw [upd_ne (ne_of_none e2 nF)]
    exact e2
  have hToZ : (upd H2 F (.lst [])) To = some (.lst []) := by rw [upd_ne (ne_of_none hTo2 nF)]; exact hTo2
  have TZ : Tabs T (upd H2 F (.lst [])) := Tabs.ext T2 fun b o e => by rw [upd_ne (ne_of_none e nF)]; exact e
  have hFZ : (upd H2 F (.lst [])) F = some (.lst []) := upd_same
  have ToF : To ≠ F := ne_of_none hTo2 nF
  have bF : ∀ b o, H b = some o → (∀ ps, o ≠ .tbl ps) → b ≠ F := fun b o e n => by
    have e2 : H2 b = some o := eN b o (by rw [upd_ne (ne_of_none e nTo)]; exact e) n
    exact ne_of_none e2 nF
  generalize upd H2 F (.lst []) = HZ at hcF eZ hToZ TZ hFZ
  refine ⟨hcF, _, rfl, .inl ⟨rfl, _, SqL.of hToZ⟩, rfl, ?_⟩
  rcases hcases with ⟨d, h1, h2⟩ | ⟨h1, h2⟩
  · refine h1 _ _ _ eZ fun v H3 s3 hv => ⟨To, [], v, rfl, rfl, s3 _ _ hToZ, by rw [sizeLine_eq]; decide, ?_⟩
    refine kq _ _ (by rw [upd_ne (Ne.symm ToF)]; exact s3 _ _ hFZ) fun p np => ?_
    have nTp : To ≠ p := ne_of_none upd_same np
    refine ⟨_, rfl, rfl, _, rfl, ?_⟩
    refine iteT ?_
    refine ⟨_, rfl, To, [v], 0, v, rfl, rfl, SqL.of (by rw [upd_ne nTp]; exact upd_same), rfl, ?_⟩
    refine h2 _ _ (fun b o e n => ?_) (Tabs.but TZ fun b o e n => ?_) (Dt.keep hv (((KeepT.refl H3).updL (s3 _ _ hToZ)).updN np))
    · have q := s3 _ _ (eZ b o e n)
      have bT : b ≠ To := ne_of_none e nTo
      have q2 : (upd H3 To (.lst [v])) b = some o := by rw [upd_ne bT]; exact q
      rw [upd_ne (ne_of_none q2 np)]
      exact q2
    · have q := s3 _ _ e
      have bT : b ≠ To := fun z => by rw [z, hToZ] at e; exact n [] (Option.some.inj e).symm
      have q2 : (upd H3 To (.lst [v])) b = some o := by rw [upd_ne bT]; exact q
      rw [upd_ne (ne_of_none q2 np)]
      exact q2
  · refine h1 _ _ _ eZ fun H3 dd s3 nd3 hdd => ?_
    refine ke _ _ _ TE.exm (s3 _ _ hFZ) fun a p na np => ?_
    have aF : a ≠ F := (ne_of_none (s3 _ _ hFZ) na).symm
    have ddF : dd ≠ F := fun z => by rw [z, s3 _ _ hFZ] at hdd; cases hdd
    have ada : dd ≠ a := ne_of_none hdd na
    -- the heap behind the call
    have ha : (upd (upd (upd H3 a (ErrO (.ref C) (some dd) a)) F (.lst [.ref a])) p (.lst [])) a = some (ErrO (.ref C) (some dd) a) := by
      have q : (upd (upd H3 a (ErrO (.ref C) (some dd) a)) F (.lst [.ref a])) a = some (ErrO (.ref C) (some dd) a) := by rw [upd_ne aF]; exact upd_same
      rw [upd_ne (ne_of_none q np)]
      exact q
    have hd : (upd (upd (upd H3 a (ErrO (.ref C) (some dd) a)) F (.lst [.ref a])) p (.lst [])) dd = some (ntD (.int 0)) := by
      have q : (upd (upd H3 a (ErrO (.ref C) (some dd) a)) F (.lst [.ref a])) dd = some (ntD (.int 0)) := by rw [upd_ne ddF, upd_ne ada]; exact hdd
      rw [upd_ne (ne_of_none q np)]
      exact q
    have step : ∀ b o, H3 b = some o → b ≠ F → (upd (upd (upd H3 a (ErrO (.ref C) (some dd) a)) F (.lst [.ref a])) p (.lst [])) b = some o := fun b o e n => by
      have q : (upd (upd H3 a (ErrO (.ref C) (some dd) a)) F (.lst [.ref a])) b = some o := by rw [upd_ne n, upd_ne (ne_of_none e na)]; exact e
      rw [upd_ne (ne_of_none q np)]
      exact q
    generalize upd (upd (upd H3 a (ErrO (.ref C) (some dd) a)) F (.lst [.ref a])) p (.lst []) = H4 at ha hd step
    refine ⟨_, rfl, rfl, _, rfl, ?_⟩
    refine iteF ?_
    refine ⟨_, rfl, a, dd, _, _, _, _, rfl, ha, hd, (fun u r => r), kU, _, rfl, ?_⟩
    refine iteF ?_
    refine ⟨_, rfl, a, dd, _, _, _, _, rfl, ha, hd, (fun u r => r), kM, _, rfl, ?_⟩
    refine iteF ?_
    refine ⟨_, rfl, a, dd, _, _, _, _, rfl, ha, hd, (fun u r => r), TE.kit, _, rfl, ?_⟩
    refine iteT ?_
    refine ⟨_, rfl, a, dd, _, rfl, ha, hd, by show 2 ≤ sizeLine; decide, fun t nt => ?_⟩
    refine h2 t _ (fun b o e n => ?_) (Tabs.but TZ fun b o e n => ?_) upd_same
    · have q := step b o (s3 _ _ (eZ b o e n)) (bF b o e n)
      rw [upd_ne (ne_of_none q nt)]
      exact q
    · have bFz : b ≠ F := fun z => by rw [z, hFZ] at e; exact n [] (Option.some.inj e).symm
      have q := step b o (s3 _ _ e) bFz
      rw [upd_ne (ne_of_none q nt)]
      exact q
end
end K88
set_option maxRecDepth 100000
set_option maxHeartbeats 4000000
namespace K88
open PySem PySem.Spec PyProof.Rows L2 TL
/-! ## the law's drawing state -/
def stD (g c : Addr) (r t : Int) : List (Key × V) := [(.inr "great", .ref g), (.inr "cells", .ref c), (.inr "rest", .int r), (.inr "turn", .int t)]
theorem kne1 : ("great" : Str) ≠ "cells" := by decide
theorem kne2 : ("great" : Str) ≠ "rest" := by decide
theorem kne3 : ("great" : Str) ≠ "turn" := by decide
theorem kne4 : ("cells" : Str) ≠ "rest" := by decide
theorem kne5 : ("cells" : Str) ≠ "turn" := by decide
theorem kne6 : ("rest" : Str) ≠ "turn" := by decide
theorem st_great {g c : Addr} {r t : Int} : valV (stD g c r t) (.inr "great") = some (.ref g) := by
  unfold stD
  rw [valV_pos rfl]
theorem st_cells {g c : Addr} {r t : Int} : valV (stD g c r t) (.inr "cells") = some (.ref c) := by
  unfold stD
  rw [valV_neg (fun q => kne1 (Sum.inr.inj q)), valV_pos rfl]
theorem st_rest {g c : Addr} {r t : Int} : valV (stD g c r t) (.inr "rest") = some (.int r) := by
  unfold stD
  rw [valV_neg (fun q => kne2 (Sum.inr.inj q)), valV_neg (fun q => kne4 (Sum.inr.inj q)), valV_pos rfl]
theorem st_turn {g c : Addr} {r t : Int} : valV (stD g c r t) (.inr "turn") = some (.int t) := by
  unfold stD
  rw [valV_neg (fun q => kne3 (Sum.inr.inj q)), valV_neg (fun q => kne5 (Sum.inr.inj q)), valV_neg (fun q => kne6 (Sum.inr.inj q)), valV_pos rfl]
theorem put_rest {g c : Addr} {r t x : Int} : putK (stD g c r t) (.inr "rest") (.int x) = stD g c x t := by
  unfold stD putK
  simp [kne2, kne4, Ne.symm kne6]
theorem put_turn {g c : Addr} {r t x : Int} : putK (stD g c r t) (.inr "turn") (.int x) = stD g c r x := by
  unfold stD putK
  simp [kne3, kne5, kne6]
/-- the state at D with its lists; so many draws are still free -/
structure St (D G C : Addr) (f : Nat) (H : Hp) : Prop where
  ex : ∃ (r t : Int) (gs cs : List Int), H D = some (.dK (stD G C r t)) ∧ H G = some (.lst (gs.map V.int)) ∧ H C = some (.lst (cs.map V.int)) ∧ 0 ≤ t ∧ t + f ≤ 1000000000000
  neC : G ≠ C
theorem St.mono {D G C : Addr} {f j : Nat} {H : Hp} (h : St D G C f H) (hj : j ≤ f) : St D G C j H := by
  obtain ⟨⟨r, t, gs, cs, h1, h2, h3, h4, h5⟩, n⟩ := h
  exact ⟨⟨r, t, gs, cs, h1, h2, h3, h4, by omega⟩, n⟩
/-- all but the state stays -/
def KeepS (D G : Addr) (H H' : Hp) : Prop := ∀ b o, b ≠ D → b ≠ G → H b = some o → H' b = some o
theorem KeepS.refl {D G : Addr} (H : Hp) : KeepS D G H H := fun _ _ _ _ h => h
theorem KeepS.trans {D G : Addr} {H H1 H2 : Hp} (a : KeepS D G H H1) (b : KeepS D G H1 H2) : KeepS D G H H2 := fun c o n1 n2 h => b c o n1 n2 (a c o n1 n2 h)
theorem KeepS.of {D G : Addr} {H H' : Hp} (s : Same H H') : KeepS D G H H' := fun b o _ _ h => s b o h
theorem St.same {D G C : Addr} {f : Nat} {H H' : Hp} (h : St D G C f H) (s : Same H H') : St D G C f H' := by
  obtain ⟨⟨r, t, gs, cs, h1, h2, h3, h4, h5⟩, n⟩ := h
  exact ⟨⟨r, t, gs, cs, s _ _ h1, s _ _ h2, s _ _ h3, h4, h5⟩, n⟩
/-- tuples are none of the state -/
theorem KeepS.keepT {D G C : Addr} {f : Nat} {H H' : Hp} (k : KeepS D G H H') (h : St D G C f H) : KeepT H H' := fun b xs e => by
  obtain ⟨⟨r, t, gs, cs, h1, h2, _⟩, _⟩ := h
  exact k b _ (fun z => by rw [z, h1] at e; cases e) (fun z => by rw [z, h2] at e; cases e) e
/-! ### _law_mixed -/
abbrev sMixed : Stmt := topS 34
abbrev nmMixed : List Str := ["state", "turn", "found", "prime", "blend", "cell"]
def spMixed : Sp := fun vs H Q _ => ∃ (D G C : Addr) (f : Nat), vs = [.ref D] ∧ St D G C (f + 1) H ∧ ∀ (i : Int) H', St D G C f H' → KeepS D G H H' → Q (.int i) H'
section
variable {P : Program} {w : World} {K : PySem.W.Frag} {mg : Str → Option Value} {base : Heap}
theorem scMixed : FnScope nmMixed ["state"] (defScope sMixed) := ⟨rfl, rfl, rfl, by decide +kernel, rfl, by decide +kernel, by decide +kernel⟩
theorem ok_mixed (T : Txt K mg) (Dd : Df K mg "_law_mixed" sMixed ["state"]) : Prom P w K mg base CX0 1 "_law_mixed" ["state"] spMixed := by
  refine prom_of Dd scMixed (fun vs H Q E h => ?_) (fun f cdv A outer s H vs Q E hr h => ?_)
  · obtain ⟨D, G, C, f, rfl, _⟩ := h
    rfl
  · obtain ⟨D, G, C, fu, rfl, hS, k⟩ := h
    have nd := scMixed.nd
    have hu1 := hr.units
    have hu2 : (A.deeper (envOfC "_law_mixed" (defScope sMixed) s.heap.objs.size f cdv)).units + 1 < cLine := by omega
    refine ⟨_, pss_cons (ps_par (i := 1) (j := 2) rfl nd rfl rfl (by decide) rfl rfl (pa_cons (pe_op op_add (pe_dget hu2 (pv 0) pe_str (fun _ _ => rfl)) pe_int) (pa_cons pe_int pa_nil)) (by rfl))
      (pss_cons (ps_dput hu2 (pv 0) pe_str (pv 1) (by rfl))
      (pss_cons (ps_for PassesOwn.never rfl (pi_list (pe_lst (pa_cons pe_int (pa_cons pe_int (pa_cons pe_int (pa_cons pe_int pa_nil)))))) (pg_name (i := 3) nd rfl (Or.inl rfl))
        (pss_cons (ps_set (i := 4) nd rfl (Or.inl rfl) (pe_op op_add (pe_op op_mul pe_int (pv 1)) (pe_op op_fdiv (pv 3) pe_int)))
        (pss_cons (ps_for PassesOwn.never rfl (pi_list (pe_dget hu2 (pv 0) pe_str (fun _ _ => rfl))) (pg_name (i := 5) nd rfl (Or.inl rfl))
          (pss_one (ps_set (i := 4) nd rfl (Or.inl rfl) (pe_op op_mod (pe_callTy call_int1 (by rfl) T.int PyProof.Rows.boot_int (pa_cons (pe_op op_add (pe_op op_add (pe_op op_mul (pv 4) pe_int) (pv 5)) (pv 1)) pa_nil)) (pv 3)))))
        (pss_one (ps_set (i := 2) nd rfl (Or.inl rfl) (pe_op op_add (pe_op op_mul (pv 2) pe_int) (pe_op op_mod (pe_callTy call_int1 (by rfl) T.int PyProof.Rows.boot_int (pa_cons (pe_op op_pow (pv 4) pe_int) pa_nil)) (pv 3))))))))
      (pss_one (ps_ret (pv 2))))), ?_⟩
    obtain ⟨⟨r, t, gs, cs, h1, h2, h3, h4, h5⟩, nGC⟩ := hS
    refine ⟨_, rfl, D, _, rfl, .inl ⟨_, .inr "turn", .inl h1, rfl, st_turn.symm⟩, _, _, rfl, rfl, ?_⟩
    refine ⟨_, _, rfl, ?_⟩
    refine ⟨_, rfl, _, rfl, D, _, rfl, DPut.k (k := .inr "turn") h1 (by rw [sizeLine_eq]; show 4 < _; decide), ?_⟩
    rw [put_turn]
    have DG : D ≠ G := fun z => by rw [z, h2] at h1; cases h1
    have DC : D ≠ C := fun z => by rw [z, h3] at h1; cases h1
    refine ⟨by show 4 ≤ sizeLine; decide, fun p np => ?_⟩
    have e1 : (upd H D (.dK (stD G C r (t + 1)))) D = some (.dK (stD G C r (t + 1))) := upd_same
    have e2 : (upd H D (.dK (stD G C r (t + 1)))) G = some (.lst (gs.map V.int)) := by rw [upd_ne (Ne.symm DG)]; exact h2
    have e3 : (upd H D (.dK (stD G C r (t + 1)))) C = some (.lst (cs.map V.int)) := by rw [upd_ne (Ne.symm DC)]; exact h3
    have kp : KeepS D G H (upd H D (.dK (stD G C r (t + 1)))) := fun b o n1 _ e => by rw [upd_ne n1]; exact e
    generalize upd H D (.dK (stD G C r (t + 1))) = H1 at np e1 e2 e3 kp
    have hS2 : St D G C fu H1 := ⟨⟨r, t + 1, gs, cs, e1, e2, e3, by omega, by omega⟩, nGC⟩
    have sm : Same H1 (upd H1 p (.lst [.int 2147483629, .int 2147483587, .int 2147483579, .int 2147483563])) := same_newF (Same.refl H1) np
    have hp : (upd H1 p (.lst [.int 2147483629, .int 2147483587, .int 2147483579, .int 2147483563])) p = some (.lst [.int 2147483629, .int 2147483587, .int 2147483579, .int 2147483563]) := upd_same
    generalize upd H1 p (.lst [.int 2147483629, .int 2147483587, .int 2147483579, .int 2147483563]) = H2 at sm hp
    refine ⟨p, rfl, ⟨_, SqL.of hp⟩, for_list (K := K) (a := p) (xs := [.int 2147483629, .int 2147483587, .int 2147483579, .int 2147483563])
      (fun i σ H' => ∃ (fnd : Int) (x3 x4 x5 : Option V), σ = [some (.ref D), some (.int (t + 1)), some (.int fnd), x3, x4, x5] ∧ H2 = H')
      ⟨0, none, none, none, rfl, rfl⟩ (fun i σ H' _ ⟨_, _, _, _, _, e⟩ => by rw [← e]; exact SqL.of hp) ?_ ?_⟩
    · rintro i x σ H' hi ⟨fnd, x3, x4, x5, rfl, rfl⟩
      obtain ⟨q, rfl, q0, q1⟩ : ∃ q : Int, x = .int q ∧ 0 < q ∧ q < 2147483648 := by
        have hm := List.mem_of_getElem? hi
        simp only [List.mem_cons, List.not_mem_nil, or_false] at hm
        rcases hm with rfl | rfl | rfl | rfl <;> exact ⟨_, rfl, by decide, by decide⟩
      refine ⟨_, rfl, _, _, rfl, rfl, .inl ⟨by decide, by decide⟩, _, rfl, _, _, rfl, rfl, ⟨by decide, by decide⟩, _, _, rfl, rfl, ?_⟩
      have d0 : 0 ≤ q / 41 := Int.ediv_nonneg (by omega) (by decide)
      have d1 : q / 41 ≤ q := Int.ediv_le_self _ (by omega)
      refine ⟨_, rfl, D, _, rfl, .inl ⟨_, .inr "cells", .inl (sm _ _ e1), rfl, st_cells.symm⟩, C, rfl, ⟨_, SqL.of (sm _ _ e3)⟩, for_list (K := K) (a := C) (xs := cs.map V.int)
        (fun j σ H' => ∃ (b : Int) (y5 : Option V), σ = [some (.ref D), some (.int (t + 1)), some (.int fnd), some (.int q), some (.int b), y5] ∧ H2 = H' ∧ 0 ≤ b ∧ b < 9223372036854775808)
        ⟨_, x5, rfl, rfl, by omega, by omega⟩ (fun i σ H' _ ⟨_, _, _, e, _⟩ => by rw [← e]; exact SqL.of (sm _ _ e3)) ?_ ?_⟩
      · rintro j y σ H' hj ⟨b, y5, rfl, rfl, b0, b1⟩
        obtain ⟨c, hc, rfl⟩ : ∃ c, cs[j]? = some c ∧ V.int c = y := by
          rw [List.getElem?_map] at hj
          cases e : cs[j]? with
          | none => rw [e] at hj; cases hj
          | some c => rw [e] at hj; exact ⟨c, rfl, Option.some.inj hj⟩
        refine ⟨_, rfl, _, _, rfl, rfl, .inr ⟨by decide, by decide⟩, _, rfl, _, _, rfl, rfl, _, rfl, _, _, rfl, rfl, .inl ⟨_, rfl, _, rfl, _, _, rfl, rfl, q0, ?_⟩⟩
        have m0 := Int.emod_nonneg (b * 48271 + c + (t + 1)) (Int.ne_of_gt q0)
        have m1 := Int.emod_lt_of_pos (b * 48271 + c + (t + 1)) q0
        exact ⟨_, _, rfl, rfl, m0, by omega⟩
      · rintro σ H' ⟨b, y5, rfl, rfl, b0, b1⟩
        refine ⟨_, rfl, _, _, rfl, rfl, .inr ⟨by decide, by decide⟩, _, rfl, _, _, rfl, rfl, ⟨by decide, by decide, by omega⟩, .inl ⟨_, rfl, _, rfl, _, _, rfl, rfl, q0, _, _, rfl, rfl, ?_⟩⟩
        exact ⟨_, _, _, _, rfl, rfl⟩
    · rintro σ H' ⟨fnd, x3, x4, x5, rfl, rfl⟩
      exact ⟨_, rfl, k _ _ (hS2.same sm) (kp.trans (KeepS.of sm))⟩
end
end K88
set_option maxRecDepth 100000
set_option maxHeartbeats 4000000
namespace K88
open PySem PySem.Spec PyProof.Rows L2 TL
/-! ### _law_draw, _law_pick -/
abbrev sDraw : Stmt := topS 35
abbrev nmDraw : List Str := ["state", "room", "found"]
def spDraw : Sp := fun vs H Q _ => ∃ (D G C : Addr) (f : Nat) (m : Int), vs = [.ref D, .int m] ∧ St D G C (f + 1) H ∧ 0 < m ∧ m < 1000000000 ∧ ∀ (i : Int) H', 0 ≤ i → i < m → St D G C f H' → KeepS D G H H' → Q (.int i) H'
abbrev sPick : Stmt := topS 36
abbrev nmPick : List Str := ["state", "some"]
def spPick : Sp := fun vs H Q _ => ∃ (D G C a : Addr) (f : Nat) (xs : List V), vs = [.ref D, .ref a] ∧ St D G C (f + 1) H ∧ H a = some (.lst xs) ∧ a ≠ G ∧ xs ≠ [] ∧ xs.length ≤ 1000 ∧ ∀ x H', x ∈ xs → St D G C f H' → KeepS D G H H' → Q x H'
theorem St.keep {D G C : Addr} {f : Nat} {H H' : Hp} (h : St D G C f H) (hd : H' D = H D) (hg : H' G = H G) (hc : H' C = H C) : St D G C f H' := by
  obtain ⟨⟨r, t, gs, cs, h1, h2, h3, h4, h5⟩, n⟩ := h
  exact ⟨⟨r, t, gs, cs, hd.trans h1, hg.trans h2, hc.trans h3, h4, h5⟩, n⟩
theorem atI_nat {α : Type} {l : List α} {j : Nat} {x : α} (h : l[j]? = some x) : atI l (j : Int) = some x := by
  have hj : j < l.length := (List.getElem?_eq_some_iff.mp h).1
  unfold atI ixN
  rw [if_pos (by omega), if_pos (by omega)]
  simpa using h
section
variable {P : Program} {w : World} {K : PySem.W.Frag} {mg : Str → Option Value} {base : Heap}
theorem scDraw : FnScope nmDraw ["state", "room"] (defScope sDraw) := ⟨rfl, rfl, rfl, by decide +kernel, rfl, by decide +kernel, by decide +kernel⟩
theorem ok_draw (T : Txt K mg) (GM : Prom P w K mg base CX0 1 "_law_mixed" ["state"] spMixed) (Dd : Df K mg "_law_draw" sDraw ["state", "room"]) : Prom P w K mg base CX0 2 "_law_draw" ["state", "room"] spDraw := by
  refine prom_of Dd scDraw (fun vs H Q E h => ?_) (fun f cdv A outer s H vs Q E hr h => ?_)
  · obtain ⟨D, G, C, f, m, rfl, _⟩ := h
    rfl
  · obtain ⟨D, G, C, fu, m, rfl, hS, m0, m1, k⟩ := h
    have nd := scDraw.nd
    have hu1 := hr.units
    have hu2 : (A.deeper (envOfC "_law_draw" (defScope sDraw) s.heap.objs.size f cdv)).units + 1 < cLine := by omega
    refine ⟨_, pss_cons (ps_if (pt_cmpR op_eq (pe_dget hu2 (pv 0) pe_str (fun _ _ => rfl)) pe_int (nomark _))
        (pss_one (ps_dput hu2 (pv 0) pe_str (pe_ifExp (pt_cmpR ((op_neD hr.units).or (op_neL (Nat.lt_of_le_of_lt (Nat.le_add_right _ 64) hr.units))) (pe_dget hu2 (pv 0) pe_str (fun _ _ => rfl)) (pe_lst pa_nil) (nomark _))
          (pe_bm PySem.F.plainAttrs_list PySem.F.slot_list_pop PySem.F.type_list_pop mt_popAt (pe_dget hu2 (pv 0) pe_str (fun _ _ => rfl)) (pa_cons pe_int pa_nil)) (pe_callP GM hr pass0 (pa_cons (pv 0) pa_nil))) (by rfl))) pss_nil)
      (pss_cons (ps_set (i := 2) nd rfl (Or.inl rfl) (pe_op op_mod (pe_callTy call_int1 (by rfl) T.int PyProof.Rows.boot_int (pa_cons (pe_dget hu2 (pv 0) pe_str (fun _ _ => rfl)) pa_nil)) (pv 1)))
      (pss_cons (ps_dput hu2 (pv 0) pe_str (pe_op op_fdivW (pe_dget hu2 (pv 0) pe_str (fun _ _ => rfl)) (pv 1)) (by rfl))
      (pss_one (ps_ret (pv 2))))), ?_⟩
    have DGof : ∀ {H : Hp} {r t : Int} {gs : List Int}, H D = some (.dK (stD G C r t)) → H G = some (.lst (gs.map V.int)) → D ≠ G := fun h1 h2 z => by rw [z, h2] at h1; cases h1
    have put : ∀ {H1 : Hp} {r t x : Int} {gs cs : List Int} {f0 : Nat}, H1 D = some (.dK (stD G C r t)) → H1 G = some (.lst (gs.map V.int)) → H1 C = some (.lst (cs.map V.int)) → 0 ≤ t → t + f0 ≤ 1000000000000 → G ≠ C →
        St D G C f0 (upd H1 D (.dK (stD G C x t))) := fun {H1 r t x gs cs f0} e1 e2 e3 e4 e5 n => by
      have DG := DGof e1 e2
      have DC : D ≠ C := fun z => by rw [z, e3] at e1; cases e1
      exact ⟨⟨x, t, gs, cs, upd_same, by rw [upd_ne (Ne.symm DG)]; exact e2, by rw [upd_ne (Ne.symm DC)]; exact e3, e4, e5⟩, n⟩
    have kput : ∀ {H1 : Hp} {o : HO}, KeepS D G H1 (upd H1 D o) := fun b o n1 _ e => by rw [upd_ne n1]; exact e
    have hm : CDivW 0 m := wide_div (b := 64) m0 (by omega) (by decide) (by decide)
    have len4 : ∀ {g c : Addr} {r t : Int}, (stD g c r t).length < sizeLine := by
      intro g c r t
      rw [sizeLine_eq]
      show 4 < _
      decide
    obtain ⟨⟨r, t, gs, cs, h1, h2, h3, h4, h5⟩, nGC⟩ := hS
    refine ⟨_, rfl, D, _, rfl, .inl ⟨_, .inr "rest", .inl h1, rfl, st_rest.symm⟩, rfl, _, rfl, ?_⟩
    by_cases hr0 : r = 0
    · rw [decide_eq_true (congrArg V.int hr0)]
      refine iteT ?_
      refine ⟨_, rfl, D, _, rfl, .inl ⟨_, .inr "great", .inl h1, rfl, st_great.symm⟩, Nat.zero_le _, fun p np => ?_⟩
      have sm := same_newF (Same.refl H) (o := .lst []) np
      cases gs with
      | nil =>
        refine .inl ⟨.list [], .list [], .lst (SqL.of (sm _ _ h2)) .nil, .lst (SqL.of upd_same) .nil, shaped_nil, shaped_nil, _, rfl, ?_⟩
        rw [eqv_nil]
        refine iteF ?_
        refine ⟨_, rfl, D, G, C, fu, rfl, ⟨⟨r, t, [], cs, sm _ _ h1, sm _ _ h2, sm _ _ h3, h4, by omega⟩, nGC⟩, fun i H1 hS1 kp1 => ?_⟩
        obtain ⟨⟨r1, t1, gs1, cs1, e1, e2, e3, e4, e5⟩, _⟩ := hS1
        refine ⟨_, rfl, D, _, rfl, DPut.k (k := .inr "rest") e1 len4, ?_⟩
        rw [put_rest]
        have hS2 := put (x := i) e1 e2 e3 e4 e5 nGC
        have kp2 := ((KeepS.of sm).trans kp1).trans (kput (o := .dK (stD G C i t1)))
        generalize upd H1 D (.dK (stD G C i t1)) = H2 at hS2 kp2
        obtain ⟨⟨r2, t2, gs2, cs2, e1, e2, e3, e4, e5⟩, _⟩ := hS2
        refine ⟨_, rfl, D, _, rfl, .inl ⟨_, .inr "rest", .inl e1, rfl, st_rest.symm⟩, .inl ⟨_, rfl, _, rfl, _, _, rfl, rfl, m0, ?_⟩⟩
        refine ⟨_, rfl, D, _, rfl, .inl ⟨_, .inr "rest", .inl e1, rfl, st_rest.symm⟩, _, rfl, _, _, rfl, rfl, hm, _, rfl, D, _, rfl, DPut.k (k := .inr "rest") e1 len4, ?_⟩
        rw [put_rest]
        exact ⟨_, rfl, k _ _ (Int.emod_nonneg _ (Int.ne_of_gt m0)) (Int.emod_lt_of_pos _ m0) (put e1 e2 e3 e4 e5 nGC) (kp2.trans kput)⟩
      | cons g0 gs =>
        refine .inr ⟨G, p, _, [], rfl, rfl, SqL.of (sm _ _ h2), SqL.of upd_same, by simp, _, rfl, ?_⟩
        refine iteT ?_
        have h1' := sm _ _ h1
        have h2' := sm _ _ h2
        have h3' := sm _ _ h3
        have kp0 := KeepS.of (D := D) (G := G) sm
        generalize upd H p (.lst []) = H1 at h1' h2' h3' kp0
        refine ⟨_, rfl, D, _, rfl, .inl ⟨_, .inr "great", .inl h1', rfl, st_great.symm⟩, .inl ⟨rfl, _, SqL.of h2'⟩, G, _, 0, 0, .int g0, rfl, rfl, h2', by decide, by decide, by simp [seqIndex?], by simp, ?_⟩
        have e0 : (List.map V.int (g0 :: gs)).eraseIdx 0 = gs.map V.int := by simp
        rw [e0]
        have DG := DGof h1' h2'
        have e1 : (upd H1 G (.lst (gs.map V.int))) D = some (.dK (stD G C r t)) := by rw [upd_ne DG]; exact h1'
        have e2 : (upd H1 G (.lst (gs.map V.int))) G = some (.lst (gs.map V.int)) := upd_same
        have e3 : (upd H1 G (.lst (gs.map V.int))) C = some (.lst (cs.map V.int)) := by rw [upd_ne (Ne.symm nGC)]; exact h3'
        have kp1 : KeepS D G H (upd H1 G (.lst (gs.map V.int))) := kp0.trans fun b o _ n2 e => by rw [upd_ne n2]; exact e
        generalize upd H1 G (.lst (gs.map V.int)) = H2 at e1 e2 e3 kp1
        refine ⟨_, rfl, D, _, rfl, DPut.k (k := .inr "rest") e1 len4, ?_⟩
        rw [put_rest]
        have hS2 := put (x := g0) (f0 := fu) e1 e2 e3 h4 (by omega) nGC
        have kp2 := kp1.trans (kput (o := .dK (stD G C g0 t)))
        generalize upd H2 D (.dK (stD G C g0 t)) = H3 at hS2 kp2
        obtain ⟨⟨r2, t2, gs2, cs2, e1, e2, e3, e4, e5⟩, _⟩ := hS2
        refine ⟨_, rfl, D, _, rfl, .inl ⟨_, .inr "rest", .inl e1, rfl, st_rest.symm⟩, .inl ⟨_, rfl, _, rfl, _, _, rfl, rfl, m0, ?_⟩⟩
        refine ⟨_, rfl, D, _, rfl, .inl ⟨_, .inr "rest", .inl e1, rfl, st_rest.symm⟩, _, rfl, _, _, rfl, rfl, hm, _, rfl, D, _, rfl, DPut.k (k := .inr "rest") e1 len4, ?_⟩
        rw [put_rest]
        exact ⟨_, rfl, k _ _ (Int.emod_nonneg _ (Int.ne_of_gt m0)) (Int.emod_lt_of_pos _ m0) (put e1 e2 e3 e4 e5 nGC) (kp2.trans kput)⟩
    · rw [decide_eq_false (fun q => hr0 (V.int.inj q))]
      refine iteF ?_
      refine ⟨_, rfl, D, _, rfl, .inl ⟨_, .inr "rest", .inl h1, rfl, st_rest.symm⟩, .inl ⟨_, rfl, _, rfl, _, _, rfl, rfl, m0, ?_⟩⟩
      refine ⟨_, rfl, D, _, rfl, .inl ⟨_, .inr "rest", .inl h1, rfl, st_rest.symm⟩, _, rfl, _, _, rfl, rfl, hm, _, rfl, D, _, rfl, DPut.k (k := .inr "rest") h1 len4, ?_⟩
      rw [put_rest]
      exact ⟨_, rfl, k _ _ (Int.emod_nonneg _ (Int.ne_of_gt m0)) (Int.emod_lt_of_pos _ m0) (put h1 h2 h3 h4 (by omega) nGC) kput⟩
theorem scPick : FnScope nmPick ["state", "some"] (defScope sPick) := ⟨rfl, rfl, rfl, by decide +kernel, rfl, by decide +kernel, by decide +kernel⟩
theorem ok_pick (T : Txt K mg) (GD : Prom P w K mg base CX0 2 "_law_draw" ["state", "room"] spDraw) (Dd : Df K mg "_law_pick" sPick ["state", "some"]) : Prom P w K mg base CX0 3 "_law_pick" ["state", "some"] spPick := by
  refine prom_of Dd scPick (fun vs H Q E h => ?_) (fun f cdv A outer s H vs Q E hr h => ?_)
  · obtain ⟨D, G, C, a, f, xs, rfl, _⟩ := h
    rfl
  · obtain ⟨D, G, C, a, fu, xs, rfl, hS, ha, aG, xne, xl, k⟩ := h
    refine ⟨_, pss_one (ps_ret (pe_ix ix_list (pv 1) (pe_callP GD hr pass0 (pa_cons (pv 0) (pa_cons (pe_callB call_len (by rfl) T.len (by decide +kernel) (pa_cons (pv 1) pa_nil)) pa_nil))) (fun _ _ => rfl))), ?_⟩
    have lp : 0 < xs.length := List.length_pos_iff.mpr xne
    refine ⟨_, rfl, _, rfl, _, rfl, _, xs.length, rfl, .inl ⟨xs, SqL.of ha, rfl⟩, D, G, C, fu, _, rfl, hS, by omega, by omega, fun i H' i0 i1 hS' kp => ?_⟩
    obtain ⟨⟨r, t, gs, cs, h1, _⟩, _⟩ := hS
    have aD : a ≠ D := fun z => by rw [z, h1] at ha; cases ha
    obtain ⟨j, rfl⟩ := Int.eq_ofNat_of_zero_le i0
    have hj : j < xs.length := by omega
    refine ⟨a, xs, (j : Int), xs[j], rfl, rfl, SqL.of (kp a _ aD aG ha), ?_, k _ _ (List.getElem_mem hj) hS' kp⟩
    exact atI_nat (List.getElem?_eq_getElem hj)
end
end K88
set_option maxRecDepth 100000
set_option maxHeartbeats 4000000
namespace K88
open PySem PySem.Spec PyProof.Rows L2 TL
/-! ### _law_begun -/
abbrev sBegun : Stmt := topS 33
abbrev nmBegun : List Str := ["script", "great", "cell"]
def spBegun (K : PySem.W.Frag) : Sp := fun vs H Q _ => ∃ (a : Addr) (ns : List Int), vs = [.ref a] ∧ SqL K H a (ns.map V.int) ∧ ns.length ≤ 1000 ∧ ∀ (D G C : Addr) H', Same H H' → St D G C 1000000000000 H' → H D = none → H G = none → H C = none → Q (.ref D) H'
theorem iteB {b : Bool} {A B : Prop} (h1 : A) (h2 : B) : if b = true then A else B := by
  cases b
  · exact iteF h2
  · exact iteT h1
section
variable {P : Program} {w : World} {K : PySem.W.Frag} {mg : Str → Option Value} {base : Heap}
theorem scBegun : FnScope nmBegun ["script"] (defScope sBegun) := ⟨rfl, rfl, rfl, by decide +kernel, rfl, by decide +kernel, by decide +kernel⟩
theorem ok_begun (T : Txt K mg) (Dd : Df K mg "_law_begun" sBegun ["script"]) : Prom P w K mg base CX0 1 "_law_begun" ["script"] (spBegun K) := by
  refine prom_of Dd scBegun (fun vs H Q E h => ?_) (fun f cdv A outer s H vs Q E hr h => ?_)
  · obtain ⟨a, ns, rfl, _⟩ := h
    rfl
  · obtain ⟨a, ns, rfl, ha, hl, k⟩ := h
    have nd := scBegun.nd
    refine ⟨_, pss_cons (ps_setLc (i := 1) (own := [("cell", 2)]) (g := gName 2) rfl nd rfl rfl (by rfl) (pi_list (pv 0)) (blkOk_by (own := [("cell", 2)]) (N := nmBegun) (sc := defScope sBegun) (by decide +kernel))
        (fun _ _ _ _ _ => pg_name (i := 2) nd rfl (Or.inl rfl)) (fun _ _ _ _ _ => pts_one (pt_cmpR op_ge (pe_callB call_abs (by rfl) T.abs PyProof.Rows.boot_abs (pa_cons (pv 2) pa_nil)) (pe_op op_pow pe_int pe_int) (nomark _)))
        (fun _ _ _ _ _ => pe_op op_sub (pe_callB call_abs (by rfl) T.abs PyProof.Rows.boot_abs (pa_cons (pv 2) pa_nil)) (pe_op op_pow pe_int pe_int)))
      (pss_one (ps_ret (pe_disp (pps_cons pe_str (pv 1) (pps_cons pe_str (pe_lc (own := [("cell", 2)]) (g := gName 2) (tt := tYes) rfl nd (pi_list (pv 0)) (blkOk_by (own := [("cell", 2)]) (N := nmBegun) (sc := defScope sBegun) (by decide +kernel))
        (fun _ _ _ _ _ => pg_name (i := 2) nd rfl (Or.inl rfl)) (fun _ _ _ _ _ => pts_nil) (fun _ _ _ _ _ => pe_callB call_abs (by rfl) T.abs PyProof.Rows.boot_abs (pa_cons (pv 2) pa_nil)))
        (pps_cons pe_str pe_int (pps_cons pe_str pe_int pps_nil)))) rfl rfl (by simp) (by decide)))), ?_⟩
    have lx : (ns.map V.int).length = ns.length := List.length_map ..
    refine ⟨_, rfl, a, rfl, ⟨_, ha⟩, fun G nG => lc_it (walk_list (K := K) (a := a) (xs := ns.map V.int)) (fun i H' => ∃ gs : List Int, upd H G (.lst (gs.map V.int)) = H' ∧ gs.length ≤ i) ⟨[], rfl, Nat.le_refl _⟩ (fun i H' _ ⟨gs, e, _⟩ => by rw [← e]; exact (same_newF (Same.refl H) nG).seq ha) ?_ ?_⟩
    · rintro i x H1 H2 hi ⟨gs, rfl, hg⟩ ⟨rfl, hx⟩
      obtain ⟨c, hc, rfl⟩ : ∃ c, ns[i]? = some c ∧ V.int c = x := by
        rw [List.getElem?_map] at hx
        cases e : ns[i]? with
        | none => rw [e] at hx; cases hx
        | some c => rw [e] at hx; exact ⟨c, rfl, Option.some.inj hx⟩
      refine ⟨rfl, _, rfl, c, rfl, _, _, rfl, rfl, ⟨by decide, by decide, by decide⟩, _, _, rfl, rfl, _, rfl, ?_⟩
      refine iteB ?_ ?_
      · refine ⟨_, rfl, c, rfl, _, _, rfl, rfl, ⟨by decide, by decide, by decide⟩, _, _, rfl, rfl, _, upd_same, ?_, ?_⟩
        · rw [List.length_map]
          exact lt_line (by omega)
        · rw [upd_upd]
          exact ⟨gs ++ [_], by rw [List.map_append]; rfl, by simp; omega⟩
      · exact ⟨gs, rfl, by omega⟩
    · rintro H1 ⟨gs, rfl, hg⟩
      have s1 : Same H (upd H G (.lst (gs.map V.int))) := same_newF (Same.refl H) nG
      intro D nD
      have nD0 := s1.free nD
      have s2 := same_newF s1 (o := .dK []) nD
      have GD : G ≠ D := ne_of_none upd_same nD
      have hD : (upd (upd H G (.lst (gs.map V.int))) D (.dK [])) D = some (.dK []) := upd_same
      have hG : (upd (upd H G (.lst (gs.map V.int))) D (.dK [])) G = some (.lst (gs.map V.int)) := by rw [upd_ne GD]; exact upd_same
      generalize upd (upd H G (.lst (gs.map V.int))) D (.dK []) = H2 at s2 hD hG
      refine ⟨_, rfl, _, rfl, a, rfl, ⟨_, s2.seq ha⟩, fun C nC => lc_it (walk_list (K := K) (a := a) (xs := ns.map V.int)) (fun i H' => ∃ cs : List Int, upd H2 C (.lst (cs.map V.int)) = H' ∧ cs.length ≤ i) ⟨[], rfl, Nat.le_refl _⟩ (fun i H' _ ⟨gs, e, _⟩ => by rw [← e]; exact (same_newF s2 nC).seq ha) ?_ ?_⟩
      · rintro i x H3 H4 hi ⟨cs, rfl, hg⟩ ⟨rfl, hx⟩
        obtain ⟨c, hc, rfl⟩ : ∃ c, ns[i]? = some c ∧ V.int c = x := by
          rw [List.getElem?_map] at hx
          cases e : ns[i]? with
          | none => rw [e] at hx; cases hx
          | some c => rw [e] at hx; exact ⟨c, rfl, Option.some.inj hx⟩
        refine ⟨rfl, _, rfl, c, rfl, _, upd_same, ?_, ?_⟩
        · rw [List.length_map]
          exact lt_line (by omega)
        · rw [upd_upd]
          exact ⟨cs ++ [_], by rw [List.map_append]; rfl, by simp; omega⟩
      · rintro H3 ⟨cs, rfl, hc⟩
        have s3 := same_newF s2 (o := .lst (cs.map V.int)) nC
        have CD : C ≠ D := (ne_of_none hD nC).symm
        have CG : C ≠ G := (ne_of_none hG nC).symm
        refine ⟨by rw [upd_ne (Ne.symm CD)]; exact hD, [(.inr "great", .ref G), (.inr "cells", .ref C), (.inr "rest", .int 0), (.inr "turn", .int 0)], rfl, (show 4 ≤ 15 by decide), ?_⟩
        have em : mergeK [] [((.inr "great" : Key), V.ref G), (.inr "cells", .ref C), (.inr "rest", .int 0), (.inr "turn", .int 0)] = stD G C 0 0 := by
          simp [mergeK, putK, stD, kne1, kne2, kne3, kne4, kne5, kne6]
        rw [em]
        refine k D G C _ (same_new s3 nD0) ⟨⟨0, 0, gs, cs, upd_same, ?_, ?_, by decide, by decide⟩, Ne.symm CG⟩ nD0 nG (s2.free nC)
        · rw [upd_ne GD, upd_ne (Ne.symm CG)]
          exact hG
        · rw [upd_ne CD]
          exact upd_same
end
end K88
set_option maxRecDepth 100000
set_option maxHeartbeats 4000000
namespace K88
open PySem PySem.Spec PyProof.Rows L2 TL
/-! ### _law_plain -/
abbrev sPlainL : Stmt := topS 37
abbrev nmPlainL : List Str := ["value", "one"]
def isDict : D → Bool
  | .dict _ => true
  | _ => false
theorem kit_dict (d : D) : kitB (tyName d) "dict" = some (isDict d) := by cases d <;> (dsimp only [tyName, isDict]; decide +kernel)
theorem kit_any2 {K : PySem.W.Frag} {t a b : String} {x y : Bool} (h1 : kitB t a = some x) (h2 : kitB t b = some y) : PySem.W.kitAny K (.type t) [.type a, .type b] = some (x || y) := by
  have e1 : PySem.W.kitOne K (.type t) (.type a) = some x := kit_ty h1
  have e2 : PySem.W.kitOne K (.type t) (.type b) = some y := kit_ty h2
  unfold PySem.W.kitAny
  rw [e1]
  cases x with
  | true => rfl
  | false =>
    show PySem.W.kitAny K (.type t) [.type b] = _
    unfold PySem.W.kitAny
    rw [e2]
    cases y <;> rfl
theorem isi2_ans {K : PySem.W.Frag} {H : Hp} {v : V} {d : D} {a b : String} {x y : Bool} {Q : VK} (h : Dp K H v d) (k1 : kitB (tyName d) a = some x) (k2 : kitB (tyName d) b = some y) {p : Addr} (hp : H p = some (.tup [.ty a, .ty b])) (q : Q (.bl (x || y)) H) : rIsiT K [v, .ref p] H Q :=
  ⟨v, p, [.ty a, .ty b], .type (tyName d), [.type a, .type b], x || y, rfl, hp, .cons (.ty a) (.cons (.ty b) .nil), ty_dp h, kit_any2 k1 k2, q⟩
def plLeaf : D → Bool
  | .none => true
  | .str _ => true
  | .int _ => true
  | _ => false
/-- plain data, so deep -/
def plB : Nat → D → Bool
  | 0, d => plLeaf d
  | n + 1, .tuple ds => ds.all (plB n)
  | _ + 1, d => plLeaf d
theorem plB_leaf {n : Nat} {d : D} (h : ∀ ds, d ≠ .tuple ds) : plB n d = plLeaf d := by
  cases n with
  | zero => rfl
  | succ n => cases d <;> first | rfl | exact absurd rfl (h _)
theorem leaf_pl {d : D} (h : leafB d = true) : plLeaf d = true := by cases d <;> first | rfl | cases h
theorem val_pl : ∀ {n : Nat} {d : D}, valB n d = true → plB n d = true
  | 0, d, h => leaf_pl h
  | n + 1, d, h => by
    cases d with
    | tuple ds =>
      have h : ds.all (valB n) = true := h
      show ds.all (plB n) = true
      exact List.all_eq_true.mpr fun e he => val_pl (List.all_eq_true.mp h e he)
    | _ => exact leaf_pl h
def spPlainL (K : PySem.W.Frag) (n : Nat) : Sp := fun vs H Q _ => ∃ (v : V) (d : D), vs = [v] ∧ Dp K H v d ∧ plB n d = true ∧ sz d ≤ 1000000 ∧ ∀ H', Same H H' → Q (.bl true) H'
section
variable {P : Program} {w : World} {K : PySem.W.Frag} {mg : Str → Option Value} {base : Heap}
theorem scPlainL : FnScope nmPlainL ["value"] (defScope sPlainL) := ⟨rfl, rfl, rfl, by decide +kernel, rfl, by decide +kernel, by decide +kernel⟩
theorem ok_plainL (T : Txt K mg) (Dd : Df K mg "_law_plain" sPlainL ["value"]) : ∀ n, Prom P w K mg base CX0 (n + 1) "_law_plain" ["value"] (spPlainL K n)
  | 0 => by
    refine prom_of Dd scPlainL (fun vs H Q E h => ?_) (fun f cdv A outer s H vs Q E hr h => ?_)
    · obtain ⟨v, d, rfl, _⟩ := h
      rfl
    · obtain ⟨v, d, rfl, hd, hv, hz, k⟩ := h
      refine ⟨_, pss_cons (ps_if (pt_val (pe_callB call_isiT (by rfl) T.isinstance PyProof.Rows.boot_isinstance (pa_cons (pv 0) (pa_cons (pe_tup (pa_cons (pe_ty T.list PyProof.Rows.boot_list) (pa_cons (pe_ty T.tuple PyProof.Rows.boot_tuple) pa_nil))) pa_nil)))) pss_nope pss_nil)
        (pss_cons (ps_if (pt_val (pe_isi (n := "dict") T.isinstance T.dict (by decide +kernel) (pv 0))) pss_nope pss_nil)
        (pss_one (ps_ret (pe_or (pe_cmpR op_isN (pv 0) pe_non (nomark _)) (pe_one (pe_callB call_isiT (by rfl) T.isinstance PyProof.Rows.boot_isinstance (pa_cons (pv 0) (pa_cons (pe_tup (pa_cons (pe_ty T.int PyProof.Rows.boot_int) (pa_cons (pe_ty T.str PyProof.Rows.boot_str) pa_nil))) pa_nil)))))))), ?_⟩
      have hl : plLeaf d = true := hv
      have e1 : (isLst d || isTup d) = false := by cases d <;> first | rfl | cases hl
      have e2 : isDict d = false := by cases d <;> first | rfl | cases hl
      have e3 : (isNon d || (isInt d || isStr d)) = true := by cases d <;> first | rfl | cases hl
      refine ⟨_, rfl, by show 2 ≤ sizeLine; decide, fun p np => ?_⟩
      refine ⟨v, p, [.ty "list", .ty "tuple"], .type (tyName d), [.type "list", .type "tuple"], isLst d || isTup d, rfl, upd_same, .cons (.ty _) (.cons (.ty _) .nil), ty_dp (dp_same (same_newF (Same.refl H) np) hd), kit_any2 (kit_lst d) (kit_tup d), ?_⟩
      refine ⟨_, rfl, ?_⟩
      rw [e1]
      refine iteF ?_
      have s1 := same_newF (Same.refl H) (o := .tup [.ty "list", .ty "tuple"]) np
      generalize upd H p (.tup [.ty "list", .ty "tuple"]) = H1 at s1
      refine ⟨_, rfl, isi_ans (dp_same s1 hd) (kit_dict d) ⟨_, rfl, ?_⟩⟩
      rw [e2]
      refine iteF ?_
      refine ⟨_, rfl, rfl, _, rfl, ?_⟩
      rw [non_dec hd]
      cases hn : isNon d with
      | true => exact iteT (k _ s1)
      | false =>
        rw [hn, Bool.false_or] at e3
        refine iteF ?_
        refine ⟨_, rfl, by show 2 ≤ sizeLine; decide, fun q nq => ?_⟩
        refine ⟨v, q, [.ty "int", .ty "str"], .type (tyName d), [.type "int", .type "str"], isInt d || isStr d, rfl, upd_same, .cons (.ty _) (.cons (.ty _) .nil), ty_dp (dp_same (same_newF s1 nq) hd), kit_any2 (kit_int d) (kit_str d), ?_⟩
        rw [e3]
        exact k _ (same_newF s1 nq)
  | n + 1 => by
    have GP := ok_plainL T Dd n
    refine prom_of Dd scPlainL (fun vs H Q E h => ?_) (fun f cdv A outer s H vs Q E hr h => ?_)
    · obtain ⟨v, d, rfl, _⟩ := h
      rfl
    · obtain ⟨v, d, rfl, hd, hv, hz, k⟩ := h
      have nd := scPlainL.nd
      refine ⟨_, pss_cons (ps_if (pt_val (pe_callB call_isiT (by rfl) T.isinstance PyProof.Rows.boot_isinstance (pa_cons (pv 0) (pa_cons (pe_tup (pa_cons (pe_ty T.list PyProof.Rows.boot_list) (pa_cons (pe_ty T.tuple PyProof.Rows.boot_tuple) pa_nil))) pa_nil))))
          (pss_one (ps_ret (pe_cmpR (op_eqD hr.units) (pe_lc (own := [("one", 1)]) (g := gName 1) rfl nd (pi_tup (pv 0)) (blkOk_by (own := [("one", 1)]) (N := nmPlainL) (sc := defScope sPlainL) (by decide +kernel))
            (fun _ _ _ _ _ => pg_name (i := 1) nd rfl (Or.inl rfl)) (fun _ _ _ _ _ => pts_one (pt_not (pt_val (pe_callP GP hr pass0 (pa_cons (pv 1) pa_nil))))) (fun _ _ _ _ _ => pe_int)) (pe_lst pa_nil) (nomark _)))) pss_nil)
        (pss_cons (ps_if (pt_val (pe_isi (n := "dict") T.isinstance T.dict (by decide +kernel) (pv 0))) pss_nope pss_nil)
        (pss_one (ps_ret (pe_or (pe_cmpR op_isN (pv 0) pe_non (nomark _)) (pe_one (pe_callB call_isiT (by rfl) T.isinstance PyProof.Rows.boot_isinstance (pa_cons (pv 0) (pa_cons (pe_tup (pa_cons (pe_ty T.int PyProof.Rows.boot_int) (pa_cons (pe_ty T.str PyProof.Rows.boot_str) pa_nil))) pa_nil)))))))), ?_⟩
      refine ⟨_, rfl, by show 2 ≤ sizeLine; decide, fun p np => ?_⟩
      refine ⟨v, p, [.ty "list", .ty "tuple"], .type (tyName d), [.type "list", .type "tuple"], isLst d || isTup d, rfl, upd_same, .cons (.ty _) (.cons (.ty _) .nil), ty_dp (dp_same (same_newF (Same.refl H) np) hd), kit_any2 (kit_lst d) (kit_tup d), ?_⟩
      refine ⟨_, rfl, ?_⟩
      have s1 := same_newF (Same.refl H) (o := .tup [.ty "list", .ty "tuple"]) np
      generalize upd H p (.tup [.ty "list", .ty "tuple"]) = H1 at s1
      by_cases ht : isTup d = true
      · obtain ⟨ds, rfl⟩ : ∃ ds, d = .tuple ds := by cases d <;> first | exact ⟨_, rfl⟩ | cases ht
        refine iteT ?_
        obtain ⟨a, xs, rfl, hT, hA⟩ := tup_dp hd rfl
        have hA : DpAll K H xs ds := hA
        have hk : ∀ e ∈ ds, plB n e = true := by
          have h : ds.all (plB n) = true := hv
          exact List.all_eq_true.mp h
        refine ⟨_, rfl, a, rfl, ⟨_, Same.tup s1 hT⟩, fun L nL => lc_it (walk_tup (K := K) (a := a) (xs := xs)) (fun i H' => Same H1 H' ∧ H' L = some (.lst [])) ⟨same_newF (Same.refl H1) nL, upd_same⟩ (fun i H' _ ⟨s2, _⟩ => Same.tup (s1.trans s2) hT) ?_ ?_⟩
        · rintro i x H2 H3 hi ⟨s2, hL⟩ ⟨rfl, hx⟩
          obtain ⟨e, he, hde⟩ := dpA_get hA hx
          have hm := List.mem_of_getElem? he
          refine ⟨rfl, _, rfl, x, e, rfl, dp_same (s1.trans s2) hde, hk e hm, ?_, fun H4 s4 => ⟨_, rfl, ?_⟩⟩
          · have := szA_mem hm
            have e1 : sz (.tuple ds) = 2 + szA ds := rfl
            omega
          · exact iteF ⟨s2.trans s4, s4 _ _ hL⟩
        · rintro H2 ⟨s2, hL⟩
          refine ⟨Nat.zero_le _, fun q nq => ⟨.list [], .list [], .lst (SqL.of (by rw [upd_ne (ne_of_none hL nq)]; exact hL)) .nil, .lst (SqL.of upd_same) .nil, shaped_nil, shaped_nil, ?_⟩⟩
          rw [eqv_nil]
          exact k _ ((s1.trans s2).trans (same_newF (Same.refl H2) nq))
      · have hl : plLeaf d = true := by
          rw [plB_leaf (fun ds q => by subst q; exact ht rfl)] at hv
          exact hv
        have e1 : (isLst d || isTup d) = false := by cases d <;> first | rfl | cases hl
        have e2 : isDict d = false := by cases d <;> first | rfl | cases hl
        have e3 : (isNon d || (isInt d || isStr d)) = true := by cases d <;> first | rfl | cases hl
        rw [e1]
        refine iteF ?_
        refine ⟨_, rfl, isi_ans (dp_same s1 hd) (kit_dict d) ⟨_, rfl, ?_⟩⟩
        rw [e2]
        refine iteF ?_
        refine ⟨_, rfl, rfl, _, rfl, ?_⟩
        rw [non_dec hd]
        cases hn : isNon d with
        | true => exact iteT (k _ s1)
        | false =>
          rw [hn, Bool.false_or] at e3
          refine iteF ?_
          refine ⟨_, rfl, by show 2 ≤ sizeLine; decide, fun q nq => ?_⟩
          refine ⟨v, q, [.ty "int", .ty "str"], .type (tyName d), [.type "int", .type "str"], isInt d || isStr d, rfl, upd_same, .cons (.ty _) (.cons (.ty _) .nil), ty_dp (dp_same (same_newF s1 nq) hd), kit_any2 (kit_int d) (kit_str d), ?_⟩
          rw [e3]
          exact k _ (same_newF s1 nq)
end
end K88
set_option maxRecDepth 100000
set_option maxHeartbeats 4000000
namespace K88
open PySem PySem.Spec PyProof.Rows L2 TL
/-! ### _law_value_text -/
abbrev sLvt : Stmt := topS 39
abbrev nmLvt : List Str := ["value", "one"]
def spLvt (K : PySem.W.Frag) (n : Nat) : Sp := fun vs H Q _ => ∃ (v : V) (d : D), vs = [v] ∧ Dp K H v d ∧ valB n d = true ∧ sz d ≤ 1000000 ∧ ∀ H', Same H H' → Q (.str (vtx d)) H'
theorem join_sp (ds : List D) : tl (Txt.join (Str.ofString " ") (ds.map vtx)) = vtA ds := by
  have go : ∀ ds : List D, joinL [32] (ds.map vt) = vtA ds := by
    intro ds
    induction ds with
    | nil => rfl
    | cons d r ih =>
      cases r with
      | nil => simp [joinL, vtA, vtR]
      | cons e r =>
        show vt d ++ ([32] ++ joinL [32] ((e :: r).map vt)) = vt d ++ vtR (e :: r)
        rw [ih]
        rfl
  rw [join_eq, tl_join, show tl (Str.ofString " ") = [32] from by decide +kernel, List.map_map]
  exact go ds
theorem sum_vt (ds : List D) : ((ds.map vtx).map (·.length)).sum ≤ 2 * szA ds := by
  induction ds with
  | nil => exact Nat.zero_le _
  | cons d r ih =>
    have := vt_len d
    have e1 : (vtx d).length = (vt d).length := len_tl _
    show (vtx d).length + ((r.map vtx).map (·.length)).sum ≤ 2 * (sz d + szA r)
    omega
section
variable {P : Program} {w : World} {K : PySem.W.Frag} {mg : Str → Option Value} {base : Heap}
theorem scLvt : FnScope nmLvt ["value"] (defScope sLvt) := ⟨rfl, rfl, rfl, by decide +kernel, rfl, by decide +kernel, by decide +kernel⟩
theorem leaf_str {K : PySem.W.Frag} {H : Hp} {v : V} {d : D} {Q : VK} (hd : Dp K H v d) (hl : leafB d = true) (hn : isNon d = false) (q : Q (.str (vtx d)) H) : (∃ i, [v] = [V.int i] ∧ i.natAbs.log2 < 1920 ∧ Q (.str (toString i)) H) ∨ ∃ a, [v] = [V.str a] ∧ Q (.str a) H := by
  cases d with
  | int i =>
    obtain rfl := dp_int hd
    exact .inl ⟨i, rfl, log_fig hl, q⟩
  | str z =>
    obtain rfl := dp_str hd
    have e : vtx (.str z) = z := ext_tl rfl
    rw [e] at q
    exact .inr ⟨z, rfl, q⟩
  | none => cases hn
  | _ => cases hl
theorem ok_lvt (T : Txt K mg) (Dd : Df K mg "_law_value_text" sLvt ["value"]) : ∀ n, Prom P w K mg base CX0 (n + 1) "_law_value_text" ["value"] (spLvt K n)
  | 0 => by
    refine prom_of Dd scLvt (fun vs H Q E h => ?_) (fun f cdv A outer s H vs Q E hr h => ?_)
    · obtain ⟨v, d, rfl, _⟩ := h
      rfl
    · obtain ⟨v, d, rfl, hd, hv, hz, k⟩ := h
      refine ⟨_, pss_cons (ps_if (pt_val (pe_isi T.isinstance T.tuple PyProof.Rows.boot_tuple (pv 0))) pss_nope pss_nil)
        (pss_one (ps_ret (pe_ifExp (pt_cmpR op_isN (pv 0) pe_non (nomark _)) pe_str (pe_callTy (call_str_int.or SkE.call_str_str) (by rfl) T.str PyProof.Rows.boot_str (pa_cons (pv 0) pa_nil))))), ?_⟩
      have hl : leafB d = true := hv
      have e1 : isTup d = false := by cases d <;> first | rfl | cases hl
      refine ⟨_, rfl, isi_ans hd (kit_tup d) ⟨_, rfl, ?_⟩⟩
      rw [e1]
      refine iteF ?_
      refine ⟨_, rfl, rfl, _, rfl, ?_⟩
      rw [non_dec hd]
      cases hn : isNon d with
      | true =>
        refine iteT ?_
        have : d = .none := by cases d <;> first | rfl | cases hn
        subst this
        exact k H (Same.refl H)
      | false =>
        refine iteF ?_
        exact ⟨_, rfl, leaf_str hd hl hn (k H (Same.refl H))⟩
  | n + 1 => by
    have GP := ok_lvt T Dd n
    refine prom_of Dd scLvt (fun vs H Q E h => ?_) (fun f cdv A outer s H vs Q E hr h => ?_)
    · obtain ⟨v, d, rfl, _⟩ := h
      rfl
    · obtain ⟨v, d, rfl, hd, hv, hz, k⟩ := h
      have nd := scLvt.nd
      refine ⟨_, pss_cons (ps_if (pt_val (pe_isi T.isinstance T.tuple PyProof.Rows.boot_tuple (pv 0)))
          (pss_one (ps_ret (pe_op op_add_str (pe_op op_add_str pe_str (pe_bm PySem.F.plainAttrs_str PySem.F.slot_str_join PySem.F.type_str_join mt_join pe_str (pa_cons (pe_lc (own := [("one", 1)]) (g := gName 1) (tt := tYes) rfl nd (pi_tup (pv 0)) (blkOk_by (own := [("one", 1)]) (N := nmLvt) (sc := defScope sLvt) (by decide +kernel))
            (fun _ _ _ _ _ => pg_name (i := 1) nd rfl (Or.inl rfl)) (fun _ _ _ _ _ => pts_nil) (fun _ _ _ _ _ => pe_callP GP hr pass0 (pa_cons (pv 1) pa_nil))) pa_nil))) pe_str))) pss_nil)
        (pss_one (ps_ret (pe_ifExp (pt_cmpR op_isN (pv 0) pe_non (nomark _)) pe_str (pe_callTy (call_str_int.or SkE.call_str_str) (by rfl) T.str PyProof.Rows.boot_str (pa_cons (pv 0) pa_nil))))), ?_⟩
      refine ⟨_, rfl, isi_ans hd (kit_tup d) ⟨_, rfl, ?_⟩⟩
      cases ht : isTup d with
      | true =>
        obtain ⟨ds, rfl⟩ : ∃ ds, d = .tuple ds := by cases d <;> first | exact ⟨_, rfl⟩ | cases ht
        refine iteT ?_
        obtain ⟨a, xs, rfl, hT, hA⟩ := tup_dp hd rfl
        have hA : DpAll K H xs ds := hA
        have lenx := dpA_len hA
        have hk : ∀ e ∈ ds, valB n e = true := by
          have h : ds.all (valB n) = true := hv
          exact List.all_eq_true.mp h
        have e0 : sz (.tuple ds) = 2 + szA ds := rfl
        have ls := len_szA ds
        refine ⟨rfl, _, rfl, a, rfl, ⟨_, hT⟩, fun L nL => lc_it (walk_tup (K := K) (a := a) (xs := xs)) (fun i H' => Same H H' ∧ H' L = some (.lst (((ds.take i).map vtx).map V.str))) ⟨same_newF (Same.refl H) nL, upd_same⟩ (fun i H' _ ⟨s2, _⟩ => Same.tup s2 hT) ?_ ?_⟩
        · rintro i x H2 H3 hi ⟨s2, hL⟩ ⟨rfl, hx⟩
          obtain ⟨e, he, hde⟩ := dpA_get hA hx
          have hm := List.mem_of_getElem? he
          refine ⟨rfl, _, rfl, x, e, rfl, dp_same s2 hde, hk e hm, ?_, fun H4 s4 => ?_⟩
          · have := szA_mem hm
            omega
          · refine ⟨_, s4 _ _ hL, ?_, same_new (s2.trans s4) nL, ?_⟩
            · rw [List.length_map, List.length_map, List.length_take]
              exact lt_line (by omega)
            · rw [upd_same, take_get he]
              simp
        · rintro H2 ⟨s2, hL⟩
          rw [lenx, List.take_length] at hL
          have su := sum_vt ds
          have hlen : (vtA ds).length ≤ 2 * szA ds := vtA_len ds
          have e1 : (Str.ofString " ").length = 1 := by decide +kernel
          have e2 : (Str.ofString "(").length = 1 := by decide +kernel
          have e3 : (Str.ofString ")").length = 1 := by decide +kernel
          have ej : (Txt.join (Str.ofString " ") (ds.map vtx)).length = (vtA ds).length := by rw [len_tl, join_sp]
          refine ⟨_, L, ds.map vtx, rfl, rfl, .inl (SqL.of hL), ?_, _, _, rfl, rfl, ?_, _, _, rfl, rfl, ?_, ?_⟩
          · rw [e1, List.length_map]
            omega
          · rw [ej, e2]
            exact le_line (by omega)
          · have : (Str.ofString "(" ++ Txt.join (Str.ofString " ") (ds.map vtx)).length = 1 + (vtA ds).length := by
              rw [len_tl, tl_append, List.length_append, join_sp]
              rfl
            rw [this, e3]
            exact le_line (by omega)
          · have e : Str.ofString "(" ++ Txt.join (Str.ofString " ") (ds.map vtx) ++ Str.ofString ")" = vtx (.tuple ds) := by
              apply ext_tl
              rw [tl_append, tl_append, join_sp, tl_vtx, show tl (Str.ofString "(") = [40] from by decide +kernel, show tl (Str.ofString ")") = [41] from by decide +kernel]
              show [40] ++ vtA ds ++ [41] = 40 :: (vtA ds ++ [41])
              simp
            rw [e]
            exact k _ s2
      | false =>
        have hl : leafB d = true := by
          rw [valB_leaf (fun ds q => by subst q; cases ht)] at hv
          exact hv
        refine iteF ?_
        refine ⟨_, rfl, rfl, _, rfl, ?_⟩
        rw [non_dec hd]
        cases hn : isNon d with
        | true =>
          refine iteT ?_
          have : d = .none := by cases d <;> first | rfl | cases hn
          subst this
          exact k H (Same.refl H)
        | false =>
          refine iteF ?_
          exact ⟨_, rfl, leaf_str hd hl hn (k H (Same.refl H))⟩
end
end K88
set_option maxRecDepth 100000
set_option maxHeartbeats 4000000
namespace K88
open PySem PySem.Spec PyProof.Rows L2 TL
/-! ### _law_nested -/
abbrev sNested : Stmt := topS 43
abbrev nmNested : List Str := ["many", "one", "lap"]
def nestD : Nat → D → D
  | 0, d => d
  | n + 1, d => .tuple [nestD n d]
def spNested (K : PySem.W.Frag) : Sp := fun vs H Q _ => ∃ (m : Nat) (v : V) (d : D), vs = [.int m, v] ∧ Dt K H v d ∧ m ≤ 1000 ∧ ∀ v' H', Same H H' → Dt K H' v' (nestD m d) → Q v' H'
/-! ### drawn values -/
def bz : Nat → Nat
  | 0 => 14
  | n + 1 => 2 + 3 * bz n
def bo : Nat → Nat
  | 0 => 0
  | n + 1 => 1 + 3 * bo n
def bf : Nat → Nat
  | 0 => 2
  | n + 1 => 2 + 3 * bf n
structure Dr (n : Nat) (d : D) : Prop where
  val : valB n d = true
  siz : sz d ≤ bz n
  opn : count40 (vt d) ≤ bo n
  lay : PyData.canLay0 d = true
  dep : PyData.depth d ≤ n
def leafR (d : D) : Bool := leafB d && (decide (sz d ≤ 14) && (decide (count40 (vt d) = 0) && PyData.canLay0 d))
theorem bz_le : ∀ n, 14 ≤ bz n
  | 0 => Nat.le_refl _
  | n + 1 => by have := bz_le n; show 14 ≤ 2 + 3 * bz n; omega
theorem bf_le : ∀ n, 2 ≤ bf n
  | 0 => Nat.le_refl _
  | n + 1 => by show 2 ≤ 2 + 3 * bf n; omega
theorem leaf_dr {d : D} (h : leafR d = true) (n : Nat) : Dr n d := by
  unfold leafR at h
  simp only [Bool.and_eq_true, decide_eq_true_eq] at h
  obtain ⟨h1, h2, h3, h4⟩ := h
  have nt : ∀ ds, d ≠ .tuple ds := fun ds e => by subst e; cases h1
  refine ⟨by rw [valB_leaf nt]; exact h1, Nat.le_trans h2 (bz_le n), by omega, h4, ?_⟩
  have : PyData.depth d = 0 := by
    cases d with
    | tuple ds => exact absurd rfl (nt ds)
    | list ds => cases h1
    | dict ds => cases h1
    | _ => rfl
  omega
theorem count40_num (l : List Nat) (h : ∀ c ∈ l, c ≠ 40) : count40 l = 0 := by
  induction l with
  | nil => rfl
  | cons c r ih =>
    have := ih fun x hx => h x (List.mem_cons_of_mem _ hx)
    have hc := h c List.mem_cons_self
    simp [count40, this, hc]
theorem opn_vtA : ∀ (ds : List D) (b : Nat), (∀ e ∈ ds, count40 (vt e) ≤ b) → count40 (vtA ds) ≤ ds.length * b := by
  have rest : ∀ (ds : List D) (b : Nat), (∀ e ∈ ds, count40 (vt e) ≤ b) → count40 (vtR ds) ≤ ds.length * b := by
    intro ds b
    induction ds with
    | nil => intro _; exact Nat.zero_le _
    | cons d r ih =>
      intro h
      have h1 := ih fun x hx => h x (List.mem_cons_of_mem _ hx)
      have h2 := h d List.mem_cons_self
      have e : vtR (d :: r) = [32] ++ (vt d ++ vtR r) := rfl
      rw [e, count40_app, count40_app, show count40 [32] = 0 from rfl, List.length_cons, Nat.succ_mul]
      omega
  intro ds b h
  cases ds with
  | nil => exact Nat.zero_le _
  | cons d r =>
    have h1 := rest r b fun x hx => h x (List.mem_cons_of_mem _ hx)
    have h2 := h d List.mem_cons_self
    have e : vtA (d :: r) = vt d ++ vtR r := rfl
    rw [e, count40_app, List.length_cons, Nat.succ_mul]
    omega
theorem tup_dr {n : Nat} {ds : List D} (h : ∀ e ∈ ds, Dr n e) (hl : ds.length ≤ 3) : Dr (n + 1) (.tuple ds) := by
  have s1 : ∀ l : List D, (∀ e ∈ l, Dr n e) → szA l ≤ l.length * bz n := by
    intro l
    induction l with
    | nil => intro _; exact Nat.zero_le _
    | cons d r ih =>
      intro h
      have h1 := ih fun x hx => h x (List.mem_cons_of_mem _ hx)
      have h2 := (h d List.mem_cons_self).siz
      show sz d + szA r ≤ (r.length + 1) * bz n
      rw [Nat.succ_mul]
      omega
  have s2 : ∀ l : List D, (∀ e ∈ l, Dr n e) → PyData.canLayAll0 l = true ∧ PyData.depthAll l ≤ n := by
    intro l
    induction l with
    | nil => intro _; exact ⟨rfl, Nat.zero_le _⟩
    | cons d r ih =>
      intro h
      obtain ⟨h1, h1'⟩ := ih fun x hx => h x (List.mem_cons_of_mem _ hx)
      have h2 := h d List.mem_cons_self
      refine ⟨by simp [PyData.canLayAll0, h1, h2.lay], ?_⟩
      show max (PyData.depth d) (PyData.depthAll r) ≤ n
      have := h2.dep
      omega
  have h3 := opn_vtA ds (bo n) fun e he => (h e he).opn
  have m1 := Nat.mul_le_mul_right (bz n) hl
  have m2 := Nat.mul_le_mul_right (bo n) hl
  refine ⟨?_, ?_, ?_, ?_, ?_⟩
  · show ds.all (valB n) = true
    exact List.all_eq_true.mpr fun e he => (h e he).val
  · have := s1 ds h
    show 2 + szA ds ≤ 2 + 3 * bz n
    omega
  · have e : vt (.tuple ds) = [40] ++ (vtA ds ++ [41]) := rfl
    rw [e, count40_app, count40_app, show count40 [40] = 1 from rfl, show count40 [41] = 0 from rfl]
    show _ ≤ 1 + 3 * bo n
    omega
  · simpa [PyData.canLay0] using (s2 ds h).1
  · have := (s2 ds h).2
    show PyData.depthAll ds + 1 ≤ n + 1
    omega
theorem Dr.mono {n m : Nat} {d : D} (h : Dr n d) (hm : n ≤ m) : valB m d = true := valB_mono hm h.val
section
variable {P : Program} {w : World} {K : PySem.W.Frag} {mg : Str → Option Value} {base : Heap}
theorem scNested : FnScope nmNested ["many", "one"] (defScope sNested) := ⟨rfl, rfl, rfl, by decide +kernel, rfl, by decide +kernel, by decide +kernel⟩
theorem ok_nested (T : Txt K mg) (Dd : Df K mg "_law_nested" sNested ["many", "one"]) : Prom P w K mg base CX0 1 "_law_nested" ["many", "one"] (spNested K) := by
  refine prom_of Dd scNested (fun vs H Q E h => ?_) (fun f cdv A outer s H vs Q E hr h => ?_)
  · obtain ⟨m, v, d, rfl, _⟩ := h
    rfl
  · obtain ⟨m, v, d, rfl, hd, hm, k⟩ := h
    have nd := scNested.nd
    refine ⟨_, pss_cons (ps_for PassesOwn.never rfl (pi_range1 rfl T.range (pa_cons (pv 0) pa_nil)) (pg_name (i := 2) nd rfl (Or.inl rfl))
        (pss_one (ps_set (i := 1) nd rfl (Or.inl rfl) (pe_tup (pa_cons (pv 1) pa_nil)))))
      (pss_one (ps_ret (pv 1))), ?_⟩
    refine ⟨_, rfl, (m : Int), rfl, by omega, by omega, ?_⟩
    refine for_range (lo := 0) (n := m) (fun i σ H' => ∃ (x : V) (y : Option V), σ = [some (.int m), some x, y] ∧ Same H H' ∧ Dt K H' x (nestD i d)) ⟨v, none, rfl, Same.refl H, hd⟩ ?_ ?_
    · rintro i σ H1 hi ⟨x, y, rfl, s1, hx⟩
      refine ⟨_, rfl, by show 1 ≤ sizeLine; decide, fun p np => ⟨.ref p, _, rfl, same_newF s1 np, ?_⟩⟩
      exact .tup (SqT.of (ht_tup upd_same)) (.cons (Dt.keep hx ((KeepT.refl H1).updN np)) .nil)
    · rintro σ H1 ⟨x, y, rfl, s1, hx⟩
      exact ⟨_, rfl, k _ _ s1 hx⟩
end
end K88
set_option maxRecDepth 100000
set_option maxHeartbeats 4000000
namespace K88
open PySem PySem.Spec PyProof.Rows L2 TL
/-! ### _law_some_value -/
abbrev sSv : Stmt := topS 42
abbrev nmSv : List Str := ["state", "deep", "way", "lap"]
def spSv (K : PySem.W.Frag) (n : Nat) : Sp := fun vs H Q _ => ∃ (D G C : Addr) (f : Nat), vs = [.ref D, .int n] ∧ St D G C (f + bf n) H ∧ ∀ v d H', Dr n d → Dt K H' v d → St D G C f H' → KeepS D G H H' → Q v H'
def wordsV : List V := [.str "a", .str "on", .str "zz", .str "entry", .str "abcdefghijklm"]
def intsV : List V := [.int 0, .int 1, .int (0 - 1), .int 7, .int (0 - 42), .int 999999999999, .int (0 - 999999999999)]
theorem word_dr {K : PySem.W.Frag} {H : Hp} {x : V} (h : x ∈ wordsV) (n : Nat) : ∃ d, Dr n d ∧ Dt K H x d := by
  unfold wordsV at h
  simp only [List.mem_cons, List.not_mem_nil, or_false] at h
  rcases h with rfl | rfl | rfl | rfl | rfl <;> exact ⟨.str _, leaf_dr (by decide +kernel) n, .str _⟩
theorem int_dr {K : PySem.W.Frag} {H : Hp} {x : V} (h : x ∈ intsV) (n : Nat) : ∃ d, Dr n d ∧ Dt K H x d := by
  unfold intsV at h
  simp only [List.mem_cons, List.not_mem_nil, or_false] at h
  rcases h with rfl | rfl | rfl | rfl | rfl | rfl | rfl <;> exact ⟨.int _, leaf_dr (by decide +kernel) n, .int _⟩
section
variable {P : Program} {w : World} {K : PySem.W.Frag} {mg : Str → Option Value} {base : Heap}
theorem scSv : FnScope nmSv ["state", "deep"] (defScope sSv) := ⟨rfl, rfl, rfl, by decide +kernel, rfl, by decide +kernel, by decide +kernel⟩
theorem ok_sv (T : Txt K mg) (GD : Prom P w K mg base CX0 2 "_law_draw" ["state", "room"] spDraw) (GP : Prom P w K mg base CX0 3 "_law_pick" ["state", "some"] spPick) (Dd : Df K mg "_law_some_value" sSv ["state", "deep"]) :
    ∀ n, Prom P w K mg base CX0 (n + 4) "_law_some_value" ["state", "deep"] (spSv K n)
  | 0 => by
    refine prom_of Dd scSv (fun vs H Q E h => ?_) (fun f cdv A outer s H vs Q E hr h => ?_)
    · obtain ⟨D, G, C, f, rfl, _⟩ := h
      rfl
    · obtain ⟨D, G, C, fu, rfl, hS, k⟩ := h
      have nd := scSv.nd
      have hr2 := hr.mono (show 2 ≤ 3 by decide)
      refine ⟨_, pss_cons (ps_set (i := 2) nd rfl (Or.inl rfl) (pe_ifExp (pt_cmpR op_gt (pv 1) pe_int (nomark _)) (pe_callP GD hr2 pass0 (pa_cons (pv 0) (pa_cons pe_int pa_nil))) (pe_callP GD hr2 pass0 (pa_cons (pv 0) (pa_cons pe_int pa_nil)))))
        (pss_cons (ps_if (pt_cmpR op_eq (pv 2) pe_int (nomark _)) (pss_one (ps_ret (pe_callP GP hr pass0 (pa_cons (pv 0) (pa_cons (pe_lst (pa_cons pe_str (pa_cons pe_str (pa_cons pe_str (pa_cons pe_str (pa_cons pe_str pa_nil)))))) pa_nil))))) pss_nil)
        (pss_cons (ps_if (pt_cmpR op_eq (pv 2) pe_int (nomark _)) (pss_one (ps_ret (pe_callP GP hr pass0 (pa_cons (pv 0) (pa_cons (pe_lst (pa_cons pe_int (pa_cons pe_int (pa_cons (pe_op op_sub pe_int pe_int) (pa_cons pe_int (pa_cons (pe_op op_sub pe_int pe_int) (pa_cons pe_int (pa_cons (pe_op op_sub pe_int pe_int) pa_nil)))))))) pa_nil))))) pss_nil)
        (pss_cons (ps_if (pt_cmpR op_eq (pv 2) pe_int (nomark _)) (pss_one (ps_ret pe_non)) pss_nil)
        pss_nope))), ?_⟩
      have kT : ∀ {Ha Hb : Hp} {f0 : Nat}, St D G C f0 Ha → KeepS D G Ha Hb → KeepT Ha Hb := fun hs hk => hk.keepT hs
      have pick : ∀ (f1 : Nat) (H1 : Hp) (ys : List V), fu ≤ f1 → St D G C (f1 + 1) H1 → KeepS D G H H1 → ys ≠ [] → ys.length ≤ 1000 → (∀ x ∈ ys, ∀ H2 : Hp, ∃ d, Dr 0 d ∧ Dt K H2 x d) → ∀ p, H1 p = none →
          ∃ (D' G' C' a : Addr) (f2 : Nat) (xs : List V), ([.ref D, .ref p] : List V) = [.ref D', .ref a] ∧ St D' G' C' (f2 + 1) (upd H1 p (.lst ys)) ∧ (upd H1 p (.lst ys)) a = some (.lst xs) ∧ a ≠ G' ∧ xs ≠ [] ∧ xs.length ≤ 1000 ∧ ∀ x H', x ∈ xs → St D' G' C' f2 H' → KeepS D' G' (upd H1 p (.lst ys)) H' → Q x H' := by
        intro f1 H1 ys hf S1 k1 yne yl hy p np
        have sm := same_newF (Same.refl H1) (o := .lst ys) np
        have pG : p ≠ G := by
          obtain ⟨⟨_, _, _, _, _, h2, _⟩, _⟩ := S1
          exact (ne_of_none h2 np).symm
        refine ⟨D, G, C, p, f1, ys, rfl, S1.same sm, upd_same, pG, yne, yl, fun x H' hx S' k' => ?_⟩
        obtain ⟨d, hd, hdt⟩ := hy x hx H'
        exact k x d H' hd hdt (S'.mono hf) ((k1.trans (KeepS.of sm)).trans k')
      refine ⟨_, rfl, _, _, rfl, rfl, _, rfl, ?_⟩
      refine iteF ?_
      refine ⟨_, rfl, D, G, C, fu + 1, 3, rfl, hS, by decide, by decide, fun i H1 i0 i1 S1 k1 => ?_⟩
      refine ⟨_, rfl, rfl, _, rfl, ?_⟩
      by_cases w0 : i = 0
      · rw [decide_eq_true (congrArg V.int w0)]
        refine iteT ?_
        exact ⟨_, rfl, by show 5 ≤ sizeLine; decide, fun p np => pick fu H1 wordsV (by omega) S1 k1 (by simp [wordsV]) (by decide) (fun x hx H2 => word_dr hx _) p np⟩
      rw [decide_eq_false (fun q => w0 (V.int.inj q))]
      refine iteF ?_
      refine ⟨_, rfl, rfl, _, rfl, ?_⟩
      by_cases w1 : i = 1
      · rw [decide_eq_true (congrArg V.int w1)]
        refine iteT ?_
        exact ⟨_, rfl, _, _, rfl, rfl, _, _, rfl, rfl, _, _, rfl, rfl, by show 7 ≤ sizeLine; decide, fun p np => pick fu H1 intsV (by omega) S1 k1 (by simp [intsV]) (by decide) (fun x hx H2 => int_dr hx _) p np⟩
      rw [decide_eq_false (fun q => w1 (V.int.inj q))]
      refine iteF ?_
      refine ⟨_, rfl, rfl, _, rfl, ?_⟩
      rw [decide_eq_true (congrArg V.int (by omega : i = 2))]
      refine iteT ?_
      exact k .non .none H1 (leaf_dr (by decide +kernel) 0) .non (S1.mono (by omega)) k1
  | n + 1 => by
    have GS := ok_sv T GD GP Dd n
    refine prom_of Dd scSv (fun vs H Q E h => ?_) (fun f cdv A outer s H vs Q E hr h => ?_)
    · obtain ⟨D, G, C, f, rfl, _⟩ := h
      rfl
    · obtain ⟨D, G, C, fu, rfl, hS, k⟩ := h
      have nd := scSv.nd
      have hr2 := hr.mono (show 2 ≤ n + 4 by omega)
      have hr3 := hr.mono (show 3 ≤ n + 4 by omega)
      refine ⟨_, pss_cons (ps_set (i := 2) nd rfl (Or.inl rfl) (pe_ifExp (pt_cmpR op_gt (pv 1) pe_int (nomark _)) (pe_callP GD hr2 pass0 (pa_cons (pv 0) (pa_cons pe_int pa_nil))) (pe_callP GD hr2 pass0 (pa_cons (pv 0) (pa_cons pe_int pa_nil)))))
        (pss_cons (ps_if (pt_cmpR op_eq (pv 2) pe_int (nomark _)) (pss_one (ps_ret (pe_callP GP hr3 pass0 (pa_cons (pv 0) (pa_cons (pe_lst (pa_cons pe_str (pa_cons pe_str (pa_cons pe_str (pa_cons pe_str (pa_cons pe_str pa_nil)))))) pa_nil))))) pss_nil)
        (pss_cons (ps_if (pt_cmpR op_eq (pv 2) pe_int (nomark _)) (pss_one (ps_ret (pe_callP GP hr3 pass0 (pa_cons (pv 0) (pa_cons (pe_lst (pa_cons pe_int (pa_cons pe_int (pa_cons (pe_op op_sub pe_int pe_int) (pa_cons pe_int (pa_cons (pe_op op_sub pe_int pe_int) (pa_cons pe_int (pa_cons (pe_op op_sub pe_int pe_int) pa_nil)))))))) pa_nil))))) pss_nil)
        (pss_cons (ps_if (pt_cmpR op_eq (pv 2) pe_int (nomark _)) (pss_one (ps_ret pe_non)) pss_nil)
        (pss_one (ps_ret (pe_callTy call_tuple_of (by rfl) T.tuple PyProof.Rows.boot_tuple (pa_cons
          (pe_lc (own := [("lap", 3)]) (g := gName 3) (tt := tYes) rfl nd (pi_range1 rfl T.range (pa_cons (pe_callP GD hr2 pass0 (pa_cons (pv 0) (pa_cons pe_int pa_nil))) pa_nil)) (blkOk_by (own := [("lap", 3)]) (N := nmSv) (sc := defScope sSv) (by decide +kernel))
            (fun _ _ _ _ _ => pg_name (i := 3) nd rfl (Or.inl rfl)) (fun _ _ _ _ _ => pts_nil) (fun _ _ _ _ _ => pe_callP GS hr pass0 (pa_cons (pv 0) (pa_cons (pe_op op_sub (pv 1) pe_int) pa_nil)))) pa_nil))))))), ?_⟩
      have kT : ∀ {Ha Hb : Hp} {f0 : Nat}, St D G C f0 Ha → KeepS D G Ha Hb → KeepT Ha Hb := fun hs hk => hk.keepT hs
      have pick : ∀ (f1 : Nat) (H1 : Hp) (ys : List V), fu ≤ f1 → St D G C (f1 + 1) H1 → KeepS D G H H1 → ys ≠ [] → ys.length ≤ 1000 → (∀ x ∈ ys, ∀ H2 : Hp, ∃ d, Dr (n + 1) d ∧ Dt K H2 x d) → ∀ p, H1 p = none →
          ∃ (D' G' C' a : Addr) (f2 : Nat) (xs : List V), ([.ref D, .ref p] : List V) = [.ref D', .ref a] ∧ St D' G' C' (f2 + 1) (upd H1 p (.lst ys)) ∧ (upd H1 p (.lst ys)) a = some (.lst xs) ∧ a ≠ G' ∧ xs ≠ [] ∧ xs.length ≤ 1000 ∧ ∀ x H', x ∈ xs → St D' G' C' f2 H' → KeepS D' G' (upd H1 p (.lst ys)) H' → Q x H' := by
        intro f1 H1 ys hf S1 k1 yne yl hy p np
        have sm := same_newF (Same.refl H1) (o := .lst ys) np
        have pG : p ≠ G := by
          obtain ⟨⟨_, _, _, _, _, h2, _⟩, _⟩ := S1
          exact (ne_of_none h2 np).symm
        refine ⟨D, G, C, p, f1, ys, rfl, S1.same sm, upd_same, pG, yne, yl, fun x H' hx S' k' => ?_⟩
        obtain ⟨d, hd, hdt⟩ := hy x hx H'
        exact k x d H' hd hdt (S'.mono hf) ((k1.trans (KeepS.of sm)).trans k')
      refine ⟨_, rfl, _, _, rfl, rfl, _, rfl, ?_⟩
      have hn1 : decide ((0 : Int) < ((n + 1 : Nat) : Int)) = true := decide_eq_true (by omega)
      rw [hn1]
      refine iteT ?_
      have hS' : St D G C ((fu + 3 * bf n + 1) + 1) H := hS.mono (by show _ ≤ fu + (2 + 3 * bf n); omega)
      refine ⟨_, rfl, D, G, C, fu + 3 * bf n + 1, 6, rfl, hS', by decide, by decide, fun i H1 i0 i1 S1 k1 => ?_⟩
      refine ⟨_, rfl, rfl, _, rfl, ?_⟩
      by_cases w0 : i = 0
      · rw [decide_eq_true (congrArg V.int w0)]
        refine iteT ?_
        exact ⟨_, rfl, by show 5 ≤ sizeLine; decide, fun p np => pick (fu + 3 * bf n) H1 wordsV (by omega) S1 k1 (by simp [wordsV]) (by decide) (fun x hx H2 => word_dr hx _) p np⟩
      rw [decide_eq_false (fun q => w0 (V.int.inj q))]
      refine iteF ?_
      refine ⟨_, rfl, rfl, _, rfl, ?_⟩
      by_cases w1 : i = 1
      · rw [decide_eq_true (congrArg V.int w1)]
        refine iteT ?_
        exact ⟨_, rfl, _, _, rfl, rfl, _, _, rfl, rfl, _, _, rfl, rfl, by show 7 ≤ sizeLine; decide, fun p np => pick (fu + 3 * bf n) H1 intsV (by omega) S1 k1 (by simp [intsV]) (by decide) (fun x hx H2 => int_dr hx _) p np⟩
      rw [decide_eq_false (fun q => w1 (V.int.inj q))]
      refine iteF ?_
      refine ⟨_, rfl, rfl, _, rfl, ?_⟩
      by_cases w2 : i = 2
      · rw [decide_eq_true (congrArg V.int w2)]
        refine iteT ?_
        exact k .non .none H1 (leaf_dr (by decide +kernel) _) .non (S1.mono (by omega)) k1
      rw [decide_eq_false (fun q => w2 (V.int.inj q))]
      refine iteF ?_
      refine ⟨_, rfl, D, G, C, fu + 3 * bf n, 4, rfl, S1, by decide, by decide, fun m H2 m0 m1 S2 k2 => ?_⟩
      have k12 := k1.trans k2
      obtain ⟨mm, rfl⟩ := Int.eq_ofNat_of_zero_le m0
      refine ⟨(mm : Int), rfl, by omega, by omega, fun L nL => ?_⟩
      have sL := same_newF (Same.refl H2) (o := .lst []) nL
      obtain ⟨⟨_, _, _, _, hD2, hG2, hC2, _⟩, _⟩ := id S2
      have LD : L ≠ D := (ne_of_none hD2 nL).symm
      have LG : L ≠ G := (ne_of_none hG2 nL).symm
      have LC : L ≠ C := (ne_of_none hC2 nL).symm
      refine lc_it (n := mm) walk_range (fun j H' => ∃ (vs : List V) (ds : List PyData), H' L = some (.lst vs) ∧ DtA K H' vs ds ∧ ds.length = j ∧ (∀ e ∈ ds, Dr n e) ∧ St D G C (fu + (3 - j) * bf n) H' ∧ KeepS D G H2 H') ⟨[], [], upd_same, .nil, rfl, (fun e he => by cases he), S2.same sL, KeepS.of sL⟩ (fun _ _ _ _ => trivial) ?_ ?_
      · rintro j x Ha Hb hj ⟨vs, ds, hL, hA, hl, hdr, Sj, kj⟩ ⟨rfl, rfl⟩
        have hm3 : mm < 4 := by omega
        have ej : 3 - j = (3 - (j + 1)) + 1 := by omega
        rw [ej, Nat.succ_mul] at Sj
        have S5 : St D G C ((fu + (3 - (j + 1)) * bf n) + bf n) Hb := Sj.mono (by omega)
        refine ⟨rfl, _, rfl, _, rfl, _, _, rfl, rfl, D, G, C, fu + (3 - (j + 1)) * bf n, ?_, S5, fun v d H4 hd hdt S6 k6 => ?_⟩
        · show [V.ref D, V.int (((n + 1 : Nat) : Int) - 1)] = [V.ref D, V.int (n : Int)]
          rw [show ((n + 1 : Nat) : Int) - 1 = (n : Int) by omega]
        · have hL4 := k6 _ _ LD LG hL
          refine ⟨vs, hL4, ?_, vs ++ [v], ds ++ [d], upd_same, ?_, by simp [hl], ?_, ?_, ?_⟩
          · rw [dpA_len hA]
            exact lt_line (by omega)
          · have kt := kT S5 k6
            exact dpA_app (DtA.keep hA (kt.trans ((KeepT.refl H4).updL hL4))) (.cons (Dt.keep hdt ((KeepT.refl H4).updL hL4)) .nil)
          · intro e he
            rcases List.mem_append.mp he with z | z
            · exact hdr e z
            · rw [List.mem_singleton.mp z]; exact hd
          · exact S6.keep (upd_ne (Ne.symm LD)) (upd_ne (Ne.symm LG)) (upd_ne (Ne.symm LC))
          · exact fun b o n1 n2 e => by rw [upd_ne (ne_of_none e nL)]; exact k6 b o n1 n2 (kj b o n1 n2 e)
      · rintro H3 ⟨vs, ds, hL, hA, hl, hdr, Sj, kj⟩
        refine ⟨L, vs, rfl, .inl ⟨SqL.of hL, fun t nt => ?_⟩⟩
        have sT := same_newF (Same.refl H3) (o := .tup vs) nt
        refine k (.ref t) (.tuple ds) _ (tup_dr hdr (by omega)) (.tup (SqT.of (ht_tup upd_same)) (DtA.keep hA ((KeepT.refl H3).updN nt))) ((Sj.mono (Nat.le_add_right _ _)).same sT) ((k12.trans kj).trans (KeepS.of sT))
end
end K88
set_option maxRecDepth 100000
set_option maxHeartbeats 4000000
namespace K88
open PySem PySem.Spec PyProof.Rows L2 TL
/-! ### repr of data -/
theorem showable_pl : ∀ {n : Nat} {d : D}, valB n d = true → PyData.showable d = true
  | 0, d, h => by
    have h : leafB d = true := h
    cases d with
    | none => rfl
    | str s => rfl
    | int i => exact decide_eq_true (log_fig h)
    | _ => cases h
  | n + 1, d, h => by
    cases d with
    | none => rfl
    | str s => rfl
    | int i => exact decide_eq_true (log_fig h)
    | tuple ds =>
      have h : ds.all (valB n) = true := h
      show PyData.showableAll ds = true
      have go : ∀ l : List D, (∀ e ∈ l, valB n e = true) → PyData.showableAll l = true := by
        intro l
        induction l with
        | nil => intro _; rfl
        | cons e r ih =>
          intro hl
          show (PyData.showable e && PyData.showableAll r) = true
          rw [showable_pl (hl e List.mem_cons_self), ih fun x hx => hl x (List.mem_cons_of_mem _ hx)]
          rfl
      exact go ds (List.all_eq_true.mp h)
    | list ds => cases h
    | bool b => cases h
    | dict ds => cases h
theorem strOk_lt {s : Str} (h : PyData.strOk s = true) : ∀ c ∈ s.cps.toList, c < 16 ^ 8 := by
  intro c hc
  unfold PyData.strOk at h
  rw [← Array.all_toList, List.all_eq_true] at h
  have := of_decide_eq_true (h c hc)
  omega
theorem shown_str {s : Str} (h : PyData.strOk s = true) : (PyData.shown (.str s)).length + 2 ≤ 14 * sz (.str s) := by
  have := StrLaws.reprText_len s (strOk_lt h)
  show (reprText s).length + 2 ≤ 14 * (1 + s.length)
  omega
theorem shown_int (i : Int) : (PyData.shown (.int i)).length + 2 ≤ 14 * sz (.int i) := by
  have e : (PyData.shown (.int i)).length = (intL i).length := len_tl _
  rw [e]
  show _ ≤ 14 * (1 + (intL i).length)
  omega
theorem shown_non : (PyData.shown .none).length + 2 ≤ 14 * sz .none := by
  have e : (PyData.shown .none).length = 4 := by
    unfold PyData.shown
    decide +kernel
  rw [e]
  decide
theorem app_len (a b : Str) : (a ++ b).length = a.length + b.length := by
  rw [len_tl, tl_append, List.length_append, ← len_tl, ← len_tl]
theorem shown_len : ∀ {n : Nat} {d : D}, plB n d = true → PyData.canLay0 d = true → (PyData.shown d).length + 2 ≤ 14 * sz d
  | 0, d, h, hc => by
    have h : plLeaf d = true := h
    cases d with
    | none => exact shown_non
    | str s => exact shown_str hc
    | int i => exact shown_int i
    | _ => cases h
  | n + 1, d, h, hc => by
    cases d with
    | none => exact shown_non
    | str s => exact shown_str hc
    | int i => exact shown_int i
    | tuple ds =>
      have h : ds.all (plB n) = true := h
      have hc : PyData.canLayAll0 ds = true := by simpa [PyData.canLay0] using hc
      have go : ∀ l : List D, (∀ e ∈ l, plB n e = true) → PyData.canLayAll0 l = true → piled (PyData.shownAll l) ≤ 14 * szA l := by
        intro l
        induction l with
        | nil => intro _ _; exact Nat.zero_le _
        | cons e r ih =>
          intro hl hc
          have hc' : (PyData.canLay0 e && PyData.canLayAll0 r) = true := by simpa [PyData.canLayAll0] using hc
          rw [Bool.and_eq_true] at hc'
          have h1 := shown_len (hl e List.mem_cons_self) hc'.1
          have h2 := ih (fun x hx => hl x (List.mem_cons_of_mem _ hx)) hc'.2
          show piled (PyData.shown e :: PyData.shownAll r) ≤ 14 * (sz e + szA r)
          rw [piled_cons]
          omega
      have g := go ds (List.all_eq_true.mp h) hc
      show (tupleText (PyData.shownAll ds)).length + 2 ≤ 14 * (2 + szA ds)
      unfold tupleText
      rw [app_len, app_len]
      have e1 : (Str.ofString "(").length = 1 := by decide +kernel
      have e2 : ∀ b : Bool, (Str.ofString (if b then ",)" else ")")).length ≤ 2 := by
        intro b
        cases b <;> decide +kernel
      have e2' := e2 ((PyData.shownAll ds).length == 1)
      have e3 : (Str.join (Str.ofString ", ") (PyData.shownAll ds)).length ≤ piled (PyData.shownAll ds) := by
        by_cases hn : PyData.shownAll ds = []
        · rw [hn]
          decide +kernel
        · have := join_length_add _ hn
          exact Nat.le_trans (Nat.le_add_right _ 2) (Nat.le_of_eq this)
      rw [e1]
      have q : ∀ a b c : Nat, a ≤ c → b ≤ 2 → c ≤ 14 * szA ds → 1 + a + b + 2 ≤ 14 * (2 + szA ds) := fun a b c h1 h2 h3 => by omega
      exact q _ _ _ e3 e2' g
    | list ds => cases h
    | bool b => cases h
    | dict ds => cases h
section
variable {X : Cx}
theorem call_repr (hg : X.A.guards = some []) (hu : X.A.units + 80 < cLine) : CallR X (.builtin "repr") (fun xs H Q => ∃ x d, xs = [x] ∧ Dp X.K H x d ∧ PyData.showable d = true ∧ PyData.canLay0 d = true ∧ PyData.depth d ≤ 62 ∧ (PyData.shown d).length ≤ sizeLine ∧ Q (.str (PyData.shown d)) H) := by
  intro pins s σ H xs us Q I r h
  obtain ⟨x, d, rfl, hd, hs, hc, hp, hl, q⟩ := h
  obtain ⟨u, rfl, ru⟩ := r.one
  cases hd with
  | non =>
    cases ru
    exact PySem.P.repr_of_none ⟨.str _, H, I.tok _, ⟨_, rfl⟩, q⟩
  | bl b =>
    cases ru
    exact PySem.P.repr_of_bool ⟨.str _, H, I.tok _, ⟨_, rfl⟩, q⟩
  | int i =>
    obtain ⟨t, rfl⟩ := ru
    exact PySem.P.repr_of_int (of_decide_eq_true hs) ⟨.str _, H, I.tok _, ⟨_, rfl⟩, q⟩
  | str z =>
    obtain ⟨t, rfl⟩ := ru
    exact PySem.P.repr_of_str ⟨.str _, H, I.tok _, ⟨_, rfl⟩, q⟩ hl
  | lst h1 h2 =>
    obtain ⟨as, rd⟩ := Dp.reads I _ _ _ (Dp.lst h1 h2) ru
    cases ru
    refine PySem.repr_of_reads' rd hs (PyData.noDict_hsm (PyData.hasDict_of_canLay _ hc)) hg (by omega) (fun _ _ e => e) (fun h' u tk hk => ?_) hl
    exact ⟨.str _, H, I.kept (t' := tk) hk, ⟨_, rfl⟩, q⟩
  | tup h1 h2 =>
    obtain ⟨as, rd⟩ := Dp.reads I _ _ _ (Dp.tup h1 h2) ru
    cases ru
    refine PySem.repr_of_reads' rd hs (PyData.noDict_hsm (PyData.hasDict_of_canLay _ hc)) hg (by omega) (fun _ _ e => e) (fun h' u tk hk => ?_) hl
    exact ⟨.str _, H, I.kept (t' := tk) hk, ⟨_, rfl⟩, q⟩
end
end K88
set_option maxRecDepth 100000
set_option maxHeartbeats 4000000
namespace K88
open PySem PySem.Spec PyProof.Rows L2 TL
/-! ### defs that are called where nothing is being shown -/
structure FnG (P : Program) (w : World) (K : PySem.W.Frag) (mg : Str → Option Value) (base : Heap) (k : Nat) (f : Addr) (fd : FuncData) (ps : List Str) (sp : Sp) : Prop where
  len : ∀ vs H Q E, sp vs H Q E → vs.length = ps.length
  run : ∀ (A : Around) (outer : List Env) (s : Shared) (H : Hp) (args : Args) (us : List Value) (vs : List V) (Q : VK), A.guards = some [] → Room k A → Env0 P w K mg base A outer s H → BindsTo s fd args (ps.zip us) → Vals vs us → sp vs H Q E0 →
    codeAny (model P w) A (.call (.ref f) args) (CR CX0 outer P w H s Q E0) s
def PromG (P : Program) (w : World) (K : PySem.W.Frag) (mg : Str → Option Value) (base : Heap) (k : Nat) (x : Str) (ps : List Str) (sp : Sp) : Prop :=
  ∃ (f : Addr) (fd : FuncData), FnG P w K mg base k f fd ps sp ∧ Binds K fd ps [] ∧ mg x = some (.ref f) ∧ PySem.W.keepIn K (.ref f) = true
section
variable {P : Program} {w : World} {K : PySem.W.Frag} {mg : Str → Option Value} {base : Heap} {k : Nat} {x : Str} {N ps : List Str} {sp : Sp} {st : Stmt}
theorem fnG_of {f : Addr} {fd : FuncData} (F : Fun K x x st f fd) (S : FnScope N ps (defScope st)) (len : ∀ vs H Q E, sp vs H Q E → vs.length = ps.length)
    (body : ∀ (cdv : Value), codeOf K f = some cdv → ∀ (A : Around) (outer : List Env) (s : Shared) (H : Hp) (vs : List V) (Q : VK), A.guards = some [] → Room k (A.deeper (envOfC x (defScope st) s.heap.objs.size f cdv)) → sp vs H Q E0 →
      ∃ t, PSs (cxOf CX0 P w K mg base N x (defScope st) f cdv A outer s H E0).nox (defBody st) t ∧ t { nx := fun _ H' => Q .non H', rt := Q } (start N vs) H) : FnG P w K mg base (k + 1) f fd ps sp := by
  obtain ⟨oc, od, kV, doc, pm, an, cdv, ct, osl, rfl, lk, hcd⟩ := F.ex
  refine ⟨len, fun A outer s H args us vs Q hG hr e0 hb rv hsp => ?_⟩
  refine LamX.run_ofS (N := N) (ps := ps) lk hcd S hr e0 hb rv (len _ _ _ _ hsp) fun hr' => ?_
  obtain ⟨t, ht, hq⟩ := body cdv (by unfold codeOf; rw [lk]) A outer s H vs Q hG hr' hsp
  exact ⟨t, ht.nox, hq⟩
theorem promG_of (D : Df K mg x st ps) (S : FnScope N ps (defScope st)) (len : ∀ vs H Q E, sp vs H Q E → vs.length = ps.length)
    (body : ∀ (f : Addr) (cdv : Value) (A : Around) (outer : List Env) (s : Shared) (H : Hp) (vs : List V) (Q : VK), A.guards = some [] → Room k (A.deeper (envOfC x (defScope st) s.heap.objs.size f cdv)) → sp vs H Q E0 →
      ∃ t, PSs (cxOf CX0 P w K mg base N x (defScope st) f cdv A outer s H E0).nox (defBody st) t ∧ t { nx := fun _ H' => Q .non H', rt := Q } (start N vs) H) : PromG P w K mg base (k + 1) x ps sp := by
  obtain ⟨f, fd, F, b, m, _⟩ := D
  exact ⟨f, fd, fnG_of F S len (fun cdv _ => body f cdv), b, m, F.kp⟩
end
section
variable {X : Cx} {k : Nat} {x : Str} {ps : List Str} {sp : Sp} {p pos : Pos} {e : Expr} {es : List Expr} {t : TA}
theorem pe_callG (F : PromG X.prog X.w X.K X.mg X.base k x ps sp) (hG : X.A.guards = some []) (hr : Room k X.A) (ha : PA X (e :: es) t) (hg : Gl X x := by rfl)
    (hdb : (x == ("__debug__" : Str)) = false := by decide) (he : starEach (e :: es) X.env = (false, eval e X.env) :: starEach es X.env := by rfl) (hpl : (backTo pos (starEach es X.env)).any (·.1) = false := by rfl) :
    PE X (.Call (.Name x p) (e :: es) [] pos) (fun σ H Q => t σ H fun vs H1 => sp vs H1 Q E0) := by
  obtain ⟨f, fd, F, b, m, kp⟩ := F
  refine ⟨fun pins s σ H Q I h => ?_⟩
  refine wpAny_Call_Name_kw (ld_glob I hg m ?_ hdb)
  refine PySem.W.callWith_K (h₀ := X.base) I.ok.mod.kin kp (thn (ha.run pos pins s σ H _ I h) fun us s1 hh => ?_) he hpl
  obtain ⟨vs, H1, I1, rv, q⟩ := hh
  refine ⟨I1.kIn, ?_⟩
  have hl : us.length = ps.length := by
    rw [← rv.length]
    exact F.len _ _ _ _ q
  have bt := b s1 us I1.kIn (by rw [List.append_nil]; exact hl)
  rw [List.append_nil] at bt
  refine wpAny_call (codeAny_mono (F.run X.A X.stack s1 H1 ⟨us, []⟩ us vs Q hG hr I1.env0 bt rv q) fun r s2 hq => ?_)
  cases r with
  | error e => exact (show False from hq).elim
  | ok fl =>
    cases fl with
    | ret u => exact I1.after hq
    | next => exact False.elim hq
    | brk => exact False.elim hq
    | cont => exact False.elim hq
end
/-! ### _law_is -/
abbrev sIs : Stmt := topS 38
abbrev nmIs : List Str := ["found", "due"]
def spIs (K : PySem.W.Frag) (n : Nat) : Sp := fun vs H Q _ => ∃ (x y : V) (d : D), vs = [x, y] ∧ Dp K H x d ∧ Dp K H y d ∧ plB n d = true ∧ PyData.showable d = true ∧ Fit d ∧ ∀ H', Same H H' → Q (.bl true) H'
section
variable {P : Program} {w : World} {K : PySem.W.Frag} {mg : Str → Option Value} {base : Heap}
theorem scIs : FnScope nmIs ["found", "due"] (defScope sIs) := ⟨rfl, rfl, rfl, by decide +kernel, rfl, by decide +kernel, by decide +kernel⟩
theorem ok_is (T : Txt K mg) {n : Nat} (GP : Prom P w K mg base CX0 (n + 1) "_law_plain" ["value"] (spPlainL K n)) (Dd : Df K mg "_law_is" sIs ["found", "due"]) : PromG P w K mg base (n + 2) "_law_is" ["found", "due"] (spIs K n) := by
  refine promG_of Dd scIs (fun vs H Q E h => ?_) (fun f cdv A outer s H vs Q hG hr h => ?_)
  · obtain ⟨x, y, d, rfl, _⟩ := h
    rfl
  · obtain ⟨x, y, d, rfl, hx, hy, hp, hs, hf, k⟩ := h
    have hu1 := hr.un
    have hu2 : (A.deeper (envOfC "_law_is" (defScope sIs) s.heap.objs.size f cdv)).units + 80 < cLine := by omega
    refine ⟨_, pss_one (ps_ret (pe_and (pe_callP GP hr pass0 (pa_cons (pv 0) pa_nil)) (pe_and (pe_cmpR (op_eqD hr.units) (pv 0) (pv 1) (nomark _)) (pe_and (pe_cmpR (op_eqD hr.units) (pv 1) (pv 0) (nomark _))
      (pe_one (pe_cmpR op_eq (pe_callB (call_repr hG hu2) (by rfl) T.repr (by decide +kernel) (pa_cons (pv 0) pa_nil)) (pe_callB (call_repr hG hu2) (by rfl) T.repr (by decide +kernel) (pa_cons (pv 1) pa_nil)) (nomark _))))))), ?_⟩
    have hl : (PyData.shown d).length ≤ sizeLine := by
      have h1 := shown_len hp hf.lay
      have h2 := hf.siz
      exact le_line (by omega)
    have er := PySem.SeqAt.eqv_refl d hf.lay
    refine ⟨_, rfl, x, d, rfl, hx, hp, hf.siz, fun H1 s1 => ⟨_, rfl, ?_⟩⟩
    have hx1 := dp_same s1 hx
    have hy1 := dp_same s1 hy
    refine iteT ?_
    refine ⟨_, rfl, _, rfl, d, d, hx1, hy1, hf.shaped, hf.shaped, _, rfl, ?_⟩
    rw [er]
    refine iteT ?_
    refine ⟨_, rfl, _, rfl, d, d, hy1, hx1, hf.shaped, hf.shaped, _, rfl, ?_⟩
    rw [er]
    refine iteT ?_
    refine ⟨_, rfl, x, d, rfl, hx1, hs, hf.lay, hf.dep, hl, _, rfl, y, d, rfl, hy1, hs, hf.lay, hf.dep, hl, rfl, ?_⟩
    rw [decide_eq_true rfl]
    exact k H1 s1
end
end K88
set_option maxRecDepth 100000
set_option maxHeartbeats 4000000
namespace K88
open PySem PySem.Spec PyProof.Rows L2 TL LamX
/-! ### a text times a number -/
def repS (z : Str) (n : Nat) : Str := ⟨(List.replicate n z.cps).foldl (· ++ ·) #[]⟩
def rMulS : R2 := fun x y H Q => ∃ (z : Str) (n : Nat), x = .str z ∧ y = .int (n : Int) ∧ 2 ≤ n ∧ n ≤ 1000 ∧ 1 ≤ z.length ∧ z.length ≤ 1000 ∧ (repS z n).length ≤ 16000000 ∧ Q (.str (repS z n)) H
theorem op_mul_str {X : Cx} : OpR X (binaryOp .Mult) rMulS := by
  intro pins s σ H x y v u Q I rx ry h
  obtain ⟨z, n, rfl, rfl, n2, n3, z1, z2, hl, q⟩ := h
  obtain ⟨t, rfl⟩ := rx
  obtain ⟨t2, rfl⟩ := ry
  have c1 : ¬ (n : Int) < 1 := by omega
  have c2 : ((n : Int) == 1 || z.length == 0) = false := by
    rw [Bool.or_eq_false_iff]
    exact ⟨beq_eq_false_iff_ne.mpr (by omega), beq_eq_false_iff_ne.mpr (by omega)⟩
  refine PySem.P.mul_str ?_ (fun _ _ => ?_) (fun _ _ => ?_) ?_
  · rw [decide_eq_false (by omega), decide_eq_false (by omega)]
    rfl
  · intro hgt
    have : (1000 : Int) ≤ (2 ^ 63 - 1) / (n : Int) := Int.le_ediv_of_mul_le (by omega) (by omega)
    omega
  · have hm : z.length * n ≤ 1000 * 1000 := Nat.mul_le_mul z2 n3
    rw [show ((n : Int)).toNat = n by omega]
    unfold Builtin.Str.tooLong
    have := sizeLine_eq
    simp only [decide_eq_false_iff_not, gt_iff_lt, Nat.not_lt]
    omega
  · rw [if_neg c1, c2, if_neg Bool.false_ne_true, show ((n : Int)).toNat = n by omega]
    exact ⟨le_line hl, ⟨.str _, H, I.tok _, ⟨_, rfl⟩, q⟩⟩
/-! ### a def of one parameter, called by its name -/
section
variable {X : Cx} {CX : CXT} {k : Nat} {x kw : Str} {sp : Sp} {E : XK} {p pos kpos : Pos} {e : Expr} {te : TE}
theorem pe_callK1 (F : Prom X.prog X.w X.K X.mg X.base CX k x [kw] sp) (hr : Room k X.A) (hx : Passes CX X E) (he : PE X e te) (hg : Gl X x := by rfl)
    (hall : (backToKw pos (keywordEach [⟨some kw, e, kpos⟩] X.env)).all (·.1.isSome) = true := by rfl) (hks : (backToKw pos (keywordEach [⟨some kw, e, kpos⟩] X.env)).filterMap (·.1) = [kw] := by rfl)
    (hdb : (x == ("__debug__" : Str)) = false := by decide)
    (hpl : ((backTo pos (starEach [] X.env)).any (·.1) || (backToKw pos (keywordEach [⟨some kw, e, kpos⟩] X.env)).any (·.1.isNone)) = false := by rfl) :
    PE X (.Call (.Name x p) [] [⟨some kw, e, kpos⟩] pos) (fun σ H Q => te σ H fun v H1 => sp [v] H1 Q E) := by
  obtain ⟨f, fd, F, b, m, kp, kb⟩ := F
  refine ⟨fun pins s σ H Q I h => ?_⟩
  refine wpAny_Call_Name_kw (ld_glob I hg m ?_ hdb)
  refine PySem.W.callWith_KW0 (h₀ := X.base) I.ok.mod.kin kp hall (thn ((pk_cons (nm := some kw) (kpos := kpos) he pk_nil).run pos pins s σ H (fun zs H1 => sp zs H1 Q E) I h) fun ws s2 hh => ?_) hpl
  obtain ⟨zs, H2, I2, rz, q⟩ := hh
  refine ⟨I2.kIn, ?_⟩
  rw [hks]
  have lz : zs.length = 1 := F.len _ _ _ _ q
  obtain ⟨v, rfl⟩ : ∃ v, zs = [v] := List.length_eq_one_iff.mp lz
  obtain ⟨u, rfl, ru⟩ := rz.one
  refine wpAny_call (codeAny_mono (F.run X.A X.stack s2 H2 ⟨[], [(kw, u)]⟩ [u] [v] Q E hr I2.env0 (kb kw rfl s2 u) rz q) fun r s3 hq => ?_)
  cases r with
  | error e => exact hx pins σ H2 s2 e s3 I2 hq
  | ok fl =>
    cases fl with
    | ret u => exact I2.after hq
    | next => exact False.elim hq
    | brk => exact False.elim hq
    | cont => exact False.elim hq
end
/-! ### plain facts -/
theorem eqv_eq : ∀ {n : Nat} {d e : D}, valB n d = true → valB n e = true → PyData.eqv d e = true → d = e
  | n, d, e, hd, he, h => by
    induction n generalizing d e with
    | zero =>
      have hd : leafB d = true := hd
      have he : leafB e = true := he
      cases d <;> cases e <;> first | rfl | (cases hd; done) | (cases he; done) | (simp [PyData.eqv] at h; done) | (simp [PyData.eqv] at h; rw [h])
    | succ n ih =>
      have go : ∀ l m : List D, (∀ x ∈ l, valB n x = true) → (∀ x ∈ m, valB n x = true) → PyData.eqvAll l m = true → l = m := by
        intro l
        induction l with
        | nil => intro m _ _ h; cases m with
          | nil => rfl
          | cons => simp [PyData.eqvAll] at h
        | cons a l il =>
          intro m h1 h2 h
          cases m with
          | nil => simp [PyData.eqvAll] at h
          | cons b m =>
            simp only [PyData.eqvAll, Bool.and_eq_true] at h
            rw [ih a b (h1 a List.mem_cons_self) (h2 b List.mem_cons_self) h.1, il m (fun x hx => h1 x (List.mem_cons_of_mem _ hx)) (fun x hx => h2 x (List.mem_cons_of_mem _ hx)) h.2]
      cases d <;> cases e <;> first
        | rfl
        | (cases hd; done)
        | (cases he; done)
        | (simp [PyData.eqv] at h; done)
        | (simp [PyData.eqv] at h; rw [h]; done)
        | (simp only [PyData.eqv] at h
           have a1 : List.all _ (valB n) = true := hd
           have a2 : List.all _ (valB n) = true := he
           rw [go _ _ (List.all_eq_true.mp a1) (List.all_eq_true.mp a2) h])
theorem count40_take (l : List Nat) (i : Nat) : count40 (l.take i) ≤ count40 l := by
  have e := List.take_append_drop i l
  have := count40_app (l.take i) (l.drop i)
  rw [e] at this
  omega
theorem count40_drop (l : List Nat) (i : Nat) : count40 (l.drop i) ≤ count40 l := by
  have e := List.take_append_drop i l
  have := count40_app (l.take i) (l.drop i)
  rw [e] at this
  omega
theorem cut_ok (z : Str) (lo hi : Option Int) : count40 (tl (cutS z lo hi)) ≤ count40 (tl z) ∧ (cutS z lo hi).length ≤ z.length := by
  constructor
  · show count40 ((tl z).drop _ |>.take _) ≤ _
    exact Nat.le_trans (count40_take _ _) (count40_drop _ _)
  · rw [len_tl, len_tl z]
    show (((tl z).drop _).take _).length ≤ _
    rw [List.length_take, List.length_drop]
    omega
/-- data stand while all but the tables stands -/
theorem dp_ext {K : PySem.W.Frag} {H H' : Hp} (e : ExtN H H') {v : V} {d : D} (h : Dp K H v d) : Dp K H' v d := by
  refine dp_keep (fun a xs h => ?_) (fun a xs h => ?_) h
  · rcases h with (h | ⟨o, h⟩) | h
    · exact .inl (.inl (e _ _ h (fun ps z => by cases z)))
    · exact .inl (.inr ⟨o, e _ _ h (fun ps z => by cases z)⟩)
    · exact .inr h
  · rcases h with (h | ⟨o, h⟩) | h
    · exact .inl (.inl (e _ _ h (fun ps z => by cases z)))
    · exact .inl (.inr ⟨o, e _ _ h (fun ps z => by cases z)⟩)
    · exact .inr h
theorem St.ext {D G C : Addr} {f : Nat} {H H' : Hp} (h : St D G C f H) (e : ExtN H H') : St D G C f H' := by
  obtain ⟨⟨r, t, gs, cs, h1, h2, h3, h4, h5⟩, n⟩ := h
  exact ⟨⟨r, t, gs, cs, e _ _ h1 (fun ps z => by cases z), e _ _ h2 (fun ps z => by cases z), e _ _ h3 (fun ps z => by cases z), h4, h5⟩, n⟩
theorem ExtN.keepT {H H' : Hp} (e : ExtN H H') : KeepT H H' := fun b xs h => e b _ h (fun ps z => by cases z)
end K88
set_option maxRecDepth 100000
set_option maxHeartbeats 4000000
namespace K88
open PySem PySem.Spec PyProof.Rows L2 TL LamX
/-! ## law -/
abbrev sLaw : Stmt := topS 44
abbrev nmLaw : List Str := ["script", "state", "deepest", "turn", "one", "other", "text", "at", "told", "bent", "thing"]
theorem scLaw : FnScope nmLaw ["script"] (defScope sLaw) := ⟨rfl, rfl, rfl, by decide +kernel, rfl, by decide +kernel, by decide +kernel⟩
abbrev qLam : Str := "law.<locals>.<lambda>"
def stmtL (i : Nat) : Stmt := (defBody sLaw).getD i (.Pass ⟨0, 0, 0, 0⟩)
theorem ps_imp {X : Cx} {st : Stmt} {t t' : TS} (h : PS X st t) (hi : ∀ D σ H, t' D σ H → t D σ H) : PS X st t' := ⟨fun pins s σ H D I q => h.run pins s σ H D I (hi D σ H q)⟩
structure Env1 (P : Program) (w : World) (K : PySem.W.Frag) (mg : Str → Option Value) (base : Heap) (T : List (Addr × Str)) (C fI cL PL : Addr) : Prop where
  Tx : Txt K mg
  TN : PySem.NtX.NtTxt P K mg C fI
  GB : Prom P w K mg base CX0 1 "_law_begun" ["script"] (spBegun K)
  GN : Prom P w K mg base CX0 1 "_law_nested" ["many", "one"] (spNested K)
  GT : Prom P w K mg base (L2.CX P w) 4 "value_text" ["value"] (spVT K C)
  GR : Prom P w K mg base (L2.CX P w) 5 "read_value" ["text"] (spRead K C)
  GD : Prom P w K mg base CX0 2 "_law_draw" ["state", "room"] spDraw
  GK : Prom P w K mg base CX0 3 "_law_pick" ["state", "some"] spPick
  GS : Prom P w K mg base CX0 7 "_law_some_value" ["state", "deep"] (spSv K 3)
  GL : Prom P w K mg base CX0 60 "_law_value_text" ["value"] (spLvt K 59)
  GP : Prom P w K mg base CX0 60 "_law_plain" ["value"] (spPlainL K 59)
  GI : PromG P w K mg base 61 "_law_is" ["found", "due"] (spIs K 59)
  Dw : Df K mg "_law_word" sWord ["action"]
  hW : ∀ g fd, mg "_law_word" = some (.ref g) → Fun K "_law_word" "_law_word" sWord g fd → ∀ k, GivesR P w K mg base nmWord "_law_word" sWord g k (k + 2) (TTw K T C)
  TB : TabB base mg cL PL
  hm : (PL, qLam) ∈ T
  hu : ∀ p ∈ T, p.1 = PL → p.2 = qLam
abbrev lawX (P : Program) (w : World) (K : PySem.W.Frag) (mg : Str → Option Value) (base : Heap) (g cL : Addr) (A : Around) (outer : List Env) (s : Shared) (H : Hp) : Cx := (cxOf CX0 P w K mg base nmLaw "law" (defScope sLaw) g (.ref cL) A outer s H E0).nox
section
variable {P : Program} {w : World} {K : PySem.W.Frag} {mg : Str → Option Value} {base : Heap} {T : List (Addr × Str)} {C fI cL PL g : Addr} {A : Around} {outer : List Env} {s : Shared} {H : Hp}
/-- what is told of a bad thing -/
def badT : D := .tuple [.str "text", .int 0]
theorem badT_shaped : SeqAt.shaped badT = true := by decide +kernel
theorem badT_dp {K : PySem.W.Frag} {H : Hp} {p : Addr} (h : H p = some (.tup [.str "text", .int 0])) : Dp K H (.ref p) badT := .tup (SqT.of h) (.cons (.str _) (.cons (.int _) .nil))
theorem ext_new {H H1 : Hp} {p : Addr} {o : HO} (e : ExtN H H1) (n : H1 p = none) : ExtN H (upd H1 p o) := fun b u q z => by
  have q2 := e b u q z
  rw [upd_ne (ne_of_none q2 n)]
  exact q2
theorem tabs_new {H1 : Hp} {p : Addr} {o : HO} (t : Tabs T H1) (n : H1 p = none) : Tabs T (upd H1 p o) := Tabs.ext t fun b u q => by
  rw [upd_ne (ne_of_none q n)]
  exact q
abbrev vsL (x : List (Option V)) (th : Option V) : L2.St := x ++ [th]
/-- value_text of each bad thing is refused -/
def tBad1 (T : List (Addr × Str)) : TS := fun Dd σ H => ∃ x0 x1 x2 x3 x4 x5 x6 x7 x8 x9 x10 : Option V, σ = [x0, x1, x2, x3, x4, x5, x6, x7, x8, x9, x10] ∧ Tabs T H ∧ ∀ y H', ExtN H H' → Tabs T H' → Dd.nx [x0, x1, x2, x3, x4, x5, x6, x7, x8, x9, y] H'
theorem bad1 (V1 : Env1 P w K mg base T C fI cL PL) (hr : Room 64 (A.deeper (envOfC "law" (defScope sLaw) s.heap.objs.size g (.ref cL)))) : PS (lawX P w K mg base g cL A outer s H) (stmtL 1) (tBad1 T) := by
  have nd := scLaw.nd
  have hr9 := hr.mono (show 8 ≤ 64 by decide)
  have hr1 := hr.mono (show 1 ≤ 64 by decide)
  refine' ps_imp (ps_for PassesOwn.never rfl (pi_list (pe_lst (pa_cons pe_str (pa_cons pe_str (pa_cons pe_str (pa_cons pe_str (pa_cons pe_str (pa_cons (pe_op op_pow pe_int pe_int) (pa_cons (pe_op op_sub pe_int (pe_op op_pow pe_int pe_int)) (pa_cons pe_bl
      (pa_cons (pe_lst (pa_cons pe_str pa_nil)) (pa_cons (pe_tup (pa_cons pe_str (pa_cons (pe_lst (pa_cons pe_str pa_nil)) pa_nil))) (pa_cons (pe_tup (pa_cons pe_str (pa_cons pe_str pa_nil)))
      (pa_cons (pe_callP V1.GN hr1 pass0 (pa_cons pe_int (pa_cons pe_str pa_nil))) (pa_cons (pe_tup (pa_cons pe_str (pa_cons pe_bl pa_nil))) pa_nil))))))))))))))) (pg_name (i := 10) nd rfl (Or.inr rfl))
    (pss_one (ps_if (pt_cmpR (op_neD hr.units) (pe_lamR (T := T) (kl := 4) (tb := fun E => tCall (spVT K C) [] E (tCons (tVar 10) tNil)) rfl rfl rfl V1.Dw scWord rfl (fun g fd m F => V1.hW g fd m F 5) V1.TB rfl V1.hm V1.hu hr9 (lamS_by (sc := defScope sLaw) (by decide +kernel)) rfl (fun _ _ _ _ _ => rfl)
      (fun A2 outer2 s1 HZ E f' c' hr2 un fr => ?hb)) (pe_tup (pa_cons pe_str (pa_cons pe_int pa_nil))) (nomark _)) (pss_one (ps_ret pe_bl)) pss_nil))) ?_
  case hb => exact pe_callP V1.GT hr2 (passes_call (takes_of (E := E) rfl rfl rfl rfl) (fun _ _ _ _ h => h)) (pa_cons (pv 10) pa_nil)
  rintro Dd σ H0 ⟨x0, x1, x2, x3, x4, x5, x6, x7, x8, x9, x10, rfl, hT, k⟩
  refine ⟨_, _, rfl, rfl, ⟨by decide, by decide, by decide⟩, _, _, rfl, rfl, ⟨by decide, by decide, by decide⟩, _, _, rfl, rfl, ?_⟩
  refine ⟨by show 1 ≤ sizeLine; decide, fun p1 n1 => ⟨by show 1 ≤ sizeLine; decide, fun p2 n2 => ⟨by show 2 ≤ sizeLine; decide, fun p3 n3 => ⟨by show 2 ≤ sizeLine; decide, fun p4 n4 => ?_⟩⟩⟩⟩
  have a1 : Dp K (upd H0 p1 (.lst [.str "a"])) (.ref p1) (.list [.str "a"]) := .lst (SqL.of upd_same) (.cons (.str _) .nil)
  have e1 : ExtN H0 (upd H0 p1 (.lst [.str "a"])) := ext_new (ExtN.refl _) n1
  have t1 : Tabs T (upd H0 p1 (.lst [.str "a"])) := tabs_new hT n1
  generalize upd H0 p1 (.lst [.str "a"]) = H1 at n2 n3 n4 a1 e1 t1
  have s2 := same_newF (Same.refl H1) (o := .lst [.str "b"]) n2
  have a2 : Dp K (upd H1 p2 (.lst [.str "b"])) (.ref p2) (.list [.str "b"]) := .lst (SqL.of upd_same) (.cons (.str _) .nil)
  have e2 : ExtN H0 (upd H1 p2 (.lst [.str "b"])) := ext_new e1 n2
  have t2 := tabs_new (o := .lst [.str "b"]) t1 n2
  generalize upd H1 p2 (.lst [.str "b"]) = H2 at n3 n4 s2 a2 e2 t2
  have s3 := same_newF (Same.refl H2) (o := .tup [.str "a", .ref p2]) n3
  have a3 : Dp K (upd H2 p3 (.tup [.str "a", .ref p2])) (.ref p3) (.tuple [.str "a", .list [.str "b"]]) := .tup (SqT.of upd_same) (.cons (.str _) (.cons (dp_same s3 a2) .nil))
  have e3 : ExtN H0 (upd H2 p3 (.tup [.str "a", .ref p2])) := ext_new e2 n3
  have t3 := tabs_new (o := .tup [.str "a", .ref p2]) t2 n3
  generalize upd H2 p3 (.tup [.str "a", .ref p2]) = H3 at n4 s3 a3 e3 t3
  have s4 := same_newF (Same.refl H3) (o := .tup [.str "a", .str "B"]) n4
  have a4 : Dp K (upd H3 p4 (.tup [.str "a", .str "B"])) (.ref p4) (.tuple [.str "a", .str "B"]) := .tup (SqT.of upd_same) (.cons (.str _) (.cons (.str _) .nil))
  have e4 : ExtN H0 (upd H3 p4 (.tup [.str "a", .str "B"])) := ext_new e3 n4
  have t4 := tabs_new (o := .tup [.str "a", .str "B"]) t3 n4
  generalize upd H3 p4 (.tup [.str "a", .str "B"]) = H4 at s4 a4 e4 t4
  refine ⟨60, .str "a", .str "a", rfl, .str _, by decide, fun vn H5 s5 hn => ?_⟩
  have a5 : Dp K H5 vn (nestD 60 (.str "a")) := hn.dp
  have e5 : ExtN H0 H5 := e4.trans (ExtN.of s5)
  have t5 : Tabs T H5 := Tabs.ext t4 s5
  refine ⟨by show 2 ≤ sizeLine; decide, fun p6 n6 => ⟨by show 13 ≤ sizeLine; decide, fun L nL => ?_⟩⟩
  have s6 := same_newF (Same.refl H5) (o := .tup [.str "a", .bl true]) n6
  have a6 : Dp K (upd H5 p6 (.tup [.str "a", .bl true])) (.ref p6) (.tuple [.str "a", .bool true]) := .tup (SqT.of upd_same) (.cons (.str _) (.cons (.bl _) .nil))
  have e6 : ExtN H0 (upd H5 p6 (.tup [.str "a", .bl true])) := ext_new e5 n6
  have t6 := tabs_new (o := .tup [.str "a", .bl true]) t5 n6
  generalize upd H5 p6 (.tup [.str "a", .bl true]) = H6 at nL s6 a6 e6 t6
  -- the list of things
  generalize hxs : ([.str "A", .str "", .str "a b", .str "a1", .str "-", .int (10 ^ (12 : Int).toNat), .int (0 - 10 ^ (12 : Int).toNat), .bl true, .ref p1, .ref p3, .ref p4, vn, .ref p6] : List V) = xs
  have e7 : ExtN H0 (upd H6 L (.lst xs)) := ext_new e6 nL
  have t7 := tabs_new (o := .lst xs) t6 nL
  have s7 := same_newF (Same.refl H6) (o := .lst xs) nL
  have hL : (upd H6 L (.lst xs)) L = some (.lst xs) := upd_same
  have hall : ∀ x ∈ xs, ∃ d, Dp K (upd H6 L (.lst xs)) x d ∧ Fit d ∧ valB 59 d = false := by
    intro x hx
    rw [← hxs] at hx
    have c1 := ((((s2.trans s3).trans s4).trans s5).trans s6).trans s7
    have c3 := ((s4.trans s5).trans s6).trans s7
    have c4 := (s5.trans s6).trans s7
    have c5 := s6.trans s7
    simp only [List.mem_cons, List.not_mem_nil, or_false] at hx
    rcases hx with rfl | rfl | rfl | rfl | rfl | rfl | rfl | rfl | rfl | rfl | rfl | rfl | rfl
    · exact ⟨_, .str _, ⟨by decide +kernel, by decide +kernel, by decide +kernel⟩, by decide +kernel⟩
    · exact ⟨_, .str _, ⟨by decide +kernel, by decide +kernel, by decide +kernel⟩, by decide +kernel⟩
    · exact ⟨_, .str _, ⟨by decide +kernel, by decide +kernel, by decide +kernel⟩, by decide +kernel⟩
    · exact ⟨_, .str _, ⟨by decide +kernel, by decide +kernel, by decide +kernel⟩, by decide +kernel⟩
    · exact ⟨_, .str _, ⟨by decide +kernel, by decide +kernel, by decide +kernel⟩, by decide +kernel⟩
    · exact ⟨_, .int _, ⟨by decide +kernel, by decide +kernel, by decide +kernel⟩, by decide +kernel⟩
    · exact ⟨_, .int _, ⟨by decide +kernel, by decide +kernel, by decide +kernel⟩, by decide +kernel⟩
    · exact ⟨_, .bl _, ⟨by decide +kernel, by decide +kernel, by decide +kernel⟩, by decide +kernel⟩
    · exact ⟨_, dp_same c1 a1, ⟨by decide +kernel, by decide +kernel, by decide +kernel⟩, by decide +kernel⟩
    · exact ⟨_, dp_same c3 a3, ⟨by decide +kernel, by decide +kernel, by decide +kernel⟩, by decide +kernel⟩
    · exact ⟨_, dp_same c4 a4, ⟨by decide +kernel, by decide +kernel, by decide +kernel⟩, by decide +kernel⟩
    · exact ⟨_, dp_same c5 a5, ⟨by decide +kernel, by decide +kernel, by decide +kernel⟩, by decide +kernel⟩
    · exact ⟨_, dp_same s7 a6, ⟨by decide +kernel, by decide +kernel, by decide +kernel⟩, by decide +kernel⟩
  generalize upd H6 L (.lst xs) = HL at e7 t7 s7 hL hall
  refine ⟨L, rfl, ⟨_, SqL.of hL⟩, for_list (K := K) (a := L) (xs := xs) (fun i σ H' => ∃ y, σ = [x0, x1, x2, x3, x4, x5, x6, x7, x8, x9, y] ∧ ExtN HL H' ∧ Tabs T H') ⟨x10, rfl, ExtN.refl _, t7⟩ (fun i σ H' _ ⟨y, _, e, _⟩ => SqL.of (e _ _ hL (fun ps z => by cases z))) ?_ ?_⟩
  · rintro i x σ H' hi ⟨y, rfl, eL, tL⟩
    obtain ⟨d, hd, hf, hv⟩ := hall x (List.mem_of_getElem? hi)
    refine ⟨tL, fun H8 c' e8 t8 hc' => ⟨t8, .inr ⟨fun HZ Q' E' eZ ke => ⟨eZ _ _ hc' (fun ps => codeO_ne ps), _, rfl, x, d, rfl, dp_ext ((eL.trans e8).trans eZ) hd, hf, (fun c => by rw [hv] at c; cases c), fun _ H' dd s n h => ke H' dd s n h⟩, fun p H9 e9 t9 hp => ?_⟩⟩⟩
    refine ⟨by show 2 ≤ sizeLine; decide, fun q nq => ⟨badT, badT, badT_dp (by rw [upd_ne (ne_of_none hp nq)]; exact hp), badT_dp upd_same, badT_shaped, badT_shaped, _, rfl, ?_⟩⟩
    rw [show PyData.eqv badT badT = true by decide +kernel]
    refine iteF ?_
    exact ⟨some x, rfl, ext_new ((eL.trans e8).trans e9) nq, tabs_new t9 nq⟩
  · rintro σ H' ⟨y, rfl, eL, tL⟩
    exact k y H' (e7.trans eL) tL
end
end K88
set_option maxRecDepth 100000
set_option maxHeartbeats 4000000
namespace K88
open PySem PySem.Spec PyProof.Rows L2 TL LamX
section
variable {P : Program} {w : World} {K : PySem.W.Frag} {mg : Str → Option Value} {base : Heap} {T : List (Addr × Str)} {C fI cL PL g : Addr} {A : Around} {outer : List Env} {s : Shared} {H : Hp}
def noText (z : Str) : Bool := decide (z.length ≤ 100000) && (decide (count40 (tl z) ≤ 60) && (readV (tl z)).isNone)
theorem noText_of {z : Str} (h : noText z = true) : z.length ≤ 100000 ∧ count40 (tl z) ≤ 60 ∧ readV (tl z) = none := by
  unfold noText at h
  simp only [Bool.and_eq_true, decide_eq_true_eq, Option.isNone_iff_eq_none] at h
  exact h
def things2 : List V := [.non, .int 5, .str "", .str " ", .str "A", .str "a b", .str "01", .str "-0", .str "--1", .str "+1", .str "1000000000000", .str "(", .str ")", .str "(a", .str "a)", .str "(a))", .str "( a)", .str "(a )", .str "(a  b)", .str "()()", .str "(a)(b)", .str "a()", .str "1a", .str "a1", .str "- 1", .str "(-)-", .str "(a\nb)", .str "1/2"]
theorem things2_ok (x : V) (hx : x ∈ things2) : (∃ d, (∀ (K : PySem.W.Frag) H, Dp K H x d) ∧ isStr d = false) ∨ ∃ z, x = .str z ∧ noText z = true := by
  unfold things2 at hx
  rcases List.mem_cons.mp hx with rfl | hx
  · exact .inl ⟨.none, fun _ _ => .non, rfl⟩
  rcases List.mem_cons.mp hx with rfl | hx
  · exact .inl ⟨.int 5, fun _ _ => .int _, rfl⟩
  rcases List.mem_cons.mp hx with rfl | hx
  · exact .inr ⟨_, rfl, by decide +kernel⟩
  rcases List.mem_cons.mp hx with rfl | hx
  · exact .inr ⟨_, rfl, by decide +kernel⟩
  rcases List.mem_cons.mp hx with rfl | hx
  · exact .inr ⟨_, rfl, by decide +kernel⟩
  rcases List.mem_cons.mp hx with rfl | hx
  · exact .inr ⟨_, rfl, by decide +kernel⟩
  rcases List.mem_cons.mp hx with rfl | hx
  · exact .inr ⟨_, rfl, by decide +kernel⟩
  rcases List.mem_cons.mp hx with rfl | hx
  · exact .inr ⟨_, rfl, by decide +kernel⟩
  rcases List.mem_cons.mp hx with rfl | hx
  · exact .inr ⟨_, rfl, by decide +kernel⟩
  rcases List.mem_cons.mp hx with rfl | hx
  · exact .inr ⟨_, rfl, by decide +kernel⟩
  rcases List.mem_cons.mp hx with rfl | hx
  · exact .inr ⟨_, rfl, by decide +kernel⟩
  rcases List.mem_cons.mp hx with rfl | hx
  · exact .inr ⟨_, rfl, by decide +kernel⟩
  rcases List.mem_cons.mp hx with rfl | hx
  · exact .inr ⟨_, rfl, by decide +kernel⟩
  rcases List.mem_cons.mp hx with rfl | hx
  · exact .inr ⟨_, rfl, by decide +kernel⟩
  rcases List.mem_cons.mp hx with rfl | hx
  · exact .inr ⟨_, rfl, by decide +kernel⟩
  rcases List.mem_cons.mp hx with rfl | hx
  · exact .inr ⟨_, rfl, by decide +kernel⟩
  rcases List.mem_cons.mp hx with rfl | hx
  · exact .inr ⟨_, rfl, by decide +kernel⟩
  rcases List.mem_cons.mp hx with rfl | hx
  · exact .inr ⟨_, rfl, by decide +kernel⟩
  rcases List.mem_cons.mp hx with rfl | hx
  · exact .inr ⟨_, rfl, by decide +kernel⟩
  rcases List.mem_cons.mp hx with rfl | hx
  · exact .inr ⟨_, rfl, by decide +kernel⟩
  rcases List.mem_cons.mp hx with rfl | hx
  · exact .inr ⟨_, rfl, by decide +kernel⟩
  rcases List.mem_cons.mp hx with rfl | hx
  · exact .inr ⟨_, rfl, by decide +kernel⟩
  rcases List.mem_cons.mp hx with rfl | hx
  · exact .inr ⟨_, rfl, by decide +kernel⟩
  rcases List.mem_cons.mp hx with rfl | hx
  · exact .inr ⟨_, rfl, by decide +kernel⟩
  rcases List.mem_cons.mp hx with rfl | hx
  · exact .inr ⟨_, rfl, by decide +kernel⟩
  rcases List.mem_cons.mp hx with rfl | hx
  · exact .inr ⟨_, rfl, by decide +kernel⟩
  rcases List.mem_cons.mp hx with rfl | hx
  · exact .inr ⟨_, rfl, by decide +kernel⟩
  rcases List.mem_cons.mp hx with rfl | hx
  · exact .inr ⟨_, rfl, by decide +kernel⟩
  cases hx
/-- read_value of each bad thing is refused -/
theorem bad2 (V1 : Env1 P w K mg base T C fI cL PL) (hr : Room 64 (A.deeper (envOfC "law" (defScope sLaw) s.heap.objs.size g (.ref cL)))) : PS (lawX P w K mg base g cL A outer s H) (stmtL 4) (tBad1 T) := by
  have nd := scLaw.nd
  have hr9 := hr.mono (show 9 ≤ 64 by decide)
  refine' ps_imp (ps_for PassesOwn.never rfl (pi_list (pe_lst (pa_cons pe_non (pa_cons pe_int (pa_cons pe_str (pa_cons pe_str (pa_cons pe_str (pa_cons pe_str (pa_cons pe_str (pa_cons pe_str (pa_cons pe_str (pa_cons pe_str (pa_cons pe_str (pa_cons pe_str (pa_cons pe_str (pa_cons pe_str (pa_cons pe_str (pa_cons pe_str (pa_cons pe_str (pa_cons pe_str (pa_cons pe_str (pa_cons pe_str (pa_cons pe_str (pa_cons pe_str (pa_cons pe_str (pa_cons pe_str (pa_cons pe_str (pa_cons pe_str (pa_cons pe_str (pa_cons pe_str (pa_nil))))))))))))))))))))))))))))))) (pg_name (i := 10) nd rfl (Or.inr rfl))
    (pss_one (ps_if (pt_cmpR (op_neD hr.units) (pe_lamR (T := T) (kl := 5) (tb := fun E => tCall (spRead K C) [] E (tCons (tVar 10) tNil)) rfl rfl rfl V1.Dw scWord rfl (fun g fd m F => V1.hW g fd m F 6) V1.TB rfl V1.hm V1.hu hr9 (lamS_by (sc := defScope sLaw) (by decide +kernel)) rfl (fun _ _ _ _ _ => rfl)
      (fun A2 outer2 s1 HZ E f' c' hr2 un fr => ?hb)) (pe_tup (pa_cons pe_str (pa_cons pe_int pa_nil))) (nomark _)) (pss_one (ps_ret pe_bl)) pss_nil))) ?_
  case hb => exact pe_callP V1.GR hr2 (passes_call (takes_of (E := E) rfl rfl rfl rfl) (fun _ _ _ _ h => h)) (pa_cons (pv 10) pa_nil)
  rintro Dd σ H0 ⟨x0, x1, x2, x3, x4, x5, x6, x7, x8, x9, x10, rfl, hT, k⟩
  refine ⟨by show 28 ≤ sizeLine; decide, fun L nL => ?_⟩
  have e7 : ExtN H0 (upd H0 L (.lst things2)) := ext_new (ExtN.refl _) nL
  have t7 := tabs_new (o := .lst things2) hT nL
  have hL : (upd H0 L (.lst things2)) L = some (.lst things2) := upd_same
  refine ⟨L, rfl, ⟨_, SqL.of hL⟩, for_list (K := K) (a := L) (xs := things2) (fun i σ H' => ∃ y, σ = [x0, x1, x2, x3, x4, x5, x6, x7, x8, x9, y] ∧ ExtN (upd H0 L (.lst things2)) H' ∧ Tabs T H') ⟨x10, rfl, ExtN.refl _, t7⟩ (fun i σ H' _ ⟨y, _, e, _⟩ => SqL.of (e _ _ hL (fun ps z => by cases z))) ?_ ?_⟩
  · rintro i x σ H' hi ⟨y, rfl, eL, tL⟩
    have hx := things2_ok x (List.mem_of_getElem? hi)
    refine ⟨tL, fun H8 c' e8 t8 hc' => ⟨t8, .inr ⟨fun HZ Q' E' eZ ke => ⟨eZ _ _ hc' (fun ps => codeO_ne ps), _, rfl, x, rfl, ?_⟩, fun p H9 e9 t9 hp => ?_⟩⟩⟩
    · rcases hx with ⟨d, hd, hn⟩ | ⟨z, rfl, hz⟩
      · exact .inr ⟨d, hd _ _, hn, fun H' dd s n h => ke H' dd s n h⟩
      · obtain ⟨z1, z2, z3⟩ := noText_of hz
        exact .inl ⟨z, rfl, z1, z2, (fun d c => by rw [z3] at c; cases c), fun _ H' dd s n h => ke H' dd s n h⟩
    refine ⟨by show 2 ≤ sizeLine; decide, fun q nq => ⟨badT, badT, badT_dp (by rw [upd_ne (ne_of_none hp nq)]; exact hp), badT_dp upd_same, badT_shaped, badT_shaped, _, rfl, ?_⟩⟩
    rw [show PyData.eqv badT badT = true by decide +kernel]
    refine iteF ?_
    exact ⟨some x, rfl, ext_new ((eL.trans e8).trans e9) nq, tabs_new t9 nq⟩
  · rintro σ H' ⟨y, rfl, eL, tL⟩
    exact k y H' (e7.trans eL) tL
end
end K88
set_option maxRecDepth 100000
set_option maxHeartbeats 4000000
namespace K88
open PySem PySem.Spec PyProof.Rows L2 TL LamX
def rAddS : R2 := fun x y H Q => ∃ i j, x = .str i ∧ y = .str j ∧ i.length + j.length ≤ sizeLine ∧ Q (.str (i ++ j)) H
theorem op_addS {X : Cx} : OpR X (binaryOp .Add) rAddS := op_add_str
def deepE (n : Nat) : Str := repS (Str.ofString "(") n ++ Str.ofString "a" ++ repS (Str.ofString ")") n
def tDeepE (n : Nat) : TE := tOp rAddS (tOp rAddS (tOp rMulS (tC (.str (Str.ofString "("))) (tC (.int (n : Nat)))) (tC (.str (Str.ofString "a")))) (tOp rMulS (tC (.str (Str.ofString ")"))) (tC (.int (n : Nat))))
theorem deep_ans {n : Nat} {σ : L2.St} {H : Hp} {Q : VK} (h1 : 2 ≤ n) (h2 : n ≤ 1000) (l1 : (repS (Str.ofString "(") n).length ≤ 1000) (l2 : (repS (Str.ofString ")") n).length ≤ 1000) (q : Q (.str (deepE n)) H) : tDeepE n σ H Q := by
  have e1 : (Str.ofString "(").length = 1 := by decide +kernel
  have e2 : (Str.ofString ")").length = 1 := by decide +kernel
  have e3 : (Str.ofString "a").length = 1 := by decide +kernel
  refine ⟨_, n, rfl, rfl, h1, h2, by omega, by omega, by omega, _, _, rfl, rfl, le_line (by omega), _, n, rfl, rfl, h1, h2, by omega, by omega, by omega, _, _, rfl, rfl, le_line (by rw [app_len]; omega), q⟩
def D59 : D := nestD 59 (.str (Str.ofString "a"))
theorem d59_val : valB 59 D59 = true := by decide +kernel
theorem d59_fit : Fit D59 := ⟨by decide +kernel, by decide +kernel, by decide +kernel⟩
theorem d59_text : vtx D59 = deepE 59 := by decide +kernel
theorem s59_fit : Fit (.str (deepE 59)) := ⟨by decide +kernel, by decide +kernel, by decide +kernel⟩
theorem s60_no : noText (deepE 60) = true := by decide +kernel
section
variable {P : Program} {w : World} {K : PySem.W.Frag} {mg : Str → Option Value} {base : Heap} {T : List (Addr × Str)} {C fI cL PL g : Addr} {A : Around} {outer : List Env} {s : Shared} {H : Hp}
def tDeepIf (K : PySem.W.Frag) (T : List (Addr × Str)) : TS := fun Dd σ H => ∃ (x0 x1 x3 x4 x5 x6 x7 x8 x9 x10 : Option V) (v : V), σ = [x0, x1, some v, x3, x4, x5, x6, x7, x8, x9, x10] ∧ Dt K H v D59 ∧ Tabs T H ∧ ∀ H', ExtN H H' → Tabs T H' → Dd.nx [x0, x1, some v, x3, x4, x5, x6, x7, x8, x9, x10] H'
theorem deepIf (V1 : Env1 P w K mg base T C fI cL PL) (hG : A.guards = some []) (hr : Room 64 (A.deeper (envOfC "law" (defScope sLaw) s.heap.objs.size g (.ref cL)))) : PS (lawX P w K mg base g cL A outer s H) (stmtL 3) (tDeepIf K T) := by
  have nd := scLaw.nd
  have hr9 := hr.mono (show 9 ≤ 64 by decide)
  have hr61 := hr.mono (show 61 ≤ 64 by decide)
  have hr4 := hr.mono (show 4 ≤ 64 by decide)
  have hr5 := hr.mono (show 5 ≤ 64 by decide)
  refine' ps_imp (ps_if (PW.pt (pw_or (pt_not (pt_val (pe_callG V1.GI hG hr61 (pa_cons (pe_callP (E := E0) V1.GT hr4 passL (pa_cons (pv 2) pa_nil)) (pa_cons (pe_op op_addS (pe_op op_addS (pe_op op_mul_str pe_str pe_int) pe_str) (pe_op op_mul_str pe_str pe_int)) pa_nil)))))
      (pw_or (pt_cmpR (op_neD hr.units) (pe_callP (E := E0) V1.GR hr5 passL (pa_cons (pe_op op_addS (pe_op op_addS (pe_op op_mul_str pe_str pe_int) pe_str) (pe_op op_mul_str pe_str pe_int)) pa_nil)) (pv 2) (nomark _))
      (pw_or1 (pt_cmpR (op_neD hr.units) (pe_lamR (T := T) (kl := 5) (tb := fun E => tCall (spRead K C) [] E (tCons (tDeepE 60) tNil)) rfl rfl rfl V1.Dw scWord rfl (fun g fd m F => V1.hW g fd m F 6) V1.TB rfl V1.hm V1.hu hr9 (lamS_by (sc := defScope sLaw) (by decide +kernel)) rfl (fun _ _ _ _ _ => rfl)
      (fun A2 outer2 s1 HZ E f' c' hr2 un fr => ?hb)) (pe_tup (pa_cons pe_str (pa_cons pe_int pa_nil))) (nomark _)))))) (pss_one (ps_ret pe_bl)) pss_nil) ?_
  case hb => exact pe_callP V1.GR hr2 (passes_call (takes_of (E := E) rfl rfl rfl rfl) (fun _ _ _ _ h => h)) (pa_cons (pe_op op_addS (pe_op op_addS (pe_op op_mul_str pe_str pe_int) pe_str) (pe_op op_mul_str pe_str pe_int)) pa_nil)
  rintro Dd σ H0 ⟨x0, x1, x3, x4, x5, x6, x7, x8, x9, x10, v, rfl, hv, hT, k⟩
  refine ⟨_, rfl, v, D59, rfl, hv.dp, d59_fit, fun _ H1 s1 => ?_, fun c => by rw [d59_val] at c; cases c⟩
  have key := @deep_ans 59 [x0, x1, some v, x3, x4, x5, x6, x7, x8, x9, x10] H1
  refine key (by decide) (by decide) (by decide +kernel) (by decide +kernel) ?_
  have rd : readV (tl (deepE 59)) = some D59 := by
    rw [← d59_text]
    exact read_vt d59_val
  refine ⟨.str (vtx D59), .str (deepE 59), .str (deepE 59), rfl, by rw [d59_text]; exact .str _, .str _, rfl, rfl, s59_fit, fun H2 s2 => ⟨_, rfl, ?_⟩⟩
  refine iteF ?_
  have key2 := @deep_ans 59 [x0, x1, some v, x3, x4, x5, x6, x7, x8, x9, x10] H2
  refine key2 (by decide) (by decide) (by decide +kernel) (by decide +kernel) ?_
  refine ⟨.str (deepE 59), rfl, .inl ⟨deepE 59, rfl, by decide +kernel, by decide +kernel, fun d hd v' H3 s3 hv' hf' => ?_, fun c => by rw [rd] at c; cases c⟩⟩
  rw [rd] at hd
  cases hd
  have hv3 := hv.keep (KeepT.of ((s1.trans s2).trans s3))
  refine ⟨_, rfl, D59, D59, hv'.dp, hv3.dp, d59_fit.shaped, d59_fit.shaped, _, rfl, ?_⟩
  rw [PySem.SeqAt.eqv_refl D59 d59_fit.lay]
  refine iteF ?_
  have e3 : ExtN H0 H3 := ExtN.of ((s1.trans s2).trans s3)
  refine ⟨Tabs.ext hT ((s1.trans s2).trans s3), fun H8 c' e8 t8 hc' => ⟨t8, .inr ⟨fun HZ Q' E' eZ ke => ⟨eZ _ _ hc' (fun ps => codeO_ne ps), ?_⟩, fun p H9 e9 t9 hp => ?_⟩⟩⟩
  · have key3 := @deep_ans 60 [x0, x1, some v, x3, x4, x5, x6, x7, x8, x9, x10] HZ
    refine key3 (by decide) (by decide) (by decide +kernel) (by decide +kernel) ?_
    obtain ⟨z1, z2, z3⟩ := noText_of s60_no
    exact ⟨_, rfl, .inl ⟨deepE 60, rfl, z1, z2, (fun d c => by rw [z3] at c; cases c), fun _ H' dd s n h => ke H' dd s n h⟩⟩
  · refine ⟨by show 2 ≤ sizeLine; decide, fun q nq => ⟨badT, badT, badT_dp (by rw [upd_ne (ne_of_none hp nq)]; exact hp), badT_dp upd_same, badT_shaped, badT_shaped, _, rfl, ?_⟩⟩
    rw [show PyData.eqv badT badT = true by decide +kernel]
    refine iteF ?_
    exact k _ (ext_new ((e3.trans e8).trans e9) nq) (tabs_new t9 nq)
end
end K88
set_option maxRecDepth 100000
set_option maxHeartbeats 4000000
namespace K88
open PySem PySem.Spec PyProof.Rows L2 TL LamX
theorem vt_small : ∀ {n : Nat} {d : D}, valB n d = true → ∀ c ∈ vt d, c < 1114112
  | n, d, hd => by
    have leaf : ∀ d : D, leafB d = true → ∀ c ∈ vt d, c < 1114112 := by
      intro d hl c hc
      cases d with
      | none =>
        have : c = 45 := by simpa [vt] using hc
        omega
      | str s =>
        have h' : (!(tl s).isEmpty && (tl s).all lowC) = true := hl
        rw [Bool.and_eq_true] at h'
        have := lowC_rng (List.all_eq_true.mp h'.2 c hc)
        omega
      | int i =>
        have hc : c ∈ intL i := hc
        rw [intL_eq] at hc
        split at hc
        · rcases List.mem_cons.mp hc with e | hc
          · omega
          · have := numL_digits _ c hc
            omega
        · have := numL_digits _ c hc
          omega
      | _ => cases hl
    induction n generalizing d with
    | zero => exact leaf d hd
    | succ n ih =>
      by_cases ht : ∃ ds, d = .tuple ds
      · obtain ⟨ds, rfl⟩ := ht
        have hd : ds.all (valB n) = true := hd
        have hk := List.all_eq_true.mp hd
        have rest : ∀ l : List D, (∀ e ∈ l, valB n e = true) → ∀ c ∈ vtR l, c < 1114112 := by
          intro l
          induction l with
          | nil => intro _ c hc; cases hc
          | cons e r il =>
            intro hl c hc
            have hc : c ∈ 32 :: (vt e ++ vtR r) := hc
            rcases List.mem_cons.mp hc with z | hc
            · omega
            · rcases List.mem_append.mp hc with z | z
              · exact ih e (hl e List.mem_cons_self) c z
              · exact il (fun x hx => hl x (List.mem_cons_of_mem _ hx)) c z
        intro c hc
        have hc : c ∈ 40 :: (vtA ds ++ [41]) := hc
        rcases List.mem_cons.mp hc with z | hc
        · omega
        · rcases List.mem_append.mp hc with z | z
          · cases ds with
            | nil => cases z
            | cons e r =>
              rcases List.mem_append.mp (show c ∈ vt e ++ vtR r from z) with z | z
              · exact ih e (hk e List.mem_cons_self) c z
              · exact rest r (fun x hx => hk x (List.mem_cons_of_mem _ hx)) c z
          · have : c = 41 := by simpa using z
            omega
      · exact leaf d (by rw [valB_leaf fun ds e => ht ⟨ds, e⟩] at hd; exact hd)
theorem strOk_vtx {n : Nat} {d : D} (h : valB n d = true) : PyData.strOk (vtx d) = true := by
  unfold PyData.strOk
  rw [← Array.all_toList, List.all_eq_true]
  intro c hc
  exact decide_eq_true (vt_small h c hc)
theorem vtx_fit {n : Nat} {d : D} (h : valB n d = true) (hz : sz d ≤ 100000) : Fit (.str (vtx d)) := by
  refine ⟨strOk_vtx h, Nat.zero_le _, ?_⟩
  have := vt_len d
  show 1 + (vtx d).length ≤ 1000000
  rw [len_tl, tl_vtx]
  omega
theorem Dr.fit {n : Nat} {d : D} (h : Dr n d) (hn : n ≤ 3) : Fit d ∧ sz d ≤ 404 ∧ valB 59 d = true ∧ count40 (vt d) ≤ 13 := by
  have b1 : bz n ≤ 404 := by
    have : n = 0 ∨ n = 1 ∨ n = 2 ∨ n = 3 := by omega
    rcases this with rfl | rfl | rfl | rfl <;> decide
  have b2 : bo n ≤ 13 := by
    have : n = 0 ∨ n = 1 ∨ n = 2 ∨ n = 3 := by omega
    rcases this with rfl | rfl | rfl | rfl <;> decide
  have h1 := h.siz
  have h2 := h.opn
  have h3 := h.dep
  exact ⟨⟨h.lay, by omega, by omega⟩, by omega, valB_mono (by omega) h.val, by omega⟩
theorem readV_fit {t : List Nat} {d : D} (h : readV t = some d) (h1 : count40 t ≤ 60) (h2 : t.length ≤ 100000) : Fit d := by
  obtain ⟨tk1, tk2, tk3⟩ := tok_ok t [] (fun c h => by cases h)
  have f := valueOf_fit tk1 (by rw [tk3]; exact h1) (by rw [tk2]; simpa using h2)
  unfold readV at h
  split at h
  · rename_i d' rest e
    split at h
    · cases h
      rw [e] at f
      exact f.mem List.mem_cons_self
    · cases h
  · cases h
/-- the state's changes leave the tables -/
theorem tabs_keepS {T : List (Addr × Str)} {D G C : Addr} {f : Nat} {H H' : Hp} (t : Tabs T H) (h : St D G C f H) (k : KeepS D G H H') : Tabs T H' := fun p hp => by
  obtain ⟨⟨r, t0, gs, cs, h1, h2, _⟩, _⟩ := h
  obtain ⟨ps, e1, e2, e3⟩ := t p hp
  refine ⟨ps, k _ _ (fun z => by rw [z, h1] at e1; cases e1) (fun z => by rw [z, h2] at e1; cases e1) e1, e2, fun pos cv hc => ?_⟩
  obtain ⟨c, a1, a2⟩ := e3 pos cv hc
  exact ⟨c, a1, k _ _ (fun z => by rw [z, h1] at a2; unfold CodeO at a2; cases a2) (fun z => by rw [z, h2] at a2; unfold CodeO at a2; cases a2) a2⟩
theorem text_eq {d1 d2 : D} (w1 : valB 59 d1 = true) (w2 : valB 59 d2 = true) (hc : PyData.canLay0 d1 = true) : decide (V.str (vtx d1) = V.str (vtx d2)) = PyData.eqv d1 d2 := by
  cases h : PyData.eqv d1 d2 with
  | true =>
    rw [eqv_eq w1 w2 h]
    exact decide_eq_true rfl
  | false =>
    refine decide_eq_false fun q => ?_
    have e : vt d1 = vt d2 := congrArg tl (V.str.inj q)
    have := vt_inj w1 w2 e
    subst this
    rw [PySem.SeqAt.eqv_refl d1 hc] at h
    cases h
def loopB : List Stmt := forBody (stmtL 5)
section
variable {P : Program} {w : World} {K : PySem.W.Frag} {mg : Str → Option Value} {base : Heap} {T : List (Addr × Str)} {C fI cL PL g : Addr} {A : Around} {outer : List Env} {s : Shared} {H : Hp}
/-- a turn of the law -/
def tTurn (T : List (Addr × Str)) : TS := fun Dd σ H => ∃ (x0 x2 x3 x4 x5 x6 x7 x8 x9 x10 : Option V) (D G Cc : Addr) (f : Nat), σ = [x0, some (.ref D), x2, x3, x4, x5, x6, x7, x8, x9, x10] ∧ St D G Cc (f + 1000) H ∧ Tabs T H ∧
  ∀ (y4 y5 y6 y7 y8 y9 : Option V) H', St D G Cc f H' → Tabs T H' → Dd.nx [x0, some (.ref D), x2, x3, y4, y5, y6, y7, y8, y9, x10] H'
theorem turn (V1 : Env1 P w K mg base T C fI cL PL) (hG : A.guards = some []) (hr : Room 64 (A.deeper (envOfC "law" (defScope sLaw) s.heap.objs.size g (.ref cL)))) : PSs (lawX P w K mg base g cL A outer s H) loopB (tTurn T) := by
  have nd := scLaw.nd
  have hr9 := hr.mono (show 9 ≤ 64 by decide)
  have hr61 := hr.mono (show 61 ≤ 64 by decide)
  have hr60 := hr.mono (show 60 ≤ 64 by decide)
  have hr7 := hr.mono (show 7 ≤ 64 by decide)
  have hr5 := hr.mono (show 5 ≤ 64 by decide)
  have hr4 := hr.mono (show 4 ≤ 64 by decide)
  have hr3 := hr.mono (show 3 ≤ 64 by decide)
  have hr2 := hr.mono (show 2 ≤ 64 by decide)
  refine' pss_imp (pss_cons (ps_par (i := 4) (j := 5) rfl nd rfl rfl (by decide) rfl rfl (pa_cons (pe_callP V1.GS hr7 pass0 (pa_cons (pv 1) (pa_cons pe_int pa_nil))) (pa_cons (pe_callP V1.GS hr7 pass0 (pa_cons (pv 1) (pa_cons pe_int pa_nil))) pa_nil)) (by rfl))
    (pss_cons (ps_set (i := 6) nd rfl (Or.inl rfl) (pe_callP V1.GL hr60 pass0 (pa_cons (pv 4) pa_nil)))
    (pss_cons (ps_if (PW.pt (pw_or (pt_not (pt_val (pe_callG V1.GI hG hr61 (pa_cons (pe_callP (E := E0) V1.GT hr4 passL (pa_cons (pv 4) pa_nil)) (pa_cons (pv 6) pa_nil)))))
      (pw_or (pt_not (pt_val (pe_callG V1.GI hG hr61 (pa_cons (pe_callP (E := E0) V1.GR hr5 passL (pa_cons (pv 6) pa_nil)) (pa_cons (pv 4) pa_nil)))))
      (pw_or (pt_not (pt_val (pe_callG V1.GI hG hr61 (pa_cons (pe_callK1 (E := E0) V1.GR hr5 passL (pv 6)) (pa_cons (pv 4) pa_nil)))))
      (pw_or1 (pt_not (pt_val (pe_callG V1.GI hG hr61 (pa_cons (pe_callK1 (E := E0) V1.GT hr4 passL (pv 4)) (pa_cons (pv 6) pa_nil)))))))))) (pss_one (ps_ret pe_bl)) pss_nil)
    (pss_cons (ps_if (pt_cmpR op_ne (pe_cmpR op_eq (pe_callP (E := E0) V1.GT hr4 passL (pa_cons (pv 4) pa_nil)) (pe_callP (E := E0) V1.GT hr4 passL (pa_cons (pv 5) pa_nil)) (nomark _)) (pe_cmpR (op_eqD hr.units) (pv 4) (pv 5) (nomark _)) (nomark _)) (pss_one (ps_ret pe_bl)) pss_nil)
    (pss_cons (ps_set (i := 7) nd rfl (Or.inl rfl) (pe_callP V1.GD hr2 pass0 (pa_cons (pv 1) (pa_cons (pe_op op_add (pe_callB call_len (by rfl) V1.Tx.len (by decide +kernel) (pa_cons (pv 6) pa_nil)) pe_int) pa_nil))))
    (pss_cons (ps_set (i := 9) nd rfl (Or.inr rfl) (pe_callP V1.GK hr3 pass0 (pa_cons (pv 1) (pa_cons (pe_lst (pa_cons
        (pe_op op_addS (pe_op op_addS (pe_slice sl_str (pv 6) po_none (po_some (pv 7))) (pe_callP V1.GK hr3 pass0 (pa_cons (pv 1) (pa_cons (pe_lst (pa_cons pe_str (pa_cons pe_str (pa_cons pe_str (pa_cons pe_str pa_nil))))) pa_nil)))) (pe_slice sl_str (pv 6) (po_some (pv 7)) po_none))
        (pa_cons (pe_op op_addS (pe_slice sl_str (pv 6) po_none (po_some (pv 7))) (pe_slice sl_str (pv 6) (po_some (pe_op op_add (pv 7) pe_int)) po_none)) pa_nil))) pa_nil))))
    (pss_cons (ps_set (i := 8) nd rfl (Or.inl rfl) (pe_lamR (T := T) (kl := 5) (tb := fun E => tCall (spRead K C) [] E (tCons (tVar 9) tNil)) rfl rfl rfl V1.Dw scWord rfl (fun g fd m F => V1.hW g fd m F 6) V1.TB rfl V1.hm V1.hu hr9 (lamS_by (sc := defScope sLaw) (by decide +kernel)) rfl (fun _ _ _ _ _ => rfl)
      (fun A2 outer2 s1 HZ E f' c' hr2 un fr => ?hb)))
    (pss_one (ps_if (PW.pt (pw_and (pt_cmpR (op_neD hr.units) (pv 8) (pe_tup (pa_cons pe_str (pa_cons pe_int pa_nil))) (nomark _)) (pw_and1 (PW.pt (pw_or (pt_not (pt_val (pe_callP V1.GP hr60 pass0 (pa_cons (pv 8) pa_nil))))
      (pw_or1 (pt_cmpR op_ne (pe_callP V1.GL hr60 pass0 (pa_cons (pv 8) pa_nil)) (pv 9) (nomark _)))))))) (pss_one (ps_ret pe_bl)) pss_nil))))))))) ?_
  case hb => exact pe_callP V1.GR hr2 (passes_call (takes_of (E := E) rfl rfl rfl rfl) (fun _ _ _ _ h => h)) (pa_cons (pv 9) pa_nil)
  rintro Dd σ H0 ⟨x0, x2, x3, x4, x5, x6, x7, x8, x9, x10, D, G, Cc, f, rfl, hS, hT, k⟩
  have b3 : bf 3 = 80 := by decide
  -- one, other
  refine ⟨_, rfl, D, G, Cc, f + 500, rfl, hS.mono (by rw [b3]; omega), fun v1 d1 H1 dr1 hv1 S1 k1 => ?_⟩
  refine ⟨_, rfl, D, G, Cc, f + 300, rfl, S1.mono (by rw [b3]; omega), fun v2 d2 H2 dr2 hv2 S2 k2 => ?_⟩
  have T2 := tabs_keepS (tabs_keepS hT hS k1) S1 k2
  have hv1 := hv1.keep (k2.keepT S1)
  obtain ⟨f1, z1, w1, c1⟩ := dr1.fit (by decide)
  obtain ⟨f2, z2, w2, c2⟩ := dr2.fit (by decide)
  have l1 : (vtx d1).length ≤ 1000 := by
    have := vt_len d1
    rw [len_tl, tl_vtx]
    omega
  refine ⟨_, _, rfl, ?_⟩
  -- text
  refine ⟨_, rfl, v1, d1, rfl, hv1.dp, w1, f1.siz, fun H3 s3 => ?_⟩
  have S3 := S2.same s3
  have T3 := Tabs.ext T2 s3
  have hv1 := hv1.keep (KeepT.of s3)
  have hv2 := hv2.keep (KeepT.of s3)
  have fx := vtx_fit w1 (by omega)
  have rd : readV (tl (vtx d1)) = some d1 := by rw [tl_vtx]; exact read_vt w1
  have ct : count40 (tl (vtx d1)) ≤ 60 := by rw [tl_vtx]; omega
  have is_text : ∀ H', ∃ (x y : V) (d : PyData), ([.str (vtx d1), .str (vtx d1)] : List V) = [x, y] ∧ Dp K H' x d ∧ Dp K H' y d ∧ plB 59 d = true ∧ PyData.showable d = true ∧ Fit d := fun H' => ⟨_, _, .str (vtx d1), rfl, .str _, .str _, rfl, rfl, fx⟩
  -- not _law_is(value_text(one), text)
  refine ⟨_, rfl, v1, d1, rfl, hv1.dp, f1, fun _ H4 s4 => ?_, fun c => by rw [w1] at c; cases c⟩
  refine ⟨_, rfl, .str (vtx d1), .str (vtx d1), .str (vtx d1), rfl, .str _, .str _, rfl, rfl, fx, fun H5 s5 => ⟨_, rfl, ?_⟩⟩
  refine iteF ?_
  have s35 := s4.trans s5
  -- not _law_is(read_value(text), one)
  refine ⟨_, rfl, .str (vtx d1), rfl, .inl ⟨vtx d1, rfl, by omega, ct, fun d hd v' H6 s6 hv' hf' => ?_, fun c => by rw [rd] at c; cases c⟩⟩
  rw [rd] at hd
  cases hd
  have hv16 := hv1.keep (KeepT.of (s35.trans s6))
  refine ⟨_, rfl, v', v1, d1, rfl, hv'.dp, hv16.dp, val_pl w1, showable_pl w1, f1, fun H7 s7 => ⟨_, rfl, ?_⟩⟩
  refine iteF ?_
  have s37 := (s35.trans s6).trans s7
  -- not _law_is(read_value(text=text), one)
  refine ⟨_, rfl, .str (vtx d1), rfl, .inl ⟨vtx d1, rfl, by omega, ct, fun d hd v' H8 s8 hv' hf' => ?_, fun c => by rw [rd] at c; cases c⟩⟩
  rw [rd] at hd
  cases hd
  have hv18 := hv1.keep (KeepT.of (s37.trans s8))
  refine ⟨_, rfl, v', v1, d1, rfl, hv'.dp, hv18.dp, val_pl w1, showable_pl w1, f1, fun H9 s9 => ⟨_, rfl, ?_⟩⟩
  refine iteF ?_
  have s39 := (s37.trans s8).trans s9
  have hv19 := hv1.keep (KeepT.of s39)
  -- not _law_is(value_text(value=one), text)
  refine ⟨_, rfl, v1, d1, rfl, hv19.dp, f1, fun _ H10 s10 => ?_, fun c => by rw [w1] at c; cases c⟩
  refine ⟨_, rfl, .str (vtx d1), .str (vtx d1), .str (vtx d1), rfl, .str _, .str _, rfl, rfl, fx, fun H11 s11 => ⟨_, rfl, ?_⟩⟩
  refine iteF ?_
  have s3b := (s39.trans s10).trans s11
  have S4 := S3.same s3b
  have T4 := Tabs.ext T3 s3b
  have hv1 := hv1.keep (KeepT.of s3b)
  have hv2 := hv2.keep (KeepT.of s3b)
  clear is_text hv16 hv18 hv19
  -- equal texts are of equal values
  refine ⟨_, rfl, v1, d1, rfl, hv1.dp, f1, fun _ H12 s12 => ?_, fun c => by rw [w1] at c; cases c⟩
  have hv2' := hv2.keep (KeepT.of s12)
  refine ⟨_, rfl, v2, d2, rfl, hv2'.dp, f2, fun _ H13 s13 => ?_, fun c => by rw [w2] at c; cases c⟩
  have s123 := s12.trans s13
  have hv1 := hv1.keep (KeepT.of s123)
  have hv2 := hv2.keep (KeepT.of s123)
  refine ⟨rfl, _, rfl, _, rfl, d1, d2, hv1.dp, hv2.dp, f1.shaped, f2.shaped, rfl, _, rfl, ?_⟩
  rw [text_eq w1 w2 f1.lay, decide_eq_true rfl]
  refine iteF ?_
  have S5 := S4.same s123
  have T5 := Tabs.ext T4 s123
  clear hv2' s12 s13
  -- at
  refine ⟨_, rfl, _, rfl, _, (vtx d1).length, rfl, ⟨le_line (by omega), rfl⟩, _, _, rfl, rfl, D, G, Cc, f + 200, _, rfl, S5.mono (by omega), by omega, by omega, fun a H14 a0 a1 S6 k6 => ?_⟩
  have T6 := tabs_keepS T5 S5 k6
  -- bent
  refine ⟨_, rfl, _, rfl, _, rfl, _, rfl, vtx d1, rfl, le_line (by omega), ?_⟩
  refine ⟨_, rfl, by show 4 ≤ sizeLine; decide, fun p np => ?_⟩
  have sp := same_newF (Same.refl H14) (o := .lst [.str "(", .str ")", .str " ", .str "A"]) np
  have S7 := S6.same sp
  have pG : p ≠ G := by
    obtain ⟨⟨_, _, _, _, _, h2, _⟩, _⟩ := id S6
    exact (ne_of_none h2 np).symm
  have T7 := Tabs.ext T6 sp
  refine ⟨D, G, Cc, p, f + 100, [.str "(", .str ")", .str " ", .str "A"], rfl, S7.mono (by omega), upd_same, pG, by simp, by decide, fun x H15 hx S8 k8 => ?_⟩
  have T8 := tabs_keepS T7 S7 k8
  obtain ⟨c, rfl, lc, cc⟩ : ∃ c : Str, x = .str c ∧ c.length = 1 ∧ count40 (tl c) ≤ 1 := by
    simp only [List.mem_cons, List.not_mem_nil, or_false] at hx
    rcases hx with rfl | rfl | rfl | rfl <;> exact ⟨_, rfl, by decide +kernel, by decide +kernel⟩
  obtain ⟨q1, q1'⟩ := cut_ok (vtx d1) none (some a)
  obtain ⟨q2, q2'⟩ := cut_ok (vtx d1) (some a) none
  obtain ⟨q3, q3'⟩ := cut_ok (vtx d1) (some (a + 1)) none
  rw [tl_vtx] at q1 q2 q3
  refine ⟨_, _, rfl, rfl, le_line (by omega), _, rfl, _, rfl, _, rfl, vtx d1, rfl, le_line (by omega), _, _, rfl, rfl, le_line (by rw [app_len]; omega), ?_⟩
  refine ⟨_, rfl, _, rfl, _, rfl, vtx d1, rfl, le_line (by omega), _, rfl, _, rfl, _, _, rfl, rfl, _, rfl, vtx d1, rfl, le_line (by omega), _, _, rfl, rfl, le_line (by omega), ?_⟩
  generalize hz1 : cutS (vtx d1) none (some a) ++ c ++ cutS (vtx d1) (some a) none = za
  generalize hz2 : cutS (vtx d1) none (some a) ++ cutS (vtx d1) (some (a + 1)) none = zb
  have ha : za.length ≤ 100000 ∧ count40 (tl za) ≤ 60 := by
    rw [← hz1, app_len, app_len, tl_append, tl_append, count40_app, count40_app]
    omega
  have hb : zb.length ≤ 100000 ∧ count40 (tl zb) ≤ 60 := by
    rw [← hz2, app_len, tl_append, count40_app]
    omega
  refine ⟨by show 2 ≤ sizeLine; decide, fun q nq => ?_⟩
  have sq := same_newF (Same.refl H15) (o := .lst [.str za, .str zb]) nq
  have S9 := S8.same sq
  have qG : q ≠ G := by
    obtain ⟨⟨_, _, _, _, _, h2, _⟩, _⟩ := id S8
    exact (ne_of_none h2 nq).symm
  have T9 := Tabs.ext T8 sq
  refine ⟨D, G, Cc, q, f, [.str za, .str zb], rfl, S9.mono (by omega), upd_same, qG, by simp, by show 2 ≤ 1000; decide, fun y H16 hy S10 k10 => ?_⟩
  have T10 := tabs_keepS T9 S9 k10
  obtain ⟨z, rfl, lz, cz⟩ : ∃ z : Str, y = .str z ∧ z.length ≤ 100000 ∧ count40 (tl z) ≤ 60 := by
    simp only [List.mem_cons, List.not_mem_nil, or_false] at hy
    rcases hy with rfl | rfl
    · exact ⟨_, rfl, ha.1, ha.2⟩
    · exact ⟨_, rfl, hb.1, hb.2⟩
  -- told
  refine ⟨T10, fun H17 c' e17 t17 hc' => ⟨t17, ?_⟩⟩
  cases hrd : readV (tl z) with
  | none =>
    refine .inr ⟨fun HZ Q' E' eZ ke => ⟨eZ _ _ hc' (fun ps => codeO_ne ps), _, rfl, .str z, rfl, .inl ⟨z, rfl, lz, cz, (fun d c => by rw [hrd] at c; cases c), fun _ H' dd s n h => ke H' dd s n h⟩⟩, fun r H18 e18 t18 hr' => ?_⟩
    refine ⟨_, rfl, by show 2 ≤ sizeLine; decide, fun u nu => ⟨badT, badT, badT_dp (by rw [upd_ne (ne_of_none hr' nu)]; exact hr'), badT_dp upd_same, badT_shaped, badT_shaped, _, rfl, ?_⟩⟩
    rw [show PyData.eqv badT badT = true by decide +kernel]
    refine iteF ?_
    refine iteF ?_
    exact k _ _ _ _ _ _ _ ((S10.ext (e17.trans e18)).same (same_newF (Same.refl _) nu)) (tabs_new t18 nu)
  | some d =>
    obtain ⟨wd, wt⟩ := readV_some hrd
    have fd : Fit d := readV_fit hrd cz (by rw [← len_tl]; exact lz)
    refine .inl ⟨d, fun HZ Q' E' eZ ke => ⟨eZ _ _ hc' (fun ps => codeO_ne ps), _, rfl, .str z, rfl, .inl ⟨z, rfl, lz, cz, (fun d' hd v' H' s' hv' _ => by rw [hrd] at hd; cases hd; exact ke v' H' s' hv'), fun c => by rw [hrd] at c; cases c⟩⟩, fun v H18 e18 t18 hv => ?_⟩
    refine ⟨_, rfl, by show 2 ≤ sizeLine; decide, fun u nu => ?_⟩
    have hvu := Dt.keep hv ((KeepT.refl H18).updN (o := .tup [.str "text", .int 0]) nu)
    refine ⟨d, badT, hvu.dp, badT_dp upd_same, fd.shaped, badT_shaped, _, rfl, ?_⟩
    have S11 := (S10.ext (e17.trans e18)).same (same_newF (Same.refl _) (o := .tup [.str "text", .int 0]) nu)
    have T11 := tabs_new (o := .tup [.str "text", .int 0]) t18 nu
    cases heq : PyData.eqv d badT with
    | true =>
      refine iteF ?_
      refine iteF ?_
      exact k _ _ _ _ _ _ _ S11 T11
    | false =>
      refine iteT ?_
      refine ⟨_, rfl, v, d, rfl, hvu.dp, val_pl wd, fd.siz, fun H19 s19 => ⟨_, rfl, ?_⟩⟩
      refine iteF ?_
      have hv19 := hvu.keep (KeepT.of s19)
      refine ⟨_, rfl, v, d, rfl, hv19.dp, wd, fd.siz, fun H20 s20 => ⟨_, rfl, rfl, _, rfl, ?_⟩⟩
      have ez : vtx d = z := ext_tl wt
      rw [ez, decide_eq_true rfl]
      refine iteF ?_
      exact k _ _ _ _ _ _ _ (S11.same (s19.trans s20)) (Tabs.ext T11 (s19.trans s20))
end
end K88
set_option maxRecDepth 100000
set_option maxHeartbeats 4000000
namespace K88
open PySem PySem.Spec PyProof.Rows L2 TL LamX
theorem sql_ext {K : PySem.W.Frag} {H H' : Hp} {a : Addr} {xs : List V} (e : ExtN H H') (h : SqL K H a xs) : SqL K H' a xs := by
  rcases h with (h | ⟨o, h⟩) | h
  · exact .inl (.inl (e _ _ h (fun ps z => by cases z)))
  · exact .inl (.inr ⟨o, e _ _ h (fun ps z => by cases z)⟩)
  · exact .inr h
def spLaw (K : PySem.W.Frag) (T : List (Addr × Str)) : Sp := fun vs H Q _ => ∃ (a : Addr) (ns : List Int), vs = [.ref a] ∧ SqL K H a (ns.map V.int) ∧ ns.length ≤ 1000 ∧ Tabs T H ∧ ∀ H', Q (.bl true) H'
section
variable {P : Program} {w : World} {K : PySem.W.Frag} {mg : Str → Option Value} {base : Heap} {T : List (Addr × Str)} {C fI cL PL g : Addr}
theorem ok_law (V1 : Env1 P w K mg base T C fI cL PL) {fd : FuncData} (F : Fun K "law" "law" sLaw g fd) (hcL : codeOf K g = some (.ref cL)) : FnG P w K mg base 65 g fd ["script"] (spLaw K T) := by
  refine fnG_of F scLaw (fun vs H Q E h => ?_) (fun cdv hcd A outer s H vs Q hG hr h => ?_)
  · obtain ⟨a, ns, rfl, _⟩ := h
    rfl
  · rw [hcL] at hcd
    cases hcd
    obtain ⟨a, ns, rfl, ha, hl, hT, k⟩ := h
    have nd := scLaw.nd
    have hr1 := hr.mono (show 1 ≤ 64 by decide)
    refine ⟨_, pss_cons (ps_set (i := 1) nd rfl (Or.inl rfl) (pe_callP V1.GB hr1 pass0 (pa_cons (pv 0) pa_nil)))
      (pss_cons (bad1 V1 hr)
      (pss_cons (ps_set (i := 2) nd rfl (Or.inl rfl) (pe_callP V1.GN hr1 pass0 (pa_cons pe_int (pa_cons pe_str pa_nil))))
      (pss_cons (deepIf V1 hG hr)
      (pss_cons (bad2 V1 hr)
      (pss_cons (ps_for PassesOwn.never rfl (pi_range1 rfl V1.Tx.range (pa_cons (pe_op op_add pe_int (pe_callB (call_min2 rfl) (by rfl) V1.Tx.min (by decide +kernel) (pa_cons (pe_callB call_len (by rfl) V1.Tx.len (by decide +kernel) (pa_cons (pv 0) pa_nil)) (pa_cons pe_int pa_nil)))) pa_nil)) (pg_name (i := 3) nd rfl (Or.inl rfl)) (turn V1 hG hr))
      (pss_one (ps_ret pe_bl))))))), ?_⟩
    refine ⟨_, rfl, a, ns, rfl, ha, hl, fun D G Cc H1 s1 S1 nD nG nC => ?_⟩
    refine ⟨_, _, _, _, _, _, _, _, _, _, _, rfl, Tabs.ext hT s1, fun y H2 e2 t2 => ?_⟩
    refine ⟨59, .str "a", .str "a", rfl, .str _, by decide, fun vn H3 s3 hn => ?_⟩
    refine ⟨_, _, _, _, _, _, _, _, _, _, vn, rfl, hn, Tabs.ext t2 s3, fun H4 e4 t4 => ?_⟩
    refine ⟨_, _, _, _, _, _, _, _, _, _, _, rfl, t4, fun y2 H5 e5 t5 => ?_⟩
    have e15 : ExtN H1 H5 := ((e2.trans (ExtN.of s3)).trans e4).trans e5
    have ha5 := sql_ext e15 (s1.seq ha)
    have S5 := S1.ext e15
    refine ⟨_, rfl, _, (ns.map V.int).length, rfl, .inl ⟨_, ha5, rfl⟩, _, _, rfl, _, _, rfl, rfl, ?_⟩
    rw [List.length_map]
    generalize hm : (8 : Int) + (if (10 : Int) < ((ns.length : Nat) : Int) then 10 else ((ns.length : Nat) : Int)) = m
    have m1 : 0 ≤ m ∧ m ≤ 18 := by
      rw [← hm]
      split <;> omega
    refine ⟨m, by show [V.int ((8 : Int) + (if (10 : Int) < ((ns.length : Nat) : Int) then 10 else ((ns.length : Nat) : Int)))] = [V.int m]; rw [hm], by omega, by omega, ?_⟩
    refine for_range (lo := 0) (n := m.toNat) (fun i σ H' => ∃ (x0 x2 x3 x4 x5 x6 x7 x8 x9 x10 : Option V), σ = [x0, some (.ref D), x2, x3, x4, x5, x6, x7, x8, x9, x10] ∧ St D G Cc (1000 * (20 - i)) H' ∧ Tabs T H')
      ⟨_, _, _, _, _, _, _, _, _, _, rfl, S5.mono (by omega), t5⟩ ?_ ?_
    · rintro i σ H6 hi ⟨x0, x2, x3, x4, x5, x6, x7, x8, x9, x10, rfl, S6, t6⟩
      have hi18 : i < 18 := by omega
      refine ⟨_, _, _, _, _, _, _, _, _, _, D, G, Cc, 1000 * (20 - (i + 1)), rfl, S6.mono (by omega), t6, fun y4 y5 y6 y7 y8 y9 H7 S7 t7 => ?_⟩
      exact ⟨_, _, _, _, _, _, _, _, _, _, rfl, S7, t7⟩
    · rintro σ H6 ⟨x0, x2, x3, x4, x5, x6, x7, x8, x9, x10, rfl, S6, t6⟩
      exact k H6
end
end K88
set_option maxRecDepth 100000
set_option maxHeartbeats 4000000
namespace K88
open PySem PySem.Spec PyProof.Rows L2 TL LamX
/-! ## the end of the row: a law that asks repr, which wants no object being written -/
abbrev tabO : Obj := { cls := .none, data := .fields #[] }
/-- what is known of the memory at which the law is called -/
structure Start (K : PySem.W.Frag) (mg mb : Str → Option Value) (s : Shared) (cs : List (Addr × Addr)) (a : Addr) (ys : List Value) (ns : List Int) : Prop where
  kin : K.In s.heap
  gN : s.heap.Ns mainGlobals mg
  bN : s.heap.Ns builtinsNs mb
  bB : ∀ y : Str, y ≠ "__name__" → mb y = bootBuiltins y
  lim : s.heap.NoLimit
  gen : s.gens = #[]
  tb : ∀ c ∈ cs, s.heap.get? c.2 = some tabO
  tk : ∀ c ∈ cs, K.lookup c.2 = none
  hd : ∀ c ∈ cs, PySem.W.CodeHd s.heap c.1 c.2
  bm : ∃ (m : Addr) (o : Obj), mg "__builtins__" = some (.ref m) ∧ m ≠ builtinsNs ∧ s.heap.get? m = some o ∧ o.cls = .type "module" ∧ o.dict = some builtinsNs ∧ o.data = .plain
  lst : s.heap.get? a = some { cls := .type "list", data := .seq ys.toArray }
  ia : IntsAre ys ns
  len : ns.length ≤ sizeLine
/-- the memory as the walk sees it: the tables and, where K does not know it, the script -/
structure Picked (P : Program) (w : World) (K : PySem.W.Frag) (s : Shared) (cs : List (Addr × Addr)) (a : Addr) (ns : List Int) (H : Hp) : Prop where
  tab : ∀ c ∈ cs, H c.2 = some (.tbl #[])
  sort : ∀ b, H b = none ∨ (∃ c ∈ cs, c.2 = b) ∨ ∃ o us, H b = some (.frz o (.lst us))
  scr : SqL K H a (ns.map V.int)
  ok : HOk P w H s.heap
  own : ∀ b, H b ≠ none → b = a ∨ ∃ c ∈ cs, c.2 = b
  free : H a ≠ none → K.lookup a = none
section
variable {P : Program} {w : World} {K : PySem.W.Frag} {mg mb : Str → Option Value} {s : Shared} {cs : List (Addr × Addr)} {a : Addr} {ys : List Value} {ns : List Int} {H : Hp}
theorem Start.apart (S : Start K mg mb s cs a ys ns) : ∀ c ∈ cs, c.2 ≠ a := fun c hc e => by
  have q := S.tb c hc
  rw [e, S.lst] at q
  have z := congrArg Obj.data (Option.some.inj q)
  cases z
open Classical in
noncomputable def hpOf (cs : List (Addr × Addr)) (top : Addr → Option HO) : Hp := fun b => if (∃ c ∈ cs, c.2 = b) then some (.tbl #[]) else top b
theorem hpOf_in {top : Addr → Option HO} {b : Addr} (h : ∃ c ∈ cs, c.2 = b) : hpOf cs top b = some (.tbl #[]) := by
  unfold hpOf
  rw [if_pos h]
theorem hpOf_out {top : Addr → Option HO} {b : Addr} (h : ¬ ∃ c ∈ cs, c.2 = b) : hpOf cs top b = top b := by
  unfold hpOf
  rw [if_neg h]
theorem Start.picked (S : Start K mg mb s cs a ys ns) : ∃ H, Picked P w K s cs a ns H := by
  classical
  have hv := vals_ints S.ia
  have hl := S.ia.length
  have out : ¬ ∃ c ∈ cs, c.2 = a := fun ⟨c, hc, e⟩ => S.apart c hc e
  have tabs : ∀ b, (∃ c ∈ cs, c.2 = b) → s.heap.get? b = some tabO := fun b ⟨c, hc, e⟩ => by
    rw [← e]
    exact S.tb c hc
  cases known : K.lookup a with
  | some o =>
    have at_a := S.kin a o known
    rw [S.lst] at at_a
    cases at_a
    refine ⟨hpOf cs fun _ => none, fun c hc => hpOf_in ⟨c, hc, rfl⟩, fun b => ?_, .inr ⟨_, ys.toArray, _, known, rfl, rfl, rfl, ?_, ?_⟩, fun b u z => ?_, fun b z => ?_, fun z => absurd (hpOf_out out) z⟩
    · by_cases q : ∃ c ∈ cs, c.2 = b
      · exact .inr (.inl q)
      · exact .inl (hpOf_out q)
    · rw [List.size_toArray, hl]
      exact S.len
    · simpa using hv
    · by_cases q : ∃ c ∈ cs, c.2 = b
      · rw [hpOf_in q] at z
        cases z
        exact tabs b q
      · rw [hpOf_out q] at z
        cases z
    · by_cases q : ∃ c ∈ cs, c.2 = b
      · exact .inr q
      · exact absurd (hpOf_out q) z
  | none =>
    let top : Addr → Option HO := fun b => if b = a then some (.frz { cls := .type "list", data := .seq ys.toArray } (.lst (ns.map V.int))) else none
    have top_a : top a = some (.frz { cls := .type "list", data := .seq ys.toArray } (.lst (ns.map V.int))) := if_pos rfl
    have top_o : ∀ b, b ≠ a → top b = none := fun b z => if_neg z
    refine ⟨hpOf cs top, fun c hc => hpOf_in ⟨c, hc, rfl⟩, fun b => ?_, .inl (.inr ⟨_, (hpOf_out out).trans top_a⟩), fun b u z => ?_, fun b z => ?_, fun _ => known⟩
    · by_cases q : ∃ c ∈ cs, c.2 = b
      · exact .inr (.inl q)
      · by_cases e : b = a
        · rw [e]
          exact .inr (.inr ⟨_, _, (hpOf_out out).trans top_a⟩)
        · exact .inl ((hpOf_out q).trans (top_o b e))
    · by_cases q : ∃ c ∈ cs, c.2 = b
      · rw [hpOf_in q] at z
        cases z
        exact tabs b q
      · rw [hpOf_out q] at z
        by_cases e : b = a
        · rw [e, top_a] at z
          cases z
          rw [e]
          exact ⟨S.lst, by rw [List.length_map]; exact S.len, ys, _, hv, S.lst⟩
        · rw [top_o b e] at z
          cases z
    · by_cases q : ∃ c ∈ cs, c.2 = b
      · exact .inr q
      · by_cases e : b = a
        · exact .inl e
        · exact absurd ((hpOf_out q).trans (top_o b e)) z
/-- what is neither a list nor a table is not tracked -/
theorem Picked.plain (S : Start K mg mb s cs a ys ns) (D : Picked P w K s cs a ns H) {b : Addr} {o : Obj} (e : s.heap.get? b = some o) (n1 : ∀ us k, o.data ≠ .seq us k) (n2 : o.data ≠ .fields #[]) : H b = none := by
  by_cases q : H b = none
  · exact q
  · rcases D.own b q with z | ⟨c, hc, z⟩
    · rw [z, S.lst] at e
      cases e
      exact absurd rfl (n1 _ _)
    · rw [← z, S.tb c hc] at e
      cases e
      exact absurd rfl n2
theorem Picked.nsp (S : Start K mg mb s cs a ys ns) (D : Picked P w K s cs a ns H) {b : Addr} {m : Str → Option Value} (h : s.heap.Ns b m) : (hidT s.heap H).Ns b m := by
  obtain ⟨o, es, ep, e, d, r⟩ := h
  refine ⟨o, es, ep, hidT_get e (D.plain S e ?_ ?_), d, r⟩
  · intro us k z
    rw [d] at z
    cases z
  · intro z
    rw [d] at z
    cases z
theorem Picked.kin (S : Start K mg mb s cs a ys ns) (D : Picked P w K s cs a ns H) : K.In (hidT s.heap H) := fun b o e => by
  refine hidT_get (S.kin b o e) ?_
  by_cases q : H b = none
  · exact q
  · rcases D.own b q with z | ⟨c, hc, z⟩
    · rw [z] at q e
      rw [D.free q] at e
      cases e
    · rw [← z, S.tk c hc] at e
      cases e
theorem Picked.mod (S : Start K mg mb s cs a ys ns) (D : Picked P w K s cs a ns H) : L2.Mod K mg (hidT s.heap H) := by
  obtain ⟨mc, l1, l2⟩ := S.lim
  exact ⟨D.kin S, D.nsp S S.gN, ⟨mb, D.nsp S S.bN, S.bB⟩, ⟨mc, D.nsp S l1, l2⟩⟩
theorem Picked.tabB (S : Start K mg mb s cs a ys ns) (D : Picked P w K s cs a ns H) : ∀ c ∈ cs, TabB (hidT s.heap H) mg c.1 c.2 := fun c hc => by
  have tc := S.tb c hc
  refine ⟨?_, ?_, ?_⟩
  · obtain ⟨o, us, file, tf, flags, tg, inF, text, tt, e1, rest⟩ := S.hd c hc
    refine ⟨o, us, file, tf, flags, tg, inF, text, tt, hidT_get e1 (D.plain S e1 ?_ ?_), rest⟩
    · intro vs k z
      rw [rest.2.1] at z
      cases z
    · intro z
      have z2 := rest.2.2.1
      rw [rest.2.1] at z
      cases z
      simp at z2
  · obtain ⟨m, o, b1, b2, b3, b4, b5, b6⟩ := S.bm
    refine ⟨m, o, b1, b2, ?_, ?_, hidT_get b3 (D.plain S b3 ?_ ?_), b4, b5, b6⟩
    · intro q
      obtain ⟨og, es, ep, e, hd, _⟩ := S.gN
      rw [q, e] at b3
      cases b3
      rw [hd] at b6
      cases b6
    · intro q
      rw [q, tc] at b3
      cases b3
      cases b6
    · intro vs k z
      rw [b6] at z
      cases z
    · intro z
      rw [b6] at z
      cases z
  · intro q
    obtain ⟨og, es, ep, e, hd, _⟩ := S.gN
    rw [q, tc] at e
    cases e
    cases hd
theorem Picked.env (S : Start K mg mb s cs a ys ns) (D : Picked P w K s cs a ns H) : Env0 P w K mg (hidT s.heap H) callerA [] s H :=
  ⟨rfl, D.mod S, fun b o e => of_hidT e, Nat.le_of_eq (hidT_size _ _), trivial, fun b hb => absurd (show b ∈ ([] : List Addr) from hb) (by simp), D.ok, .of_eq S.gen⟩
/-- what was there is there after the law; only the tables of code objects may have grown -/
theorem Picked.old (S : Start K mg mb s cs a ys ns) (D : Picked P w K s cs a ns H) {s' : Shared} {H' : Hp} (fz : ∀ b o x, H b = some (.frz o x) → H' b = some (.frz o x)) (tg : ∀ b us, H b = some (.tbl us) → ∃ more, H' b = some (.tbl (us ++ more)))
    (kp : ∀ b o, s.heap.get? b = some o → H b = none → s'.heap.get? b = some o) (ok' : HOk P w H' s'.heap) : OldK s.heap s'.heap := by
  have still : ∀ b o, (¬ ∃ c ∈ cs, c.2 = b) → s.heap.get? b = some o → s'.heap.get? b = some o := fun b o nb e => by
    rcases D.sort b with z | z | ⟨o2, us, z⟩
    · exact kp b o e z
    · exact absurd z nb
    · obtain ⟨was, _⟩ := D.ok b _ z
      obtain ⟨now, _⟩ := ok' b _ (fz b o2 _ z)
      rw [e] at was
      cases was
      exact now
  have grew : ∀ c ∈ cs, ∃ more : Array Value, s'.heap.get? c.2 = some { cls := .none, data := .fields more } := fun c hc => by
    obtain ⟨more, z⟩ := tg c.2 #[] (D.tab c hc)
    exact ⟨_, ok' c.2 _ z⟩
  constructor
  · intro b o e
    by_cases q : ∃ c ∈ cs, c.2 = b
    · obtain ⟨c, hc, ec⟩ := q
      obtain ⟨more, gm⟩ := grew c hc
      subst ec
      rw [S.tb c hc] at e
      cases e
      refine .inr (.inl ⟨((S.hd c hc).tab (S.tb c hc)).isCodeTable, rfl, #[], more, rfl, ?_⟩)
      rw [Array.empty_append]
      exact gm
    · exact .inl (still b o q e)
  · intro b o e
    by_cases q : ∃ c ∈ cs, c.2 = b
    · obtain ⟨c, hc, ec⟩ := q
      obtain ⟨more, gm⟩ := grew c hc
      subst ec
      exact ⟨_, gm⟩
    · exact ⟨o, still b o q e⟩
/-- the law called on a script -/
theorem Start.call {k : Nat} {fa : Addr} {fd : FuncData} {x : Str} {sp : Sp} (S : Start K mg mb s cs a ys ns) (hr : Room k callerA)
    (F : ∀ base : Heap, K.In base → base.Ns mainGlobals mg → (∀ c ∈ cs, TabB base mg c.1 c.2) → FnG P w K mg base k fa fd [x] sp) (hb : ∀ (z : Shared) (u : Value), BindsTo z fd ⟨[u], []⟩ [(x, u)])
    (hs : ∀ H : Hp, (∀ c ∈ cs, H c.2 = some (.tbl #[])) → SqL K H a (ns.map V.int) → sp [.ref a] H (fun v _ => v = .bl true) E0) :
    codeAny (model P w) callerA (.call (.ref fa) ⟨[.ref a], []⟩) (fun r z => r = .ok (.ret (.bool true)) ∧ OldK s.heap z.heap ∧ z.os = s.os ∧ AllBare z.gens) s := by
  obtain ⟨H, D⟩ := S.picked (P := P) (w := w)
  have run := (F _ (D.kin S) (D.nsp S S.gN) (D.tabB S)).run callerA [] s H ⟨[.ref a], []⟩ [.ref a] [.ref a] (fun v _ => v = .bl true) rfl hr (D.env S) (hb s (.ref a)) (.cons rfl .nil) (hs H D.tab D.scr)
  refine codeAny_mono run ?_
  rintro (e | fl) z h
  · exact False.elim h
  · cases fl with
    | ret u =>
      obtain ⟨v, H', os, bare, un, ok', r', q⟩ := h
      obtain rfl : v = .bl true := q
      obtain rfl : u = Value.bool true := r'
      exact ⟨rfl, D.old S (fun b o x => un.frzs b o x) (fun b us => un.tbls b us) (fun b o e n => un.keep b o e n (fun z => absurd (show b ∈ ([] : List Addr) from z) (by simp)) (by simp)) ok', os, bare⟩
    | _ => exact False.elim h
end
/-- what must be known of the law at the head's heap -/
def LawG (l : PySem.W.OpenLaw) (w : World) (K : PySem.W.Frag) (k n : Nat) (x : Str) (mg : Str → Option Value) (fa : Addr) (h : Heap) : Prop :=
  ∃ (fd : FuncData) (cs : List (Addr × Addr)) (sp : Sp), (∀ c ∈ cs, h.get? c.2 = some tabO) ∧ (∀ c ∈ cs, K.lookup c.2 = none) ∧ (∀ c ∈ cs, PySem.W.CodeHd h c.1 c.2) ∧ (∀ (z : Shared) (u : Value), BindsTo z fd ⟨[u], []⟩ [(x, u)]) ∧
    (∀ (H : Hp) (a : Addr) (ns : List Int), ns.length ≤ n → (∀ c ∈ cs, H c.2 = some (.tbl #[])) → SqL K H a (ns.map V.int) → sp [.ref a] H (fun v _ => v = .bl true) E0) ∧
    ∀ base : Heap, K.In base → base.Ns mainGlobals mg → (∀ c ∈ cs, TabB base mg c.1 c.2) → FnG l.prog w K mg base k fa fd [x] sp
theorem walkG {l : PySem.W.OpenLaw} {n k : Nat} {q : Program} {loose : List Str} {XP : (Str → Option Value) → Heap → Prop} {YP : World → Heap → Prop} {d : DefRec} {K : Params → PySem.W.Frag} {x : Str}
    (hn : l.most = some n) (small : n ≤ sizeLine) (nodef : d.params.defaults = []) (hr : Room k callerA) (hY : ∀ (w : World) (h : Heap), YP w h → (K w.params).In h)
    (F : ∀ (w : World) (mg : Str → Option Value) (fa : Addr) (h : Heap), YP w h → (K w.params).In h → h.Ns mainGlobals mg → mg d.name = some (.ref fa) → LawG l w (K w.params) k n x mg fa h) :
    PySem.W.WalkO q loose XP YP l.row.toRowW d [] (fun f vs => PySem.call f vs) := by
  refine Att.attach_callB hn nodef fun w s0 s1 mg mb fa o pm cd doc a ys ns G Y ho hdo hcd hmg hobj hia hlen hbits hgen => ?_
  have kin := hY w _ Y
  obtain ⟨fd, cs, sp, tb, tk, hd, bnd, hs, hF⟩ := F w mg fa _ Y kin G.T.g hmg
  have S : Start (K w.params) mg mb s1 cs a ys ns := ⟨kin, G.T.g, G.T.b, G.T.builtins, G.T.nolimit, hgen, tb, tk, hd, G.T.bmain, hobj, hia, Nat.le_trans hlen small⟩
  exact S.call hr hF bnd fun H hH hS => hs H a ns hlen hH hS
end K88
set_option maxRecDepth 100000
set_option maxHeartbeats 4000000
namespace K88
open PySem PySem.Spec PyProof.Rows L2 TL LamX
/-! ## what the head must tell -/
/-- the module's def x, its text st, its code object's value c -/
def DK (K : PySem.W.Frag) (x : Str) (st : Stmt) (c : Value) : Prop := ∃ (f : Addr) (fd : FuncData), PySem.W.nsIn K mainGlobals x = some (some (.ref f)) ∧ Fun K x x st f fd ∧ codeOf K f = some c
theorem dk_mk {K : PySem.W.Frag} {x : Str} {st : Stmt} {f : Addr} {oc : Value} {od an : Option Addr} {sl : Array (Option Value)} {kV dc pm cd ct : Value} (a : PySem.W.nsIn K mainGlobals x = some (some (.ref f)))
    (l : K.lookup f = some ⟨oc, od, .func (PySem.W.fnOf x x (defArgs st) (defBody st) (defScope st) .none kV dc pm an cd ct), sl⟩) (c : PySem.W.codeIn K cd x = true) (k : PySem.W.keepIn K (.ref f) = true) : DK K x st cd := by
  refine ⟨f, _, a, fun_mk (st := st) l c k, ?_⟩
  unfold codeOf
  rw [l]
section
variable {P : Program} {w : World} {K : PySem.W.Frag} {h : Heap} {mg : Str → Option Value}
theorem DK.df {x : Str} {st : Stmt} {c : Value} {ps : List Str} (X : K.In h) (G : h.Ns mainGlobals mg) (d : DK K x st c)
    (hb : ∀ (kV dc pm : Value) (an : Option Addr) (cdv ct : Value) (us : List Value), us.length = ps.length → bindArgs (PySem.W.fnOf x x (defArgs st) (defBody st) (defScope st) .none kV dc pm an cdv ct) ⟨us, []⟩ = pure (ps.zip us))
    (hk : ∀ (kV dc pm : Value) (an : Option Addr) (cdv ct : Value) (y : Str) (u : Value), ps = [y] → bindArgs (PySem.W.fnOf x x (defArgs st) (defBody st) (defScope st) .none kV dc pm an cdv ct) ⟨[], [(y, u)]⟩ = pure [(y, u)]) : Df K mg x st ps := by
  obtain ⟨f, fd, a, F, _⟩ := d
  refine ⟨f, fd, F, F.binds hb, PySem.W.mg_of X G a, fun y hy s u => ?_⟩
  obtain ⟨oc, od, kV, doc, pm, an, cdv, ct, osl, rfl, lk, hcd⟩ := F.ex
  exact BindsTo.of_eq (hk _ _ _ _ _ _ y u hy)

theorem txt_mk (X : K.In h) (G : h.Ns mainGlobals mg) {t1 t2 t3 t4 t5 : Tok}
    (z0 : PySem.W.nsIn K mainGlobals "isinstance" = some none) (z1 : PySem.W.nsIn K mainGlobals "str" = some none) (z2 : PySem.W.nsIn K mainGlobals "int" = some none) (z3 : PySem.W.nsIn K mainGlobals "bool" = some none) (z4 : PySem.W.nsIn K mainGlobals "list" = some none) (z5 : PySem.W.nsIn K mainGlobals "tuple" = some none) (z6 : PySem.W.nsIn K mainGlobals "dict" = some none) (z7 : PySem.W.nsIn K mainGlobals "all" = some none) (z8 : PySem.W.nsIn K mainGlobals "abs" = some none) (z9 : PySem.W.nsIn K mainGlobals "range" = some none) (z10 : PySem.W.nsIn K mainGlobals "len" = some none) (z11 : PySem.W.nsIn K mainGlobals "reversed" = some none) (z12 : PySem.W.nsIn K mainGlobals "enumerate" = some none) (z13 : PySem.W.nsIn K mainGlobals "repr" = some none) (z14 : PySem.W.nsIn K mainGlobals "min" = some none)
    (c1 : PySem.W.nsIn K mainGlobals "MOST_DEEP" = some (some (.int 60 t1))) (c2 : PySem.W.nsIn K mainGlobals "MOST_FIGURES" = some (some (.int 12 t2))) (c3 : PySem.W.nsIn K mainGlobals "MOST_NUMBER" = some (some (.int 1000000000000 t3)))
    (c4 : PySem.W.nsIn K mainGlobals "SMALL" = some (some (.str smallS t4))) (c5 : PySem.W.nsIn K mainGlobals "FIGURES" = some (some (.str figS t5))) : Txt K mg :=
  ⟨PySem.W.mg_none_of X G z0, PySem.W.mg_none_of X G z1, PySem.W.mg_none_of X G z2, PySem.W.mg_none_of X G z3, PySem.W.mg_none_of X G z4, PySem.W.mg_none_of X G z5, PySem.W.mg_none_of X G z6, PySem.W.mg_none_of X G z7, PySem.W.mg_none_of X G z8, PySem.W.mg_none_of X G z9, PySem.W.mg_none_of X G z10, PySem.W.mg_none_of X G z11, PySem.W.mg_none_of X G z12, PySem.W.mg_none_of X G z13, PySem.W.mg_none_of X G z14, ⟨_, PySem.W.mg_of X G c1⟩, ⟨_, PySem.W.mg_of X G c2⟩, ⟨_, PySem.W.mg_of X G c3⟩, ⟨_, PySem.W.mg_of X G c4⟩, ⟨_, PySem.W.mg_of X G c5⟩⟩
theorem nt_mk {C fI N : Addr} (X : K.In h) (G : h.Ns mainGlobals mg) {nm q : Str} {bs bm : List Value} {sn : List Str} {sub : List Value} {ab : Bool} {col : Option Bool} {dd : Option Addr} {m0 m1 m2 m3 m5 : Option Value}
    {oc doc pm ct cl ccl : Value} {od an cld cdd : Option Addr} {dT cda cc : Addr} {osl csl ccs : Array (Option Value)} {oT : Obj} {vs : Array Value} {file : Str} {tf : Tok}
    (aC : PySem.W.nsIn K mainGlobals "NoText" = some (some (.ref C))) (zs : PySem.W.nsIn K mainGlobals "super" = some none)
    (xL : K.lookup C = some (excClassObj nm q C N bs bm true sn sub ab col dd m0 m1 m2 m3 m5 "ValueError.__new__")) (bv : PySem.HandSPX.refsVE bm = true)
    (sa : PySem.W.findIn K (.ref C) "__setattr__" = some (some (.builtin "object.__setattr__"))) (ga : PySem.W.findIn K (.ref C) "__getattribute__" = some (some (.builtin "BaseException.__getattribute__"))) (gg : PySem.W.findIn K (.ref C) "__getattr__" = some none) (nb : PySem.W.findIn K (.ref C) "line" = some none)
    (iC : PySem.W.findIn K (.ref C) "__init__" = some (some (.ref fI))) (tI : PySem.W.typeIn K (.ref fI) = some (.type "function"))
    (kC : PySem.W.keepIn K (.ref C) = true) (eC : PySem.W.subIn K (.ref C) (.type "BaseException") = some true) (tC : PySem.W.typeIn K (.ref C) = some (.type "type")) (hC : PySem.W.hasDictIn K C = true)
    (mC : PySem.W.mroIn K C (.ref C) = some true) (vC : PySem.W.subIn K (.ref C) (.type "ValueError") = some true) (s2 : PySem.W.ks_superIn K C C "__init__" = some (some (.builtin "ValueError.__init__")))
    (oq : PySem.W.nsIn K cStatics "thirdparty.any" = some none) (tp : (P.main.scope.names.lookup ("super" : Str)).isSome = false)
    (lI : K.lookup fI = some ⟨oc, od, .func (PySem.W.ksFn "__init__" "NoText.__init__" PySem.NtX.iA PySem.NtX.iB PySem.NtX.iS (.ref dT) .none doc pm an (.ref cda) ct cc), osl⟩) (cI : PySem.W.codeIn K (.ref cda) "NoText.__init__" = true)
    (lc : K.lookup cc = some ⟨cl, cld, .cell (some (.ref C)), csl⟩) (lT : K.lookup dT = some oT) {nT : Nat} (dT0 : oT.data = .seq #[.none] nT) (ld : K.lookup cda = some ⟨ccl, cdd, .fields vs, ccs⟩) (v2 : vs[2]? = some (.str file tf)) (pf : (P.main.file == file) = true) :
    PySem.NtX.NtTxt P K mg C fI :=
  { gC := PySem.W.mg_of X G aC, sup := PySem.W.mg_none_of X G zs, cls := ⟨nm, q, N, bs, bm, sn, sub, ab, col, dd, m0, m1, m2, m3, m5, xL, bv⟩, sa := sa, ga := ga, gg := gg, noN := nb, iC := iC, tC := tI, kC := kC, exC := eC, tyC := tC, hdC := hC, mro := mC, subV := vC, sup2 := s2, opq := oq, top := tp,
    fn := ⟨oc, od, dT, doc, pm, an, cda, cc, ct, osl, lI, cI, ⟨cl, cld, csl, lc⟩, ⟨oT, nT, lT, dT0⟩, ccl, cdd, vs, ccs, file, tf, ld, v2, pf⟩ }
theorem err_mk {C CD CU CM : Addr} (X : K.In h) (G : h.Ns mainGlobals mg) (aD : PySem.W.nsIn K mainGlobals "DoublingError" = some (some (.ref CD))) (b1 : PySem.W.subIn K (.ref CD) (.type "BaseException") = some true) (b2 : PySem.W.hasDictIn K CD = true) (b3 : PySem.W.typeIn K (.ref CD) = some (.type "type")) (b4 : PySem.W.subIn K (.ref C) (.ref CD) = some true)
    (e1 : PySem.W.findIn K (.ref C) "__getattribute__" = some (some (.builtin "BaseException.__getattribute__"))) (e2 : PySem.W.findIn K (.ref C) "__getattr__" = some none) (e3 : PySem.W.subIn K (.ref C) (.type "BaseException") = some true) (e4 : PySem.W.hasDictIn K C = true)
    (e5 : PySem.W.findIn K (.ref C) "__class__" = some (some (.builtin "object.__class__"))) (e6 : PySem.W.specialIn K (.builtin "object.__class__") "__get__" = some (some (.builtin "getset_descriptor.__get__"))) (e7 : PySem.W.takesIn K (.builtin "object.__class__") = some true) (e8 : PySem.W.mroIn K C (.type "object") = some true)
    (g1 : (PySem.W.clsIn K C).isSome = true) (aU : PySem.W.nsIn K mainGlobals "Used" = some (some (.ref CU))) (kU : PySem.W.kitOne K (.ref C) (.ref CU) = some false) (aM : PySem.W.nsIn K mainGlobals "TooMany" = some (some (.ref CM))) (kM : PySem.W.kitOne K (.ref C) (.ref CM) = some false) (kC : PySem.W.kitOne K (.ref C) (.ref C) = some true) : ErrTxt K mg C CD :=
  { gD := PySem.W.mg_of X G aD, exm := PySem.W.exm_ref b1 b2 b3 b4, CE := ⟨e1, e2, e3, e4, e5, e6, e7, e8⟩, hc := g1, used := ⟨CU, PySem.W.mg_of X G aU, kU⟩, many := ⟨CM, PySem.W.mg_of X G aM, kM⟩, kit := kC }
abbrev tabsOf (PL PW : Addr) : List (Addr × Str) := [(PL, qLam), (PW, "_law_word.<locals>.<lambda>")]
theorem all_mk {l : PySem.W.OpenLaw} {fa C fI CD cL PL cW PW : Addr} {c24 c25 c26 c27 c28 c29 c30 c31 c33 c34 c35 c36 c37 c38 c39 c40 c42 c43 : Value} {ocL ocW : Value} {odL odW : Option Addr} {vsL vsW : Array Value} {slL slW : Array (Option Value)} (X : K.In h) (G : h.Ns mainGlobals mg) (hfa : mg "law" = some (.ref fa))
    (Tx : Txt K mg) (TN : PySem.NtX.NtTxt l.prog K mg C fI) (TE : ErrTxt K mg C CD)
    (d24 : DK K "is_word" sIsWord c24)
    (d25 : DK K "is_figure" sIsFig c25)
    (d26 : DK K "is_value" sIsVal c26)
    (d27 : DK K "value_text" sValText c27)
    (d28 : DK K "pieces_of" sPieces c28)
    (d29 : DK K "plain_of" sPlain c29)
    (d30 : DK K "value_of" sValueOf c30)
    (d31 : DK K "read_value" sRead c31)
    (d33 : DK K "_law_begun" sBegun c33)
    (d34 : DK K "_law_mixed" sMixed c34)
    (d35 : DK K "_law_draw" sDraw c35)
    (d36 : DK K "_law_pick" sPick c36)
    (d37 : DK K "_law_plain" sPlainL c37)
    (d38 : DK K "_law_is" sIs c38)
    (d39 : DK K "_law_value_text" sLvt c39)
    (d40 : DK K "_law_caught" sCaught c40)
    (d41 : DK K "_law_word" sWord (.ref cW))
    (d42 : DK K "_law_some_value" sSv c42)
    (d43 : DK K "_law_nested" sNested c43)
    (d44 : DK K "law" sLaw (.ref cL))
    (lL : K.lookup cL = some ⟨ocL, odL, .fields vsL, slL⟩) (vL : (vsL[11]? : Option Value) = some (.ref PL)) (lW : K.lookup cW = some ⟨ocW, odW, .fields vsW, slW⟩) (vW : (vsW[11]? : Option Value) = some (.ref PW))
    (hL : PySem.W.codeHdIn K cL PL = true) (hW : PySem.W.codeHdIn K cW PW = true) (nL : K.lookup PL = none) (nW : K.lookup PW = none) (ne : (PL == PW) = false) (tL : h.get? PL = some tabO) (tW : h.get? PW = some tabO) : LawG l w K 65 63 "script" mg fa h := by

  have D24 : Df K mg "is_word" sIsWord ["thing"] := d24.df X G (fun _ _ _ _ _ _ us hl => match us, hl with | [_], _ => rfl) (fun _ _ _ _ _ _ y u hy => by cases hy; rfl)
  have D25 : Df K mg "is_figure" sIsFig ["thing"] := d25.df X G (fun _ _ _ _ _ _ us hl => match us, hl with | [_], _ => rfl) (fun _ _ _ _ _ _ y u hy => by cases hy; rfl)
  have D26 : Df K mg "is_value" sIsVal ["thing"] := d26.df X G (fun _ _ _ _ _ _ us hl => match us, hl with | [_], _ => rfl) (fun _ _ _ _ _ _ y u hy => by cases hy; rfl)
  have D27 : Df K mg "value_text" sValText ["value"] := d27.df X G (fun _ _ _ _ _ _ us hl => match us, hl with | [_], _ => rfl) (fun _ _ _ _ _ _ y u hy => by cases hy; rfl)
  have D28 : Df K mg "pieces_of" sPieces ["text"] := d28.df X G (fun _ _ _ _ _ _ us hl => match us, hl with | [_], _ => rfl) (fun _ _ _ _ _ _ y u hy => by cases hy; rfl)
  have D29 : Df K mg "plain_of" sPlain ["piece"] := d29.df X G (fun _ _ _ _ _ _ us hl => match us, hl with | [_], _ => rfl) (fun _ _ _ _ _ _ y u hy => by cases hy; rfl)
  have D30 : Df K mg "value_of" sValueOf ["pieces"] := d30.df X G (fun _ _ _ _ _ _ us hl => match us, hl with | [_], _ => rfl) (fun _ _ _ _ _ _ y u hy => by cases hy; rfl)
  have D31 : Df K mg "read_value" sRead ["text"] := d31.df X G (fun _ _ _ _ _ _ us hl => match us, hl with | [_], _ => rfl) (fun _ _ _ _ _ _ y u hy => by cases hy; rfl)
  have D33 : Df K mg "_law_begun" sBegun ["script"] := d33.df X G (fun _ _ _ _ _ _ us hl => match us, hl with | [_], _ => rfl) (fun _ _ _ _ _ _ y u hy => by cases hy; rfl)
  have D34 : Df K mg "_law_mixed" sMixed ["state"] := d34.df X G (fun _ _ _ _ _ _ us hl => match us, hl with | [_], _ => rfl) (fun _ _ _ _ _ _ y u hy => by cases hy; rfl)
  have D35 : Df K mg "_law_draw" sDraw ["state", "room"] := d35.df X G (fun _ _ _ _ _ _ us hl => match us, hl with | [_, _], _ => rfl) (fun _ _ _ _ _ _ y u hy => by cases hy)
  have D36 : Df K mg "_law_pick" sPick ["state", "some"] := d36.df X G (fun _ _ _ _ _ _ us hl => match us, hl with | [_, _], _ => rfl) (fun _ _ _ _ _ _ y u hy => by cases hy)
  have D37 : Df K mg "_law_plain" sPlainL ["value"] := d37.df X G (fun _ _ _ _ _ _ us hl => match us, hl with | [_], _ => rfl) (fun _ _ _ _ _ _ y u hy => by cases hy; rfl)
  have D38 : Df K mg "_law_is" sIs ["found", "due"] := d38.df X G (fun _ _ _ _ _ _ us hl => match us, hl with | [_, _], _ => rfl) (fun _ _ _ _ _ _ y u hy => by cases hy)
  have D39 : Df K mg "_law_value_text" sLvt ["value"] := d39.df X G (fun _ _ _ _ _ _ us hl => match us, hl with | [_], _ => rfl) (fun _ _ _ _ _ _ y u hy => by cases hy; rfl)
  have D40 : Df K mg "_law_caught" sCaught ["action"] := d40.df X G (fun _ _ _ _ _ _ us hl => match us, hl with | [_], _ => rfl) (fun _ _ _ _ _ _ y u hy => by cases hy; rfl)
  have D41 : Df K mg "_law_word" sWord ["action"] := d41.df X G (fun _ _ _ _ _ _ us hl => match us, hl with | [_], _ => rfl) (fun _ _ _ _ _ _ y u hy => by cases hy; rfl)
  have D42 : Df K mg "_law_some_value" sSv ["state", "deep"] := d42.df X G (fun _ _ _ _ _ _ us hl => match us, hl with | [_, _], _ => rfl) (fun _ _ _ _ _ _ y u hy => by cases hy)
  have D43 : Df K mg "_law_nested" sNested ["many", "one"] := d43.df X G (fun _ _ _ _ _ _ us hl => match us, hl with | [_, _], _ => rfl) (fun _ _ _ _ _ _ y u hy => by cases hy)
  have D44 : Df K mg "law" sLaw ["script"] := d44.df X G (fun _ _ _ _ _ _ us hl => match us, hl with | [_], _ => rfl) (fun _ _ _ _ _ _ y u hy => by cases hy; rfl)
  have neq : PL ≠ PW := fun z => by
    rw [z] at ne
    simp at ne
  obtain ⟨fL, fd, aL, FL, hcL⟩ := d44
  obtain ⟨fW, fdW, aW, FW, hcW⟩ := d41
  have e := hfa.symm.trans (PySem.W.mg_of X G aL)
  cases e
  refine ⟨fd, [(cL, PL), (cW, PW)], spLaw K (tabsOf PL PW), ?_, ?_, ?_, ?_, ?_, ?_⟩
  · exact List.forall_mem_cons.mpr ⟨tL, List.forall_mem_cons.mpr ⟨tW, fun _ z => nomatch z⟩⟩
  · exact List.forall_mem_cons.mpr ⟨nL, List.forall_mem_cons.mpr ⟨nW, fun _ z => nomatch z⟩⟩
  · exact List.forall_mem_cons.mpr ⟨PySem.W.codeHd_of_K X hL, List.forall_mem_cons.mpr ⟨PySem.W.codeHd_of_K X hW, fun _ z => nomatch z⟩⟩
  · intro z u
    obtain ⟨oc, od, kV, doc, pm, an, cdv, ct, osl, rfl, lk, hcd⟩ := FL.ex
    exact BindsTo.of_eq rfl
  · intro H a ns hl hH hS
    have t1 := hH (cL, PL) (by simp)
    have t2 := hH (cW, PW) (by simp)
    exact ⟨a, ns, rfl, hS, Nat.le_trans hl (by decide), List.forall_mem_cons.mpr ⟨TabS.nil t1, List.forall_mem_cons.mpr ⟨TabS.nil t2, fun _ z => nomatch z⟩⟩, fun _ => rfl⟩
  · intro base hK hN hB
    have BL := hB (cL, PL) (by simp)
    have BW := hB (cW, PW) (by simp)
    have GW := ok_isWord (P := l.prog) (w := w) (base := base) Tx D24
    have GF := ok_isFig (P := l.prog) (w := w) (base := base) Tx D25
    have GV := ok_isVal (P := l.prog) (w := w) (base := base) Tx GW GF D26
    have GT := ok_valueText Tx TN GV D27
    have GPc := ok_pieces (P := l.prog) (w := w) (base := base) Tx D28
    have GPl := ok_plain (P := l.prog) (w := w) (base := base) Tx GW D29
    have GO := ok_valueOf Tx GPl D30
    have GR := ok_read Tx TN GPc GO GV GT D31
    have GB := ok_begun (P := l.prog) (w := w) (base := base) Tx D33
    have GM := ok_mixed (P := l.prog) (w := w) (base := base) Tx D34
    have GD := ok_draw Tx GM D35
    have GK := ok_pick Tx GD D36
    have GP := ok_plainL (P := l.prog) (w := w) (base := base) Tx D37 59
    have GI := ok_is Tx GP D38
    have GL := ok_lvt (P := l.prog) (w := w) (base := base) Tx D39 59
    have GS := ok_sv Tx GD GK D42 3
    have GN := ok_nested (P := l.prog) (w := w) (base := base) Tx D43
    have V1 : Env1 l.prog w K mg base (tabsOf PL PW) C fI cL PL :=
      { Tx := Tx, TN := TN, GB := GB, GN := GN, GT := GT, GR := GR, GD := GD, GK := GK, GS := GS, GL := GL, GP := GP, GI := GI, Dw := D41, TB := BL
        hW := fun g fdg mgW F k => by
          have e := mgW.symm.trans (PySem.W.mg_of X G aW)
          cases e
          exact word_gives Tx TN TE D40 BW (List.mem_cons_of_mem _ List.mem_cons_self) (fun q hq hp => by
            rcases List.mem_cons.mp hq with z | z
            · exact absurd ((congrArg Prod.fst z).symm.trans hp) neq
            · exact congrArg Prod.snd (List.mem_singleton.mp z)) _ fdg F hcW
        hm := List.mem_cons_self
        hu := fun q hq hp => by
          rcases List.mem_cons.mp hq with z | z
          · exact congrArg Prod.snd z
          · exact absurd (hp.symm.trans (congrArg Prod.fst (List.mem_singleton.mp z))) neq }
    exact ok_law V1 FL hcL
end
end K88
set_option maxRecDepth 100000
open PySem PySem.W PyProof.Rows
set_option maxRecDepth 100000 in
set_option maxHeartbeats 0 in
theorem PySem.Challenge.cw_doublingbook_k88_values_written_holds : PySem.Challenge.rw_doublingbook_k88_values_written.Holds := by
  w_on; o_law; k_head; (case hw => w_witness2)
  k_fill
  refine K88.walkG (l := PySem.Challenge.rw_doublingbook_k88_values_written) (n := 63) (k := 65) (x := "script") rfl (by decide) rfl ⟨rfl, by decide, by decide⟩ (fun w h Y => PySem.W.km_in_of Y) ?F
  case F =>
    intro w mg fa h Y KX G hmg
    refine' K88.all_mk (l := PySem.Challenge.rw_doublingbook_k88_values_written) KX G hmg ?Tx ?TN ?TE ?d24 ?d25 ?d26 ?d27 ?d28 ?d29 ?d30 ?d31 ?d33 ?d34 ?d35 ?d36 ?d37 ?d38 ?d39 ?d40 ?d41 ?d42 ?d43 ?d44 ?lL ?vL ?lW ?vW ?hL ?hW ?nL ?nW ?ne ?tL ?tW
    case Tx =>
      refine' K88.txt_mk KX G ?z0 ?z1 ?z2 ?z3 ?z4 ?z5 ?z6 ?z7 ?z8 ?z9 ?z10 ?z11 ?z12 ?z13 ?z14 ?c1 ?c2 ?c3 ?c4 ?c5
      (case z0 => k_is); (case z1 => k_is); (case z2 => k_is); (case z3 => k_is); (case z4 => k_is); (case z5 => k_is); (case z6 => k_is); (case z7 => k_is); (case z8 => k_is); (case z9 => k_is); (case z10 => k_is); (case z11 => k_is); (case z12 => k_is); (case z13 => k_is); (case z14 => k_is); (case c1 => k_is); (case c2 => k_is); (case c3 => k_is); (case c4 => k_is); (case c5 => k_is)
    case d24 => (refine' K88.dk_mk ?a ?l ?c ?k; (case a => k_is); (case l => k_is); (case c => k_is); (case k => k_is))
    case d25 => (refine' K88.dk_mk ?a ?l ?c ?k; (case a => k_is); (case l => k_is); (case c => k_is); (case k => k_is))
    case d26 => (refine' K88.dk_mk ?a ?l ?c ?k; (case a => k_is); (case l => k_is); (case c => k_is); (case k => k_is))
    case d27 => (refine' K88.dk_mk ?a ?l ?c ?k; (case a => k_is); (case l => k_is); (case c => k_is); (case k => k_is))
    case d28 => (refine' K88.dk_mk ?a ?l ?c ?k; (case a => k_is); (case l => k_is); (case c => k_is); (case k => k_is))
    case d29 => (refine' K88.dk_mk ?a ?l ?c ?k; (case a => k_is); (case l => k_is); (case c => k_is); (case k => k_is))
    case d30 => (refine' K88.dk_mk ?a ?l ?c ?k; (case a => k_is); (case l => k_is); (case c => k_is); (case k => k_is))
    case d31 => (refine' K88.dk_mk ?a ?l ?c ?k; (case a => k_is); (case l => k_is); (case c => k_is); (case k => k_is))
    case d33 => (refine' K88.dk_mk ?a ?l ?c ?k; (case a => k_is); (case l => k_is); (case c => k_is); (case k => k_is))
    case d34 => (refine' K88.dk_mk ?a ?l ?c ?k; (case a => k_is); (case l => k_is); (case c => k_is); (case k => k_is))
    case d35 => (refine' K88.dk_mk ?a ?l ?c ?k; (case a => k_is); (case l => k_is); (case c => k_is); (case k => k_is))
    case d36 => (refine' K88.dk_mk ?a ?l ?c ?k; (case a => k_is); (case l => k_is); (case c => k_is); (case k => k_is))
    case d37 => (refine' K88.dk_mk ?a ?l ?c ?k; (case a => k_is); (case l => k_is); (case c => k_is); (case k => k_is))
    case d38 => (refine' K88.dk_mk ?a ?l ?c ?k; (case a => k_is); (case l => k_is); (case c => k_is); (case k => k_is))
    case d39 => (refine' K88.dk_mk ?a ?l ?c ?k; (case a => k_is); (case l => k_is); (case c => k_is); (case k => k_is))
    case d40 => (refine' K88.dk_mk ?a ?l ?c ?k; (case a => k_is); (case l => k_is); (case c => k_is); (case k => k_is))
    case d41 => (refine' K88.dk_mk ?a ?l ?c ?k; (case a => k_is); (case l => k_is); (case c => k_is); (case k => k_is))
    case d42 => (refine' K88.dk_mk ?a ?l ?c ?k; (case a => k_is); (case l => k_is); (case c => k_is); (case k => k_is))
    case d43 => (refine' K88.dk_mk ?a ?l ?c ?k; (case a => k_is); (case l => k_is); (case c => k_is); (case k => k_is))
    case d44 => (refine' K88.dk_mk ?a ?l ?c ?k; (case a => k_is); (case l => k_is); (case c => k_is); (case k => k_is))
    case TN =>
      refine' K88.nt_mk KX G ?aC ?zs ?xL ?bv ?sa ?ga ?gg ?nb ?iC ?tI ?kC ?eC ?tC ?hC ?mC ?vC ?s2 ?oq ?tp ?lI ?cI ?lc ?lT ?dT0 ?ld ?v2 ?pf
      (case aC => k_is); (case zs => k_is); (case xL => k_is); (case bv => rfl); (case sa => k_is); (case ga => k_is); (case gg => k_is); (case nb => k_is); (case iC => k_is); (case tI => k_is); (case kC => k_is); (case eC => k_is); (case tC => k_is); (case hC => k_is); (case mC => k_is); (case vC => k_is); (case s2 => ks_is); (case oq => k_is); (case tp => rfl)
      (case lI => k_is); (case cI => k_is); (case lc => k_is); (case lT => k_is); (case dT0 => rfl); (case ld => k_is); (case v2 => rfl); (case pf => rfl)
    case TE =>
      refine' K88.err_mk KX G ?aD ?b1 ?b2 ?b3 ?b4 ?e1 ?e2 ?e3 ?e4 ?e5 ?e6 ?e7 ?e8 ?g1 ?aU ?kU ?aM ?kM ?kC
      (case aD => k_is); (case b1 => k_is); (case b2 => k_is); (case b3 => k_is); (case b4 => k_is); (case e1 => k_is); (case e2 => k_is); (case e3 => k_is); (case e4 => k_is); (case e5 => k_is); (case e6 => k_is); (case e7 => k_is); (case e8 => k_is); (case g1 => kernel_rfl); (case aU => k_is); (case kU => kernel_rfl); (case aM => k_is); (case kM => kernel_rfl); (case kC => kernel_rfl)
    (case lL => k_is); (case vL => rfl); (case lW => k_is); (case vW => rfl); (case hL => kernel_rfl); (case hW => kernel_rfl); (case nL => kernel_rfl); (case nW => kernel_rfl); (case ne => rfl)
    (case tL => exact PySem.W.km_tabs_of Y _ (by decide)); (case tW => exact PySem.W.km_tabs_of Y _ (by decide))
