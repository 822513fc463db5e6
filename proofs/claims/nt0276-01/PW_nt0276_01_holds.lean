import PyProof.Rows.All
import Wide.All
import OpenK.AllK
import Wide.FinOn
import PyProof.ExcBaseAll.Exception
import KE.IntTextText
import Lean
import PySem.Challenge.RW_nt0276_01
open PySem PySem.W PyProof.Rows PySem.Calls PySem.Spec Builtin
set_option Elab.async false
set_option maxRecDepth 100000
set_option linter.unusedVariables false
namespace Mine

/-- the first place of c in x from lo on, or -1 -/
noncomputable def findL (x c : List UInt8) (lo : Nat) : Int := match Bytes.find? x.toArray c.toArray lo x.length with
  | some i => (i : Int)
  | none => -1
theorem buf_eq (id : String) (b : Array UInt8) (t : Tok) : Bytes.buffer? id (.bytes b t) = pure (some b) := by kernel_rfl
theorem find1_eq (b c : Array UInt8) (t u : Tok) : Bytes.searchArgs .bytes "find" ⟨[.bytes b t, .bytes c u], []⟩ = pure (b, c, if (Bytes.window b.size none none).2 - (Bytes.window b.size none none).1 < c.size then none else some ((Bytes.window b.size none none).1.toNat, (Bytes.window b.size none none).2.toNat)) := by kernel_rfl
theorem find2_eq (b c : Array UInt8) (t u v : Tok) (i : Int) : Bytes.searchArgs .bytes "find" ⟨[.bytes b t, .bytes c u, .int i v], []⟩ = pure (b, c, if (Bytes.window b.size (some i) none).2 - (Bytes.window b.size (some i) none).1 < c.size then none else some ((Bytes.window b.size (some i) none).1.toNat, (Bytes.window b.size (some i) none).2.toNat)) := by kernel_rfl
theorem find_none {x c : List UInt8} {lo : Nat} (h : x.length < lo + c.length) : Bytes.find? x.toArray c.toArray lo x.length = none := by
  unfold Bytes.find?
  have e : x.length + 1 - (lo + c.toArray.size) = 0 := by simp; omega
  rw [e]; rfl
theorem gives_find_tail {x c : List UInt8} {lo : Nat} {w : Option (Nat × Nat)} (hw : w = if (x.length : Int) - lo < c.length then none else some (lo, x.length)) {M : Model} {A : Around} {E : Value → Shared → Prop} {s : Shared} {Q : Value → Shared → Prop} (hq : (Made.int (findL x c lo)).post Q s) :
    wpAny M A (match w.bind fun (lo, hi) => if false = true then Bytes.rfind? x.toArray c.toArray lo hi else Bytes.find? x.toArray c.toArray lo hi with | some i => retInt i | none => do rule s!"bytes.find.not-found"; if false = true then raiseError "ValueError" "subsection not found" else retInt (-1)) (fun fin s' => ∃ v, fin = .done (.ret v) ∧ Q v s') E s := by
  have e : (w.bind fun (lo, hi) => if false = true then Bytes.rfind? x.toArray c.toArray lo hi else Bytes.find? x.toArray c.toArray lo hi) = Bytes.find? x.toArray c.toArray lo x.length := by
    subst hw
    by_cases h : (x.length : Int) - lo < c.length
    · rw [if_pos h, find_none (by omega)]; rfl
    · rw [if_neg h]; rfl
  rw [e]
  unfold findL at hq
  cases q : Bytes.find? x.toArray c.toArray lo x.length with
  | some i => rw [q] at hq; exact wpAny_bind (wpAny_mkInt (wpAny_pure ⟨_, rfl, hq⟩))
  | none => rw [q] at hq; exact wpAny_bind (wpAny_rule (wpAny_bind (wpAny_mkInt (wpAny_pure ⟨_, rfl, hq⟩))))
theorem gives_find1 (x c : List UInt8) (t u : Tok) : Gives («bytes.find» ⟨[.bytes x.toArray t, .bytes c.toArray u], []⟩) (.int (findL x c 0)) := by
  refine .of_wp fun M A E s Q hq => ?_
  show wpAny M A (Bytes.searchArgs .bytes "find" ⟨[.bytes x.toArray t, .bytes c.toArray u], []⟩ >>= fun r => _) _ E s
  rw [find1_eq]
  refine gives_find_tail (lo := 0) ?_ hq
  have e1 : (Bytes.window x.toArray.size none none).1 = 0 := rfl
  have e2 : (Bytes.window x.toArray.size none none).2 = (x.length : Int) := by
    show min (x.toArray.size : Int) (if (x.toArray.size : Int) < 0 then _ else (x.toArray.size : Int)) = _
    rw [if_neg (by omega)]; simp
  rw [e1, e2]; simp
theorem gives_find2 (x c : List UInt8) (t u v : Tok) (i : Nat) : Gives («bytes.find» ⟨[.bytes x.toArray t, .bytes c.toArray u, .int i v], []⟩) (.int (findL x c i)) := by
  refine .of_wp fun M A E s Q hq => ?_
  show wpAny M A (Bytes.searchArgs .bytes "find" ⟨[.bytes x.toArray t, .bytes c.toArray u, .int i v], []⟩ >>= fun r => _) _ E s
  rw [find2_eq]
  refine gives_find_tail (lo := i) ?_ hq
  have e1 : (Bytes.window x.toArray.size (some (i : Int)) none).1 = i := by
    show (if (i : Int) < 0 then max 0 ((i : Int) + (x.toArray.size : Int)) else (i : Int)) = _
    rw [if_neg (by omega)]
  have e2 : (Bytes.window x.toArray.size (some (i : Int)) none).2 = (x.length : Int) := by
    show min (x.toArray.size : Int) (if (x.toArray.size : Int) < 0 then _ else (x.toArray.size : Int)) = _
    rw [if_neg (by omega)]; simp
  rw [e1, e2]; simp

theorem slot_find : Slot "bytes" "find" "bytes.find" :=
  .of (owner := "bytes") (n := "find") (by rw [typeLookup_type, builtinLookup_eq_fast]; kernel_rfl) (by decide +kernel) (by decide +kernel) (by decide +kernel)
    (by first | exact .inl (by decide +kernel) | exact .inr (by decide +kernel)) (by rw [isSubtype_type]; kernel_rfl)
theorem type_find : typeOf (.builtin "bytes.find") = pure (.type "method_descriptor") := by show builtinType _ = _; rw [builtinType_eq_fast]; kernel_rfl
theorem entry_find : entryFor table "bytes.find" = some Builtin.«bytes.find» := entryFor_of_tree (by kernel_rfl)
theorem args_find1 (a b : Value) : argsOk "bytes.find" ⟨[a, b], []⟩ := by
  unfold argsOk; rw [signature?_of (id := "bytes.find") (n := ['d', 'n', 'i', 'f']) (o := ['s', 'e', 't', 'y', 'b']) (by kernel_rfl) FB.owner_bytes]; kernel_rfl
theorem args_find2 (a b c : Value) : argsOk "bytes.find" ⟨[a, b, c], []⟩ := by
  unfold argsOk; rw [signature?_of (id := "bytes.find") (n := ['d', 'n', 'i', 'f']) (o := ['s', 'e', 't', 'y', 'b']) (by kernel_rfl) FB.owner_bytes]; kernel_rfl
theorem slot_split : Slot "bytes" "split" "bytes.split" :=
  .of (owner := "bytes") (n := "split") (by rw [typeLookup_type, builtinLookup_eq_fast]; kernel_rfl) (by decide +kernel) (by decide +kernel) (by decide +kernel)
    (by first | exact .inl (by decide +kernel) | exact .inr (by decide +kernel)) (by rw [isSubtype_type]; kernel_rfl)
theorem type_split : typeOf (.builtin "bytes.split") = pure (.type "method_descriptor") := by show builtinType _ = _; rw [builtinType_eq_fast]; kernel_rfl
theorem entry_split : entryFor table "bytes.split" = some Builtin.«bytes.split» := entryFor_of_tree (by kernel_rfl)
theorem args_split1 (a b : Value) : argsOk "bytes.split" ⟨[a, b], []⟩ := by
  unfold argsOk; rw [signature?_of (id := "bytes.split") (n := ['t', 'i', 'l', 'p', 's']) (o := ['s', 'e', 't', 'y', 'b']) (by kernel_rfl) FB.owner_bytes]; kernel_rfl
theorem slot_join : Slot "bytes" "join" "bytes.join" :=
  .of (owner := "bytes") (n := "join") (by rw [typeLookup_type, builtinLookup_eq_fast]; kernel_rfl) (by decide +kernel) (by decide +kernel) (by decide +kernel)
    (by first | exact .inl (by decide +kernel) | exact .inr (by decide +kernel)) (by rw [isSubtype_type]; kernel_rfl)
theorem type_join : typeOf (.builtin "bytes.join") = pure (.type "method_descriptor") := by show builtinType _ = _; rw [builtinType_eq_fast]; kernel_rfl
theorem entry_join : entryFor table "bytes.join" = some Builtin.«bytes.join» := entryFor_of_tree (by kernel_rfl)
theorem args_join1 (a b : Value) : argsOk "bytes.join" ⟨[a, b], []⟩ := by
  unfold argsOk; rw [signature?_of (id := "bytes.join") (n := ['n', 'i', 'o', 'j']) (o := ['s', 'e', 't', 'y', 'b']) (by kernel_rfl) FB.owner_bytes]; kernel_rfl

theorem starts_eq (b c : Array UInt8) (t u : Tok) : «bytes.startswith» ⟨[.bytes b t, .bytes c u], []⟩ = ret (.bool (if (Bytes.window b.size none none).2 - (Bytes.window b.size none none).1 < c.size then false else if false = true then b.extract ((Bytes.window b.size none none).2.toNat - c.size) (Bytes.window b.size none none).2.toNat == c else b.extract (Bytes.window b.size none none).1.toNat ((Bytes.window b.size none none).1.toNat + c.size) == c)) := by kernel_rfl
theorem gives_contains (b : Array UInt8) (i : Int) (t u : Tok) (h0 : 0 ≤ i) (h1 : i < 256) : Gives («bytes.__contains__» ⟨[.bytes b t, .int i u], []⟩) (.val (.bool (b.contains i.toNat.toUInt8))) := by
  refine .of_wp fun M A E s Q hq => ?_
  show wpAny M A (Bytes.containsIn "bytes.__contains__" (.bytes b t) (.int i u) >>= fun r => ret (.bool r)) _ E s
  refine wpAny_bind ?_
  unfold Bytes.containsIn
  refine wpAny_bind (wpAny_attempt (wpAny_of_eq (a := i) rfl ?_))
  rw [buf_eq]
  show wpAny M A (if (decide (i < 0) || decide (i ≥ 256)) = true then _ else _) _ E s
  rw [if_neg (by simp; omega)]
  exact wpAny_pure (wpAny_pure ⟨_, rfl, hq⟩)
theorem gives_starts (x c : List UInt8) (t u : Tok) : Gives («bytes.startswith» ⟨[.bytes x.toArray t, .bytes c.toArray u], []⟩) (.val (.bool (x.take c.length == c))) := by
  refine .of_wp fun M A E s Q hq => ?_
  rw [starts_eq]
  refine wpAny_pure ⟨_, rfl, ?_⟩
  have e1 : (Bytes.window x.toArray.size none none).1 = 0 := rfl
  have e2 : (Bytes.window x.toArray.size none none).2 = (x.length : Int) := by
    show min (x.toArray.size : Int) (if (x.toArray.size : Int) < 0 then _ else (x.toArray.size : Int)) = _
    rw [if_neg (by omega)]; simp
  rw [e1, e2]
  have e : (if (x.length : Int) - 0 < (c.toArray.size : Int) then false else if false = true then x.toArray.extract ((x.length : Int).toNat - c.toArray.size) (x.length : Int).toNat == c.toArray else x.toArray.extract (0 : Int).toNat ((0 : Int).toNat + c.toArray.size) == c.toArray) = (x.take c.length == c) := by
    have ez : c.toArray.size = c.length := by simp
    rw [ez]
    by_cases h : (x.length : Int) - 0 < (c.length : Int)
    · rw [if_pos h]
      have : x.take c.length ≠ c := fun e => by have := congrArg List.length e; rw [List.length_take] at this; omega
      rw [beq_eq_false_iff_ne.mpr this]
    · rw [if_neg h, if_neg Bool.false_ne_true]
      simp
  rw [e]; exact hq
section
variable {prog : Program} {w : World} {A : Around} {E : Value → Shared → Prop} {s : Shared}
theorem in_bytes {x : List UInt8} {i : Int} {t u : Tok} {Q : Value → Shared → Prop} (h0 : 0 ≤ i) (h1 : i < 256) (h : Q (.bool (x.contains i.toNat.toUInt8)) s) : wpAny (model prog w) A (compareOp .In (.int i u) (.bytes x.toArray t)) Q E s := by
  refine wpAny_bind (wpAny_contains_slot (T := "bytes") rfl FB.slot_bytes_contains (wpAny_mono (call_gives (Q := fun v s' => v = .bool (x.contains i.toNat.toUInt8) ∧ s' = s) FB.slot_bytes_contains rfl FB.entry_bytes_contains (FB.args_bytes_contains_2 _ _) (gives_contains _ i t u h0 h1) ⟨by simp, rfl⟩) (fun v s' hv => ?_) fun _ _ e => e))
  obtain ⟨rfl, rfl⟩ := hv
  exact wpAny_truthy_bool (wpAny_pure h)
theorem notIn_bytes {x : List UInt8} {i : Int} {t u : Tok} {Q : Value → Shared → Prop} (h0 : 0 ≤ i) (h1 : i < 256) (h : Q (.bool (!x.contains i.toNat.toUInt8)) s) : wpAny (model prog w) A (compareOp .NotIn (.int i u) (.bytes x.toArray t)) Q E s := by
  refine wpAny_bind (wpAny_contains_slot (T := "bytes") rfl FB.slot_bytes_contains (wpAny_mono (call_gives (Q := fun v s' => v = .bool (x.contains i.toNat.toUInt8) ∧ s' = s) FB.slot_bytes_contains rfl FB.entry_bytes_contains (FB.args_bytes_contains_2 _ _) (gives_contains _ i t u h0 h1) ⟨by simp, rfl⟩) (fun v s' hv => ?_) fun _ _ e => e))
  obtain ⟨rfl, rfl⟩ := hv
  exact wpAny_truthy_bool (wpAny_pure h)
theorem eqAt_bytes (x y : List UInt8) (t u : Tok) : SeqAt.EqAt A s (.bytes x.toArray t) (.bytes y.toArray u) (x == y) := by
  intro prog w E Q h
  unfold eqBool
  refine wpAny_holding ?_
  refine wpAny_ite_split (fun hab => ?_) (fun hab => ?_)
  · have e : x.toArray = y.toArray := by have := eq_of_beq hab; injection this
    have e' : x = y := by simpa using e
    subst e'
    exact wpAny_bind (wpAny_rule (wpAny_pure (by simpa using h)))
  · exact wpAny_bind (eq_bytes (wpAny_truthy_bool (by simpa using h)))
end
end Mine

namespace Mine
inductive BytesAre : List Value → List (List UInt8) → Prop
  | nil : BytesAre [] []
  | cons (x : List UInt8) (t : Tok) {vs xs} : BytesAre vs xs → BytesAre (.bytes x.toArray t :: vs) (x :: xs)
theorem BytesAre.length : ∀ {vs xs}, BytesAre vs xs → vs.length = xs.length
  | _, _, .nil => rfl
  | _, _, .cons _ _ b => congrArg (· + 1) b.length
theorem BytesAre.get : ∀ {vs xs}, BytesAre vs xs → ∀ (i : Nat) x, xs[i]? = some x → ∃ t, vs[i]? = some (.bytes x.toArray t)
  | _, _, .cons x t b, 0, _, e => ⟨t, by cases e; rfl⟩
  | _, _, .cons x t b, i + 1, y, e => b.get i y e
theorem wp_mapM_mkBytes {M : Model} {A : Around} {E : Value → Shared → Prop} : ∀ (xs : List (Array UInt8)) (s : Shared) (Q : List Value → Shared → Prop), (∀ x ∈ xs, x.size ≤ sizeLine) → (∀ vs k, BytesAre vs (xs.map (·.toList)) → Q vs { s with toks := k }) → wpAny M A (xs.mapM mkBytes) Q E s
  | [], s, Q, _, h => by rw [List.mapM_nil]; exact wpAny_pure (h [] s.toks .nil)
  | x :: r, s, Q, hx, h => by
    rw [List.mapM_cons]
    refine wpAny_bind (wpAny_mkBytes (wpAny_bind (wp_mapM_mkBytes r _ _ (fun y hy => hx y (List.mem_cons_of_mem _ hy)) fun vs k hv => wpAny_pure ?_)) (hx x (List.mem_cons_self ..)))
    have e : (Value.bytes x s.toks) = .bytes x.toList.toArray s.toks := by simp
    rw [e]
    exact h _ k (.cons x.toList s.toks hv)
/-- the parts that split makes -/
noncomputable def partsA (b c : Array UInt8) : List (Array UInt8) := Bytes.between b c.size ((Bytes.occurrences b c 0 b.size).take (b.size + 1))
theorem partsA_nil {b c : Array UInt8} (h : ((Bytes.occurrences b c 0 b.size).take (b.size + 1)).isEmpty = true) : partsA b c = [b] := by
  unfold partsA
  rw [List.isEmpty_iff.mp h]
  show [b.extract 0 b.size] = [b]
  simp
theorem split_bind (b c : Value) : Bytes.bindOptional "bytes.split" "split" ["sep", "maxsplit"] [c] [] = pure [some c, none] := by kernel_rfl
theorem bytesLike_eq (id : String) (b : Array UInt8) (t : Tok) : Bytes.bytesLike id (.bytes b t) = pure b := by
  unfold Bytes.bytesLike; rw [buf_eq]; rfl
theorem meets_split (b c : Array UInt8) (t u : Tok) (hc : c.isEmpty = false) (hp : ∀ x ∈ partsA b c, x.size ≤ sizeLine) (hn : (partsA b c).length ≤ sizeLine) :
    Meets («bytes.split» ⟨[.bytes b t, .bytes c u], []⟩) (fun _ R s => ∀ vs k, BytesAre vs ((partsA b c).map (·.toList)) → R (.ok (.ret (.ref s.heap.objs.size))) { s with heap := s.heap.push { cls := .type "list", data := .seq vs.toArray }, toks := k }) := by
  refine .of_wp fun prog w A R s hS => ?_
  show wpAny _ _ (Bytes.bindOptional "bytes.split" "split" ["sep", "maxsplit"] [.bytes c u] [] >>= fun r => _) _ _ s
  rw [split_bind (.bytes b t)]
  show wpAny _ _ (Bytes.bytesLike "bytes.split" (.bytes c u) >>= fun r => _) _ _ s
  rw [bytesLike_eq]
  show wpAny _ _ (if c.isEmpty = true then _ else _) _ _ s
  rw [if_neg (by simp [hc])]
  show wpAny _ _ (if ((Bytes.occurrences b c 0 b.size).take (b.size + 1)).isEmpty = true then _ else _) _ _ s
  by_cases h : ((Bytes.occurrences b c 0 b.size).take (b.size + 1)).isEmpty = true
  · rw [if_pos h]
    refine wpAny_bind (wpAny_rule (wpAny_bind (wpAny_of_eq (a := .bytes b t) rfl (wpAny_bind (wpAny_newList (wpAny_pure ⟨_, rfl, ?_⟩))))))
    refine hS [.bytes b t] s.toks ?_
    rw [partsA_nil h]
    have e : (Value.bytes b t) = .bytes b.toList.toArray t := by simp
    rw [e]
    exact .cons _ _ .nil
  · rw [if_neg h]
    refine wpAny_bind (wp_mapM_mkBytes _ _ _ hp fun vs k hv => wpAny_bind (wpAny_newList (wpAny_pure ⟨_, rfl, hS vs k hv⟩) ?_))
    rw [hv.length, List.length_map]; exact hn

theorem quiet_eq (id : String) (b : Array UInt8) (t : Tok) : Bytes.takeBufferQuiet? id (.bytes b t) 0 = pure (some (b, none)) := by kernel_rfl
theorem wp_letGo {M : Model} {A : Around} {E : Value → Shared → Prop} {s : Shared} {Q : Unit → Shared → Prop} (h : Q () s) : ∀ (l : List Value) (keep : List Value), wpAny M A (Bytes.joinLetGo (l.map fun x => (x, none)) keep) Q E s
  | [], keep => wpAny_pure h
  | x :: l, keep => by
    show wpAny M A (letGo _ _ >>= fun _ => Bytes.joinLetGo (l.map fun x => (x, none)) keep) Q E s
    exact wpAny_bind (wpAny_letGo (wp_letGo h l keep))
theorem wp_range {M : Model} {A : Around} {E : Value → Shared → Prop} {β : Type} {n : Nat} {f : Nat → β → Sem (ForInStep β)} (I : Nat → β → Shared → Prop) {Q : β → Shared → Prop}
    (hstep : ∀ i c s, i < n → I i c s → wpAny M A (f i c) (fun r s' => match r with | .done c' => Q c' s' | .yield c' => I (i + 1) c' s') E s)
    (hend : ∀ c s, I n c s → Q c s) {c : β} {s : Shared} (h : I 0 c s) : wpAny M A (forIn [0:n] c f) Q E s := by
  rw [Std.Legacy.Range.forIn_eq_forIn_range']
  have hsz : ([0:n] : Std.Legacy.Range).size = n := by simp [Std.Legacy.Range.size]
  show wpAny M A (forIn (List.range' 0 ([0:n] : Std.Legacy.Range).size 1) c f) Q E s
  rw [hsz]
  refine wpAny_forIn_list f (fun l c s => ∃ i, i ≤ n ∧ l = List.range' i (n - i) 1 ∧ I i c s) Q ?_ ?_ _ c ⟨0, Nat.zero_le _, rfl, h⟩
  · rintro x rest c s ⟨i, hib, hl, hI⟩
    have hlt : i < n := by
      rcases Nat.lt_or_ge i n with h' | h'
      · exact h'
      · rw [show n - i = 0 by omega] at hl; simp at hl
    obtain ⟨m, hm⟩ : ∃ m, n - i = m + 1 := ⟨n - i - 1, by omega⟩
    rw [hm, List.range'_succ] at hl
    obtain ⟨rfl, rfl⟩ := List.cons.inj hl
    refine wpAny_mono (hstep x c s hlt hI) (fun r s' h' => ?_) fun _ _ e => e
    cases r with
    | done c' => exact h'
    | yield c' => exact ⟨x + 1, hlt, by congr 1; omega, h'⟩
  · rintro c s ⟨i, hib, hl, hI⟩
    have : i = n := by
      rcases Nat.lt_or_ge i n with h' | h'
      · obtain ⟨m, hm⟩ : ∃ m, n - i = m + 1 := ⟨n - i - 1, by omega⟩
        rw [hm, List.range'_succ] at hl; simp at hl
      · omega
    subst this; exact hend _ _ hI
theorem any_heap : ∀ {vs : List Value} {xs}, BytesAre vs xs → (vs.map fun x => (x, (none : Option Value))).any (·.1.onHeap) = false
  | _, _, .nil => rfl
  | _, _, .cons (vs := vs) x t b => by
    show (false || (vs.map fun x => (x, (none : Option Value))).any (·.1.onHeap)) = false
    rw [any_heap b]; rfl
theorem BytesAre.take : ∀ {vs : List Value} {xs : List (List UInt8)}, BytesAre vs xs → ∀ n, BytesAre (vs.take n) (xs.take n)
  | _, _, .nil, n => by rw [List.take_nil, List.take_nil]; exact .nil
  | _, _, .cons x t b, 0 => .nil
  | _, _, .cons x t b, n + 1 => .cons x t (b.take n)
theorem meets_join (c : Array UInt8) (u : Tok) (a : Addr) (vs : List Value) (n : Nat) (xs : List (List UInt8)) (hv : BytesAre vs xs) (hz : Bytes.tooLong ((xs.map (·.toArray)).toArray.foldl (· + ·.size) (c.size * (xs.length - 1))) = false) (hz2 : (Bytes.joined c (xs.map (·.toArray))).size ≤ sizeLine) :
    Meets («bytes.join» ⟨[.bytes c u, .ref a], []⟩) (fun _ R s => s.heap.get? a = some { cls := .type "list", data := .seq vs.toArray n } ∧ ∀ t' k, R (.ok (.ret (.bytes (Bytes.joined c (xs.map (·.toArray))) t'))) { s with toks := k }) := by
  refine .of_wp fun prog w A R s hS => ?_
  obtain ⟨ho, hR⟩ := hS
  have hT : s.TypeIs (.ref a) "list" := ⟨_, ho, rfl⟩
  have hseq : ∀ {α : Type} {Q : α → Shared → Prop} {E : Value → Shared → Prop} {f : Option (Array Value) → Sem α} {A : Around} {k : Nat}, wpAny (model prog w) A (f (some vs.toArray)) Q E { s with toks := k } → wpAny (model prog w) A (seqItems? (.ref a) >>= f) Q E { s with toks := k } := fun h => wpAny_bind (wpAny_seqItems (s := { s with toks := _ }) ho rfl h)
  show wpAny _ _ (Bytes.joinItems (.ref a) >>= fun r => _) _ _ s
  refine wpAny_bind ?_
  unfold Bytes.joinItems
  refine wpAny_bind (wpAny_typeOf hT ?_)
  show wpAny _ _ (pure (Value.ref a)) _ _ s
  refine wpAny_pure ?_
  refine hseq (k := s.toks) ?_
  have hcase : (∃ x, vs = [x]) ∨ (∀ x, vs ≠ [x]) := by
    by_cases h : ∃ x, vs = [x]
    · exact .inl h
    · exact .inr fun x e => h ⟨x, e⟩
  rcases hcase with ⟨x, rfl⟩ | hne
  · cases hv with
    | cons x t hn =>
      cases hn
      refine wpAny_bind (wpAny_typeOf (T := "bytes") rfl ?_)
      show wpAny _ _ (rule "bytes.join.one-item" >>= fun _ => _) _ _ _
      refine wpAny_bind (wpAny_rule (wpAny_pure ⟨_, rfl, ?_⟩))
      have e : Bytes.joined c ([x].map (·.toArray)) = x.toArray := by
        show (if 0 > 0 then #[] ++ c else #[]) ++ x.toArray = x.toArray
        simp
      rw [e] at hR
      exact hR t s.toks
  · rcases hvs : vs with _ | ⟨v, _ | ⟨v', r⟩⟩
    rotate_left
    · exact absurd hvs (hne v)
    rotate_left
    · show wpAny _ _ (forIn [0:_] _ _ >>= fun r => _) _ _ _
      rw [← hvs]
      refine wpAny_bind (wp_range (fun i st s' => s' = s ∧ st = (((xs.take i).map (·.toArray)).toArray, (vs.take i).map fun x => (x, none))) (fun i st s' hi hI => ?_) (fun st s' hI => ?_) ⟨rfl, rfl⟩)
      · rw [hvs] at hi; exact absurd hi (Nat.not_lt_zero _)
      · obtain ⟨rfl, rfl⟩ := hI
        have e1 : xs.take vs.toArray.size = xs := by rw [List.size_toArray, hv.length, List.take_length]
        have e2 : vs.take vs.toArray.size = vs := by rw [List.size_toArray, List.take_length]
        rw [e1, e2]
        refine wpAny_bind (wpAny_of_eq (a := c) rfl ?_)
        have e3 : ((xs.map (·.toArray)).toArray).size = xs.length := by simp
        dsimp only
        have hz' := hz
        rw [← e3] at hz'
        rw [hz', if_neg Bool.false_ne_true]
        refine wpAny_bind (wpAny_mkBytes (wpAny_bind (wpAny_holding (wpAny_point (wpAny_bind (wp_letGo (wpAny_pure ⟨_, rfl, ?_⟩) vs _))))) hz2)
        exact hR _ _
    · show wpAny _ _ (forIn [0:_] _ _ >>= fun r => _) _ _ _
      rw [← hvs]
      refine wpAny_bind (wp_range (fun i st s' => s' = s ∧ st = (((xs.take i).map (·.toArray)).toArray, (vs.take i).map fun x => (x, none))) (fun i st s' hi hI => ?_) (fun st s' hI => ?_) ⟨rfl, rfl⟩)
      · obtain ⟨rfl, rfl⟩ := hI
        have hi' : i < vs.length := by simpa using hi
        have hix : i < xs.length := hv.length ▸ hi'
        obtain ⟨t, ht⟩ := hv.get i xs[i] (List.getElem?_eq_getElem hix)
        refine hseq (k := s'.toks) ?_
        dsimp only
        have e : vs.toArray.getD i Value.none = .bytes xs[i].toArray t := by
          rw [Array.getD_eq_getD_getElem?, List.getElem?_toArray, ht]; rfl
        rw [e, any_heap (hv.take i), if_neg (by decide)]
        refine wpAny_bind (wpAny_holding ?_)
        rw [quiet_eq]
        refine wpAny_pure (hseq (k := s'.toks) ?_)
        dsimp only
        rw [if_neg (by simp)]
        refine wpAny_pure ⟨rfl, ?_⟩
        have e1 : xs.take (i + 1) = xs.take i ++ [xs[i]] := by rw [List.take_add_one, List.getElem?_eq_getElem hix]; rfl
        have e2 : vs.take (i + 1) = vs.take i ++ [.bytes xs[i].toArray t] := by rw [List.take_add_one, ht]; rfl
        rw [e1, e2, List.map_append, List.map_append]
        simp only [List.push_toArray, List.map_cons, List.map_nil]
      · obtain ⟨rfl, rfl⟩ := hI
        have e1 : xs.take vs.toArray.size = xs := by rw [List.size_toArray, hv.length, List.take_length]
        have e2 : vs.take vs.toArray.size = vs := by rw [List.size_toArray, List.take_length]
        rw [e1, e2]
        refine wpAny_bind (wpAny_of_eq (a := c) rfl ?_)
        have e3 : ((xs.map (·.toArray)).toArray).size = xs.length := by simp
        dsimp only
        have hz' := hz
        rw [← e3] at hz'
        rw [hz', if_neg Bool.false_ne_true]
        refine wpAny_bind (wpAny_mkBytes (wpAny_bind (wpAny_holding (wpAny_point (wpAny_bind (wp_letGo (wpAny_pure ⟨_, rfl, ?_⟩) vs _))))) hz2)
        exact hR _ _
end Mine

open PySem PySem.W PyProof.Rows PySem.Calls PySem.Spec
set_option genSizeOfSpec false
namespace Mine

/-- plain data that a value stands for -/
inductive PV where
  | none | bool (b : Bool) | int (i : Int) | str (s : Str) | bytes (l : List UInt8)
  | tup (l : List PV) | lst (l : List PV) | inst (C : Addr) (fs : List PV) | deck
structure Dk where
  cells : List Int
  mixed : Int
  turn : Int
noncomputable abbrev DS := Option Dk
structure St where
  vars : List (Option PV)
  own : Option (Nat × List PV)
  dk : DS
noncomputable abbrev St.setD (σ : St) (d : DS) : St := ⟨σ.vars, σ.own, d⟩
noncomputable def look : List (Option PV) → Nat → Option PV
  | [], _ => none
  | p :: _, 0 => p
  | _ :: l, n + 1 => look l n
noncomputable def put : List (Option PV) → Nat → Option PV → List (Option PV)
  | [], _, _ => []
  | _ :: l, 0, q => q :: l
  | p :: l, n + 1, q => p :: put l n q
theorem look_put : ∀ (l : List (Option PV)) (i j : Nat) (q : Option PV), i ≠ j → look (put l i q) j = look l j
  | [], _, _, _, _ => rfl
  | _ :: _, 0, 0, _, h => absurd rfl h
  | _ :: _, 0, _ + 1, _, _ => rfl
  | _ :: _, _ + 1, 0, _, _ => rfl
  | _ :: l, i + 1, j + 1, q, h => look_put l i j q fun e => h (congrArg _ e)
theorem look_put_same : ∀ (l : List (Option PV)) (i : Nat) (q : Option PV), look (put l i q) i = none ∨ look (put l i q) i = q
  | [], _, _ => .inl rfl
  | _ :: _, 0, _ => .inr rfl
  | _ :: l, i + 1, q => look_put_same l i q
/-- what an expression answers: data, a new list, the frame's own list -/
inductive RV | st (p : PV) | fr (l : List PV) | me (l : List PV)
noncomputable def RV.pv : RV → PV
  | .st p => p
  | .fr l => .lst l
  | .me l => .lst l
inductive Ret | val (p : PV) | own (l : List PV)
inductive Out | nx (σ : St) | rt (r : Ret) (d : DS) | ex (d : DS)
noncomputable def St.set (σ : St) (i : Nat) (p : PV) : St := ⟨put σ.vars i (some p), match σ.own with | some (j, l) => (match decide (j = i) with | true => none | false => some (j, l)) | none => none, σ.dk⟩
noncomputable def St.setOwn (σ : St) (i : Nat) (l : List PV) : St := ⟨match σ.own with | some (j, l') => put (put σ.vars j (some (.lst l'))) i none | none => put σ.vars i none, some (i, l), σ.dk⟩

noncomputable abbrev tupO (vs : List Value) (n : Nat) : Obj := { cls := .type "tuple", data := .seq vs.toArray n }
noncomputable abbrev lstO (vs : List Value) (n : Nat) : Obj := { cls := .type "list", data := .seq vs.toArray n }

/-- the fields of the text's two classes -/
noncomputable def fieldsOf (C : Addr) : List Str := if C = 130 then ["name", "email", "when", "zone"] else if C = 219 then ["tree", "parents", "author", "committer", "extra", "message"] else []
mutual
inductive Rep (d : Addr) (X : List Addr) (h : Heap) : Value → PV → Prop
  | none : Rep d X h .none .none
  | bool (b : Bool) : Rep d X h (.bool b) (.bool b)
  | int (i : Int) (t : Tok) : Rep d X h (.int i t) (.int i)
  | str (s : Str) (t : Tok) : Rep d X h (.str s t) (.str s)
  | bytes (l : List UInt8) (t : Tok) : Rep d X h (.bytes l.toArray t) (.bytes l)
  | tup {a : Addr} {vs : List Value} {n : Nat} {l : List PV} (ha : a ∉ X) (ho : h.get? a = some (tupO vs n)) (hr : Reps d X h vs l) : Rep d X h (.ref a) (.tup l)
  | lst {a : Addr} {vs : List Value} {n : Nat} {l : List PV} (ha : a ∉ X) (ho : h.get? a = some (lstO vs n)) (hr : Reps d X h vs l) : Rep d X h (.ref a) (.lst l)
  | inst {a dx C : Addr} {es : List DictEntry} {n : Nat} {fs : List PV} (ha : a ∉ X) (hd : dx ∉ X) (ho : h.get? a = some (instObj C dx)) (hq : h.get? dx = some (dictOf es n)) (hr : RepF d X h (fieldsOf C) es fs) : Rep d X h (.ref a) (.inst C fs)
  | deck : Rep d X h (.ref d) .deck
inductive Reps (d : Addr) (X : List Addr) (h : Heap) : List Value → List PV → Prop
  | nil : Reps d X h [] []
  | cons {v : Value} {p : PV} {vs : List Value} {ps : List PV} (hv : Rep d X h v p) (hs : Reps d X h vs ps) : Reps d X h (v :: vs) (p :: ps)
inductive RepF (d : Addr) (X : List Addr) (h : Heap) : List Str → List DictEntry → List PV → Prop
  | nil : RepF d X h [] [] []
  | cons {hh : Int} {x : Str} {t : Tok} {v : Value} {p : PV} {xs : List Str} {es : List DictEntry} {fs : List PV} (hv : Rep d X h v p) (hs : RepF d X h xs es fs) : RepF d X h (x :: xs) (⟨hh, .str x t, v⟩ :: es) (p :: fs)
end

noncomputable def KB (X : List Addr) (h h' : Heap) : Prop := ∀ b o, b ∉ X → h.get? b = some o → h'.get? b = some o
theorem KB.refl (X : List Addr) (h : Heap) : KB X h h := fun _ _ _ e => e
theorem KB.trans {X : List Addr} {h h' h'' : Heap} (a : KB X h h') (b : KB X h' h'') : KB X h h'' := fun c o n e => b c o n (a c o n e)
theorem KB.of {X : List Addr} {h h' : Heap} (k : ∀ b o, h.get? b = some o → h'.get? b = some o) : KB X h h' := fun b o _ e => k b o e
theorem KB.more {X Y : List Addr} {h h' : Heap} (k : KB X h h') (hs : ∀ a ∈ X, a ∈ Y) : KB Y h h' := fun b o n e => k b o (fun hx => n (hs b hx)) e

section
variable {d : Addr} {X Y : List Addr} {h h' : Heap}
theorem Rep.mono (k : KB X h h') (hs : ∀ a o, h.get? a = some o → a ∉ X → a ∉ Y) {v : Value} {p : PV} (r : Rep d X h v p) : Rep d Y h' v p :=
  r.rec (motive_1 := fun v p _ => Rep d Y h' v p) (motive_2 := fun vs ps _ => Reps d Y h' vs ps) (motive_3 := fun xs es fs _ => RepF d Y h' xs es fs)
    .none (fun b => .bool b) (fun i t => .int i t) (fun s t => .str s t) (fun l t => .bytes l t) (fun ha ho _ ih => .tup (hs _ _ ho ha) (k _ _ ha ho) ih) (fun ha ho _ ih => .lst (hs _ _ ho ha) (k _ _ ha ho) ih)
    (fun ha hd ho hq _ ih => .inst (hs _ _ ho ha) (hs _ _ hq hd) (k _ _ ha ho) (k _ _ hd hq) ih) .deck .nil (fun _ _ a b => .cons a b) .nil (fun _ _ a b => .cons a b)
theorem Reps.mono (k : KB X h h') (hs : ∀ a o, h.get? a = some o → a ∉ X → a ∉ Y) {vs : List Value} {ps : List PV} (r : Reps d X h vs ps) : Reps d Y h' vs ps :=
  r.rec (motive_1 := fun v p _ => Rep d Y h' v p) (motive_2 := fun vs ps _ => Reps d Y h' vs ps) (motive_3 := fun xs es fs _ => RepF d Y h' xs es fs)
    .none (fun b => .bool b) (fun i t => .int i t) (fun s t => .str s t) (fun l t => .bytes l t) (fun ha ho _ ih => .tup (hs _ _ ho ha) (k _ _ ha ho) ih) (fun ha ho _ ih => .lst (hs _ _ ho ha) (k _ _ ha ho) ih)
    (fun ha hd ho hq _ ih => .inst (hs _ _ ho ha) (hs _ _ hq hd) (k _ _ ha ho) (k _ _ hd hq) ih) .deck .nil (fun _ _ a b => .cons a b) .nil (fun _ _ a b => .cons a b)
end
theorem Rep.kb {d : Addr} {X : List Addr} {h h' : Heap} (k : KB X h h') {v : Value} {p : PV} (r : Rep d X h v p) : Rep d X h' v p := r.mono k fun _ _ _ x => x
theorem Reps.kb {d : Addr} {X : List Addr} {h h' : Heap} (k : KB X h h') {v : List Value} {p : List PV} (r : Reps d X h v p) : Reps d X h' v p := r.mono k fun _ _ _ x => x
theorem Rep.less {d : Addr} {X Y : List Addr} {h : Heap} (hs : ∀ a ∈ Y, a ∈ X) {v : Value} {p : PV} (r : Rep d X h v p) : Rep d Y h v p := r.mono (KB.refl _ _) fun _ _ n x z => x (hs _ z)
theorem Reps.less {d : Addr} {X Y : List Addr} {h : Heap} (hs : ∀ a ∈ Y, a ∈ X) {v : List Value} {p : List PV} (r : Reps d X h v p) : Reps d Y h v p := r.mono (KB.refl _ _) fun _ _ n x z => x (hs _ z)
theorem Reps.ind {d : Addr} {X : List Addr} {h : Heap} {P : List Value → List PV → Prop} (hn : P [] []) (hc : ∀ {v p vs ps}, Rep d X h v p → Reps d X h vs ps → P vs ps → P (v :: vs) (p :: ps)) {vs : List Value} {ps : List PV} (r : Reps d X h vs ps) : P vs ps :=
  r.rec (motive_1 := fun _ _ _ => True) (motive_2 := fun vs ps _ => P vs ps) (motive_3 := fun _ _ _ _ => True) trivial (fun _ => trivial) (fun _ _ => trivial) (fun _ _ => trivial) (fun _ _ => trivial) (fun _ _ _ _ => trivial) (fun _ _ _ _ => trivial) (fun _ _ _ _ _ _ => trivial) trivial hn (fun hv hs _ ih => hc hv hs ih) trivial (fun _ _ _ _ => trivial)
section
variable {d : Addr} {X : List Addr} {h : Heap} {vs : List Value} {ps : List PV}
theorem Reps.length (r : Reps d X h vs ps) : vs.length = ps.length := r.ind (P := fun vs ps => vs.length = ps.length) rfl fun _ _ ih => congrArg (· + 1) ih
theorem Reps.append {us : List Value} {qs : List PV} (r : Reps d X h vs ps) (b : Reps d X h us qs) : Reps d X h (vs ++ us) (ps ++ qs) := r.ind (P := fun vs ps => Reps d X h (vs ++ us) (ps ++ qs)) b fun hv _ ih => .cons hv ih
theorem Reps.get (r : Reps d X h vs ps) : ∀ {i : Nat} {p : PV}, ps[i]? = some p → ∃ v, vs[i]? = some v ∧ Rep d X h v p :=
  r.ind (P := fun vs ps => ∀ {i : Nat} {p : PV}, ps[i]? = some p → ∃ v, vs[i]? = some v ∧ Rep d X h v p) (fun e => nomatch e) fun hv _ ih i p e => by
    cases i with
    | zero => exact ⟨_, rfl, Option.some.inj e ▸ hv⟩
    | succ i => exact ih (i := i) e
theorem Reps.take (r : Reps d X h vs ps) : ∀ (n : Nat), Reps d X h (vs.take n) (ps.take n) :=
  r.ind (P := fun vs ps => ∀ n : Nat, Reps d X h (vs.take n) (ps.take n)) (fun n => by rw [List.take_nil, List.take_nil]; exact .nil) fun hv _ ih n => by
    cases n with
    | zero => exact .nil
    | succ n => exact .cons hv (ih n)
theorem Reps.drop (r : Reps d X h vs ps) : ∀ (n : Nat), Reps d X h (vs.drop n) (ps.drop n) :=
  r.ind (P := fun vs ps => ∀ n : Nat, Reps d X h (vs.drop n) (ps.drop n)) (fun n => by rw [List.drop_nil, List.drop_nil]; exact .nil) fun hv hs ih n => by
    cases n with
    | zero => exact .cons hv hs
    | succ n => exact ih n
end
theorem Rep.none_inv {d : Addr} {X : List Addr} {h : Heap} {v : Value} (r : Rep d X h v .none) : v = .none := by cases r; rfl
theorem Rep.bool_inv {d : Addr} {X : List Addr} {h : Heap} {v : Value} {b : Bool} (r : Rep d X h v (.bool b)) : v = .bool b := by cases r; rfl
theorem Rep.deck_inv {d : Addr} {X : List Addr} {h : Heap} {v : Value} (r : Rep d X h v .deck) : v = .ref d := by cases r; rfl
theorem Rep.tup_inv {d : Addr} {X : List Addr} {h : Heap} {v : Value} {l : List PV} (r : Rep d X h v (.tup l)) : ∃ a vs n, v = .ref a ∧ a ∉ X ∧ h.get? a = some (tupO vs n) ∧ Reps d X h vs l := by
  cases r with
  | tup ha ho hr => exact ⟨_, _, _, rfl, ha, ho, hr⟩
theorem Rep.lst_inv {d : Addr} {X : List Addr} {h : Heap} {v : Value} {l : List PV} (r : Rep d X h v (.lst l)) : ∃ a vs n, v = .ref a ∧ a ∉ X ∧ h.get? a = some (lstO vs n) ∧ Reps d X h vs l := by
  cases r with
  | lst ha ho hr => exact ⟨_, _, _, rfl, ha, ho, hr⟩
theorem Rep.inst_inv {d : Addr} {X : List Addr} {h : Heap} {v : Value} {C : Addr} {l : List PV} (r : Rep d X h v (.inst C l)) : ∃ a dx es n, v = .ref a ∧ a ∉ X ∧ dx ∉ X ∧ h.get? a = some (instObj C dx) ∧ h.get? dx = some (dictOf es n) ∧ RepF d X h (fieldsOf C) es l := by
  cases r with
  | inst ha hd ho hq hr => exact ⟨_, _, _, _, rfl, ha, hd, ho, hq, hr⟩
theorem Rep.int_inv {d : Addr} {X : List Addr} {h : Heap} {v : Value} {i : Int} (r : Rep d X h v (.int i)) : ∃ t, v = .int i t := by cases r; exact ⟨_, rfl⟩
theorem Rep.bytes_inv {d : Addr} {X : List Addr} {h : Heap} {v : Value} {l : List UInt8} (r : Rep d X h v (.bytes l)) : ∃ t, v = .bytes l.toArray t := by cases r; exact ⟨_, rfl⟩
theorem Rep.str_inv {d : Addr} {X : List Addr} {h : Heap} {v : Value} {l : Str} (r : Rep d X h v (.str l)) : ∃ t, v = .str l t := by cases r; exact ⟨_, rfl⟩

structure Wd where
  prog : Program
  w : World
  K : Frag
  p : Program
  loose : List Str
  mean : ExcName → Option Value
  mg : Str → Option Value
  mb : Str → Option Value

structure Cx where
  W : Wd
  dp : Nat
  un : Nat
  gd : Option (List Code)
  cn : Str
  cs : Scope
  ad : Addr
  cd : Value
  outer : List Env
  A₀ : Around
  base : Heap
  h₀ : Heap
  L : Addr
  d : Addr
  D : List Addr
  Xs : List Addr
  gens : Array GenState
  drawn : Drawn
  os : OsState
  env : Env
  N : Addr
  xs : List Str
  Fs : List Addr
  fo : Addr → Obj

noncomputable abbrev Cx.fenv (C : Cx) : Env := envX C.cn C.cs C.L C.ad C.cd []
noncomputable abbrev Cx.A (C : Cx) : Around := ktrTop C.dp C.un C.gd C.cn C.cs C.L C.ad C.cd [] C.outer
noncomputable abbrev Cx.M (C : Cx) : Model := model C.W.prog C.W.w
noncomputable abbrev Cx.X' (C : Cx) : List Addr := C.L :: C.N :: C.Xs

/-- the deck's two objects -/
inductive DeckIn (W : Wd) (d : Addr) (h : Heap) : List Addr → DS → Prop
  | no : DeckIn W d h [] none
  | yes {c : Addr} {cells : List Int} {mixed turn : Int} (hne : d ≠ c) (tm tt : Tok) (hd : h.DictOf (strKind W.prog W.w) d [("cells", .ref c), ("mixed", .int mixed tm), ("turn", .int turn tt)]) (vs : List Value) (n2 : Nat) (hc : h.get? c = some (lstO vs n2)) (hi : IntsAre vs cells) : DeckIn W d h [d, c] (some ⟨cells, mixed, turn⟩)

/-- what a step keeps: all but the deck and the frames, whose names stay -/
structure KQ (C : Cx) (h h' : Heap) : Prop where
  keep : KB (C.D ++ C.Fs) h h'
  ln : ∀ n, h.Ns C.L n → h'.Ns C.L n
structure Cx.Ok (C : Cx) : Prop where
  fsub : ∀ a ∈ C.Fs, a ∈ C.X'
  ffree : ∀ a ∈ C.Fs, C.h₀.get? a = none
  fnf : ∀ a ∈ C.Fs, ∀ vs, (C.fo a).data ≠ .fields vs
  X : C.W.K.In C.h₀
  T : Top C.W.p C.W.loose C.W.mean C.W.mg C.W.mb C.h₀
  kind : C.cs.kind = .function
  eN : C.env.locals = C.N
  eG : C.env.globals = mainGlobals
  eB : C.env.builtins = builtinsNs
  eK : C.env.scope.kind = .function
  eI : interactive C.env = false
  dfree : ∀ a ∈ C.D, a ≠ C.L ∧ a ≠ C.N ∧ C.h₀.get? a = none
  dsub : ∀ a ∈ C.D, a ∈ C.Xs
  dp : C.dp < 900
  un : C.un < 2000
  xk : ∀ (i : Nat) (x : Str), C.xs[i]? = some x → C.env.kindOf x = some .local ∧ (x == ("__debug__" : Str)) = false
  xd : C.xs.Nodup
  nl : C.N = C.L ∨ C.N ∉ C.Fs
  fdj : ∀ a ∈ C.Fs, a ∉ C.D

structure Here (C : Cx) (σ : St) (oa : List Addr) (s : Shared) : Prop where
  gens : s.gens = C.gens
  drawn : s.drawn = C.drawn
  os : s.os = C.os
  deck : DeckIn C.W C.d s.heap C.D σ.dk
  fr : ∃ m, Fr C.h₀ C.L s.heap m
  al : ∀ a ∈ oa ++ C.X', ∃ o, s.heap.get? a = some o
  ns : ∃ n, s.heap.Ns C.N n ∧ (∀ (i : Nat) (x : Str) (p : PV), C.xs[i]? = some x → look σ.vars i = some p → ∃ v, n x = some v ∧ Rep C.d (oa ++ C.X') s.heap v p) ∧
    ∀ (i : Nat) (l : List PV), σ.own = some (i, l) → ∃ (x : Str) (a : Addr) (vs : List Value) (k : Nat), C.xs[i]? = some x ∧ n x = some (.ref a) ∧ a ∈ oa ∧ s.heap.get? a = some (lstO vs k) ∧ Reps C.d (oa ++ C.X') s.heap vs l
  fs : ∀ b ∈ C.Fs, b ≠ C.L → ∃ sl, s.heap.get? b = some { C.fo b with slots := sl }
  oaX : ∀ a ∈ oa, a ∉ C.X' ∧ C.h₀.get? a = none

noncomputable def FreshL (C : Cx) (oa : List Addr) (h h' : Heap) (v : Value) (l : List PV) : Prop := ∃ a vs k, v = .ref a ∧ h'.get? a = some (lstO vs k) ∧ h.get? a = none ∧ a ∉ oa ++ C.X' ∧ Reps C.d (a :: (oa ++ C.X')) h' vs l
noncomputable def MeL (C : Cx) (oa : List Addr) (h' : Heap) (v : Value) (l : List PV) : Prop := ∃ a vs k, v = .ref a ∧ a ∈ oa ∧ h'.get? a = some (lstO vs k) ∧ a ∉ C.X' ∧ Reps C.d (oa ++ C.X') h' vs l
noncomputable def RvAt (C : Cx) (oa : List Addr) (h h' : Heap) (v : Value) : RV → Prop
  | .st p => Rep C.d (oa ++ C.X') h' v p
  | .fr l => FreshL C oa h h' v l
  | .me l => MeL C oa h' v l
/-- a value to be read alone -/
noncomputable def WR (C : Cx) (oa : List Addr) (h' : Heap) (v : Value) (p : PV) : Prop := Rep C.d (oa ++ C.X') h' v p ∨ ∃ l, p = .lst l ∧ MeL C oa h' v l

noncomputable abbrev EF := St → Option (RV × DS)
noncomputable abbrev TF := St → Option (Bool × DS)
noncomputable abbrev AF := St → Option (List PV × DS)
noncomputable abbrev SF := St → Option Out

noncomputable def EvD (C : Cx) (e : Expr) (f : EF) : Prop :=
  ∀ σ oa s Q E rv d, f σ = some (rv, d) → Here C σ oa s → (∀ v s', Here C (σ.setD d) oa s' → KQ C s.heap s'.heap → RvAt C oa s.heap s'.heap v rv → Q v s') → wpAny C.M C.A (eval e C.env) Q E s
noncomputable def ArD (C : Cx) (es : List Expr) (f : AF) : Prop :=
  ∀ pos σ oa s Q E ps d, f σ = some (ps, d) → Here C σ oa s → (∀ vs s', Here C (σ.setD d) oa s' → KQ C s.heap s'.heap → Reps C.d (oa ++ C.X') s'.heap vs ps → Q vs s') → wpAny C.M C.A (spliced (backTo pos (starEach es C.env))) Q E s
noncomputable def TeD (C : Cx) (e : Expr) (f : TF) : Prop :=
  ∀ σ oa s Q E b d, f σ = some (b, d) → Here C σ oa s → (∀ s', Here C (σ.setD d) oa s' → KQ C s.heap s'.heap → Q b s') → wpAny C.M C.A (PySem.isTrue e C.env (eval e C.env)) Q E s

section
variable {C : Cx} {σ : St} {oa : List Addr}
theorem sub_X' (ok : C.Ok) {a : Addr} (h : a ∈ C.D) : a ∈ oa ++ C.X' := List.mem_append_right _ (.tail _ (.tail _ (ok.dsub _ h)))
theorem sub_Q (ok : C.Ok) {a : Addr} (h : a ∈ C.D ++ C.Fs) : a ∈ oa ++ C.X' := (List.mem_append.mp h).elim (sub_X' ok) fun h => List.mem_append_right _ (ok.fsub a h)
theorem Ns.kb {h h' : Heap} {a : Addr} {n : Str → Option Value} (x : h.Ns a n) (k : ∀ o, h.get? a = some o → h'.get? a = some o) : h'.Ns a n := by
  obtain ⟨o, es, ep, g, r⟩ := x
  exact ⟨o, es, ep, k o g, r⟩
theorem KQ.refl (h : Heap) : KQ C h h := ⟨KB.refl _ _, fun _ e => e⟩
theorem KQ.trans {h h' h'' : Heap} (a : KQ C h h') (b : KQ C h' h'') : KQ C h h'' := ⟨a.keep.trans b.keep, fun n e => b.ln n (a.ln n e)⟩
theorem KQ.of {h h' : Heap} (k : ∀ b o, h.get? b = some o → h'.get? b = some o) : KQ C h h' := ⟨KB.of k, fun n e => Ns.kb e fun o q => k _ o q⟩
theorem KQ.push (h : Heap) (o : Obj) : KQ C h (h.push o) := KQ.of fun _ _ e => Heap.get?_push_of_some _ e
theorem KQ.out (ok : C.Ok) {h h' : Heap} (k : KQ C h h') {b : Addr} {o : Obj} (hb : b ∉ oa ++ C.X') (e : h.get? b = some o) : h'.get? b = some o := k.keep b o (fun z => hb (sub_Q ok z)) e
theorem KQ.fre (ok : C.Ok) {h h' : Heap} (k : KQ C h h') {b : Addr} {o o' : Obj} (hb : C.h₀.get? b = some o') (e : h.get? b = some o) : h'.get? b = some o := k.keep b o (fun z => by
  rcases List.mem_append.mp z with z | z
  · rw [(ok.dfree b z).2.2] at hb; cases hb
  · rw [ok.ffree b z] at hb; cases hb) e
theorem Rep.next (ok : C.Ok) {h h' : Heap} {v : Value} {p : PV} (r : Rep C.d (oa ++ C.X') h v p) (k : KQ C h h') : Rep C.d (oa ++ C.X') h' v p := r.kb (k.keep.more fun _ ha => sub_Q ok ha)
theorem Reps.next (ok : C.Ok) {h h' : Heap} {v : List Value} {p : List PV} (r : Reps C.d (oa ++ C.X') h v p) (k : KQ C h h') : Reps C.d (oa ++ C.X') h' v p := r.kb (k.keep.more fun _ ha => sub_Q ok ha)
theorem oaQ {a : Addr} (h : a ∉ C.X') (ok : C.Ok) : a ∉ C.D ++ C.Fs := fun z => (List.mem_append.mp z).elim (fun z => h (.tail _ (.tail _ (ok.dsub _ z)))) fun z => h (ok.fsub _ z)
theorem MeL.next (ok : C.Ok) {h h' : Heap} {v : Value} {l : List PV} (r : MeL C oa h v l) (k : KQ C h h') : MeL C oa h' v l := by
  obtain ⟨a, vs, n, e1, e2, e3, e4, e5⟩ := r
  exact ⟨a, vs, n, e1, e2, k.keep _ _ (oaQ e4 ok) e3, e4, e5.next ok k⟩
theorem FreshL.next (ok : C.Ok) {h₁ h h' : Heap} {v : Value} {l : List PV} (r : FreshL C oa h₁ h v l) (k : KQ C h h') : FreshL C oa h₁ h' v l := by
  obtain ⟨a, vs, n, e1, e2, e3, e4, e5⟩ := r
  exact ⟨a, vs, n, e1, k.out ok e4 e2, e3, e4, e5.kb (k.keep.more fun _ ha => .tail _ (sub_Q ok ha))⟩
theorem FreshL.since (ok : C.Ok) {h₀ h₁ h : Heap} {v : Value} {l : List PV} (r : FreshL C oa h₁ h v l) (k : KQ C h₀ h₁) : FreshL C oa h₀ h v l := by
  obtain ⟨a, vs, n, e1, e2, e3, e4, e5⟩ := r
  refine ⟨a, vs, n, e1, e2, ?_, e4, e5⟩
  cases q : h₀.get? a with
  | none => rfl
  | some o => rw [k.out ok e4 q] at e3; cases e3
theorem FreshL.rep {h₁ h : Heap} {v : Value} {l : List PV} (r : FreshL C oa h₁ h v l) : Rep C.d (oa ++ C.X') h v (.lst l) := by
  obtain ⟨a, vs, n, rfl, e2, e3, e4, e5⟩ := r
  exact .lst e4 e2 (e5.less fun _ z => .tail _ z)
theorem RvAt.next (ok : C.Ok) {h₁ h h' : Heap} {v : Value} : ∀ {rv : RV}, RvAt C oa h₁ h v rv → KQ C h h' → RvAt C oa h₁ h' v rv
  | .st _, r, k => Rep.next ok r k
  | .fr _, r, k => FreshL.next ok r k
  | .me _, r, k => MeL.next ok r k
theorem RvAt.since (ok : C.Ok) {h₀ h₁ h : Heap} {v : Value} : ∀ {rv : RV}, RvAt C oa h₁ h v rv → KQ C h₀ h₁ → RvAt C oa h₀ h v rv
  | .st _, r, k => r
  | .fr _, r, k => FreshL.since ok r k
  | .me _, r, k => r
theorem RvAt.wr {h₁ h : Heap} {v : Value} : ∀ {rv : RV}, RvAt C oa h₁ h v rv → WR C oa h v rv.pv
  | .st _, r => .inl r
  | .fr _, r => .inl (FreshL.rep r)
  | .me l, r => .inr ⟨l, rfl, r⟩
theorem WR.next (ok : C.Ok) {h h' : Heap} {v : Value} {p : PV} (r : WR C oa h v p) (k : KQ C h h') : WR C oa h' v p := by
  rcases r with r | ⟨l, e, r⟩
  · exact .inl (r.next ok k)
  · exact .inr ⟨l, e, r.next ok k⟩
theorem WR.lst {h : Heap} {v : Value} {l : List PV} (r : WR C oa h v (.lst l)) : ∃ a vs k, v = .ref a ∧ h.get? a = some (lstO vs k) ∧ a ∉ C.X' ∧ Reps C.d (oa ++ C.X') h vs l := by
  rcases r with r | ⟨l', e, a, vs, k, r1, r2, r3, r4, r5⟩
  · obtain ⟨a, vs, n, e, ha, ho, hr⟩ := r.lst_inv
    exact ⟨a, vs, n, e, ho, fun z => ha (List.mem_append_right _ z), hr⟩
  · cases e
    exact ⟨a, vs, k, r1, r3, r4, r5⟩
theorem WR.rep {h : Heap} {v : Value} {p : PV} (r : WR C oa h v p) (hp : ∀ l, p ≠ .lst l) : Rep C.d (oa ++ C.X') h v p := by
  rcases r with r | ⟨l, e, _⟩
  · exact r
  · exact absurd e (hp l)
theorem WR.int {h : Heap} {v : Value} {i : Int} (r : WR C oa h v (.int i)) : ∃ t, v = .int i t := (r.rep fun _ e => nomatch e).int_inv
theorem WR.bytes {h : Heap} {v : Value} {l : List UInt8} (r : WR C oa h v (.bytes l)) : ∃ t, v = .bytes l.toArray t := (r.rep fun _ e => nomatch e).bytes_inv
theorem WR.str {h : Heap} {v : Value} {l : Str} (r : WR C oa h v (.str l)) : ∃ t, v = .str l t := (r.rep fun _ e => nomatch e).str_inv
theorem WR.bool {h : Heap} {v : Value} {b : Bool} (r : WR C oa h v (.bool b)) : v = .bool b := (r.rep fun _ e => nomatch e).bool_inv
theorem WR.none {h : Heap} {v : Value} (r : WR C oa h v .none) : v = .none := (r.rep fun _ e => nomatch e).none_inv
theorem WR.tup {h : Heap} {v : Value} {l : List PV} (r : WR C oa h v (.tup l)) : ∃ a vs k, v = .ref a ∧ h.get? a = some (tupO vs k) ∧ Reps C.d (oa ++ C.X') h vs l := by
  obtain ⟨a, vs, n, e, _, ho, hr⟩ := (r.rep fun _ e => nomatch e).tup_inv
  exact ⟨a, vs, n, e, ho, hr⟩

theorem DeckIn.kb {W : Wd} {d : Addr} {h h' : Heap} {D : List Addr} {k : DS} (x : DeckIn W d h D k) (hk : ∀ a ∈ D, ∀ o, h.get? a = some o → h'.get? a = some o) : DeckIn W d h' D k := by
  cases x with
  | no => exact .no
  | yes hne tm tt hd vs n2 hc hi =>
    obtain ⟨o, es, ep, e, r⟩ := hd
    exact .yes hne tm tt ⟨o, es, ep, hk _ (.head _) _ e, r⟩ vs n2 (hk _ (.tail _ (.head _)) _ hc) hi
theorem DeckIn.al {W : Wd} {d : Addr} {h h' : Heap} {D : List Addr} {k : DS} (x : DeckIn W d h' D k) {a : Addr} (ha : ∃ o, h.get? a = some o) (hk : ∀ o, a ∉ D → h.get? a = some o → h'.get? a = some o) : ∃ o, h'.get? a = some o := by
  by_cases hd : a ∈ D
  · cases x with
    | no => nomatch hd
    | yes hne tm tt e1 vs n2 e2 hi => cases hd with
      | head => obtain ⟨o, _, _, e, _⟩ := e1; exact ⟨o, e⟩
      | tail _ hd => cases hd with
        | head => exact ⟨_, e2⟩
        | tail _ hd => nomatch hd
  · obtain ⟨o, e⟩ := ha
    exact ⟨o, hk o hd e⟩
theorem lt_of {h : Heap} {a : Addr} {o : Obj} (e : h.get? a = some o) : a < h.objs.size := Heap.lt_size e
theorem Here.toks {s : Shared} (H : Here C σ oa s) (k : Nat) : Here C σ oa { s with toks := k } := ⟨H.gens, H.drawn, H.os, H.deck, H.fr, H.al, H.ns, H.fs, H.oaX⟩
theorem N_D (ok : C.Ok) : C.N ∉ C.D := fun q => (ok.dfree _ q).2.1 rfl
theorem oa_D (ok : C.Ok) {s : Shared} (H : Here C σ oa s) {a : Addr} (ha : a ∈ oa) : a ∉ C.D ++ C.Fs := oaQ (H.oaX a ha).1 ok
/-- the names of the block at hand stay -/
theorem KQ.nn (ok : C.Ok) {h h' : Heap} (k : KQ C h h') {n : Str → Option Value} (x : h.Ns C.N n) (hN : C.N = C.L ∨ C.N ∉ C.Fs) : h'.Ns C.N n := by
  rcases hN with e | hN
  · rw [e] at x ⊢; exact k.ln n x
  · exact Ns.kb x fun o e => k.keep _ o (fun z => (List.mem_append.mp z).elim (N_D ok) hN) e
/-- the state behind a step that changed the deck alone and made new things -/
theorem Here.after (ok : C.Ok) {s : Shared} (H : Here C σ oa s) {h' : Heap} {d : DS} {k : Nat} (hk : KQ C s.heap h') (hf : ∀ b ∈ C.Fs, b ≠ C.L → ∃ sl, h'.get? b = some { C.fo b with slots := sl }) (hd : DeckIn C.W C.d h' C.D d) : Here C (σ.setD d) oa { s with heap := h', toks := k } := by
  obtain ⟨m, F⟩ := H.fr
  obtain ⟨n, hn, hv, ho⟩ := H.ns
  have hL := hk.ln m F.ns
  have hN := hk.nn ok hn ok.nl
  refine ⟨H.gens, H.drawn, H.os, hd, ⟨m, hL, fun b o e => hk.fre ok e (F.keep b o e), F.above⟩, fun a ha => ?_,
    ⟨n, hN, fun i x p e1 e2 => ?_, fun i l e => ?_⟩, hf, H.oaX⟩
  · by_cases hF : a ∈ C.Fs
    · by_cases hl : a = C.L
      · obtain ⟨o, _, _, e, _⟩ := hL
        exact ⟨o, hl ▸ e⟩
      · obtain ⟨sl, e⟩ := hf a hF hl
        exact ⟨_, e⟩
    · exact DeckIn.al hd (H.al a ha) fun o hD e => hk.keep a o (fun z => (List.mem_append.mp z).elim hD hF) e
  · obtain ⟨v, e, r⟩ := hv i x p e1 e2
    exact ⟨v, e, r.next ok hk⟩
  · obtain ⟨x, a, vs, k, e1, e2, e3, e4, e5⟩ := ho i l e
    exact ⟨x, a, vs, k, e1, e2, e3, hk.keep _ _ (oa_D ok H e3) e4, e5.next ok hk⟩
theorem Here.grow (ok : C.Ok) {s : Shared} (H : Here C σ oa s) {h' : Heap} {k : Nat} (hk : ∀ b o, s.heap.get? b = some o → h'.get? b = some o) : Here C σ oa { s with heap := h', toks := k } := H.after (d := σ.dk) ok (KQ.of hk) (fun b hb hl => by
  obtain ⟨sl, e⟩ := H.fs b hb hl
  exact ⟨sl, hk _ _ e⟩) (H.deck.kb fun a _ o e => hk a o e)
/-- a step that leaves the frames alone -/
theorem Here.after0 (ok : C.Ok) {s : Shared} (H : Here C σ oa s) {h' : Heap} {d : DS} {k : Nat} (hk : ∀ b o, b ∉ C.D → s.heap.get? b = some o → h'.get? b = some o) (hd : DeckIn C.W C.d h' C.D d) : Here C (σ.setD d) oa { s with heap := h', toks := k } ∧ KQ C s.heap h' := by
  have kq : KQ C s.heap h' := ⟨fun b o hb e => hk b o (fun z => hb (List.mem_append_left _ z)) e, fun n e => Ns.kb e fun o q => hk _ o (fun z => (ok.dfree _ z).1 rfl) q⟩
  refine ⟨H.after ok kq (fun b hb hl => ?_) hd, kq⟩
  obtain ⟨sl, e⟩ := H.fs b hb hl
  exact ⟨sl, hk _ _ (ok.fdj b hb) e⟩
theorem Here.push (ok : C.Ok) {s : Shared} (H : Here C σ oa s) (o : Obj) {k : Nat} : Here C σ oa { s with heap := s.heap.push o, toks := k } := H.grow ok fun _ _ e => Heap.get?_push_of_some _ e
end
end Mine

namespace Mine

section
variable {C : Cx} {σ : St} {oa : List Addr}
theorem Here.alive {s : Shared} (H : Here C σ oa s) : ∀ a ∈ oa ++ C.X', ∃ o, s.heap.get? a = some o := H.al
theorem size_none (h : Heap) : h.get? h.objs.size = none := by
  cases q : h.get? h.objs.size with
  | none => rfl
  | some o => exact absurd (lt_of q) (Nat.lt_irrefl _)
theorem Here.size_out {s : Shared} (H : Here C σ oa s) : s.heap.objs.size ∉ oa ++ C.X' := fun h => by
  obtain ⟨o, e⟩ := H.alive _ h
  exact absurd (lt_of e) (Nat.lt_irrefl _)
theorem KB.push {X : List Addr} (h : Heap) (o : Obj) : KB X h (h.push o) := KB.of fun _ _ e => Heap.get?_push_of_some _ e
theorem Here.freshL {s : Shared} (H : Here C σ oa s) {vs : List Value} {l : List PV} (r : Reps C.d (oa ++ C.X') s.heap vs l) : FreshL C oa s.heap (s.heap.push (lstO vs 0)) (.ref s.heap.objs.size) l := by
  refine ⟨_, vs, 0, rfl, Heap.get?_push_size _ rfl, size_none _, H.size_out, r.mono (KB.push _ _) fun a o e hx hy => ?_⟩
  cases hy with
  | head => exact absurd (lt_of e) (Nat.lt_irrefl _)
  | tail _ hy => exact hx hy
theorem Here.tupR {s : Shared} (H : Here C σ oa s) {vs : List Value} {l : List PV} (r : Reps C.d (oa ++ C.X') s.heap vs l) : Rep C.d (oa ++ C.X') (s.heap.push (tupO vs 0)) (.ref s.heap.objs.size) (.tup l) :=
  .tup H.size_out (Heap.get?_push_size _ rfl) (r.kb (KB.push _ _))

/-! constants and names -/
noncomputable def cstF (p : PV) : EF := fun σ => some (.st p, σ.dk)
theorem EvD.cint {i : Int} {k pos} : EvD C (.Constant (.int i) k pos) (cstF (.int i)) := fun σ oa s Q E rv d h H hQ => by
  cases h; exact wpAny_Constant_int (hQ _ _ (H.toks _) (KQ.refl _) (.int i _))
theorem EvD.cstr {i : Str} {k pos} : EvD C (.Constant (.str i) k pos) (cstF (.str i)) := fun σ oa s Q E rv d h H hQ => by
  cases h; exact Calls.Constant_str (hQ _ _ (H.toks _) (KQ.refl _) (.str i _))
theorem EvD.cbytes {i : List UInt8} {k pos} : EvD C (.Constant (.bytes i) k pos) (cstF (.bytes i)) := fun σ oa s Q E rv d h H hQ => by
  cases h; exact Constant_bytes (hQ _ _ (H.toks _) (KQ.refl _) (.bytes i _))
theorem EvD.cnone {k pos} : EvD C (.Constant .none k pos) (cstF .none) := fun σ oa s Q E rv d h H hQ => by
  cases h; exact wpAny_Constant_none (hQ _ _ H (KQ.refl _) .none)
theorem EvD.cbool {b : Bool} {k pos} : EvD C (.Constant (.bool b) k pos) (cstF (.bool b)) := fun σ oa s Q E rv d h H hQ => by
  cases h; exact wpAny_Constant_bool (hQ _ _ H (KQ.refl _) (.bool b))
/-- a name of the frame's -/
noncomputable def nameF (i : Nat) : EF := fun σ => match look σ.vars i with
  | some p => some (.st p, σ.dk)
  | none => match σ.own with
    | some (j, l) => (match decide (j = i) with | true => some (.me l, σ.dk) | false => none)
    | none => none
theorem EvD.name (ok : C.Ok) {x : Str} (i : Nat) {pos} (hx : C.xs[i]? = some x) : EvD C (.Name x pos) (nameF i) := by
  intro σ oa s Q E rv d h H hQ
  obtain ⟨hk, hd⟩ := ok.xk i x hx
  obtain ⟨n, hn, hv, ho⟩ := H.ns
  unfold nameF at h
  cases q : look σ.vars i with
  | some p =>
    rw [q] at h; cases h
    obtain ⟨v, e, r⟩ := hv i x p hx q
    exact wpAny_Name (wpAny_loadName_local ok.eK hk (by rw [ok.eN]; exact hn) e (hQ v s H (KQ.refl _) r)) hd
  | none =>
    rw [q] at h
    cases q2 : σ.own with
    | none => rw [q2] at h; cases h
    | some jl =>
      obtain ⟨j, l⟩ := jl
      rw [q2] at h
      dsimp only at h
      by_cases hj : j = i
      · subst hj
        rw [show decide (j = j) = true from decide_eq_true rfl] at h; cases h
        obtain ⟨x', a, vs, k, e1, e2, e3, e4, e5⟩ := ho j l q2
        have : x' = x := Option.some.inj (e1.symm.trans hx)
        subst this
        exact wpAny_Name (wpAny_loadName_local ok.eK hk (by rw [ok.eN]; exact hn) e2 (hQ _ s H (KQ.refl _) ⟨a, vs, k, rfl, e3, e4, (H.oaX a e3).1, e5⟩)) hd
      · rw [show decide (j = i) = false from decide_eq_false hj] at h; cases h
theorem EvD.glob (ok : C.Ok) {x : Str} {v : Value} {p : PV} {pos} (hg : nsIn C.W.K mainGlobals x = some (some v)) (hk : C.env.kindOf x = some .globalImplicit) (hd : (x == ("__debug__" : Str)) = false) (hr : ∀ d X h, Rep d X h v p) : EvD C (.Name x pos) (cstF p) := by
  intro σ oa s Q E rv d h H hQ
  cases h
  obtain ⟨m, F⟩ := H.fr
  exact nameG_K F ok.X (topRead_of ok.T) hg (hQ _ s H (KQ.refl _) (hr _ _ _)) ok.eG ok.eK hk hd

/-! two operands, then the operator -/
noncomputable def binF (o : PV → PV → Option RV) (f g : EF) : EF := fun σ => match f σ with
  | none => none
  | some (a, d) => match g (σ.setD d) with
    | none => none
    | some (b, d') => match o a.pv b.pv with
      | none => none
      | some r => some (r, d')
noncomputable def OpD (C : Cx) (op : Operator) (o : PV → PV → Option RV) : Prop := ∀ a b r, o a b = some r → ∀ σ oa s va vb Q E, Here C σ oa s → WR C oa s.heap va a → WR C oa s.heap vb b → (∀ v s', Here C σ oa s' → KQ C s.heap s'.heap → RvAt C oa s.heap s'.heap v r → Q v s') → wpAny C.M C.A (binaryOp op va vb) Q E s
theorem EvD.bin (ok : C.Ok) {l r : Expr} {op : Operator} {pos} {o : PV → PV → Option RV} {f g : EF} (hf : EvD C l f) (hg : EvD C r g) (ho : OpD C op o) : EvD C (.BinOp l op r pos) (binF o f g) := by
  intro σ oa s Q E rv d h H hQ
  unfold binF at h
  cases q1 : f σ with
  | none => rw [q1] at h; cases h
  | some ad =>
    obtain ⟨a, d1⟩ := ad
    rw [q1] at h
    dsimp only at h
    cases q2 : g (σ.setD d1) with
    | none => rw [q2] at h; cases h
    | some bd =>
      obtain ⟨b, d2⟩ := bd
      rw [q2] at h
      dsimp only at h
      cases q3 : o a.pv b.pv with
      | none => rw [q3] at h; cases h
      | some r =>
        rw [q3] at h; cases h
        exact wpAny_BinOp (hf σ oa s _ _ a d1 q1 H fun va s₁ H₁ k₁ ra => hg _ oa s₁ _ _ b _ q2 H₁ fun vb s₂ H₂ k₂ rb => ho _ _ _ q3 _ oa s₂ va vb _ _ H₂ (ra.wr.next ok k₂) rb.wr fun v s' H' k' rr => hQ v s' H' ((k₁.trans k₂).trans k') (rr.since ok (k₁.trans k₂)))

noncomputable def addO : PV → PV → Option RV
  | .int a, .int b => some (.st (.int (a + b)))
  | .bytes x, .bytes y => if x.length + y.length ≤ 16777216 then some (.st (.bytes (x ++ y))) else none
  | .lst x, .lst y => if x.length + y.length ≤ 16777216 then some (.fr (x ++ y)) else none
  | _, _ => none
noncomputable def subO : PV → PV → Option RV
  | .int a, .int b => some (.st (.int (a - b)))
  | _, _ => none
noncomputable def mulO : PV → PV → Option RV
  | .int a, .int b => if a.natAbs < 18446744073709551616 ∨ b.natAbs < 18446744073709551616 then some (.st (.int (a * b))) else none
  | .lst x, .int b => if b.toNat ≤ 100 ∧ b ≤ 100 ∧ -100 ≤ b ∧ x.length ≤ 1000 then some (.fr (List.replicate b.toNat x).flatten) else none
  | _, _ => none
noncomputable def modO : PV → PV → Option RV
  | .int a, .int b => if b = 0 then none else some (.st (.int (a.fmod b)))
  | _, _ => none
noncomputable def divO : PV → PV → Option RV
  | .int a, .int b => if 0 < b ∧ b < 1073741824 then some (.st (.int (a.fdiv b))) else none
  | _, _ => none
noncomputable def powO : PV → PV → Option RV
  | .int a, .int b => if a = 10 ∧ b = 12 then some (.st (.int 1000000000000)) else none
  | _, _ => none
theorem intBits_le {a : Int} {n : Nat} (h : a.natAbs < 2 ^ n) : Builtin.Int.intBits a ≤ n := by
  unfold Builtin.Int.intBits
  split
  · exact Nat.zero_le _
  · rename_i h0
    have h1 : a.natAbs ≠ 0 := by simpa using h0
    exact (Nat.log2_lt h1).mpr h
theorem OpD.add (ok : C.Ok) : OpD C .Add addO := by
  intro a b r h σ oa s va vb Q E H ra rb hQ
  unfold addO at h
  split at h
  · cases h
    obtain ⟨_, rfl⟩ := ra.int; obtain ⟨_, rfl⟩ := rb.int
    exact PyProof.Rows.add_int (hQ _ _ (H.toks _) (KQ.refl _) (.int _ _))
  · rename_i x y
    by_cases hz : x.length + y.length ≤ 16777216
    · rw [if_pos hz] at h; cases h
      obtain ⟨_, rfl⟩ := ra.bytes; obtain ⟨_, rfl⟩ := rb.bytes
      refine KBy.add_bytes (by simpa using hz) fun t' k => ?_
      rw [show x.toArray ++ y.toArray = (x ++ y).toArray by simp]
      exact hQ _ _ (H.toks k) (KQ.refl _) (.bytes _ _)
    · rw [if_neg hz] at h; cases h
  · rename_i x y
    by_cases hz : x.length + y.length ≤ 16777216
    · rw [if_pos hz] at h; cases h
      obtain ⟨a, vs, k, rfl, e1, _, e2⟩ := ra.lst; obtain ⟨b, us, k', rfl, e3, _, e4⟩ := rb.lst
      refine P.add_list e1 e3 ?_ (by rw [List.size_toArray, List.size_toArray, e2.length, e4.length]; exact hz)
      rw [show vs.toArray ++ us.toArray = (vs ++ us).toArray by simp]
      exact hQ _ _ (H.push ok _) (KQ.push _ _) (H.freshL (e2.append e4))
    · rw [if_neg hz] at h; cases h
  · cases h
theorem OpD.sub : OpD C .Sub subO := by
  intro a b r h σ oa s va vb Q E H ra rb hQ
  unfold subO at h
  split at h
  · cases h
    obtain ⟨_, rfl⟩ := ra.int; obtain ⟨_, rfl⟩ := rb.int
    exact PyProof.Rows.sub_int (hQ _ _ (H.toks _) (KQ.refl _) (.int _ _))
  · cases h
theorem foldl_cat : ∀ (n : Nat) (vs : List Value) (acc : Array Value), List.foldl (fun x1 x2 => x1 ++ x2) acc (List.replicate n vs.toArray) = acc ++ (List.replicate n vs).flatten.toArray
  | 0, vs, acc => by simp
  | n + 1, vs, acc => by
    rw [List.replicate_succ, List.foldl_cons, foldl_cat n vs, List.replicate_succ, List.flatten_cons]
    simp [Array.append_assoc]
theorem Reps.rep {d : Addr} {X : List Addr} {h : Heap} {vs : List Value} {l : List PV} (r : Reps d X h vs l) : ∀ n, Reps d X h (List.replicate n vs).flatten (List.replicate n l).flatten
  | 0 => .nil
  | n + 1 => by
    rw [List.replicate_succ, List.flatten_cons, List.replicate_succ, List.flatten_cons]
    exact r.append (r.rep n)
theorem OpD.mul (ok : C.Ok) : OpD C .Mult mulO := by
  intro a b r h σ oa s va vb Q E H ra rb hQ
  unfold mulO at h
  split at h
  · rename_i a b
    by_cases hz : a.natAbs < 18446744073709551616 ∨ b.natAbs < 18446744073709551616
    · rw [if_pos hz] at h; cases h
      obtain ⟨_, rfl⟩ := ra.int; obtain ⟨_, rfl⟩ := rb.int
      refine PyProof.Rows.mul_int (hQ _ _ (H.toks _) (KQ.refl _) (.int _ _)) ?_
      unfold IntMulOk
      intro hh
      rw [shortFactorBits_eq] at hh
      simp only [Bool.and_eq_true, decide_eq_true_eq] at hh
      rcases hz with hz | hz
      · have := intBits_le (n := 64) hz; omega
      · have := intBits_le (n := 64) hz; omega
    · rw [if_neg hz] at h; cases h
  · rename_i x b
    by_cases hz : b.toNat ≤ 100 ∧ b ≤ 100 ∧ -100 ≤ b ∧ x.length ≤ 1000
    · rw [if_pos hz] at h; cases h
      obtain ⟨h1, h2, h3, h4⟩ := hz
      obtain ⟨a, vs, k, rfl, e1, _, e2⟩ := ra.lst; obtain ⟨_, rfl⟩ := rb.int
      have hl := e2.length
      have hle : vs.toArray.size * b.toNat ≤ 100000 := by
        rw [List.size_toArray, hl]
        exact Nat.mul_le_mul h4 h1
      refine wpAny_binaryOp_repeat_ref (T := "list") (U := "int") (by decide) ⟨_, e1, rfl⟩ (fun s' => typeIs_int s' b _) noFill_list_mul F.fills_int_mul F.slot_int_rmul repeat_list F.slot_int_index.lookup
        (call_meets F.slot_int_rmul (typeIs_int s b _) F.entry_int_rmul (F.args_int_rmul_2 _ _) (int___rmul___int_list b _ a vs.toArray k) ⟨e1, rfl, ⟨_, e1, rfl⟩, ?_⟩)
      refine call_meets F.slot_list_mul ⟨_, e1, rfl⟩ F.entry_list_mul (F.args_list_mul_2 _ _) (lm_list_mul_any a vs.toArray k none #[] b _ ?_ (by omega) ?_) ⟨e1, ?_⟩
      · simp only [Builtin.List.listFitsIndex, Bool.not_eq_true', Bool.and_eq_false_iff, decide_eq_false_iff_not]; omega
      · simp [Builtin.List.listTooLong, sizeLine] at hle ⊢; omega
      · have e : List.foldl (fun x1 x2 => x1 ++ x2) #[] (List.replicate (if vs.toArray.isEmpty = true then 0 else b.toNat) vs.toArray) = (List.replicate b.toNat vs).flatten.toArray := by
          by_cases hv : vs = []
          · subst hv
            rw [if_pos (show (([] : List Value).toArray).isEmpty = true from rfl)]
            have : ∀ n, (List.replicate n ([] : List Value)).flatten = [] := fun n => by induction n with
              | zero => rfl
              | succ n ih => rw [List.replicate_succ, List.flatten_cons, ih]; rfl
            rw [this]; rfl
          · rw [if_neg (by simpa using hv), foldl_cat]; simp
        rw [e]
        exact hQ _ _ (H.push ok _) (KQ.push _ _) (H.freshL (e2.rep _))
    · rw [if_neg hz] at h; cases h
  · cases h
theorem OpD.mod : OpD C .Mod modO := by
  intro a b r h σ oa s va vb Q E H ra rb hQ
  unfold modO at h
  split at h
  · rename_i a b
    by_cases hz : b = 0
    · rw [if_pos hz] at h; cases h
    · rw [if_neg hz] at h; cases h
      obtain ⟨_, rfl⟩ := ra.int; obtain ⟨_, rfl⟩ := rb.int
      exact mod_int' hz (hQ _ _ (H.toks _) (KQ.refl _) (.int _ _))
  · cases h
theorem OpD.div : OpD C .FloorDiv divO := by
  intro a b r h σ oa s va vb Q E H ra rb hQ
  unfold divO at h
  split at h
  · rename_i a b
    by_cases hz : 0 < b ∧ b < 1073741824
    · rw [if_pos hz] at h; cases h
      obtain ⟨_, rfl⟩ := ra.int; obtain ⟨_, rfl⟩ := rb.int
      exact floordiv_int (by omega) (hQ _ _ (H.toks _) (KQ.refl _) (.int _ _)) (.inl (PyProof.noPylong_small (by omega)))
    · rw [if_neg hz] at h; cases h
  · cases h
theorem OpD.pow : OpD C .Pow powO := by
  intro a b r h σ oa s va vb Q E H ra rb hQ
  unfold powO at h
  split at h
  · rename_i a b
    by_cases hz : a = 10 ∧ b = 12
    · rw [if_pos hz] at h; cases h
      obtain ⟨rfl, rfl⟩ := hz
      obtain ⟨_, rfl⟩ := ra.int; obtain ⟨_, rfl⟩ := rb.int
      exact pow_int (by decide) (by decide +kernel) (hQ _ _ (H.toks _) (KQ.refl _) (.int _ _))
    · rw [if_neg hz] at h; cases h
  · cases h
end
end Mine

open PySem.SeqAt (EqAt RcAt RcNeAt)
namespace Mine

/-! comparisons -/
noncomputable def flatEq : PV → PV → Option Bool
  | .int a, .int b => some (a == b)
  | .bytes a, .bytes b => some (a == b)
  | _, _ => none
noncomputable def allEq (f : PV → PV → Option Bool) : List PV → List PV → Option Bool
  | [], [] => some true
  | [], _ :: _ => some false
  | _ :: _, [] => some false
  | a :: x, b :: y => match f a b with
    | some r => (match allEq f x y with | some r' => some (r && r') | none => none)
    | none => none
noncomputable def elEq : PV → PV → Option Bool
  | .tup a, .tup b => allEq flatEq a b
  | .int a, .int b => some (a == b)
  | .bytes a, .bytes b => some (a == b)
  | _, _ => none
noncomputable def lstEq (x y : List PV) : Option Bool := match decide (x.length = y.length) with
  | false => some false
  | true => allEq elEq x y
noncomputable def eqO : PV → PV → Option Bool
  | .int a, .int b => some (a == b)
  | .none, .int _ => some false
  | .bytes x, .bytes y => some (x == y)
  | .tup x, .tup y => allEq flatEq x y
  | .lst x, .lst y => lstEq x y
  | _, _ => none
noncomputable def neO (a b : PV) : Option Bool := match eqO a b with
  | some r => some (!r)
  | none => none
noncomputable def ltO : PV → PV → Option Bool
  | .int a, .int b => some (decide (a < b))
  | _, _ => none
noncomputable def leO : PV → PV → Option Bool
  | .int a, .int b => some (decide (a ≤ b))
  | _, _ => none
noncomputable def gtO : PV → PV → Option Bool
  | .int a, .int b => some (decide (b < a))
  | _, _ => none
noncomputable def geO : PV → PV → Option Bool
  | .int a, .int b => some (decide (b ≤ a))
  | _, _ => none
noncomputable def isNone : PV → Bool
  | .none => true
  | _ => false
noncomputable def isO (a : PV) : PV → Option Bool
  | .none => some (isNone a)
  | _ => none
noncomputable def isnO (a : PV) : PV → Option Bool
  | .none => some (!isNone a)
  | _ => none
noncomputable def anyB (x : List UInt8) : List PV → Option Bool
  | [] => some false
  | .bytes y :: l => (match anyB x l with | some r => some (y == x || r) | none => none)
  | _ :: _ => none
noncomputable def inO : PV → PV → Option Bool
  | .int i, .bytes x => if 0 ≤ i ∧ i < 256 then some (x.contains i.toNat.toUInt8) else none
  | .bytes x, .tup l => anyB x l
  | _, _ => none
noncomputable def ninO (a b : PV) : Option Bool := match inO a b with
  | some r => some (!r)
  | none => none

section
variable {C : Cx} {σ : St} {oa : List Addr}
theorem flatEq_at {d : Addr} {X : List Addr} {A : Around} {s : Shared} {va vb : Value} {a b : PV} {r : Bool} (h : flatEq a b = some r) (ra : Rep d X s.heap va a) (rb : Rep d X s.heap vb b) : EqAt A s va vb r := by
  unfold flatEq at h
  split at h
  · cases h; obtain ⟨_, rfl⟩ := ra.int_inv; obtain ⟨_, rfl⟩ := rb.int_inv; exact EqAt.int_int _ _ _ _
  · cases h; obtain ⟨_, rfl⟩ := ra.bytes_inv; obtain ⟨_, rfl⟩ := rb.bytes_inv; exact eqAt_bytes _ _ _ _
  · cases h
/-- place by place -/
theorem allEq_at {f : PV → PV → Option Bool} {d : Addr} {X : List Addr} {A : Around} {s : Shared} (hf : ∀ {va vb a b r}, f a b = some r → Rep d X s.heap va a → Rep d X s.heap vb b → EqAt A s va vb r) : ∀ {x y : List PV} {vs us : List Value} {r : Bool}, allEq f x y = some r → Reps d X s.heap vs x → Reps d X s.heap us y →
    ∃ e : Nat → Bool, (∀ j (h1 : j < vs.toArray.size) (h2 : j < us.toArray.size), EqAt A s vs.toArray[j] us.toArray[j] (e j)) ∧ r = ((List.range (min vs.length us.length)).all e && vs.length == us.length) := by
  intro x
  induction x with
  | nil =>
    intro y vs us r h rx ry
    cases rx
    refine ⟨fun _ => true, fun j h1 => absurd h1 (Nat.not_lt_zero _), ?_⟩
    cases ry with
    | nil => cases h; rfl
    | cons hb hbs => cases h; simp
  | cons a x ih =>
    intro y vs us r h rx ry
    cases rx with
    | cons ha has =>
    cases ry with
    | nil => cases h; exact ⟨fun _ => true, fun j h1 h2 => absurd h2 (Nat.not_lt_zero _), by simp⟩
    | @cons _ b _ y hb hbs =>
    unfold allEq at h
    cases q1 : f a b with
    | none => rw [q1] at h; cases h
    | some r1 =>
      rw [q1] at h
      cases q2 : allEq f x y with
      | none => rw [q2] at h; cases h
      | some r2 =>
        rw [q2] at h; cases h
        obtain ⟨e, he, hr⟩ := ih q2 has hbs
        refine ⟨fun j => match j with | 0 => r1 | j + 1 => e j, fun j h1 h2 => ?_, ?_⟩
        · cases j with
          | zero => exact hf q1 ha hb
          | succ j => exact he j (Nat.lt_of_succ_lt_succ h1) (Nat.lt_of_succ_lt_succ h2)
        · rw [hr, List.length_cons, List.length_cons, Nat.succ_min_succ, List.range_succ_eq_map, List.all_cons, List.all_map, Bool.and_assoc]
          congr 1
          congr 1
          exact Bool.eq_iff_iff.mpr (by simp)
theorem flatEq_self {d : Addr} {X : List Addr} {h : Heap} {v : Value} {a b : PV} {r : Bool} (q : flatEq a b = some r) (ra : Rep d X h v a) (rb : Rep d X h v b) : r = true := by
  unfold flatEq at q
  split at q
  · cases q
    obtain ⟨_, rfl⟩ := ra.int_inv
    obtain ⟨_, e⟩ := rb.int_inv
    injection e with e _
    rw [e]; exact beq_self_eq_true _
  · rename_i x y
    cases q
    obtain ⟨_, rfl⟩ := ra.bytes_inv
    obtain ⟨_, e⟩ := rb.bytes_inv
    injection e with e _
    have e' : x = y := congrArg Array.toList e
    rw [e']; exact beq_self_eq_true _
  · cases q
theorem allEq_self {d : Addr} {X : List Addr} {h : Heap} {x : List PV} : ∀ {vs : List Value} {y : List PV} {r : Bool}, allEq flatEq x y = some r → Reps d X h vs x → Reps d X h vs y → r = true := by
  induction x with
  | nil =>
    intro vs y r q rx ry
    cases rx
    cases ry
    cases q; rfl
  | cons a x ih =>
    intro vs y r q rx ry
    cases rx with
    | cons ha has =>
    cases ry with
    | @cons _ b _ y hb hbs =>
    unfold allEq at q
    cases q1 : flatEq a b with
    | none => rw [q1] at q; cases q
    | some r1 =>
      rw [q1] at q
      cases q2 : allEq flatEq x y with
      | none => rw [q2] at q; cases q
      | some r2 =>
        rw [q2] at q; cases q
        rw [flatEq_self q1 ha hb, ih q2 has hbs]; rfl
theorem isTuple_of {h : Heap} {a : Addr} {vs : List Value} {n : Nat} (e : h.get? a = some (tupO vs n)) : h.IsTuple a vs.toArray := ⟨_, e, rfl, n, rfl⟩
theorem isList_of {h : Heap} {a : Addr} {vs : List Value} {n : Nat} (e : h.get? a = some (lstO vs n)) : h.IsList a vs.toArray := ⟨_, e, rfl, n, rfl⟩
theorem elEq_at {d : Addr} {X : List Addr} {A : Around} {s : Shared} (hu : A.units < cLine) {va vb : Value} {a b : PV} {r : Bool} (h : elEq a b = some r) (ra : Rep d X s.heap va a) (rb : Rep d X s.heap vb b) : EqAt A s va vb r := by
  unfold elEq at h
  split at h
  · cases ra with
    | tup ha ho hr => cases rb with
      | tup hb ho' hr' =>
        rename_i x y l vs n b us m
        by_cases hlb : l = b
        · subst hlb
          rw [ho] at ho'
          injection ho' with ho'
          injection ho' with _ _ ho' _
          injection ho' with ho' _
          have : vs = us := by simpa using ho'
          subst this
          rw [allEq_self h hr hr']
          exact EqAt.same _
        · obtain ⟨e, he, rfl⟩ := allEq_at (A := A.in1) (fun q => flatEq_at q) h hr hr'
          have := RcAt.tuples (A := A) (isTuple_of ho) (isTuple_of ho') hu he
          rw [List.size_toArray, List.size_toArray] at this
          exact EqAt.of_refs hlb this
  · exact flatEq_at (a := .int _) (b := .int _) h ra rb
  · exact flatEq_at (a := .bytes _) (b := .bytes _) h ra rb
  · cases h

noncomputable def CmpD (C : Cx) (op : CmpOp) (o : PV → PV → Option Bool) : Prop := ∀ a b r, o a b = some r → ∀ σ oa s va vb Q E, Here C σ oa s → WR C oa s.heap va a → WR C oa s.heap vb b → (∀ s', Here C σ oa s' → KQ C s.heap s'.heap → Q (.bool r) s') → wpAny C.M C.A (compareOp op va vb) Q E s
theorem CmpD.lt : CmpD C .Lt ltO := by
  intro a b r h σ oa s va vb Q E H ra rb hQ
  unfold ltO at h; split at h
  · cases h; obtain ⟨_, rfl⟩ := ra.int; obtain ⟨_, rfl⟩ := rb.int; exact PyProof.Rows.lt_int (hQ _ H (KQ.refl _))
  · cases h
theorem CmpD.le : CmpD C .LtE leO := by
  intro a b r h σ oa s va vb Q E H ra rb hQ
  unfold leO at h; split at h
  · cases h; obtain ⟨_, rfl⟩ := ra.int; obtain ⟨_, rfl⟩ := rb.int; exact PyProof.Rows.le_int (hQ _ H (KQ.refl _))
  · cases h
theorem CmpD.gt : CmpD C .Gt gtO := by
  intro a b r h σ oa s va vb Q E H ra rb hQ
  unfold gtO at h; split at h
  · cases h; obtain ⟨_, rfl⟩ := ra.int; obtain ⟨_, rfl⟩ := rb.int; exact PyProof.Rows.gt_int (hQ _ H (KQ.refl _))
  · cases h
theorem CmpD.ge : CmpD C .GtE geO := by
  intro a b r h σ oa s va vb Q E H ra rb hQ
  unfold geO at h; split at h
  · cases h; obtain ⟨_, rfl⟩ := ra.int; obtain ⟨_, rfl⟩ := rb.int; exact PyProof.Rows.ge_int (hQ _ H (KQ.refl _))
  · cases h
theorem isNone_eq {h : Heap} {v : Value} {p : PV} (r : WR C oa h v p) : (v == .none) = isNone p := by
  rcases r with r | ⟨l, rfl, a, vs, k, rfl, _⟩
  · cases r <;> rfl
  · rfl
theorem CmpD.is : CmpD C .Is isO := by
  intro a b r h σ oa s va vb Q E H ra rb hQ
  unfold isO at h; split at h
  · cases h; obtain rfl := rb.none
    refine is_none ?_
    rw [isNone_eq ra]; exact hQ _ H (KQ.refl _)
  · cases h
theorem CmpD.isn : CmpD C .IsNot isnO := by
  intro a b r h σ oa s va vb Q E H ra rb hQ
  unfold isnO at h; split at h
  · cases h; obtain rfl := rb.none
    refine isNot_none ?_
    rw [isNone_eq ra]; exact hQ _ H (KQ.refl _)
  · cases h
theorem units_lt (ok : C.Ok) : C.A.units < cLine := by
  have := ok.un
  show C.un < cLine
  have : cLine ≥ 2000 := by decide
  omega
theorem units1_lt (ok : C.Ok) : C.A.in1.units < cLine := by
  have := ok.un
  show C.un + 1 < cLine
  have : cLine ≥ 2002 := by decide
  omega
theorem eqO_eq (ok : C.Ok) {a b : PV} {r : Bool} (h : eqO a b = some r) {s : Shared} {va vb : Value} (ra : WR C oa s.heap va a) (rb : WR C oa s.heap vb b) : ∀ Q E, Q (.bool r) s → wpAny C.M C.A (compareOp .Eq va vb) Q E s := by
  intro Q E hQ
  unfold eqO at h; split at h
  · cases h; obtain ⟨_, rfl⟩ := ra.int; obtain ⟨_, rfl⟩ := rb.int; exact PyProof.Rows.eq_int hQ
  · cases h; obtain rfl := ra.none; obtain ⟨_, rfl⟩ := rb.int; exact (RcAt.none_int _ _) _ _ _ _ hQ
  · cases h; obtain ⟨_, rfl⟩ := ra.bytes; obtain ⟨_, rfl⟩ := rb.bytes; exact eq_bytes hQ
  · obtain ⟨a, vs, k, rfl, e1, e2⟩ := ra.tup; obtain ⟨b, us, k', rfl, e3, e4⟩ := rb.tup
    obtain ⟨e, he, rfl⟩ := allEq_at (A := C.A.in1) (fun q => flatEq_at q) h e2 e4
    have := RcAt.tuples (A := C.A) (isTuple_of e1) (isTuple_of e3) (units_lt ok) he
    rw [List.size_toArray, List.size_toArray] at this
    exact this _ _ _ _ hQ
  · rename_i x y
    obtain ⟨a, vs, k, rfl, e1, _, e2⟩ := ra.lst; obtain ⟨b, us, k', rfl, e3, _, e4⟩ := rb.lst
    unfold lstEq at h
    by_cases hl : x.length = y.length
    · rw [decide_eq_true hl] at h
      obtain ⟨e, he, rfl⟩ := allEq_at (A := C.A.in1) (fun q => elEq_at (A := C.A.in1) (units1_lt ok) q) h e2 e4
      have hlen : vs.length = us.length := by rw [e2.length, e4.length]; exact hl
      have := RcAt.lists (A := C.A) (isList_of e1) (isList_of e3) (by simpa using hlen) (units_lt ok) he
      rw [← hlen, Nat.min_self, beq_self_eq_true, Bool.and_true] at hQ
      rw [List.size_toArray] at this
      exact this _ _ _ _ hQ
    · rw [decide_eq_false hl] at h; cases h
      exact (RcAt.lists_lengths (A := C.A) (isList_of e1) (isList_of e3) (by rw [List.size_toArray, List.size_toArray, e2.length, e4.length]; simpa using hl) (units_lt ok)) _ _ _ _ hQ
  · cases h
theorem eqO_ne (ok : C.Ok) {a b : PV} {r : Bool} (h : eqO a b = some r) {s : Shared} {va vb : Value} (ra : WR C oa s.heap va a) (rb : WR C oa s.heap vb b) : ∀ Q E, Q (.bool (!r)) s → wpAny C.M C.A (compareOp .NotEq va vb) Q E s := by
  intro Q E hQ
  unfold eqO at h; split at h
  · cases h; obtain ⟨_, rfl⟩ := ra.int; obtain ⟨_, rfl⟩ := rb.int; exact PyProof.Rows.ne_int hQ
  · cases h; obtain rfl := ra.none; obtain ⟨_, rfl⟩ := rb.int; exact (RcNeAt.none_int _ _) _ _ _ _ hQ
  · cases h; obtain ⟨_, rfl⟩ := ra.bytes; obtain ⟨_, rfl⟩ := rb.bytes; exact ne_bytes hQ
  · obtain ⟨a, vs, k, rfl, e1, e2⟩ := ra.tup; obtain ⟨b, us, k', rfl, e3, e4⟩ := rb.tup
    obtain ⟨e, he, rfl⟩ := allEq_at (A := C.A.in1) (fun q => flatEq_at q) h e2 e4
    have := RcNeAt.tuples (A := C.A) (isTuple_of e1) (isTuple_of e3) (units_lt ok) he
    rw [List.size_toArray, List.size_toArray] at this
    exact this _ _ _ _ hQ
  · rename_i x y
    obtain ⟨a, vs, k, rfl, e1, _, e2⟩ := ra.lst; obtain ⟨b, us, k', rfl, e3, _, e4⟩ := rb.lst
    unfold lstEq at h
    by_cases hl : x.length = y.length
    · rw [decide_eq_true hl] at h
      obtain ⟨e, he, rfl⟩ := allEq_at (A := C.A.in1) (fun q => elEq_at (A := C.A.in1) (units1_lt ok) q) h e2 e4
      have hlen : vs.length = us.length := by rw [e2.length, e4.length]; exact hl
      have := RcNeAt.lists (A := C.A) (isList_of e1) (isList_of e3) (by simpa using hlen) (units_lt ok) he
      rw [← hlen, Nat.min_self, beq_self_eq_true, Bool.and_true] at hQ
      rw [List.size_toArray] at this
      exact this _ _ _ _ hQ
    · rw [decide_eq_false hl] at h; cases h
      exact (RcNeAt.lists_lengths (A := C.A) (isList_of e1) (isList_of e3) (by rw [List.size_toArray, List.size_toArray, e2.length, e4.length]; simpa using hl) (units_lt ok)) _ _ _ _ hQ
  · cases h
theorem CmpD.eq (ok : C.Ok) : CmpD C .Eq eqO := fun a b r h σ oa s va vb Q E H ra rb hQ => eqO_eq ok h ra rb Q E (hQ s H (KQ.refl _))
theorem CmpD.ne (ok : C.Ok) : CmpD C .NotEq neO := fun a b r h σ oa s va vb Q E H ra rb hQ => by
  unfold neO at h
  cases q : eqO a b with
  | none => rw [q] at h; cases h
  | some r' => rw [q] at h; cases h; exact eqO_ne ok q ra rb Q E (hQ s H (KQ.refl _))
noncomputable def isB (x : List UInt8) : Value → Bool
  | .bytes y _ => y.toList == x
  | _ => false
theorem anyB_at {d : Addr} {X : List Addr} {A : Around} {s : Shared} {x : List UInt8} {t : Tok} {l : List PV} : ∀ {vs : List Value} {r : Bool}, anyB x l = some r → Reps d X s.heap vs l →
    (∀ y ∈ vs, EqAt A s y (.bytes x.toArray t) (isB x y)) ∧ r = vs.any (isB x) := by
  induction l with
  | nil =>
    intro vs r h rx
    cases rx
    cases h; exact ⟨fun y hy => (nomatch hy), rfl⟩
  | cons p l ih =>
    intro vs r h rx
    cases rx with
    | cons hv hs =>
    cases p with
    | bytes y =>
      unfold anyB at h
      cases q : anyB x l with
      | none => rw [q] at h; cases h
      | some r' =>
        rw [q] at h; cases h
        obtain ⟨i1, i2⟩ := ih q hs
        cases hv
        refine ⟨fun z hz => ?_, by rw [List.any_cons, ← i2]; rfl⟩
        cases hz with
        | head => exact eqAt_bytes _ _ _ _
        | tail _ hz => exact i1 z hz
    | _ => cases h
theorem CmpD.in : CmpD C .In inO := by
  intro a b r h σ oa s va vb Q E H ra rb hQ
  unfold inO at h; split at h
  · rename_i i x
    by_cases hz : 0 ≤ i ∧ i < 256
    · rw [if_pos hz] at h; cases h
      obtain ⟨_, rfl⟩ := ra.int; obtain ⟨_, rfl⟩ := rb.bytes
      exact in_bytes hz.1 hz.2 (hQ _ H (KQ.refl _))
    · rw [if_neg hz] at h; cases h
  · obtain ⟨_, rfl⟩ := ra.bytes; obtain ⟨b, us, k', rfl, e3, e4⟩ := rb.tup
    obtain ⟨he, rfl⟩ := anyB_at (A := C.A.in1) h e4
    refine SeqAt.in_tupleAt (isB _) (isTuple_of e3) (fun y hy => he y (by simpa using hy)) ?_
    rw [List.any_toArray]; exact hQ _ H (KQ.refl _)
  · cases h
theorem CmpD.nin : CmpD C .NotIn ninO := by
  intro a b r h σ oa s va vb Q E H ra rb hQ
  unfold ninO at h
  cases q : inO a b with
  | none => rw [q] at h; cases h
  | some r' =>
    rw [q] at h; cases h
    unfold inO at q; split at q
    · rename_i i x
      by_cases hz : 0 ≤ i ∧ i < 256
      · rw [if_pos hz] at q; cases q
        obtain ⟨_, rfl⟩ := ra.int; obtain ⟨_, rfl⟩ := rb.bytes
        exact notIn_bytes hz.1 hz.2 (hQ _ H (KQ.refl _))
      · rw [if_neg hz] at q; cases q
    · obtain ⟨_, rfl⟩ := ra.bytes; obtain ⟨b, us, k', rfl, e3, e4⟩ := rb.tup
      obtain ⟨he, rfl⟩ := anyB_at (A := C.A.in1) q e4
      refine SeqAt.notIn_tupleAt (isB _) (isTuple_of e3) (fun y hy => he y (by simpa using hy)) ?_
      rw [List.any_toArray]; exact hQ _ H (KQ.refl _)
    · cases q

/-! comparisons and tests -/
noncomputable def cmpF (o : PV → PV → Option Bool) (f g : EF) : TF := fun σ => match f σ with
  | none => none
  | some (a, d) => match g (σ.setD d) with
    | none => none
    | some (b, d') => match o a.pv b.pv with
      | none => none
      | some r => some (r, d')
noncomputable def boolF (t : TF) : EF := fun σ => match t σ with
  | some (b, d) => some (.st (.bool b), d)
  | none => none
theorem cmp_at (ok : C.Ok) {l r : Expr} {op : CmpOp} {o : PV → PV → Option Bool} {f g : EF} (hf : EvD C l f) (hg : EvD C r g) (ho : CmpD C op o) {b : Bool} {d : DS} {s : Shared} {Q : Value → Shared → Prop} {E : Value → Shared → Prop} (h : cmpF o f g σ = some (b, d)) (H : Here C σ oa s)
    (hQ : ∀ s', Here C (σ.setD d) oa s' → KQ C s.heap s'.heap → Q (.bool b) s') : wpAny C.M C.A (eval l C.env) (fun va s₁ => wpAny C.M C.A (eval r C.env) (fun vb s₂ => wpAny C.M C.A (compareOp op va vb) Q E s₂) E s₁) E s := by
  unfold cmpF at h
  cases q1 : f σ with
  | none => rw [q1] at h; cases h
  | some ad =>
    obtain ⟨a, d1⟩ := ad
    rw [q1] at h
    dsimp only at h
    cases q2 : g (σ.setD d1) with
    | none => rw [q2] at h; cases h
    | some bd =>
      obtain ⟨b', d2⟩ := bd
      rw [q2] at h
      dsimp only at h
      cases q3 : o a.pv b'.pv with
      | none => rw [q3] at h; cases h
      | some r =>
        rw [q3] at h; cases h
        exact hf σ oa s _ _ a d1 q1 H fun va s₁ H₁ k₁ ra => hg _ oa s₁ _ _ b' _ q2 H₁ fun vb s₂ H₂ k₂ rb => ho _ _ _ q3 _ oa s₂ va vb _ _ H₂ (ra.wr.next ok k₂) rb.wr fun s' H' k' => hQ s' H' ((k₁.trans k₂).trans k')
theorem TeD.cmp (ok : C.Ok) {l r : Expr} {op : CmpOp} {pos} {o : PV → PV → Option Bool} {f g : EF} (hf : EvD C l f) (hg : EvD C r g) (ho : CmpD C op o) (hm : behindInMarks op r = false := by rfl) : TeD C (.Compare l [op] [r] pos) (cmpF o f g) := fun σ oa s Q E b d h H hQ =>
  wpAny_isTrue_Compare1 (cmp_at ok hf hg ho h H fun s' H' k' => wpAny_truthy_bool (hQ s' H' k')) hm
theorem EvD.cmp (ok : C.Ok) {l r : Expr} {op : CmpOp} {pos} {o : PV → PV → Option Bool} {f g : EF} (hf : EvD C l f) (hg : EvD C r g) (ho : CmpD C op o) (hm : behindInMarks op r = false := by rfl) : EvD C (.Compare l [op] [r] pos) (boolF (cmpF o f g)) := fun σ oa s Q E rv d h H hQ => by
  unfold boolF at h
  cases q : cmpF o f g σ with
  | none => rw [q] at h; cases h
  | some bd =>
    obtain ⟨b, d'⟩ := bd
    rw [q] at h; cases h
    exact wpAny_Compare1 (cmp_at ok hf hg ho q H fun s' H' k' => hQ _ s' H' k' (.bool b)) hm
end
end Mine

namespace Mine

/-! tests -/
noncomputable def notF (t : TF) : TF := fun σ => match t σ with
  | some (b, d) => some (!b, d)
  | none => none
noncomputable def andF (t u : TF) : TF := fun σ => match t σ with
  | some (true, d) => u (σ.setD d)
  | r => r
noncomputable def orF (t u : TF) : TF := fun σ => match t σ with
  | some (false, d) => u (σ.setD d)
  | r => r
noncomputable def bF (b : Bool) : TF := fun σ => some (b, σ.dk)
noncomputable def valF (f : EF) : TF := fun σ => match f σ with
  | some (.st (.bool b), d) => some (b, d)
  | _ => none
noncomputable def ifF (t : TF) (f g : EF) : EF := fun σ => match t σ with
  | some (true, d) => f (σ.setD d)
  | some (false, d) => g (σ.setD d)
  | none => none
noncomputable def andV (f g : EF) : EF := fun σ => match f σ with
  | some (.st (.bool true), d) => g (σ.setD d)
  | some (.st (.bool false), d) => some (.st (.bool false), d)
  | _ => none
noncomputable def orV (f g : EF) : EF := fun σ => match f σ with
  | some (.st (.bool false), d) => g (σ.setD d)
  | some (.st (.bool true), d) => some (.st (.bool true), d)
  | _ => none
noncomputable def chainF (o o' : PV → PV → Option Bool) (f g k : EF) : TF := fun σ => match f σ with
  | none => none
  | some (a, d) => match g (σ.setD d) with
    | none => none
    | some (b, d') => match o a.pv b.pv with
      | none => none
      | some false => some (false, d')
      | some true => match k (σ.setD d') with
        | none => none
        | some (c, d'') => match o' b.pv c.pv with
          | none => none
          | some r => some (r, d'')
/-! items and slices -/
noncomputable def negO : PV → Option RV
  | .int a => some (.st (.int (-a)))
  | _ => none
noncomputable def itemO : PV → PV → Option RV
  | .bytes x, .int i => if 0 ≤ i ∧ i < x.length ∧ x.length ≤ 16777216 then some (.st (.int (x.getD i.toNat 0).toNat)) else none
  | .lst l, .int i => if 0 ≤ i ∧ i < 9223372036854775808 then (match l[i.toNat]? with | some p => some (.st p) | none => none)
    else if i < 0 ∧ -(l.length : Int) ≤ i ∧ -9223372036854775808 ≤ i then (match l[(i + l.length).toNat]? with | some p => some (.st p) | none => none) else none
  | .tup l, .int i => if 0 ≤ i ∧ i < l.length ∧ i < 9223372036854775808 then (match l[i.toNat]? with | some p => some (.st p) | none => none) else none
  | _, _ => none
noncomputable def sliceL {α : Type} (l : List α) (lo hi : Option Int) : List α := (l.drop (lo.elim 0 (clipAt l.length))).take (hi.elim l.length (clipAt l.length) - lo.elim 0 (clipAt l.length))
noncomputable def sliceO : PV → Option Int → Option Int → Option RV
  | .bytes x, lo, hi => if x.length ≤ 16777216 then some (.st (.bytes (sliceL x lo hi))) else none
  | .lst l, lo, hi => if l.length ≤ 16777216 then some (.fr (sliceL l lo hi)) else none
  | _, _, _ => none
noncomputable def unF (o : PV → Option RV) (f : EF) : EF := fun σ => match f σ with
  | none => none
  | some (a, d) => match o a.pv with
    | none => none
    | some r => some (r, d)
noncomputable def partF : Option EF → St → Option (Option Int × DS)
  | none, σ => some (none, σ.dk)
  | some f, σ => match f σ with
    | some (.st (.int i), d) => some (some i, d)
    | _ => none
noncomputable def sliceF (f : EF) (lo hi : Option EF) : EF := fun σ => match f σ with
  | none => none
  | some (a, d) => match partF lo (σ.setD d) with
    | none => none
    | some (l, d') => match partF hi (σ.setD d') with
      | none => none
      | some (u, d'') => match sliceO a.pv l u with
        | none => none
        | some r => some (r, d'')
inductive PartD (C : Cx) : Option Expr → Option EF → Prop
  | none : PartD C none none
  | some {e : Expr} {f : EF} (h : EvD C e f) : PartD C (some e) (some f)
/-! rows of expressions -/
noncomputable def nilA : AF := fun σ => some ([], σ.dk)
noncomputable def RV.strong : RV → Option PV
  | .st p => some p
  | .fr l => some (.lst l)
  | .me _ => none
noncomputable def consA (f : EF) (g : AF) : AF := fun σ => match f σ with
  | none => none
  | some (a, d) => match a.strong with
    | none => none
    | some p => match g (σ.setD d) with
      | none => none
      | some (ps, d') => some (p :: ps, d')
noncomputable def tupF (g : AF) : EF := fun σ => match g σ with
  | some (ps, d) => if ps.length ≤ 1000 then some (.st (.tup ps), d) else none
  | none => none
noncomputable def lstF (g : AF) : EF := fun σ => match g σ with
  | some (ps, d) => if ps.length ≤ 1000 then some (.fr ps, d) else none
  | none => none

section
variable {C : Cx} {σ : St} {oa : List Addr}
theorem TeD.not {x : Expr} {pos} {t : TF} (ht : TeD C x t) : TeD C (.UnaryOp .Not x pos) (notF t) := fun σ oa s Q E b d h H hQ => by
  unfold notF at h
  cases q : t σ with
  | none => rw [q] at h; cases h
  | some bd => obtain ⟨b', d'⟩ := bd; rw [q] at h; cases h; exact wpAny_isTrue_Not (ht σ oa s _ E b' _ q H hQ)
theorem TeD.and0 {pos} : TeD C (.BoolOp .And [] pos) (bF true) := fun σ oa s Q E b d h H hQ => by cases h; exact wpAny_isTrue_BoolOp (wpAny_allTrue_And_nil (hQ _ H (KQ.refl _)))
theorem TeD.or0 {pos} : TeD C (.BoolOp .Or [] pos) (bF false) := fun σ oa s Q E b d h H hQ => by cases h; exact wpAny_isTrue_BoolOp (wpAny_allTrue_Or_nil (hQ _ H (KQ.refl _)))
theorem TeD.and {x : Expr} {rest : List Expr} {pos} {t u : TF} (ht : TeD C x t) (hu : TeD C (.BoolOp .And rest pos) u) : TeD C (.BoolOp .And (x :: rest) pos) (andF t u) := fun σ oa s Q E b d h H hQ => by
  unfold andF at h
  cases q : t σ with
  | none => rw [q] at h; cases h
  | some bd =>
    obtain ⟨b', d'⟩ := bd
    rw [q] at h
    refine wpAny_isTrue_BoolOp (wpAny_allTrue_And_cons (ht σ oa s _ E b' d' q H fun s₁ H₁ k₁ => ?_))
    cases b' with
    | true => rw [if_pos rfl]; exact hu _ oa s₁ Q E b d h H₁ fun s' H' k' => hQ s' H' (k₁.trans k')
    | false => rw [if_neg Bool.false_ne_true]; cases h; exact hQ _ H₁ k₁
theorem TeD.or {x : Expr} {rest : List Expr} {pos} {t u : TF} (ht : TeD C x t) (hu : TeD C (.BoolOp .Or rest pos) u) : TeD C (.BoolOp .Or (x :: rest) pos) (orF t u) := fun σ oa s Q E b d h H hQ => by
  unfold orF at h
  cases q : t σ with
  | none => rw [q] at h; cases h
  | some bd =>
    obtain ⟨b', d'⟩ := bd
    rw [q] at h
    refine wpAny_isTrue_BoolOp (wpAny_allTrue_Or_cons (ht σ oa s _ E b' d' q H fun s₁ H₁ k₁ => ?_))
    cases b' with
    | false => rw [if_neg Bool.false_ne_true]; exact hu _ oa s₁ Q E b d h H₁ fun s' H' k' => hQ s' H' (k₁.trans k')
    | true => rw [if_pos rfl]; cases h; exact hQ _ H₁ k₁
/-- a test that is a plain value -/
theorem TeD.val {x : Expr} {f : EF} (hf : EvD C x f) (hx : ∀ Q E s, wpAny C.M C.A (eval x C.env) (fun v s₁ => wpAny C.M C.A (truthy v) Q E s₁) E s → wpAny C.M C.A (PySem.isTrue x C.env (eval x C.env)) Q E s) : TeD C x (valF f) := fun σ oa s Q E b d h H hQ => by
  unfold valF at h
  split at h
  · rename_i b' d' q
    cases h
    refine hx _ _ _ (hf σ oa s _ E _ _ q H fun v s' H' k r => ?_)
    obtain rfl := Rep.bool_inv r
    exact wpAny_truthy_bool (hQ s' H' k)
  · cases h
/-- x and y, x or y, where both are truth values -/
theorem EvD.and2 (ok : C.Ok) {x y : Expr} {pos} {f g : EF} (hf : EvD C x f) (hg : EvD C y g) : EvD C (.BoolOp .And [x, y] pos) (andV f g) := fun σ oa s Q E rv d h H hQ => by
  unfold andV at h
  split at h
  · rename_i d' q
    refine wpAny_And2 (hf σ oa s _ E _ _ q H fun v s₁ H₁ k₁ r => ?_)
    obtain rfl := Rep.bool_inv r
    refine wpAny_truthy_bool ?_
    rw [if_pos rfl]
    exact hg _ oa s₁ Q E rv d h H₁ fun v s' H' k' r' => hQ v s' H' (k₁.trans k') (r'.since ok k₁)
  · rename_i d' q
    cases h
    refine wpAny_And2 (hf σ oa s _ E _ _ q H fun v s₁ H₁ k₁ r => ?_)
    obtain rfl := Rep.bool_inv r
    refine wpAny_truthy_bool ?_
    rw [if_neg Bool.false_ne_true]
    exact hQ _ s₁ H₁ k₁ (.bool false)
  · cases h
theorem EvD.or2 (ok : C.Ok) {x y : Expr} {pos} {f g : EF} (hf : EvD C x f) (hg : EvD C y g) : EvD C (.BoolOp .Or [x, y] pos) (orV f g) := fun σ oa s Q E rv d h H hQ => by
  unfold orV at h
  split at h
  · rename_i d' q
    refine wpAny_Or2 (hf σ oa s _ E _ _ q H fun v s₁ H₁ k₁ r => ?_)
    obtain rfl := Rep.bool_inv r
    refine wpAny_truthy_bool ?_
    rw [if_neg Bool.false_ne_true]
    exact hg _ oa s₁ Q E rv d h H₁ fun v s' H' k' r' => hQ v s' H' (k₁.trans k') (r'.since ok k₁)
  · rename_i d' q
    cases h
    refine wpAny_Or2 (hf σ oa s _ E _ _ q H fun v s₁ H₁ k₁ r => ?_)
    obtain rfl := Rep.bool_inv r
    refine wpAny_truthy_bool ?_
    rw [if_pos rfl]
    exact hQ _ s₁ H₁ k₁ (.bool true)
  · cases h
theorem EvD.ifE (ok : C.Ok) {x y z : Expr} {pos} {t : TF} {f g : EF} (ht : TeD C x t) (hf : EvD C y f) (hg : EvD C z g) : EvD C (.IfExp x y z pos) (ifF t f g) := fun σ oa s Q E rv d h H hQ => by
  unfold ifF at h
  split at h
  · rename_i d' q
    refine wpAny_IfExp (ht σ oa s _ E _ _ q H fun s₁ H₁ k₁ => ?_)
    rw [if_pos rfl]
    exact hf _ oa s₁ Q E rv d h H₁ fun v s' H' k' r' => hQ v s' H' (k₁.trans k') (r'.since ok k₁)
  · rename_i d' q
    refine wpAny_IfExp (ht σ oa s _ E _ _ q H fun s₁ H₁ k₁ => ?_)
    rw [if_neg Bool.false_ne_true]
    exact hg _ oa s₁ Q E rv d h H₁ fun v s' H' k' r' => hQ v s' H' (k₁.trans k') (r'.since ok k₁)
  · cases h
theorem TeD.chain (ok : C.Ok) {l r r' : Expr} {op op' : CmpOp} {pos} {o o' : PV → PV → Option Bool} {f g k : EF} (hf : EvD C l f) (hg : EvD C r g) (hk : EvD C r' k) (ho : CmpD C op o) (ho' : CmpD C op' o') (hm : lastMarks [op, op'] [r, r'] = false := by rfl) :
    TeD C (.Compare l [op, op'] [r, r'] pos) (chainF o o' f g k) := fun σ oa s Q E b d h H hQ => by
  unfold chainF at h
  split at h
  · cases h
  · rename_i a d1 q1
    split at h
    · cases h
    · rename_i b' d2 q2
      refine isTrue_chain (hf σ oa s _ _ a d1 q1 H fun va s₁ H₁ k₁ ra => test_link (hg _ oa s₁ _ _ b' _ q2 H₁ fun vb s₂ H₂ k₂ rb => ?_)) hm
      split at h
      · cases h
      · rename_i q3
        cases h
        refine ho _ _ _ q3 _ oa s₂ va vb _ _ H₂ (ra.wr.next ok k₂) rb.wr fun s₃ H₃ k₃ => wpAny_truthy_bool ?_
        rw [if_neg Bool.false_ne_true]
        exact hQ s₃ H₃ ((k₁.trans k₂).trans k₃)
      · rename_i q3
        split at h
        · cases h
        · rename_i c d3 q4
          split at h
          · cases h
          · rename_i r5 q5
            cases h
            refine ho _ _ _ q3 _ oa s₂ va vb _ _ H₂ (ra.wr.next ok k₂) rb.wr fun s₃ H₃ k₃ => wpAny_truthy_bool ?_
            rw [if_pos rfl]
            exact test_last (hk _ oa s₃ _ _ c _ q4 H₃ fun vc s₄ H₄ k₄ rc => ho' _ _ _ q5 _ oa s₄ vb vc _ _ H₄ ((rb.wr.next ok k₃).next ok k₄) rc.wr fun s₅ H₅ k₅ => wpAny_truthy_bool (hQ s₅ H₅ ((((k₁.trans k₂).trans k₃).trans k₄).trans k₅)))
theorem EvD.neg {x : Expr} {pos} {f : EF} (hf : EvD C x f) : EvD C (.UnaryOp .USub x pos) (unF negO f) := fun σ oa s Q E rv d h H hQ => by
  unfold unF at h
  split at h
  · cases h
  · rename_i a d' q
    split at h
    · cases h
    · rename_i r q2
      cases h
      unfold negO at q2
      split at q2
      · rename_i i e
        cases q2
        refine wpAny_UnaryOp (hf σ oa s _ E _ _ q H fun v s₁ H₁ k₁ r => ?_)
        have := r.wr
        rw [e] at this
        obtain ⟨t, rfl⟩ := this.int
        exact PyProof.Rows.neg_int (hQ _ _ (H₁.toks _) k₁ (.int _ _))
      · cases q2
/-! items -/
theorem tail_any {value slice : Expr} {o i : Value} {ops : List Value} {s : Shared} {Q : Value → Shared → Prop} {E : Value → Shared → Prop} (hI : ItemOn C.M C.A E o i Q s) (hs : subscripted slice false o i = operate ops (getItem o i)) : wpAny C.M C.A (subscriptTail value slice o i) Q E s :=
  kba_turn (value' := .Name (Str.ofString "_") ⟨0, 0, 0, 0⟩) (fun _ => rfl) (tail_of_ItemOn hI hs fun _ => rfl)
theorem itemO_at {s : Shared} {va vb : Value} {a b : PV} {r : RV} (h : itemO a b = some r) (H : Here C σ oa s) (ra : WR C oa s.heap va a) (rb : WR C oa s.heap vb b) {Q : Value → Shared → Prop} {E : Value → Shared → Prop} (hQ : ∀ v s', Here C σ oa s' → KQ C s.heap s'.heap → RvAt C oa s.heap s'.heap v r → Q v s') : ItemOn C.M C.A E va vb Q s := by
  unfold itemO at h
  split at h
  · rename_i x i
    by_cases hz : 0 ≤ i ∧ i < x.length ∧ x.length ≤ 16777216
    · rw [if_pos hz] at h; cases h
      obtain ⟨_, rfl⟩ := ra.bytes; obtain ⟨_, rfl⟩ := rb.int
      exact ⟨"bytes", _, FB.slot_bytes_getitem.lookup, rfl, getItem_bytes (by omega) hz.1 hz.2.1 (hQ _ _ (H.toks _) (KQ.refl _) (.int _ _))⟩
    · rw [if_neg hz] at h; cases h
  · rename_i l i
    obtain ⟨a, vs, k, rfl, e1, _, e2⟩ := ra.lst; obtain ⟨_, rfl⟩ := rb.int
    refine ⟨"list", _, F.slot_list_getitem.lookup, ⟨_, e1, rfl⟩, ?_⟩
    by_cases hz : 0 ≤ i ∧ i < 9223372036854775808
    · rw [if_pos hz] at h
      split at h
      · rename_i p q
        cases h
        obtain ⟨v, ev, rv⟩ := e2.get q
        exact wpAny_getItem_list (isList_of e1) hz.1 (by omega) (by simpa using ev) (hQ _ _ H (KQ.refl _) rv)
      · cases h
    · rw [if_neg hz] at h
      by_cases hy : i < 0 ∧ -(l.length : Int) ≤ i ∧ -9223372036854775808 ≤ i
      · rw [if_pos hy] at h
        split at h
        · rename_i p q
          cases h
          have hl := e2.length
          obtain ⟨v, ev, rv⟩ := e2.get q
          exact wpAny_getItem_list_neg (isList_of e1) hy.1 (by rw [List.size_toArray]; omega) (by omega) (by rw [List.size_toArray, hl]; simpa using ev) (hQ _ _ H (KQ.refl _) rv)
        · cases h
      · rw [if_neg hy] at h; cases h
  · rename_i l i
    by_cases hz : 0 ≤ i ∧ i < l.length ∧ i < 9223372036854775808
    · rw [if_pos hz] at h
      split at h
      · rename_i p q
        cases h
        obtain ⟨a, vs, k, rfl, e1, e2⟩ := ra.tup; obtain ⟨_, rfl⟩ := rb.int
        obtain ⟨v, ev, rv⟩ := e2.get q
        have hl := e2.length
        refine ⟨"tuple", _, F.slot_tuple_getitem.lookup, ⟨_, e1, rfl⟩, P.getItem_tuple e1 (by omega) (by omega) (k := i.toNat) ?_ (by simpa using ev) (hQ _ _ H (KQ.refl _) rv)⟩
        have hn : ¬ i < 0 := by omega
        simp [seqIndex?, hn, hz.1, hl, hz.2.1]
      · cases h
    · rw [if_neg hz] at h; cases h
  · cases h
theorem EvD.item (ok : C.Ok) {v i : Expr} {pos} {f g : EF} (hf : EvD C v f) (hg : EvD C i g) (hs : ∀ o x, subscripted i false o x = operate [o, x] (getItem o x) := by intro _ _; rfl) : EvD C (.Subscript v i pos) (binF itemO f g) := fun σ oa s Q E rv d h H hQ => by
  unfold binF at h
  split at h
  · cases h
  · rename_i a d1 q1
    split at h
    · cases h
    · rename_i b d2 q2
      split at h
      · cases h
      · rename_i r q3
        cases h
        exact Subscript_ (hf σ oa s _ _ a d1 q1 H fun va s₁ H₁ k₁ ra => hg _ oa s₁ _ _ b _ q2 H₁ fun vb s₂ H₂ k₂ rb =>
          tail_any (itemO_at q3 H₂ (ra.wr.next ok k₂) rb.wr fun v s' H' k' rr => hQ v s' H' ((k₁.trans k₂).trans k') (rr.since ok (k₁.trans k₂))) (hs _ _))
theorem part_at {x : Option Expr} {f : Option EF} (hp : PartD C x f) {i : Option Int} {d : DS} {s : Shared} {Q : Value → Shared → Prop} {E : Value → Shared → Prop} (h : partF f σ = some (i, d)) (H : Here C σ oa s)
    (hQ : ∀ v s', Here C (σ.setD d) oa s' → KQ C s.heap s'.heap → IsPart v i → Q v s') : wpAny C.M C.A (evalPart x C.env) Q E s := by
  cases hp with
  | none => cases h; rw [evalPart_none]; exact wpAny_pure (hQ _ s H (KQ.refl _) .none)
  | some hf =>
    unfold partF at h
    split at h
    · rename_i e; cases e
    · rename_i e
      cases e
      split at h
      · rename_i i' d' q
        cases h
        rw [evalPart_some]
        refine hf _ oa s _ _ _ _ q H fun v s' H' k r => ?_
        obtain ⟨_, rfl⟩ := Rep.int_inv r
        exact hQ _ s' H' k (.int _ _)
      · cases h
theorem slicePick_eq (vs : List Value) (lo hi : Option Int) : slicePick vs.toArray lo hi none = (sliceL vs lo hi).toArray := by
  unfold slicePick sliceL
  rw [sliceBounds_plain]
  simp only [sliceRange_one, pick_run, List.size_toArray]
theorem Reps.slice {d : Addr} {X : List Addr} {h : Heap} {vs : List Value} {l : List PV} (r : Reps d X h vs l) (lo hi : Option Int) : Reps d X h (sliceL vs lo hi) (sliceL l lo hi) := by
  unfold sliceL
  rw [r.length]
  exact (r.drop _).take _
theorem sliceO_at (ok : C.Ok) {s : Shared} {va l u : Value} {sl : Addr} {a : PV} {lo hi : Option Int} {r : RV} (h : sliceO a lo hi = some r) (H : Here C σ oa s) (ra : WR C oa s.heap va a) (hs : s.heap.IsSliceOf sl l u .none) (hl : IsPart l lo) (hu : IsPart u hi) {Q : Value → Shared → Prop} {E : Value → Shared → Prop} (hQ : ∀ v s', Here C σ oa s' → KQ C s.heap s'.heap → RvAt C oa s.heap s'.heap v r → Q v s') : ItemOn C.M C.A E va (.ref sl) Q s := by
  unfold sliceO at h
  split at h
  · rename_i x
    by_cases hz : x.length ≤ 16777216
    · rw [if_pos hz] at h; cases h
      obtain ⟨_, rfl⟩ := ra.bytes
      have e : KBy.picked x.toArray lo hi = (sliceL x lo hi).toArray := by
        rw [KBc.picked_eq]; unfold sliceL; rw [List.size_toArray]
      refine ⟨"bytes", _, FB.slot_bytes_getitem.lookup, rfl, getItem_meets (T := "bytes") rfl (by decide) FB.slot_bytes_getitem FB.entry_bytes_getitem (FB.args_bytes_getitem_2 _ _) (KBc.meets_slice2 _ _ _ hl hu) ⟨hs, ?_, fun t' k => ?_⟩⟩
      · have : (KBy.picked x.toArray lo hi).size ≤ x.length := KBc.size_picked_le x.toArray lo hi
        have h2 : sizeLine = 16777216 := by decide
        omega
      · rw [e]
        exact hQ _ _ (H.toks k) (KQ.refl _) (.bytes _ _)
    · rw [if_neg hz] at h; cases h
  · rename_i l'
    by_cases hz : l'.length ≤ 16777216
    · rw [if_pos hz] at h; cases h
      obtain ⟨a, vs, k, rfl, e1, _, e2⟩ := ra.lst
      refine ⟨"list", _, F.slot_list_getitem.lookup, ⟨_, e1, rfl⟩, wpAny_getItem_list_slice (isList_of e1) hs hl hu .none (by simp) ?_ (by rw [List.size_toArray, e2.length]; exact hz)⟩
      rw [slicePick_eq]
      exact hQ _ _ (H.push ok _) (KQ.push _ _) (H.freshL (e2.slice lo hi))
    · rw [if_neg hz] at h; cases h
  · cases h
theorem EvD.slice (ok : C.Ok) {v : Expr} {lo hi : Option Expr} {p pos} {f : EF} {fl fu : Option EF} (hf : EvD C v f) (hl : PartD C lo fl) (hu : PartD C hi fu) : EvD C (.Subscript v (.Slice lo hi none p) pos) (sliceF f fl fu) := fun σ oa s Q E rv d h H hQ => by
  unfold sliceF at h
  split at h
  · cases h
  · rename_i a d1 q1
    split at h
    · cases h
    · rename_i l d2 q2
      split at h
      · cases h
      · rename_i u d3 q3
        split at h
        · cases h
        · rename_i r q4
          cases h
          refine Subscript_ (hf σ oa s _ _ a d1 q1 H fun va s₁ H₁ k₁ ra => wpAny_Slice (part_at hl q2 H₁ fun vl s₂ H₂ k₂ pl => part_at hu q3 H₂ fun vu s₃ H₃ k₃ pu => ?_))
          rw [evalPart_none]
          refine wpAny_pure (tail_any (sliceO_at ok q4 (H₃.push ok _) (((ra.wr.next ok k₂).next ok k₃).next ok (KQ.push _ _)) (Heap.IsSliceOf.new ..) pl pu fun v s' H' k' rr => ?_) (ops := [_, _]) rfl)
          have kk := ((k₁.trans k₂).trans k₃).trans (KQ.push s₃.heap { cls := .type "slice", data := .fields #[vl, vu, .none] })
          exact hQ v s' H' (kk.trans k') (rr.since ok kk)
/-! rows -/
theorem ArD.nil : ArD C [] nilA := fun pos σ oa s Q E ps d h H hQ => by cases h; exact wpAny_items_nil (hQ _ _ H (KQ.refl _) .nil)
theorem RvAt.strong {h h' : Heap} {v : Value} {rv : RV} {p : PV} (r : RvAt C oa h h' v rv) (e : rv.strong = some p) : Rep C.d (oa ++ C.X') h' v p := by
  cases rv with
  | st q => cases e; exact r
  | fr l => cases e; exact FreshL.rep r
  | me l => cases e
theorem ArD.cons (ok : C.Ok) {e : Expr} {rest : List Expr} {f : EF} {g : AF} (hf : EvD C e f) (hg : ArD C rest g) (hst : starEach (e :: rest) C.env = (false, eval e C.env) :: starEach rest C.env := by rfl) : ArD C (e :: rest) (consA f g) := fun pos σ oa s Q E ps d h H hQ => by
  unfold consA at h
  split at h
  · cases h
  · rename_i a d1 q1
    split at h
    · cases h
    · rename_i p q2
      split at h
      · cases h
      · rename_i ps' d2 q3
        cases h
        exact wpAny_items_cons (hf σ oa s _ _ a d1 q1 H fun v s₁ H₁ k₁ r => hg pos _ oa s₁ _ _ ps' _ q3 H₁ fun vs s' H' k' r' => hQ _ _ H' (k₁.trans k') (.cons ((r.strong q2).next ok k') r')) hst
theorem EvD.tup (ok : C.Ok) {es : List Expr} {k pos} {g : AF} (hg : ArD C es g) : EvD C (.Tuple es k pos) (tupF g) := fun σ oa s Q E rv d h H hQ => by
  unfold tupF at h
  split at h
  · rename_i ps d' q
    by_cases hz : ps.length ≤ 1000
    · rw [if_pos hz] at h; cases h
      refine wpAny_Tuple (hg pos σ oa s _ _ ps _ q H fun vs s' H' k' r' => ⟨?_, hQ _ _ (H'.push ok _) (k'.trans (KQ.push _ _)) (H'.tupR r')⟩)
      rw [r'.length, show sizeLine = 16777216 by decide]; omega
    · rw [if_neg hz] at h; cases h
  · cases h
theorem EvD.lst (ok : C.Ok) {es : List Expr} {pos} {g : AF} (hg : ArD C es g) : EvD C (.List es pos) (lstF g) := fun σ oa s Q E rv d h H hQ => by
  unfold lstF at h
  split at h
  · rename_i ps d' q
    by_cases hz : ps.length ≤ 1000
    · rw [if_pos hz] at h; cases h
      refine wpAny_List (hg pos σ oa s _ _ ps _ q H fun vs s' H' k' r' => ⟨?_, hQ _ _ (H'.push ok _) (k'.trans (KQ.push _ _)) (FreshL.since ok (H'.freshL r') k')⟩)
      rw [r'.length, show sizeLine = 16777216 by decide]; omega
    · rw [if_neg hz] at h; cases h
  · cases h
end
end Mine

namespace Mine

noncomputable def lenO : PV → Option RV
  | .bytes x => if x.length ≤ 16777216 then some (.st (.int x.length)) else none
  | .lst x => if x.length ≤ 16777216 then some (.st (.int x.length)) else none
  | .tup x => if x.length ≤ 16777216 then some (.st (.int x.length)) else none
  | _ => none
noncomputable def intO : PV → Option RV
  | .int a => some (.st (.int a))
  | .bool b => some (.st (.int (match b with | true => 1 | false => 0)))
  | .str x => if x.length ≤ 640 then (match PySem.intText? x with | some n => some (.st (.int n)) | none => none) else none
  | _ => none
noncomputable def strO : PV → Option RV
  | .int a => if a.natAbs.log2 < 1920 then some (.st (.str (Str.ofString (toString a)))) else none
  | _ => none
noncomputable def ordO : PV → Option RV
  | .str x => if x.length = 1 then some (.st (.int (x.cps.getD 0 0 : Nat))) else none
  | _ => none
noncomputable def chrO : PV → Option RV
  | .int i => if 0 ≤ i ∧ i ≤ 1114111 then some (.st (.str ⟨#[i.toNat]⟩)) else none
  | _ => none
noncomputable def intsOf : List PV → Option (List Int)
  | [] => some []
  | .int i :: l => (match intsOf l with | some r => some (i :: r) | none => none)
  | _ :: _ => none
noncomputable def bytesO : PV → Option RV
  | .lst l => (match intsOf l with | some ns => if (∀ n ∈ ns, 0 ≤ n ∧ n < 256) ∧ ns.length ≤ 1000 then some (.st (.bytes (byteArr ns).toList)) else none | none => none)
  | _ => none
noncomputable def tupleO : PV → Option RV
  | .tup l => some (.st (.tup l))
  | _ => none

section
variable {C : Cx} {σ : St} {oa : List Addr}
noncomputable def CallD1 (C : Cx) (f : Value) (o : PV → Option RV) : Prop := ∀ a r, o a = some r → ∀ σ oa s va Q E, Here C σ oa s → WR C oa s.heap va a → (∀ v s', Here C σ oa s' → KQ C s.heap s'.heap → RvAt C oa s.heap s'.heap v r → Q v s') → wpAny C.M C.A (call f [va]) Q E s
theorem EvD.unE (ok : C.Ok) {e x : Expr} {f : Value} {o : PV → Option RV} {g : EF} (hg : EvD C e g) (ho : CallD1 C f o) (hx : ∀ s Q E, (∃ σ oa, Here C σ oa s) → wpAny C.M C.A (eval e C.env) (fun v s₁ => wpAny C.M C.A (call f [v]) Q E s₁) E s → wpAny C.M C.A (eval x C.env) Q E s) : EvD C x (unF o g) := fun σ oa s Q E rv d h H hQ => by
  unfold unF at h
  split at h
  · cases h
  · rename_i a d1 q1
    split at h
    · cases h
    · rename_i r q2
      cases h
      exact hx _ _ _ ⟨σ, oa, H⟩ (hg σ oa s _ E a _ q1 H fun v s₁ H₁ k₁ r₁ => ho _ _ q2 _ oa s₁ v _ _ H₁ r₁.wr fun v' s' H' k' rr => hQ v' s' H' (k₁.trans k') (rr.since ok k₁))
theorem one_arg {e : Expr} {pos : Pos} {s : Shared} {Q : List Value → Shared → Prop} {E : Value → Shared → Prop} (hst : starEach [e] C.env = (false, eval e C.env) :: starEach [] C.env) (h : wpAny C.M C.A (eval e C.env) (fun v s₁ => Q [v] s₁) E s) : wpAny C.M C.A (spliced (backTo pos (starEach [e] C.env))) Q E s :=
  wpAny_items_cons (wpAny_mono h (fun v s₁ h₁ => wpAny_items_nil h₁) fun _ _ e => e) hst
theorem builtin_at (ok : C.Ok) {x : Str} {v : Value} {pp : Pos} (hg : nsIn C.W.K mainGlobals x = some Option.none) (hv : bootBuiltins x = some v) (hn : x ≠ "__name__") (hk : C.env.kindOf x = some .globalImplicit) (hd : (x == ("__debug__" : Str)) = false) {s : Shared} (H : ∃ σ oa, Here C σ oa s) {Q : Value → Shared → Prop} {E : Value → Shared → Prop} (h : Q v s) : wpAny C.M C.A (eval (.Name x pp) C.env) Q E s := by
  obtain ⟨σ, oa, H⟩ := H
  obtain ⟨m, F⟩ := H.fr
  exact Name_function_global ok.eK hk (loadGlobal_builtin (env := C.env) (by rw [ok.eG]; exact ok.T.g.keeps F.keep) (mg_none_of ok.X ok.T.g hg) (by rw [ok.eB]; exact ok.T.b.keeps F.keep) ((ok.T.builtins x hn).trans hv) h) hd
/-- a built-in function upon one value -/
theorem EvD.callB (ok : C.Ok) {x : Str} {pp pos : Pos} {id : String} {e : Expr} {o : PV → Option RV} {g : EF} (hg : EvD C e g) (ho : CallD1 C (.builtin id) o)
    (hgl : nsIn C.W.K mainGlobals x = some none) (hk : C.env.kindOf x = some .globalImplicit) (hv : bootBuiltins x = some (.builtin id)) (hn : x ≠ "__name__") (hd : (x == ("__debug__" : Str)) = false) (hst : starEach [e] C.env = (false, eval e C.env) :: starEach [] C.env := by rfl) :
    EvD C (.Call (.Name x pp) [e] [] pos) (unF o g) :=
  EvD.unE ok hg ho fun s Q E H h => Call_Name rfl (builtin_at ok hgl hv hn hk hd H (callWith_method1 (first := []) (one_arg hst h) hst rfl))
theorem EvD.callT (ok : C.Ok) {x : Str} {pp pos : Pos} {T : String} {e : Expr} {o : PV → Option RV} {g : EF} (hg : EvD C e g) (ho : CallD1 C (.type T) o)
    (hgl : nsIn C.W.K mainGlobals x = some none) (hk : C.env.kindOf x = some .globalImplicit) (hv : bootBuiltins x = some (.type T)) (hn : x ≠ "__name__") (hd : (x == ("__debug__" : Str)) = false) (hst : starEach [e] C.env = (false, eval e C.env) :: starEach [] C.env := by rfl) :
    EvD C (.Call (.Name x pp) [e] [] pos) (unF o g) :=
  EvD.unE ok hg ho fun s Q E H h => Call_Name rfl (builtin_at ok hgl hv hn hk hd H (PyProof.Rows.callWith_type1 (one_arg hst h) hst rfl))
theorem CallD1.len : CallD1 C (.builtin "len") lenO := by
  intro a r h σ oa s va Q E H ra hQ
  unfold lenO at h
  split at h
  · rename_i x
    by_cases hz : x.length ≤ 16777216
    · rw [if_pos hz] at h; cases h
      obtain ⟨_, rfl⟩ := ra.bytes
      exact len_bytes (by rw [List.size_toArray]; omega) (by rw [List.size_toArray]; exact hQ _ _ (H.toks _) (KQ.refl _) (.int _ _))
    · rw [if_neg hz] at h; cases h
  · rename_i x
    by_cases hz : x.length ≤ 16777216
    · rw [if_pos hz] at h; cases h
      obtain ⟨a, vs, k, rfl, e1, _, e2⟩ := ra.lst
      refine Calls.call_len_list (isList_of e1) (by rw [List.size_toArray, e2.length]; omega) ?_
      rw [List.size_toArray, e2.length]; exact hQ _ _ (H.toks _) (KQ.refl _) (.int _ _)
    · rw [if_neg hz] at h; cases h
  · rename_i x
    by_cases hz : x.length ≤ 16777216
    · rw [if_pos hz] at h; cases h
      obtain ⟨a, vs, k, rfl, e1, e2⟩ := ra.tup
      refine P.len_tuple e1 (by rw [List.size_toArray, e2.length]; omega) ?_
      rw [List.size_toArray, e2.length]; exact hQ _ _ (H.toks _) (KQ.refl _) (.int _ _)
    · rw [if_neg hz] at h; cases h
  · cases h
theorem CallD1.int : CallD1 C (.type "int") intO := by
  intro a r h σ oa s va Q E H ra hQ
  unfold intO at h
  split at h
  · cases h; obtain ⟨_, rfl⟩ := ra.int; exact call_int_int (hQ _ _ H (KQ.refl _) (.int _ _))
  · rename_i b
    cases h; obtain rfl := ra.bool
    refine call_int_bool ?_
    cases b <;> exact hQ _ _ (H.toks _) (KQ.refl _) (.int _ _)
  · rename_i x
    by_cases hz : x.length ≤ 640
    · rw [if_pos hz] at h
      split at h
      · rename_i n q
        cases h; obtain ⟨_, rfl⟩ := ra.str
        exact KIN.call_text q hz (hQ _ _ (H.toks _) (KQ.refl _) (.int _ _))
      · cases h
    · rw [if_neg hz] at h; cases h
  · cases h
theorem CallD1.str : CallD1 C (.type "str") strO := by
  intro a r h σ oa s va Q E H ra hQ
  unfold strO at h
  split at h
  · rename_i i
    by_cases hz : i.natAbs.log2 < 1920
    · rw [if_pos hz] at h; cases h; obtain ⟨_, rfl⟩ := ra.int
      exact PySem.P.str_of_int hz (hQ _ _ (H.toks _) (KQ.refl _) (.str _ _))
    · rw [if_neg hz] at h; cases h
  · cases h
theorem CallD1.ord : CallD1 C (.builtin "ord") ordO := by
  intro a r h σ oa s va Q E H ra hQ
  unfold ordO at h
  split at h
  · rename_i x
    by_cases hz : x.length = 1
    · rw [if_pos hz] at h; cases h; obtain ⟨_, rfl⟩ := ra.str
      exact ord_of_one hz (hQ _ _ (H.toks _) (KQ.refl _) (.int _ _))
    · rw [if_neg hz] at h; cases h
  · cases h
theorem CallD1.chr : CallD1 C (.builtin "chr") chrO := by
  intro a r h σ oa s va Q E H ra hQ
  unfold chrO at h
  split at h
  · rename_i i
    by_cases hz : 0 ≤ i ∧ i ≤ 1114111
    · rw [if_pos hz] at h; cases h; obtain ⟨_, rfl⟩ := ra.int
      exact chr_of_range hz.1 hz.2 (hQ _ _ (H.toks _) (KQ.refl _) (.str _ _))
    · rw [if_neg hz] at h; cases h
  · cases h
theorem intsOf_are {d : Addr} {X : List Addr} {h : Heap} {l : List PV} {vs : List Value} {ns : List Int} (q : intsOf l = some ns) (r : Reps d X h vs l) : IntsAre vs ns :=
  r.ind (P := fun vs l => ∀ ns, intsOf l = some ns → IntsAre vs ns) (fun ns q => by cases q; exact .nil) (fun {v p vs ps} hv _ ih ns q => by
    cases p with
    | int i =>
      obtain ⟨t, rfl⟩ := hv.int_inv
      unfold intsOf at q
      cases q2 : intsOf ps with
      | none => rw [q2] at q; cases q
      | some r => rw [q2] at q; cases q; exact .cons _ _ (ih _ q2)
    | _ => cases q) ns q
theorem handled_none (ok : C.Ok) : C.A.handled = none := by rfl
theorem CallD1.bytes (ok : C.Ok) : CallD1 C (.type "bytes") bytesO := by
  intro a r h σ oa s va Q E H ra hQ
  unfold bytesO at h
  split at h
  · rename_i l
    split at h
    · rename_i ns q
      by_cases hz : (∀ n ∈ ns, 0 ≤ n ∧ n < 256) ∧ ns.length ≤ 1000
      · rw [if_pos hz] at h; cases h
        obtain ⟨a, vs, k, rfl, e1, _, e2⟩ := ra.lst
        have hi := intsOf_are q e2
        refine call_bytes_ints (isList_of e1) hi hz.1 ?_ (handled_none ok) fun h' t k hk => ?_
        · rw [hi.length, show sizeLine = 16777216 by decide]; omega
        · rw [show (byteArr ns) = (byteArr ns).toList.toArray by simp]
          exact hQ _ _ (H.grow ok hk) (KQ.of hk) (.bytes _ _)
      · rw [if_neg hz] at h; cases h
    · cases h
  · cases h
theorem CallD1.tuple : CallD1 C (.type "tuple") tupleO := by
  intro a r h σ oa s va Q E H ra hQ
  unfold tupleO at h
  split at h
  · cases h
    have rr := ra.rep (fun _ e => nomatch e)
    obtain ⟨a, vs, k, rfl, e1, e2⟩ := ra.tup
    exact call_tuple_same (isTuple_of e1) (hQ _ _ H (KQ.refl _) rr)
  · cases h
/-! methods of bytes -/
noncomputable def findO : PV → PV → Option RV
  | .bytes x, .bytes c => some (.st (.int (findL x c 0)))
  | _, _ => none
noncomputable def startsO : PV → PV → Option RV
  | .bytes x, .bytes c => some (.st (.bool (x.take c.length == c)))
  | _, _ => none
/-- the parts of x between the octets c -/
noncomputable def splitB (c : UInt8) : List UInt8 → List (List UInt8)
  | [] => [[]]
  | b :: x => match b == c with
    | true => [] :: splitB c x
    | false => match splitB c x with
      | [] => [[b]]
      | p :: l => (b :: p) :: l
noncomputable def splitO : PV → PV → Option RV
  | .bytes x, .bytes [c] => if x.length ≤ 100000 then some (.fr ((splitB c x).map .bytes)) else none
  | _, _ => none
noncomputable def bytesOf : List PV → Option (List (List UInt8))
  | [] => some []
  | .bytes i :: l => (match bytesOf l with | some r => some (i :: r) | none => none)
  | _ :: _ => none
noncomputable def joinB (c : List UInt8) : List (List UInt8) → List UInt8
  | [] => []
  | [x] => x
  | x :: l => x ++ c ++ joinB c l
noncomputable def sumB : List (List UInt8) → Nat
  | [] => 0
  | x :: l => x.length + sumB l
noncomputable def joinO : PV → PV → Option RV
  | .bytes c, .lst l => (match bytesOf l with | some xs => if c.length * xs.length + sumB xs ≤ 1000000 then some (.st (.bytes (joinB c xs))) else none | none => none)
  | _, _ => none
noncomputable def strsOf : List PV → Option (List Str)
  | [] => some []
  | .str i :: l => (match strsOf l with | some r => some (i :: r) | none => none)
  | _ :: _ => none
noncomputable def joinSO : PV → PV → Option RV
  | .str c, .lst l => (match strsOf l with | some xs => if (xs.map (·.length)).sum + xs.length * c.length ≤ 16777216 then some (.st (.str (Txt.join c xs))) else none | none => none)
  | _, _ => none
noncomputable def CallD2 (C : Cx) (f : Value) (T : String) (o : PV → PV → Option RV) : Prop := ∀ a b r, o a b = some r → ∀ σ oa s va vb Q E, Here C σ oa s → WR C oa s.heap va a → WR C oa s.heap vb b → (∀ v s', Here C σ oa s' → KQ C s.heap s'.heap → RvAt C oa s.heap s'.heap v r → Q v s') → wpAny C.M C.A (call f [va, vb]) Q E s
noncomputable def Recv (C : Cx) (T : String) (o : PV → PV → Option RV) : Prop := ∀ a b r, o a b = some r → ∀ oa s va, WR C oa (Shared.heap s) va a → s.TypeIs va T ∧ ∀ x, va ≠ .ref x
/-- a method upon one value -/
theorem EvD.meth (ok : C.Ok) {e x : Expr} {name : Str} {apos pos : Pos} {T id : String} {o : PV → PV → Option RV} {f g : EF} (hf : EvD C e f) (hg : EvD C x g) (ho : CallD2 C (.builtin id) T o) (hr : Recv C T o) (pa : PlainAttrs T) (slot : Slot T name id) (hty : typeOf (.builtin id) = pure (.type "method_descriptor"))
    (hbase : attributeBase e name C.env (eval e C.env) = eval e C.env) (hst : starEach [x] C.env = (false, eval x C.env) :: starEach [] C.env) (hline : (apos.endLine == pos.line) = true) :
    EvD C (.Call (.Attribute e name apos) [x] [] pos) (binF o f g) := fun σ oa s Q E rv d h H hQ => by
  unfold binF at h
  split at h
  · cases h
  · rename_i a d1 q1
    split at h
    · cases h
    · rename_i b d2 q2
      split at h
      · cases h
      · rename_i r q3
        cases h
        refine wpAny_Call_method hbase (by rw [hst]; rfl) hline pa slot hty (hf σ oa s _ _ a d1 q1 H fun va s₁ H₁ k₁ ra => ⟨(hr _ _ _ q3 oa s₁ va ra.wr).1, fun y ey => absurd ey ((hr _ _ _ q3 oa s₁ va ra.wr).2 y), ?_⟩)
        exact callWith_method1 (one_arg hst (hg _ oa s₁ _ _ b _ q2 H₁ fun vb s₂ H₂ k₂ rb => ho _ _ _ q3 _ oa s₂ va vb _ _ H₂ (ra.wr.next ok k₂) rb.wr fun v s' H' k' rr => hQ v s' H' ((k₁.trans k₂).trans k') (rr.since ok (k₁.trans k₂)))) hst rfl
theorem Recv.find : Recv C "bytes" findO := by
  intro a b r h oa s va ra
  unfold findO at h; split at h
  · obtain ⟨_, rfl⟩ := ra.bytes; exact ⟨rfl, fun _ e => nomatch e⟩
  · cases h
theorem Recv.starts : Recv C "bytes" startsO := by
  intro a b r h oa s va ra
  unfold startsO at h; split at h
  · obtain ⟨_, rfl⟩ := ra.bytes; exact ⟨rfl, fun _ e => nomatch e⟩
  · cases h
theorem Recv.split : Recv C "bytes" splitO := by
  intro a b r h oa s va ra
  unfold splitO at h; split at h
  · obtain ⟨_, rfl⟩ := ra.bytes; exact ⟨rfl, fun _ e => nomatch e⟩
  · cases h
theorem Recv.join : Recv C "bytes" joinO := by
  intro a b r h oa s va ra
  unfold joinO at h; split at h
  · obtain ⟨_, rfl⟩ := ra.bytes; exact ⟨rfl, fun _ e => nomatch e⟩
  · cases h
theorem Recv.joinS : Recv C "str" joinSO := by
  intro a b r h oa s va ra
  unfold joinSO at h; split at h
  · obtain ⟨_, rfl⟩ := ra.str; exact ⟨rfl, fun _ e => nomatch e⟩
  · cases h
theorem CallD2.find : CallD2 C (.builtin "bytes.find") "bytes" findO := by
  intro a b r h σ oa s va vb Q E H ra rb hQ
  unfold findO at h; split at h
  · cases h; obtain ⟨_, rfl⟩ := ra.bytes; obtain ⟨_, rfl⟩ := rb.bytes
    exact call_gives slot_find rfl entry_find (args_find1 _ _) (gives_find1 _ _ _ _) (hQ _ _ (H.toks _) (KQ.refl _) (.int _ _))
  · cases h
theorem CallD2.starts : CallD2 C (.builtin "bytes.startswith") "bytes" startsO := by
  intro a b r h σ oa s va vb Q E H ra rb hQ
  unfold startsO at h; split at h
  · cases h; obtain ⟨_, rfl⟩ := ra.bytes; obtain ⟨_, rfl⟩ := rb.bytes
    exact call_gives FB.slot_bytes_startswith rfl FB.entry_bytes_startswith (FB.args_bytes_startswith_2 _ _) (gives_starts _ _ _ _) (hQ _ _ H (KQ.refl _) (.bool _))
  · cases h
/-! find with a start -/
noncomputable def find2F (f g k : EF) : EF := fun σ => match f σ with
  | some (.st (.bytes x), d) => (match g (σ.setD d) with
    | some (.st (.bytes c), d') => (match k (σ.setD d') with
      | some (.st (.int i), d'') => if 0 ≤ i then some (.st (.int (findL x c i.toNat)), d'') else none
      | _ => none)
    | _ => none)
  | _ => none
theorem EvD.find2 (ok : C.Ok) {e x y : Expr} {apos pos : Pos} {f g k : EF} (hf : EvD C e f) (hg : EvD C x g) (hk : EvD C y k)
    (hbase : attributeBase e "find" C.env (eval e C.env) = eval e C.env) (hst : starEach [x, y] C.env = [(false, eval x C.env), (false, eval y C.env)]) (hst1 : starEach [x, y] C.env = (false, eval x C.env) :: starEach [y] C.env) (hst2 : starEach [y] C.env = (false, eval y C.env) :: starEach [] C.env) (hline : (apos.endLine == pos.line) = true) :
    EvD C (.Call (.Attribute e "find" apos) [x, y] [] pos) (find2F f g k) := fun σ oa s Q E rv d h H hQ => by
  unfold find2F at h
  split at h
  · rename_i b d1 q1
    split at h
    · rename_i c d2 q2
      split at h
      · rename_i i d3 q3
        by_cases hz : 0 ≤ i
        · rw [if_pos hz] at h; cases h
          refine wpAny_Call_method (T := "bytes") hbase (by rw [hst]; rfl) hline FB.plainAttrs_bytes slot_find type_find (hf σ oa s _ _ _ _ q1 H fun va s₁ H₁ k₁ ra => ?_)
          obtain ⟨_, rfl⟩ := Rep.bytes_inv ra
          refine ⟨rfl, fun _ e => (nomatch e), callWith_method1 (wpAny_items_cons (hg _ oa s₁ _ _ _ _ q2 H₁ fun vb s₂ H₂ k₂ rb => one_arg hst2 (hk _ oa s₂ _ _ _ _ q3 H₂ fun vc s₃ H₃ k₃ rc => ?_)) hst1) hst1 (by rw [hst2]; rfl)⟩
          obtain ⟨_, rfl⟩ := Rep.bytes_inv rb
          obtain ⟨_, rfl⟩ := Rep.int_inv rc
          have e : i = (i.toNat : Int) := by omega
          generalize hi : i.toNat = n at *
          subst e
          exact call_gives slot_find rfl entry_find (args_find2 _ _ _) (gives_find2 _ _ _ _ _ _) (hQ _ _ (H₃.toks _) ((k₁.trans k₂).trans k₃) (.int _ _))
        · rw [if_neg hz] at h; cases h
      · cases h
    · cases h
  · cases h
end
end Mine

namespace Mine
/-- the places of c in x, counted from k -/
noncomputable def posB (c : UInt8) : Nat → List UInt8 → List Nat
  | _, [] => []
  | k, b :: x => match b == c with
    | true => k :: posB c (k + 1) x
    | false => posB c (k + 1) x
theorem posB_length (c : UInt8) : ∀ (x : List UInt8) (k : Nat), (posB c k x).length ≤ x.length
  | [], _ => Nat.le_refl _
  | b :: x, k => by
    have ih := posB_length c x (k + 1)
    unfold posB
    cases b == c with
    | true => exact Nat.succ_le_succ ih
    | false => exact Nat.le_succ_of_le ih
noncomputable abbrev stepO (b sub : Array UInt8) (acc : List Nat × Nat) (i : Nat) : List Nat × Nat := if i ≥ acc.2 && b.extract i (i + sub.size) == sub then (i :: acc.1, i + sub.size) else acc
theorem occ_fold (c : UInt8) : ∀ (x pre : List UInt8) (acc : List Nat) (l : Nat), l ≤ pre.length → ((List.range' pre.length x.length).foldl (stepO (pre ++ x).toArray #[c]) (acc, l)).1 = (posB c pre.length x).reverse ++ acc
  | [], pre, acc, l, _ => rfl
  | b :: x, pre, acc, l, hl => by
    rw [List.length_cons, List.range'_succ, List.foldl_cons]
    have e : (pre ++ b :: x).toArray.extract pre.length (pre.length + 1) = #[b] := by simp
    have ih := fun acc l hl => occ_fold c x (pre ++ [b]) acc l hl
    rw [List.append_assoc, List.singleton_append, List.length_append, List.length_singleton] at ih
    unfold posB
    have es : stepO (pre ++ b :: x).toArray #[c] (acc, l) pre.length = match b == c with | true => (pre.length :: acc, pre.length + 1) | false => (acc, l) := by
      unfold stepO
      rw [show (#[c] : Array UInt8).size = 1 from rfl, e, decide_eq_true (show pre.length ≥ (acc, l).2 from hl)]
      have : (#[b] == #[c]) = (b == c) := by
        cases h : b == c with
        | true => rw [eq_of_beq h]; simp
        | false =>
          have : b ≠ c := fun e => by rw [e] at h; simp at h
          simp [this]
      rw [this]
      cases b == c <;> rfl
    rw [es]
    cases b == c with
    | true =>
      dsimp only
      rw [ih _ _ (Nat.le_refl _)]; simp
    | false =>
      dsimp only
      rw [ih _ _ (Nat.le_succ_of_le hl)]
theorem occ_eq (c : UInt8) (x : List UInt8) : Bytes.occurrences x.toArray #[c] 0 x.length = posB c 0 x := by
  have h := occ_fold c x [] [] 0 (Nat.le_refl _)
  rw [List.nil_append, List.length_nil, List.append_nil] at h
  show ((((List.range (x.length + 1 - (0 + 1))).map (· + 0)).foldl (stepO x.toArray #[c]) ([], 0)).1).reverse = _
  have e : (List.range (x.length + 1 - (0 + 1))).map (· + 0) = List.range' 0 x.length := by
    rw [show x.length + 1 - (0 + 1) = x.length by omega, List.range_eq_range']; simp
  rw [e, h, List.reverse_reverse]
noncomputable def onHead (p : List UInt8) : List (List UInt8) → List (List UInt8)
  | [] => []
  | h :: t => (p ++ h) :: t
theorem splitB_ne (c : UInt8) : ∀ x, splitB c x ≠ []
  | [] => List.cons_ne_nil _ _
  | b :: x => by
    unfold splitB
    cases b == c with
    | true => exact List.cons_ne_nil _ _
    | false =>
      dsimp only
      split
      · exact List.cons_ne_nil _ _
      · exact List.cons_ne_nil _ _
noncomputable abbrev stepW (b : Array UInt8) (acc : Array (Array UInt8) × Nat) (p : Nat) : Array (Array UInt8) × Nat := (acc.1.push (b.extract acc.2 p), p + 1)
theorem between_fold (c : UInt8) : ∀ (x pre : List UInt8) (ps : Array (Array UInt8)) (l : Nat), l ≤ pre.length →
    (((posB c pre.length x).foldl (stepW (pre ++ x).toArray) (ps, l)).1.push ((pre ++ x).toArray.extract ((posB c pre.length x).foldl (stepW (pre ++ x).toArray) (ps, l)).2 (pre ++ x).length)).toList.map (·.toList) = ps.toList.map (·.toList) ++ onHead (pre.drop l) (splitB c x)
  | [], pre, ps, l, _ => by
    show ((ps.push ((pre ++ []).toArray.extract l (pre ++ []).length)).toList.map (·.toList)) = _
    rw [List.append_nil]
    simp [splitB, onHead, List.take_of_length_le]
  | b :: x, pre, ps, l, hl => by
    have ih := fun ps l hl => between_fold c x (pre ++ [b]) ps l hl
    rw [List.append_assoc, List.singleton_append, List.length_append, List.length_singleton] at ih
    unfold posB
    cases h : b == c with
    | true =>
      dsimp only
      rw [List.foldl_cons]
      rw [ih _ (pre.length + 1) (Nat.le_refl _)]
      have e : splitB c (b :: x) = [] :: splitB c x := by
        conv => lhs; unfold splitB
        rw [h]
      rw [e, Array.toList_push, List.map_append, List.append_assoc]
      congr 1
      have e2 : (pre ++ [b]).drop (pre.length + 1) = [] := by simp
      rw [e2]
      have e3 : onHead [] (splitB c x) = splitB c x := by
        cases splitB c x <;> rfl
      rw [e3]
      have e4 : (pre ++ b :: x).toArray.extract l pre.length = (pre.drop l).toArray := by
        rw [List.extract_toArray, List.extract_eq_take_drop, List.drop_append_of_le_length hl, List.take_append_of_le_length (by simp), List.take_of_length_le (by simp)]
      rw [e4]; simp [onHead]
    | false =>
      dsimp only
      rw [ih _ l (Nat.le_succ_of_le hl)]
      congr 1
      rw [List.drop_append_of_le_length hl]
      obtain ⟨p, r, hp⟩ : ∃ p r, splitB c x = p :: r := by
        cases q : splitB c x with
        | nil => exact absurd q (splitB_ne c x)
        | cons p r => exact ⟨p, r, rfl⟩
      have e : splitB c (b :: x) = (b :: p) :: r := by
        conv => lhs; unfold splitB
        rw [h, hp]
      rw [e, hp]
      simp [onHead]
theorem parts_eq (c : UInt8) (x : List UInt8) : (partsA x.toArray #[c]).map (·.toList) = splitB c x := by
  unfold partsA
  have hs : x.toArray.size = x.length := by simp
  rw [hs, occ_eq, List.take_of_length_le (Nat.le_succ_of_le (posB_length c x 0))]
  have h := between_fold c x [] #[] 0 (Nat.le_refl _)
  rw [List.nil_append, List.length_nil] at h
  have e3 : onHead ([].drop 0) (splitB c x) = splitB c x := by
    cases splitB c x <;> rfl
  rw [e3] at h
  show (((posB c 0 x).foldl (stepW x.toArray) (#[], 0)).1.push (x.toArray.extract ((posB c 0 x).foldl (stepW x.toArray) (#[], 0)).2 x.toArray.size)).toList.map (·.toList) = _
  rw [List.size_toArray, h]
  simp
theorem splitB_size (c : UInt8) : ∀ x, (splitB c x).length ≤ x.length + 1 ∧ ∀ p ∈ splitB c x, p.length ≤ x.length
  | [] => ⟨Nat.le_refl _, fun p hp => by cases hp with | head => exact Nat.le_refl _ | tail _ h => nomatch h⟩
  | b :: x => by
    obtain ⟨h1, h2⟩ := splitB_size c x
    unfold splitB
    cases b == c with
    | true => exact ⟨Nat.succ_le_succ h1, fun p hp => by cases hp with | head => exact Nat.zero_le _ | tail _ h => exact Nat.le_succ_of_le (h2 p h)⟩
    | false =>
      dsimp only
      cases q : splitB c x with
      | nil => exact absurd q (splitB_ne c x)
      | cons p r =>
        rw [q] at h1 h2
        refine ⟨Nat.le_succ_of_le h1, fun y hy => ?_⟩
        cases hy with
        | head => exact Nat.succ_le_succ (h2 p (.head _))
        | tail _ h => exact Nat.le_succ_of_le (h2 y (.tail _ h))
end Mine

namespace Mine
theorem reps_bytes {d : Addr} {X : List Addr} {h : Heap} : ∀ {vs : List Value} {xs : List (List UInt8)}, BytesAre vs xs → Reps d X h vs (xs.map .bytes)
  | _, _, .nil => .nil
  | _, _, .cons x t b => .cons (.bytes x t) (reps_bytes b)
theorem bytesOf_are {d : Addr} {X : List Addr} {h : Heap} {l : List PV} {vs : List Value} {ns : List (List UInt8)} (q : bytesOf l = some ns) (r : Reps d X h vs l) : BytesAre vs ns :=
  r.ind (P := fun vs l => ∀ ns, bytesOf l = some ns → BytesAre vs ns) (fun ns q => by cases q; exact .nil) (fun {v p vs ps} hv _ ih ns q => by
    cases p with
    | bytes i =>
      obtain ⟨t, rfl⟩ := hv.bytes_inv
      unfold bytesOf at q
      cases q2 : bytesOf ps with
      | none => rw [q2] at q; cases q
      | some r => rw [q2] at q; cases q; exact .cons _ _ (ih _ q2)
    | _ => cases q) ns q
theorem strsOf_are {d : Addr} {X : List Addr} {h : Heap} {l : List PV} {vs : List Value} {ns : List Str} (q : strsOf l = some ns) (r : Reps d X h vs l) : StrsAre vs ns :=
  r.ind (P := fun vs l => ∀ ns, strsOf l = some ns → StrsAre vs ns) (fun ns q => by cases q; exact .nil) (fun {v p vs ps} hv _ ih ns q => by
    cases p with
    | str i =>
      obtain ⟨t, rfl⟩ := hv.str_inv
      unfold strsOf at q
      cases q2 : strsOf ps with
      | none => rw [q2] at q; cases q
      | some r => rw [q2] at q; cases q; exact .cons _ _ (ih _ q2)
    | _ => cases q) ns q
theorem joined_fold (c : List UInt8) : ∀ (xs : List (List UInt8)) (k : Nat) (acc : List UInt8), 0 < k → ((xs.map (·.toArray)).zipIdx k).foldl (fun out (x : Array UInt8 × Nat) => (if x.2 > 0 then out ++ c.toArray else out) ++ x.1) acc.toArray = (acc ++ (xs.map fun x => c ++ x).flatten).toArray
  | [], k, acc, _ => by simp
  | x :: xs, k, acc, hk => by
    rw [List.map_cons, List.zipIdx_cons, List.foldl_cons]
    have e : (if k > 0 then acc.toArray ++ c.toArray else acc.toArray) ++ x.toArray = (acc ++ c ++ x).toArray := by rw [if_pos hk]; simp
    dsimp only
    rw [e, joined_fold c xs (k + 1) _ (Nat.succ_pos _)]
    simp
theorem joinB_cons (c x : List UInt8) : ∀ l : List (List UInt8), joinB c (x :: l) = x ++ (l.map fun x => c ++ x).flatten
  | [] => by simp [joinB]
  | y :: l => by
    show x ++ c ++ joinB c (y :: l) = _
    rw [joinB_cons c y l]; simp
theorem joined_eq (c : List UInt8) : ∀ xs : List (List UInt8), Builtin.Bytes.joined c.toArray (xs.map (·.toArray)) = (joinB c xs).toArray
  | [] => rfl
  | x :: xs => by
    show ((xs.map (·.toArray)).zipIdx 1).foldl (fun out (x : Array UInt8 × Nat) => (if x.2 > 0 then out ++ c.toArray else out) ++ x.1) ((if 0 > 0 then #[] ++ c.toArray else #[]) ++ x.toArray) = _
    rw [if_neg (Nat.lt_irrefl 0)]
    have := joined_fold c xs 1 x (Nat.succ_pos _)
    rw [show (#[] : Array UInt8) ++ x.toArray = x.toArray by simp, this, joinB_cons]
theorem joinB_length (c : List UInt8) : ∀ xs : List (List UInt8), (joinB c xs).length ≤ c.length * xs.length + sumB xs
  | [] => Nat.zero_le _
  | [x] => by show x.length ≤ _ ; rw [show sumB [x] = x.length + 0 from rfl]; omega
  | x :: y :: l => by
    have ih := joinB_length c (y :: l)
    show (x ++ c ++ joinB c (y :: l)).length ≤ c.length * ((y :: l).length + 1) + (x.length + sumB (y :: l))
    rw [List.length_append, List.length_append, Nat.mul_succ]; omega
theorem sum_fold : ∀ (xs : List (List UInt8)) (k : Nat), (xs.map (·.toArray)).foldl (fun a x => a + x.size) k = k + sumB xs
  | [], k => rfl
  | x :: xs, k => by
    rw [List.map_cons, List.foldl_cons, sum_fold xs]
    show k + x.toArray.size + sumB xs = k + (x.length + sumB xs)
    rw [List.size_toArray]; omega
section
variable {C : Cx} {σ : St} {oa : List Addr}
theorem CallD2.split (ok : C.Ok) : CallD2 C (.builtin "bytes.split") "bytes" splitO := by
  intro a b r h σ oa s va vb Q E H ra rb hQ
  unfold splitO at h; split at h
  · rename_i x c
    by_cases hz : x.length ≤ 100000
    · rw [if_pos hz] at h; cases h; obtain ⟨_, rfl⟩ := ra.bytes; obtain ⟨_, rfl⟩ := rb.bytes
      obtain ⟨z1, z2⟩ := splitB_size c x
      have hl : sizeLine = 16777216 := by decide
      refine call_meets slot_split rfl entry_split (args_split1 _ _) (meets_split x.toArray #[c] _ _ rfl (fun y hy => ?_) ?_) fun vs k hv => ?_
      · have : y.toList ∈ splitB c x := by rw [← parts_eq]; exact List.mem_map.mpr ⟨y, hy, rfl⟩
        have := z2 _ this
        rw [Array.length_toList] at this; omega
      · rw [← parts_eq, List.length_map] at z1; omega
      · rw [parts_eq] at hv
        exact hQ _ _ (H.push ok _) (KQ.push _ _) (H.freshL (reps_bytes hv))
    · rw [if_neg hz] at h; cases h
  · cases h
theorem CallD2.join : CallD2 C (.builtin "bytes.join") "bytes" joinO := by
  intro a b r h σ oa s va vb Q E H ra rb hQ
  unfold joinO at h; split at h
  · rename_i c l
    split at h
    · rename_i xs q
      by_cases hz : c.length * xs.length + sumB xs ≤ 1000000
      · rw [if_pos hz] at h; cases h; obtain ⟨_, rfl⟩ := ra.bytes
        obtain ⟨b, us, k', rfl, e3, _, e4⟩ := rb.lst
        have hl : sizeLine = 16777216 := by decide
        refine call_meets slot_join rfl entry_join (args_join1 _ _) (meets_join _ _ b us k' xs (bytesOf_are q e4) ?_ ?_) ⟨e3, fun t' k => ?_⟩
        · rw [List.foldl_toArray, sum_fold]
          have : c.toArray.size * (xs.length - 1) ≤ c.length * xs.length := by rw [List.size_toArray]; exact Nat.mul_le_mul (Nat.le_refl _) (Nat.sub_le _ _)
          unfold Builtin.Bytes.tooLong
          exact decide_eq_false (by omega)
        · rw [joined_eq, List.size_toArray]
          have := joinB_length c xs; omega
        · rw [joined_eq]
          exact hQ _ _ (H.toks k) (KQ.refl _) (.bytes _ _)
      · rw [if_neg hz] at h; cases h
    · cases h
  · cases h
theorem CallD2.joinS : CallD2 C (.builtin "str.join") "str" joinSO := by
  intro a b r h σ oa s va vb Q E H ra rb hQ
  unfold joinSO at h; split at h
  · rename_i c l
    split at h
    · rename_i xs q
      by_cases hz : (xs.map (·.length)).sum + xs.length * c.length ≤ 16777216
      · rw [if_pos hz] at h; cases h; obtain ⟨_, rfl⟩ := ra.str
        obtain ⟨b, us, k', rfl, e3, _, e4⟩ := rb.lst
        exact PyProof.Rows.join_list (isList_of e3) (by simpa using strsOf_are q e4) hz fun t' k => hQ _ _ (H.toks k) (KQ.refl _) (.str _ _)
      · rw [if_neg hz] at h; cases h
    · cases h
  · cases h

/-! calls of the text's own defs -/
noncomputable def RetF (d : Addr) (X : List Addr) (h h' : Heap) (v : Value) : Ret → Prop
  | .val p => Rep d X h' v p
  | .own l => ∃ a vs k, v = .ref a ∧ h'.get? a = some (lstO vs k) ∧ h.get? a = none ∧ a ∉ X ∧ Reps d (a :: X) h' vs l
noncomputable abbrev FF := List PV → DS → Option (Ret × DS)
/-- frames stay but for their slots -/
noncomputable def FK (Fs : List Addr) (h h' : Heap) : Prop := ∀ b ∈ Fs, ∀ o : Obj, (∀ vs, o.data ≠ .fields vs) → h.get? b = some o → ∃ sl, h'.get? b = some { o with slots := sl }
/-- all frames of the stack are known -/
structure FsOk (C : Cx) : Prop where
  fs : C.Fs = (C.fenv :: C.outer).filterMap (·.frame)
  all : ∀ env ∈ C.fenv :: C.outer, env.scope.kind ≠ .module ∧ ∃ L, env.frame = some L
theorem KQ.ofF {C : Cx} (ok : C.Ok) {h h' : Heap} (kb : KB (C.D ++ C.Fs) h h') (fk : FK C.Fs h h') : KQ C h h' := ⟨kb, fun n e => by
  obtain ⟨o, es, ep, g, q, r⟩ := e
  by_cases hL : C.L ∈ C.Fs
  · obtain ⟨sl, e'⟩ := fk _ hL o (fun vs z => by rw [q] at z; cases z) g
    exact ⟨_, es, ep, e', q, r⟩
  · exact ⟨o, es, ep, kb _ _ (fun z => (List.mem_append.mp z).elim (fun z => (ok.dfree _ z).1 rfl) hL) g, q, r⟩⟩
noncomputable def FnD (W : Wd) (f : Addr) (rk : Nat) (ex : Bool) (F : FF) : Prop :=
  ∀ (C : Cx), C.W = W → C.Ok → (ex = true → FsOk C) → C.dp + rk < 900 → C.un + 4 * rk < 2000 → ∀ (X : List Addr) (s : Shared) (vs : List Value) (ps : List PV) (r : Ret) (d d' : DS) (m : Str → Option Value) (Q E : Value → Shared → Prop), F ps d = some (r, d') → Fr C.h₀ C.L s.heap m → DeckIn C.W C.d s.heap C.D d → s.gens = C.gens → s.drawn = C.drawn → s.os = C.os →
    (∀ a ∈ X, ∃ o, s.heap.get? a = some o) → (∀ a ∈ C.D, a ∈ X) → (∀ a ∈ C.Fs, a ∈ X ∧ ∃ o : Obj, (∀ vs, o.data ≠ .fields vs) ∧ s.heap.get? a = some o) → Reps C.d X s.heap vs ps →
    (∀ v h' k, Fr C.h₀ C.L h' m → KB (C.D ++ C.Fs) s.heap h' → FK C.Fs s.heap h' → DeckIn C.W C.d h' C.D d' → RetF C.d X s.heap h' v r → Q v { s with heap := h', toks := k }) → wpAny C.M C.A (call (.ref f) vs) Q E s
theorem Here.after' {C : Cx} {σ : St} {oa : List Addr} (ok : C.Ok) {s : Shared} (H : Here C σ oa s) {h' : Heap} {d : DS} {k : Nat} (kb : KB (C.D ++ C.Fs) s.heap h') (fk : FK C.Fs s.heap h') (hd : DeckIn C.W C.d h' C.D d) : Here C (σ.setD d) oa { s with heap := h', toks := k } :=
  H.after ok (.ofF ok kb fk) (fun b hb hl => by
    obtain ⟨sl, e⟩ := H.fs b hb hl
    exact fk b hb { C.fo b with slots := sl } (fun vs => ok.fnf b hb vs) e) hd
theorem Here.live {C : Cx} {σ : St} {oa : List Addr} (ok : C.Ok) {s : Shared} (H : Here C σ oa s) : ∀ a ∈ C.Fs, a ∈ oa ++ C.X' ∧ ∃ o : Obj, (∀ vs, o.data ≠ .fields vs) ∧ s.heap.get? a = some o := fun a ha => by
  refine ⟨List.mem_append_right _ (ok.fsub a ha), ?_⟩
  by_cases hl : a = C.L
  · obtain ⟨m, F⟩ := H.fr
    obtain ⟨o, es, ep, g, q, r⟩ := F.ns
    exact ⟨o, fun vs z => (by rw [q] at z; cases z), hl ▸ g⟩
  · obtain ⟨sl, e⟩ := H.fs a ha hl
    exact ⟨{ C.fo a with slots := sl }, fun vs => ok.fnf a ha vs, e⟩
noncomputable def fnIn' (K : Frag) (f : Addr) : Bool := match K.lookup f with
  | some ⟨_, _, .func _, _⟩ => true
  | _ => false
theorem callee_fn {K : Frag} {h : Heap} (X : K.In h) {f : Addr} (hfn : fnIn' K f = true) : ∃ o fd, h.get? f = some o ∧ o.data = .func fd := by
  unfold fnIn' at hfn
  split at hfn
  · rename_i ho
    exact ⟨_, _, X _ _ ho, rfl⟩
  · cases hfn
noncomputable def callF (F : FF) (g : AF) : EF := fun σ => match g σ with
  | none => none
  | some (ps, d) => match F ps d with
    | some (.val p, d') => some (.st p, d')
    | some (.own l, d') => some (.fr l, d')
    | _ => none
structure Callee (C : Cx) (x : Str) (f : Addr) (F : FF) : Prop where
  g : nsIn C.W.K mainGlobals x = some (some (.ref f))
  d : (x == ("__debug__" : Str)) = false
  fn : fnIn' C.W.K f = true
  c : ∃ rk ex, (ex = true → FsOk C) ∧ C.dp + rk < 900 ∧ C.un + 4 * rk < 2000 ∧ FnD C.W f rk ex F
theorem call_at (ok : C.Ok) {x : Str} {pp pos : Pos} {f : Addr} {F : FF} {e : Expr} {rest : List Expr} {g : AF} (hg : ArD C (e :: rest) g) (hF : Callee C x f F) (hk : C.env.kindOf x = some .globalImplicit) (hst : starEach (e :: rest) C.env = (false, eval e C.env) :: starEach rest C.env)
    {s : Shared} {ps : List PV} {r : Ret} {d d' : DS} {Q E : Value → Shared → Prop} (q1 : g σ = some (ps, d)) (q2 : F ps d = some (r, d')) (H : Here C σ oa s)
    (hQ : ∀ v (s₁ s' : Shared), Here C (σ.setD d') oa s' → KQ C s.heap s₁.heap → KQ C s₁.heap s'.heap → RetF C.d (oa ++ C.X') s₁.heap s'.heap v r → Q v s') : wpAny C.M C.A (eval (.Call (.Name x pp) (e :: rest) [] pos) C.env) Q E s := by
  refine Call_Name rfl ?_
  obtain ⟨m, F₀⟩ := H.fr
  refine nameG_K F₀ ok.X (topRead_of ok.T) hF.g ?_ ok.eG ok.eK hk hF.d
  obtain ⟨o, fd, e1, e2⟩ := callee_fn ok.X hF.fn
  refine callWith_def (o := o) e2 ?_ hst
  obtain ⟨rk, ex, r0, r1, r2, hC⟩ := hF.c
  refine hg pos σ oa s _ _ ps d q1 H fun vs s₂ H₂ k₂ r₂ => ?_
  obtain ⟨m, F₂⟩ := H₂.fr
  refine ⟨F₂.keep _ _ e1, hC C rfl ok r0 r1 r2 (oa ++ C.X') s₂ vs ps r d d' m Q E q2 F₂ H₂.deck H₂.gens H₂.drawn H₂.os H₂.alive (fun a ha => sub_X' ok ha) (H₂.live ok) r₂ fun v h' k F' kb fk dk rf => ?_⟩
  exact hQ v s₂ _ (H₂.after' ok kb fk dk) k₂ (.ofF ok kb fk) rf
theorem EvD.call (ok : C.Ok) {x : Str} {pp pos : Pos} {f : Addr} {F : FF} {e : Expr} {rest : List Expr} {g : AF} (hg : ArD C (e :: rest) g) (hF : Callee C x f F) (hk : C.env.kindOf x = some .globalImplicit) (hst : starEach (e :: rest) C.env = (false, eval e C.env) :: starEach rest C.env := by rfl) :
    EvD C (.Call (.Name x pp) (e :: rest) [] pos) (callF F g) := fun σ oa s Q E rv d h H hQ => by
  unfold callF at h
  split at h
  · cases h
  · rename_i ps d1 q1
    split at h
    · rename_i p d2 q2
      cases h
      exact call_at ok hg hF hk hst q1 q2 H fun v s₁ s' H' k₁ k₂ rf => hQ v s' H' (k₁.trans k₂) rf
    · rename_i l d2 q2
      cases h
      refine call_at ok hg hF hk hst q1 q2 H fun v s₁ s' H' k₁ k₂ rf => hQ v s' H' (k₁.trans k₂) (FreshL.since ok (h₁ := s₁.heap) ?_ k₁)
      exact rf
    · cases h
end
end Mine

namespace Mine

structure Mv (C : Cx) (oa : List Addr) (h : Heap) (oa' : List Addr) (h' : Heap) : Prop where
  keep : ∀ b o, b ≠ C.L → b ∉ oa → b ∉ C.D ++ C.Fs → h.get? b = some o → h'.get? b = some o
  new : ∀ a ∈ oa', a ∈ oa ∨ h.get? a = none
/-- an object of the text's exception class, just made -/
structure BadNew (h h' : Heap) (e : Addr) : Prop where
  keeps : ∀ b o, h.get? b = some o → h'.get? b = some o
  new : h.get? e = none
  there : ∃ (tt dx : Addr) (o : Obj), h'.get? e = some { cls := .ref 45, dict := some dx, data := .fields #[.ref tt, .none, .none, .none, .bool false, .none] } ∧ h.get? tt = none ∧ h'.get? tt = some o ∧ ∃ (args : Array Value) (n : Nat), o.cls = .type "tuple" ∧ o.data = .seq args n
/-- a raise that has just been made in this frame -/
noncomputable def BadAt (C : Cx) (d : DS) (v : Value) (s : Shared) : Prop := ∃ (e : Addr) (h : Heap) (m : Str → Option Value), v = .ref e ∧ Fr C.h₀ C.L h m ∧ DeckIn C.W C.d h C.D d ∧ BadNew h s.heap e ∧ s.gens = C.gens ∧ s.drawn = C.drawn ∧ s.os = C.os ∧ ∀ b ∈ C.Fs, b ≠ C.L → ∃ sl, h.get? b = some { C.fo b with slots := sl }
noncomputable abbrev goneS (d : DS) : St := ⟨[], none, d⟩
noncomputable def Post (C : Cx) (oa : List Addr) (h : Heap) (Q : Flow → Shared → Prop) (E : Value → Shared → Prop) : Out → Prop
  | .nx σ' => ∀ oa' s', Here C σ' oa' s' → Mv C oa h oa' s'.heap → Q .next s'
  | .rt r d => ∀ v s', Here C (goneS d) [] s' → RetF C.d C.X' C.h₀ s'.heap v r → Q (.ret v) s'
  | .ex d => ∀ v s', BadAt C d v s' → E v s'
noncomputable def Run1 (C : Cx) (st : Stmt) (f : SF) : Prop := ∀ σ oa s Q E out, f σ = some out → Here C σ oa s → Post C oa s.heap Q E out → wpAny C.M C.A (exec st C.env) Q E s
noncomputable def Runs (C : Cx) (b : List Stmt) (f : SF) : Prop := ∀ σ oa s Q E out, f σ = some out → Here C σ oa s → Post C oa s.heap Q E out → wpAny C.M C.A (execs b C.env) Q E s
noncomputable def seqF (f g : SF) : SF := fun σ => match f σ with
  | some (.nx σ') => g σ'
  | o => o
noncomputable def doneF' : SF := fun σ => some (.nx σ)
noncomputable def retF (f : EF) : SF := fun σ => match f σ with
  | some (.st p, d) => some (.rt (.val p) d)
  | some (.fr l, d) => some (.rt (.own l) d)
  | some (.me l, d) => some (.rt (.own l) d)
  | none => none
noncomputable def brF (t : TF) (f g : SF) : SF := fun σ => match t σ with
  | some (true, d) => f (σ.setD d)
  | some (false, d) => g (σ.setD d)
  | none => none
noncomputable def asgF (i : Nat) (f : EF) : SF := fun σ => match f σ with
  | some (.st p, d) => some (.nx ((σ.setD d).set i p))
  | some (.fr l, d) => some (.nx ((σ.setD d).setOwn i l))
  | _ => none
noncomputable def datF (i : Nat) (f : EF) : SF := fun σ => match f σ with
  | some (.st p, d) => some (.nx ((σ.setD d).set i p))
  | some (.fr l, d) => some (.nx ((σ.setD d).set i (.lst l)))
  | _ => none
noncomputable def whileF (t : TF) (b : SF) : Nat → SF
  | 0, _ => none
  | n + 1, σ => match t σ with
    | some (true, d) => (match b (σ.setD d) with
      | some (.nx σ') => whileF t b n σ'
      | some (.rt r d) => some (.rt r d)
      | _ => none)
    | some (false, d) => some (.nx (σ.setD d))
    | none => none

section
variable {C : Cx} {σ : St} {oa : List Addr}
theorem Mv.refl (h : Heap) : Mv C oa h oa h := ⟨fun _ _ _ _ _ e => e, fun _ ha => .inl ha⟩
theorem Mv.of {h h' : Heap} (k : KQ C h h') : Mv C oa h oa h' := ⟨fun b o _ _ hd e => k.keep b o hd e, fun _ ha => .inl ha⟩
theorem Mv.trans (ok : C.Ok) {oa' oa'' : List Addr} {h h' h'' : Heap} (a : Mv C oa h oa' h') (b : Mv C oa' h' oa'' h'') (hx : ∀ a ∈ oa'', a ∉ C.X') : Mv C oa h oa'' h'' := by
  refine ⟨fun x o h1 h2 h3 e => b.keep x o h1 (fun hz => ?_) h3 (a.keep x o h1 h2 h3 e), fun x hz => ?_⟩
  · rcases a.new x hz with q | q
    · exact h2 q
    · rw [q] at e; cases e
  · rcases b.new x hz with q | q
    · exact a.new x q
    · by_cases hy : x ∈ oa
      · exact .inl hy
      · refine .inr ?_
        cases q2 : h.get? x with
        | none => rfl
        | some o =>
          have := a.keep x o (fun e => hx x hz (e ▸ .head _)) hy (fun hd => oaQ (hx x hz) ok hd) q2
          rw [q] at this; cases this
theorem Post.trans (ok : C.Ok) {oa' : List Addr} {h h' : Heap} {Q : Flow → Shared → Prop} {E : Value → Shared → Prop} (m : Mv C oa h oa' h') : ∀ {o : Out}, Post C oa h Q E o → Post C oa' h' Q E o
  | .nx _, p => fun oa'' s' H' m' => p oa'' s' H' (m.trans ok m' fun a ha => (H'.oaX a ha).1)
  | .rt _ _, p => p
  | .ex _, p => p
theorem Here.gone {s : Shared} (H : Here C σ oa s) : Here C (goneS σ.dk) [] s := by
  obtain ⟨n, hn, _⟩ := H.ns
  refine ⟨H.gens, H.drawn, H.os, H.deck, H.fr, fun a ha => H.al a (List.mem_append_right _ ha), ⟨n, hn, fun i x p _ e => ?_, fun i l e => nomatch e⟩, H.fs, fun a ha => nomatch ha⟩
  cases i <;> cases e
theorem Runs.nil : Runs C [] doneF' := fun σ oa s Q E out h H hQ => by
  cases h; exact wpAny_execs_nil (hQ oa s H (Mv.refl _))
theorem Runs.cons (ok : C.Ok) {st : Stmt} {rest : List Stmt} {f g : SF} (hf : Run1 C st f) (hg : Runs C rest g) : Runs C (st :: rest) (seqF f g) := fun σ oa s Q E out h H hQ => by
  unfold seqF at h
  cases q : f σ with
  | none => rw [q] at h; cases h
  | some o =>
    rw [q] at h
    refine wpAny_execs_cons (hf σ oa s _ _ o q H ?_)
    cases o with
    | nx σ' => exact fun oa' s' H' m => hg σ' oa' s' Q E out h H' (hQ.trans ok m)
    | rt r d => cases h; exact fun v s' H' rf => hQ v s' H' rf
    | ex d => cases h; exact fun v s' b => hQ v s' b
theorem fresh₀ {s : Shared} {a : Addr} (F : ∃ m, Fr C.h₀ C.L s.heap m) (e : s.heap.get? a = none) : C.h₀.get? a = none := by
  obtain ⟨m, F⟩ := F
  cases q : C.h₀.get? a with
  | none => rfl
  | some o => have := F.keep a o q; rw [e] at this; cases this
theorem Run1.ret {e : Expr} {pos} {f : EF} (hf : EvD C e f) : Run1 C (.Return (some e) pos) (retF f) := fun σ oa s Q E out h H hQ => by
  unfold retF at h
  refine wpAny_Return_some ?_
  split at h
  · rename_i p d q
    cases h
    exact hf σ oa s _ _ _ _ q H fun v s' H' k r => hQ v s' H'.gone (Rep.less (fun a ha => List.mem_append_right _ ha) r)
  · rename_i l d q
    cases h
    refine hf σ oa s _ _ _ _ q H fun v s' H' k r => hQ v s' H'.gone ?_
    obtain ⟨a, vs, n, e1, e2, e3, e4, e5⟩ := r
    refine ⟨a, vs, n, e1, e2, fresh₀ H.fr e3, fun hx => e4 (List.mem_append_right _ hx), e5.less fun b hb => ?_⟩
    cases hb with
    | head => exact .head _
    | tail _ hb => exact .tail _ (List.mem_append_right _ hb)
  · rename_i l d q
    cases h
    refine hf σ oa s _ _ _ _ q H fun v s' H' k r => hQ v s' H'.gone ?_
    obtain ⟨a, vs, n, e1, e2, e3, e4, e5⟩ := r
    refine ⟨a, vs, n, e1, e3, (H'.oaX a e2).2, e4, e5.less fun b hb => ?_⟩
    cases hb with
    | head => exact List.mem_append_left _ e2
    | tail _ hb => exact List.mem_append_right _ hb
  · cases h
theorem Run1.if (ok : C.Ok) {x : Expr} {b e : List Stmt} {pos} {t : TF} {f g : SF} (ht : TeD C x t) (hf : Runs C b f) (hg : Runs C e g) : Run1 C (.If x b e pos) (brF t f g) := fun σ oa s Q E out h H hQ => by
  unfold brF at h
  split at h
  · rename_i d q
    refine wpAny_If (ht σ oa s _ E _ _ q H fun s₁ H₁ k₁ => ?_)
    rw [if_pos rfl]
    exact hf _ oa s₁ Q E out h H₁ (hQ.trans ok (Mv.of k₁))
  · rename_i d q
    refine wpAny_If (ht σ oa s _ E _ _ q H fun s₁ H₁ k₁ => ?_)
    rw [if_neg Bool.false_ne_true]
    exact hg _ oa s₁ Q E out h H₁ (hQ.trans ok (Mv.of k₁))
  · cases h

theorem Ns.uniq {h : Heap} {a : Addr} {n n' : Str → Option Value} (x : h.Ns a n) (y : h.Ns a n') : n = n' := by
  obtain ⟨o1, es1, ep1, g1, d1, s1, f1⟩ := x
  obtain ⟨o2, es2, ep2, g2, d2, s2, f2⟩ := y
  rw [g1] at g2; cases g2
  rw [d1] at d2; cases d2
  funext z; rw [← f1, ← f2]
/-- a thing made since then is in nothing that the frame knew -/
theorem Here.extend (ok : C.Ok) {σ' : St} {s₀ s : Shared} (H₀ : Here C σ oa s₀) (H : Here C σ' oa s) (hv : σ'.vars = σ.vars) (ho : σ'.own = σ.own) (k : KQ C s₀.heap s.heap) {a : Addr} {o : Obj} (e0 : s₀.heap.get? a = none) (e1 : s.heap.get? a = some o) (hX : a ∉ C.X') : Here C σ' (a :: oa) s := by
  obtain ⟨n, hn, hv₀, ho₀⟩ := H₀.ns
  obtain ⟨n', hn', _⟩ := H.ns
  obtain rfl := Ns.uniq (k.nn ok hn ok.nl) hn'
  have hs : ∀ b o, s₀.heap.get? b = some o → b ∉ oa ++ C.X' → b ∉ (a :: oa) ++ C.X' := fun b o e hb hc => by
    cases hc with
    | head => rw [e0] at e; cases e
    | tail _ hc => exact hb hc
  refine ⟨H.gens, H.drawn, H.os, H.deck, H.fr, fun b hb => ?_, ⟨n, hn', fun i x p e1 e2 => ?_, fun i l e => ?_⟩, H.fs, fun b hb => ?_⟩
  · cases hb with
    | head => exact ⟨_, e1⟩
    | tail _ hb => exact H.al b hb
  · rw [hv] at e2
    obtain ⟨v, e, r⟩ := hv₀ i x p e1 e2
    exact ⟨v, e, r.mono (k.keep.more fun b hb => sub_Q ok hb) hs⟩
  · rw [ho] at e
    obtain ⟨x, b, vs, k', f1, f2, f3, f4, f5⟩ := ho₀ i l e
    exact ⟨x, b, vs, k', f1, f2, .tail _ f3, k.keep _ _ (oa_D ok H₀ f3) f4, f5.mono (k.keep.more fun b hb => sub_Q ok hb) hs⟩
  · cases hb with
    | head => exact ⟨hX, fresh₀ H₀.fr e0⟩
    | tail _ hb => exact H.oaX b hb
theorem look_set {i j : Nat} {p q : PV} (h : look (put σ.vars i (some p)) j = some q) : (i = j ∧ p = q) ∨ (i ≠ j ∧ look σ.vars j = some q) := by
  by_cases e : i = j
  · subst e
    rcases look_put_same σ.vars i (some p) with h' | h'
    · rw [h'] at h; cases h
    · rw [h'] at h; cases h; exact .inl ⟨rfl, rfl⟩
  · rw [look_put _ _ _ _ e] at h; exact .inr ⟨e, h⟩
theorem xs_ne (ok : C.Ok) {i j : Nat} {x y : Str} (hi : C.xs[i]? = some x) (hj : C.xs[j]? = some y) (h : i ≠ j) : y ≠ x := fun e => by
  subst e
  obtain ⟨h1, e1⟩ := List.getElem?_eq_some_iff.mp hi
  obtain ⟨h2, e2⟩ := List.getElem?_eq_some_iff.mp hj
  exact h ((List.getElem_inj ok.xd).mp (e1.trans e2.symm))
/-- the store of a name: what stays -/
theorem store_frame (ok : C.Ok) (hLN : C.N = C.L) {s : Shared} (H : Here C σ oa s) {h' : Heap} {n' : Str → Option Value} (hn' : h'.Ns C.N n') (hs : Heap.SameBut C.N s.heap h') {σ' : St} {oa' : List Addr} (k : Nat) (hd : σ'.dk = σ.dk)
    (hoa : ∀ a ∈ oa', (∃ o, s.heap.get? a = some o) ∧ a ∉ C.X' ∧ C.h₀.get? a = none)
    (hv : ∀ (i : Nat) (x : Str) (p : PV), C.xs[i]? = some x → look σ'.vars i = some p → ∃ v, n' x = some v ∧ Rep C.d (oa' ++ C.X') s.heap v p)
    (ho : ∀ (i : Nat) (l : List PV), σ'.own = some (i, l) → ∃ (x : Str) (a : Addr) (vs : List Value) (k : Nat), C.xs[i]? = some x ∧ n' x = some (.ref a) ∧ a ∈ oa' ∧ s.heap.get? a = some (lstO vs k) ∧ Reps C.d (oa' ++ C.X') s.heap vs l) : Here C σ' oa' { s with heap := h', toks := k } := by
  have hne : ∀ b, b ≠ C.N → h'.get? b = s.heap.get? b := hs.2
  have hkb : KB (oa' ++ C.X') s.heap h' := fun b o hb e => (hne b fun q => hb (List.mem_append_right _ (q ▸ .tail _ (.head _)))).trans e
  obtain ⟨m, F⟩ := H.fr
  refine ⟨H.gens, H.drawn, H.os, hd ▸ H.deck.kb fun a ha o e => (hne a (ok.dfree a ha).2.1).trans e, ⟨n', F.set (hLN ▸ hn') (hLN ▸ hs)⟩, fun a ha => ?_, ⟨n', hn', fun i x p e1 e2 => ?_, fun i l e => ?_⟩, fun b hb hl => by
    obtain ⟨sl, e⟩ := H.fs b hb hl
    exact ⟨sl, (hne b (hLN ▸ hl)).trans e⟩, fun a ha => (hoa a ha).2⟩
  · by_cases e : a = C.N
    · subst e
      obtain ⟨o, _, _, e, _⟩ := hn'
      exact ⟨o, e⟩
    · rw [hne a e]
      rcases List.mem_append.mp ha with h | h
      · exact (hoa a h).1
      · exact H.al a (List.mem_append_right _ h)
  · obtain ⟨v, e, r⟩ := hv i x p e1 e2
    exact ⟨v, e, r.kb hkb⟩
  · obtain ⟨x, a, vs, k, f1, f2, f3, f4, f5⟩ := ho i l e
    exact ⟨x, a, vs, k, f1, f2, f3, (hne a fun q => (hoa a f3).2.1 (q ▸ .tail _ (.head _))).trans f4, f5.kb hkb⟩
theorem store_mv (hLN : C.N = C.L) {h h' : Heap} (hs : Heap.SameBut C.N h h') : Mv C oa h oa h' := ⟨fun b o h1 _ _ e => (hs.2 b (hLN ▸ h1)).trans e, fun _ ha => .inl ha⟩
theorem store_stK {A : Around} (ok : C.Ok) (hLN : C.N = C.L) {s : Shared} (H : Here C σ oa s) {i : Nat} {x : Str} {v : Value} {p : PV} (hi : C.xs[i]? = some x) (r : Rep C.d (oa ++ C.X') s.heap v p) {Q : Unit → Shared → Prop} {E : Value → Shared → Prop} (hQ : ∀ s', Here C (σ.set i p) oa s' → Mv C oa s.heap oa s'.heap → (∀ b o, b ≠ C.L → s.heap.get? b = some o → s'.heap.get? b = some o) → Q () s') : wpAny C.M A (storeName C.env x v) Q E s := by
  obtain ⟨n, hn, hv, ho⟩ := H.ns
  refine wpAny_storeName_local (m := n) (ok.xk i x hi).1 (by rw [ok.eN]; exact hn) (fun h' hn' hs' => ?_) (by rw [ok.eK]; rfl)
  rw [ok.eN] at hn' hs'
  refine hQ _ (store_frame ok hLN H hn' hs' _ rfl (fun a ha => ⟨H.al a (List.mem_append_left _ ha), H.oaX a ha⟩) (fun j y q e1 e2 => ?_) fun j l e => ?_) (store_mv hLN hs') fun b o hb e => (hs'.2 b (hLN ▸ hb)).trans e
  · rcases look_set e2 with ⟨rfl, rfl⟩ | ⟨hne, e⟩
    · obtain rfl := Option.some.inj (hi.symm.trans e1)
      exact ⟨v, if_pos rfl, r⟩
    · obtain ⟨v', e, r'⟩ := hv j y q e1 e
      exact ⟨v', (if_neg (xs_ne ok hi e1 hne)).trans e, r'⟩
  · unfold St.set at e
    cases q : σ.own with
    | none => rw [q] at e; cases e
    | some jl =>
      obtain ⟨j', l'⟩ := jl
      rw [q] at e
      dsimp only at e
      by_cases hj : j' = i
      · rw [decide_eq_true hj] at e; cases e
      · rw [decide_eq_false hj] at e; cases e
        obtain ⟨y, a, vs, k, f1, f2, f3⟩ := ho j l q
        exact ⟨y, a, vs, k, f1, (if_neg (xs_ne ok hi f1 (Ne.symm hj))).trans f2, f3⟩
theorem store_st {A : Around} (ok : C.Ok) (hLN : C.N = C.L) {s : Shared} (H : Here C σ oa s) {i : Nat} {x : Str} {v : Value} {p : PV} (hi : C.xs[i]? = some x) (r : Rep C.d (oa ++ C.X') s.heap v p) {Q : Unit → Shared → Prop} {E : Value → Shared → Prop} (hQ : ∀ s', Here C (σ.set i p) oa s' → Mv C oa s.heap oa s'.heap → Q () s') : wpAny C.M A (storeName C.env x v) Q E s :=
  store_stK ok hLN H hi r fun s' H' m _ => hQ s' H' m
theorem store_own (ok : C.Ok) (hLN : C.N = C.L) {s : Shared} {a : Addr} (H : Here C σ (a :: oa) s) {i : Nat} {x : Str} {vs : List Value} {k : Nat} {l : List PV} (hi : C.xs[i]? = some x) (e1 : s.heap.get? a = some (lstO vs k)) (r : Reps C.d (a :: (oa ++ C.X')) s.heap vs l) (hown : ∀ j l y, σ.own = some (j, l) → j ≠ i → C.xs[j]? = some y → ∃ b, b ≠ a ∧ ∃ n, s.heap.Ns C.N n ∧ n y = some (.ref b)) {Q : Unit → Shared → Prop} {E : Value → Shared → Prop} (hQ : ∀ s', Here C (σ.setOwn i l) [a] s' → (∀ h, h.get? a = none → (∀ oa, Mv C oa h oa s.heap → Mv C oa h [a] s'.heap)) → (∀ b o, b ≠ C.L → s.heap.get? b = some o → s'.heap.get? b = some o) → Q () s') : wpAny C.M C.A (storeName C.env x (.ref a)) Q E s := by
  obtain ⟨n, hn, hv, ho⟩ := H.ns
  have ha := H.oaX a (.head _)
  have hsub : ∀ b ∈ [a] ++ C.X', b ∈ (a :: oa) ++ C.X' := fun b hb => by
    cases hb with
    | head => exact .head _
    | tail _ hb => exact List.mem_append_right _ hb
  refine wpAny_storeName_local (m := n) (ok.xk i x hi).1 (by rw [ok.eN]; exact hn) (fun h' hn' hs' => ?_) (by rw [ok.eK]; rfl)
  rw [ok.eN] at hn' hs'
  refine hQ _ (store_frame ok hLN H hn' hs' _ rfl (fun b hb => ?_) (fun j y q e2 e3 => ?_) fun j l' e => ?_) (fun h e0 oa' m => ⟨fun b o h1 h2 h3 e => (hs'.2 b (hLN ▸ h1)).trans (m.keep b o h1 h2 h3 e), fun b hb => ?_⟩) fun b o hb e => (hs'.2 b (hLN ▸ hb)).trans e
  · cases hb with
    | head => exact ⟨⟨_, e1⟩, ha⟩
    | tail _ hb => nomatch hb
  · unfold St.setOwn at e3
    have put_none : ∀ {vars : List (Option PV)}, look (put vars i none) j = some q → i ≠ j ∧ look vars j = some q := fun {vars} e => by
      by_cases hj : i = j
      · subst hj
        rcases look_put_same vars i none with h | h <;> (rw [h] at e; cases e)
      · rw [look_put _ _ _ _ hj] at e; exact ⟨hj, e⟩
    have old : i ≠ j → look σ.vars j = some q → ∃ v, (if y = x then some (Value.ref a) else n y) = some v ∧ Rep C.d ([a] ++ C.X') s.heap v q := fun hj e => by
      obtain ⟨v', e', r'⟩ := hv j y q e2 e
      exact ⟨v', (if_neg (xs_ne ok hi e2 hj)).trans e', r'.less hsub⟩
    cases q0 : σ.own with
    | none => rw [q0] at e3; exact old (put_none e3).1 (put_none e3).2
    | some jl =>
      obtain ⟨j', l'⟩ := jl
      rw [q0] at e3
      obtain ⟨hj, e4⟩ := put_none e3
      rcases look_set (σ := σ) e4 with ⟨rfl, rfl⟩ | ⟨_, e5⟩
      · obtain ⟨b, hb, n2, hn2, e6⟩ := hown j' l' y q0 (Ne.symm hj) e2
        obtain rfl := Ns.uniq hn hn2
        obtain ⟨y', b', vs', k', f1, f2, f3, f4, f5⟩ := ho j' l' q0
        obtain rfl := Option.some.inj (f1.symm.trans e2)
        obtain rfl : b = b' := by have := e6.symm.trans f2; cases this; rfl
        refine ⟨_, (if_neg (xs_ne ok hi e2 hj)).trans f2, .lst (fun hc => ?_) f4 (f5.less hsub)⟩
        cases hc with
        | head => exact hb rfl
        | tail _ hc => exact (H.oaX b f3).1 hc
      · exact old hj e5
  · have : i = j ∧ l = l' := by
      have : some (i, l) = some (j, l') := e
      cases this; exact ⟨rfl, rfl⟩
    obtain ⟨rfl, rfl⟩ := this
    exact ⟨x, a, vs, k, hi, if_pos rfl, .head _, e1, r.less fun b hb => by
      cases hb with
      | head => exact .head _
      | tail _ hb => exact .tail _ (List.mem_append_right _ hb)⟩
  · cases hb with
    | head => exact .inr e0
    | tail _ hb => nomatch hb
end
end Mine

namespace Mine
/-- found[-1] = e, of the frame's own list -/
noncomputable def setLastO (l : List PV) (p : PV) : Option (List PV) := match l with
  | [] => none
  | _ :: _ => some (l.dropLast ++ [p])
noncomputable def ownF (i : Nat) (o : List PV → PV → Option (List PV)) (f : EF) : SF := fun σ => match f σ with
  | some (a, d) => (match a.strong with
    | some p => (match σ.own with
      | some (j, l) => (match decide (j = i) with
        | true => (match o l p with
          | some l' => some (.nx ⟨σ.vars, some (i, l'), d⟩)
          | none => none)
        | false => none)
      | none => none)
    | none => none)
  | none => none
noncomputable def popF (i : Nat) : SF := fun σ => match σ.own with
  | some (j, l) => (match decide (j = i) with
    | true => (match l.getLast? with
      | some (.bytes _) => if l.length ≤ 16777216 then some (.nx ⟨σ.vars, some (i, l.dropLast), σ.dk⟩) else none
      | _ => none)
    | false => none)
  | none => none
noncomputable def pushO (l : List PV) (p : PV) : Option (List PV) := if l.length ≤ 16777216 then some (l ++ [p]) else none
noncomputable def augF (i : Nat) (o : PV → PV → Option RV) (f : EF) : SF := fun σ => match look σ.vars i with
  | some (.int a) => (match f σ with
    | some (.st (.int b), d) => (match o (.int a) (.int b) with
      | some (.st r) => some (.nx ((σ.setD d).set i r))
      | _ => none)
    | _ => none)
  | _ => none
section
variable {C : Cx} {σ : St} {oa : List Addr}
theorem own_ne (ok : C.Ok) {σ' : St} {s₀ : Shared} {h : Heap} {a : Addr} (H₀ : Here C σ oa s₀) (ho : σ'.own = σ.own) (k : KQ C s₀.heap h) (e0 : s₀.heap.get? a = none) : ∀ j l y, σ'.own = some (j, l) → C.xs[j]? = some y → ∃ b, b ≠ a ∧ ∃ n, h.Ns C.N n ∧ n y = some (.ref b) := by
  intro j l y e hy
  rw [ho] at e
  obtain ⟨n, hn, _, ho₀⟩ := H₀.ns
  obtain ⟨x, b, vs, k', f1, f2, f3, f4, f5⟩ := ho₀ j l e
  obtain rfl := Option.some.inj (f1.symm.trans hy)
  exact ⟨b, fun q => (by rw [q, e0] at f4; cases f4), n, k.nn ok hn ok.nl, f2⟩
theorem store_fr (ok : C.Ok) (hLN : C.N = C.L) {s₀ s : Shared} {d : DS} (H₀ : Here C σ oa s₀) (H : Here C (σ.setD d) oa s) (k : KQ C s₀.heap s.heap) {i : Nat} {x : Str} {v : Value} {l : List PV} (hi : C.xs[i]? = some x) (r : FreshL C oa s₀.heap s.heap v l) {Q : Unit → Shared → Prop} {E : Value → Shared → Prop} (hQ : ∀ oa' s', Here C ((σ.setD d).setOwn i l) oa' s' → Mv C oa s₀.heap oa' s'.heap → Q () s') : wpAny C.M C.A (storeName C.env x v) Q E s := by
  obtain ⟨a, vs, n, rfl, e2, e3, e4, e5⟩ := r
  exact store_own ok hLN (H₀.extend ok H rfl rfl k e3 e2 fun h => e4 (List.mem_append_right _ h)) hi e2 e5 (fun j l y e _ => own_ne (σ' := σ.setD d) ok H₀ rfl k e3 j l y e) fun s' H' m _ => hQ _ s' H' (m _ e3 _ (Mv.of k))
theorem Run1.asg (ok : C.Ok) (hLN : C.N = C.L) {x : Str} (i : Nat) {pos' pos} {e : Expr} {f : EF} (hf : EvD C e f) (hi : C.xs[i]? = some x) (hs : swapsWith e (some (.Name x pos')) pos.line C.env = pure false := by rfl) : Run1 C (.Assign [.Name x pos'] e pos) (asgF i f) := fun σ oa s Q E out h H hQ => by
  unfold asgF at h
  refine wpAny_Assign_Name ?_ hs
  split at h
  · rename_i p d q
    cases h
    exact hf σ oa s _ _ _ _ q H fun v s₁ H₁ k₁ r => store_st ok hLN H₁ hi r fun s' H' m => hQ _ s' H' ((Mv.of k₁).trans ok m fun a ha => (H'.oaX a ha).1)
  · rename_i l d q
    cases h
    exact hf σ oa s _ _ _ _ q H fun v s₁ H₁ k₁ r => store_fr ok hLN H H₁ k₁ hi r fun oa' s' H' m => hQ _ s' H' m
  · cases h
theorem Run1.dat (ok : C.Ok) (hLN : C.N = C.L) {x : Str} (i : Nat) {pos' pos} {e : Expr} {f : EF} (hf : EvD C e f) (hi : C.xs[i]? = some x) (hs : swapsWith e (some (.Name x pos')) pos.line C.env = pure false := by rfl) : Run1 C (.Assign [.Name x pos'] e pos) (datF i f) := fun σ oa s Q E out h H hQ => by
  unfold datF at h
  refine wpAny_Assign_Name ?_ hs
  split at h
  · rename_i p d q
    cases h
    exact hf σ oa s _ _ _ _ q H fun v s₁ H₁ k₁ r => store_st ok hLN H₁ hi r fun s' H' m => hQ _ s' H' ((Mv.of k₁).trans ok m fun a ha => (H'.oaX a ha).1)
  · rename_i l d q
    cases h
    exact hf σ oa s _ _ _ _ q H fun v s₁ H₁ k₁ r => store_st ok hLN H₁ hi (FreshL.rep r) fun s' H' m => hQ _ s' H' ((Mv.of k₁).trans ok m fun a ha => (H'.oaX a ha).1)
  · cases h
theorem Run1.augAdd (ok : C.Ok) (hLN : C.N = C.L) {x : Str} (i : Nat) {pos' pos} {e : Expr} {f : EF} (hf : EvD C e f) (hi : C.xs[i]? = some x) : Run1 C (.AugAssign (.Name x pos') .Add e pos) (augF i addO f) := fun σ oa s Q E out h H hQ => by
  unfold augF at h
  split at h
  · rename_i a qa
    split at h
    · rename_i b d q
      cases h
      obtain ⟨n, hn, hv, _⟩ := H.ns
      obtain ⟨v, e1, r1⟩ := hv i x _ hi qa
      obtain ⟨_, rfl⟩ := Rep.int_inv r1
      refine wpAny_AugAssign_Name (wpAny_loadName_local ok.eK (ok.xk i x hi).1 (by rw [ok.eN]; exact hn) e1 (hf σ oa s _ _ _ _ q H fun v s₁ H₁ k₁ r => ?_))
      obtain ⟨_, rfl⟩ := Rep.int_inv r
      exact PySem.P.iadd_int (store_st ok hLN (H₁.toks _) hi (.int _ _) fun s' H' m => hQ _ s' H' ((Mv.of k₁).trans ok m fun a ha => (H'.oaX a ha).1))
    · cases h
  · cases h
theorem Run1.augSub (ok : C.Ok) (hLN : C.N = C.L) {x : Str} (i : Nat) {pos' pos} {e : Expr} {f : EF} (hf : EvD C e f) (hi : C.xs[i]? = some x) : Run1 C (.AugAssign (.Name x pos') .Sub e pos) (augF i subO f) := fun σ oa s Q E out h H hQ => by
  unfold augF at h
  split at h
  · rename_i a qa
    split at h
    · rename_i b d q
      cases h
      obtain ⟨n, hn, hv, _⟩ := H.ns
      obtain ⟨v, e1, r1⟩ := hv i x _ hi qa
      obtain ⟨_, rfl⟩ := Rep.int_inv r1
      refine wpAny_AugAssign_Name (wpAny_loadName_local ok.eK (ok.xk i x hi).1 (by rw [ok.eN]; exact hn) e1 (hf σ oa s _ _ _ _ q H fun v s₁ H₁ k₁ r => ?_))
      obtain ⟨_, rfl⟩ := Rep.int_inv r
      exact PySem.P.isub_int (store_st ok hLN (H₁.toks _) hi (.int _ _) fun s' H' m => hQ _ s' H' ((Mv.of k₁).trans ok m fun a ha => (H'.oaX a ha).1))
    · cases h
  · cases h
theorem Run1.while (ok : C.Ok) {x : Expr} {b : List Stmt} {pos} {t : TF} {f : SF} (N : Nat) (ht : TeD C x t) (hf : Runs C b f) : Run1 C (.While x b [] pos) (whileF t f N) := fun σ oa s Q E out h H hQ => by
  refine wpAny_While (codeAny_whileLoop (fun n s' => ∃ σ' oa', Here C σ' oa' s' ∧ Mv C oa s.heap oa' s'.heap ∧ whileF t f n σ' = some out) (fun n s₁ hI => ?_) N ⟨σ, oa, H, Mv.refl _, h⟩)
  obtain ⟨σ', oa', H', m, h'⟩ := hI
  cases n with
  | zero => cases h'
  | succ n =>
    unfold whileF at h'
    split at h'
    · rename_i d q
      refine ht σ' oa' s₁ _ _ _ _ q H' fun s₂ H₂ k₂ => ?_
      rw [if_pos rfl]
      have m2 : Mv C oa s.heap oa' s₂.heap := m.trans ok (Mv.of k₂) fun a ha => (H₂.oaX a ha).1
      split at h'
      · rename_i σ'' q2
        exact hf _ oa' s₂ _ _ _ q2 H₂ fun oa'' s₃ H₃ m3 => ⟨n, Nat.lt_succ_self _, σ'', oa'', H₃, m2.trans ok m3 fun a ha => (H₃.oaX a ha).1, h'⟩
      · rename_i r d2 q2
        cases h'
        exact hf _ oa' s₂ _ _ _ q2 H₂ fun v s₃ H₃ rf => hQ v s₃ H₃ rf
      · cases h'
    · rename_i d q
      cases h'
      refine ht σ' oa' s₁ _ _ _ _ q H' fun s₂ H₂ k₂ => ?_
      rw [if_neg Bool.false_ne_true]
      exact wpAny_execs_nil (hQ _ s₂ H₂ (m.trans ok (Mv.of k₂) fun a ha => (H₂.oaX a ha).1))
    · cases h'
/-! the frame's own list, changed -/
theorem own_set (ok : C.Ok) {s : Shared} (H : Here C σ oa s) {i : Nat} {l : List PV} {x : Str} {a : Addr} {vs us : List Value} {k j t : Nat} {l' : List PV} {h' : Heap} (hi : C.xs[i]? = some x) (hn : ∃ n, s.heap.Ns C.N n ∧ n x = some (.ref a)) (hoa : a ∈ oa) (e4 : s.heap.get? a = some (lstO vs k)) (hown : ∀ j l'', σ.own = some (j, l'') → j = i)
    (e1 : h'.get? a = some (lstO us j)) (hk : ∀ b, b ≠ a → h'.get? b = s.heap.get? b) (r : Reps C.d (oa ++ C.X') s.heap us l') : Here C ⟨σ.vars, some (i, l'), σ.dk⟩ oa { s with heap := h', toks := t } := by
  have hX := (H.oaX a hoa).1
  have hkb : KB (oa ++ C.X') s.heap h' := fun b o hb e => (hk b fun q => hb (q ▸ List.mem_append_left _ hoa)).trans e
  obtain ⟨m, F⟩ := H.fr
  obtain ⟨n, hn1, hn2⟩ := hn
  obtain ⟨n0, hn0, hv, ho⟩ := H.ns
  obtain rfl := Ns.uniq hn0 hn1
  refine ⟨H.gens, H.drawn, H.os, H.deck.kb fun b hb o e => (hk b fun q => hX (q ▸ .tail _ (.tail _ (ok.dsub _ hb)))).trans e, ⟨m, Ns.kb F.ns fun o e => (hk _ fun q => hX (q ▸ .head _)).trans e, fun b o e => (hk b fun q => by rw [q, (H.oaX a hoa).2] at e; cases e).trans (F.keep b o e), F.above⟩, fun b hb => ?_,
    ⟨n0, Ns.kb hn0 fun o e => (hk _ fun q => hX (q ▸ .tail _ (.head _))).trans e, fun i' y p f1 f2 => ?_, fun i' l'' e => ?_⟩, fun b hb hl => by
      obtain ⟨sl, e⟩ := H.fs b hb hl
      exact ⟨sl, (hk b fun q => hX (q ▸ ok.fsub b hb)).trans e⟩, H.oaX⟩
  · by_cases e : b = a
    · subst e; exact ⟨_, e1⟩
    · rw [hk b e]; exact H.al b hb
  · obtain ⟨v, e, r'⟩ := hv i' y p f1 f2
    exact ⟨v, e, r'.kb hkb⟩
  · have : i = i' ∧ l' = l'' := by
      have : some (i, l') = some (i', l'') := e
      cases this; exact ⟨rfl, rfl⟩
    obtain ⟨rfl, rfl⟩ := this
    exact ⟨x, a, us, j, hi, hn2, hoa, e1, r.kb hkb⟩
theorem own_mv {s : Shared} {a : Addr} {h' : Heap} (hoa : a ∈ oa) (hk : ∀ b, b ≠ a → h'.get? b = s.heap.get? b) : Mv C oa s.heap oa h' := ⟨fun b o _ h2 _ e => (hk b fun q => h2 (q ▸ hoa)).trans e, fun _ ha => .inl ha⟩
theorem own_get {s : Shared} (H : Here C σ oa s) {i : Nat} {l : List PV} {x : Str} (hi : C.xs[i]? = some x) (e : σ.own = some (i, l)) : ∃ a vs k, (∃ n, s.heap.Ns C.N n ∧ n x = some (.ref a)) ∧ a ∈ oa ∧ s.heap.get? a = some (lstO vs k) ∧ Reps C.d (oa ++ C.X') s.heap vs l := by
  obtain ⟨n, hn, _, ho⟩ := H.ns
  obtain ⟨y, a, vs, k, f1, f2, f3, f4, f5⟩ := ho i l e
  obtain rfl := Option.some.inj (f1.symm.trans hi)
  exact ⟨a, vs, k, ⟨n, hn, f2⟩, f3, f4, f5⟩
theorem mapSeq_at {h : Heap} {a : Addr} {vs : List Value} {k : Nat} (e : h.get? a = some (lstO vs k)) (f : Array Value → Array Value) : ∃ n, (h.update a (Obj.mapSeq f)).get? a = some { cls := .type "list", data := .seq (f vs.toArray) n } := ⟨_, IsL.update (n := k) e f⟩
theorem own_name (ok : C.Ok) {s : Shared} {i : Nat} {x : Str} {a : Addr} {pos : Pos} (hi : C.xs[i]? = some x) (hn : ∃ n, s.heap.Ns C.N n ∧ n x = some (.ref a)) {Q : Value → Shared → Prop} {E : Value → Shared → Prop} (h : Q (.ref a) s) : wpAny C.M C.A (eval (.Name x pos) C.env) Q E s := by
  obtain ⟨hk, hd⟩ := ok.xk i x hi
  obtain ⟨n, hn1, hn2⟩ := hn
  exact wpAny_Name (wpAny_loadName_local ok.eK hk (by rw [ok.eN]; exact hn1) hn2 h) hd
/-- found.append(e) -/
theorem Run1.append (ok : C.Ok) {x : Str} (i : Nat) {pp apos pos epos} {e : Expr} {f : EF} (hf : EvD C e f) (hi : C.xs[i]? = some x)
    (hst : starEach [e] C.env = (false, eval e C.env) :: starEach [] C.env) (hline : (apos.endLine == pos.line) = true) : Run1 C (.Expr (.Call (.Attribute (.Name x pp) "append" apos) [e] [] pos) epos) (ownF i pushO f) := fun σ oa s Q E out h H hQ => by
  unfold ownF at h
  split at h
  · rename_i a d q
    split at h
    · rename_i p qs
      split at h
      · rename_i j l qo
        by_cases hj : j = i
        · subst hj
          rw [decide_eq_true rfl] at h
          dsimp only at h
          split at h
          · rename_i l' qp
            cases h
            unfold pushO at qp
            by_cases hz : l.length ≤ 16777216
            · rw [if_pos hz] at qp; cases qp
              obtain ⟨b, vs, k, hn, hoa, e4, e5⟩ := own_get H hi qo
              refine wpAny_Expr (wpAny_Call_method (T := "list") (id := "list.append") rfl (by rw [hst]; rfl) hline F.plainAttrs_list F.slot_list_append F.type_list_append (own_name ok hi hn ⟨⟨_, e4, rfl⟩, fun c ec => ?_, ?_⟩)) ok.eI
              · cases ec; exact ⟨_, e4, rfl⟩
              · rw [show backTo pos (starEach [e] C.env) = [(false, eval e C.env)] by rw [hst]; rfl]
                refine PySem.P.append_list (hf σ oa s _ _ a d q H fun v s₁ H₁ k₁ r => ?_)
                have e4' := k₁.keep _ _ (oa_D ok H hoa) e4
                refine ⟨vs.toArray, k, ?_, e4', ?_⟩
                · rw [List.size_toArray, e5.length, show sizeLine = 16777216 by decide]; exact hz
                · obtain ⟨n, e6⟩ := mapSeq_at e4' fun xs => xs.push v
                  rw [show vs.toArray.push v = (vs ++ [v]).toArray by simp] at e6
                  have hk : ∀ b', b' ≠ b → (s₁.heap.update b (Obj.mapSeq fun xs => xs.push v)).get? b' = s₁.heap.get? b' := fun b' hb => Heap.get?_update_other _ _ (Ne.symm hb)
                  obtain ⟨n0, hn0, hx0⟩ := hn
                  have H' := own_set (t := s₁.toks) (l := l) ok H₁ hi ⟨n0, k₁.nn ok hn0 ok.nl, hx0⟩ hoa e4' (fun j' l'' e => by have : some (j, l) = some (j', l'') := qo.symm.trans e; cases this; rfl) e6 hk ((e5.next ok k₁).append (.cons (r.strong qs) .nil))
                  exact hQ _ _ H' ((Mv.of k₁).trans ok (own_mv hoa hk) fun a ha => (H'.oaX a ha).1)
            · rw [if_neg hz] at qp; cases qp
          · cases h
        · rw [decide_eq_false hj] at h; cases h
      · cases h
    · cases h
  · cases h
theorem setItem_last {s : Shared} {l : Addr} {vs : List Value} {n : Nat} {t : Tok} {v : Value} (e : s.heap.get? l = some (lstO vs n)) (hne : vs ≠ []) {Q : Unit → Shared → Prop} {E : Value → Shared → Prop} (hQ : Q () { s with heap := s.heap.update l (Obj.mapSeq fun xs => xs.setIfInBounds (vs.length - 1) v) }) : wpAny C.M C.A (setItem (.ref l) (.int (-1) t) v) Q E s := by
  have hl := isList_of e
  have h1 : 0 < vs.length := List.length_pos_iff.mpr hne
  unfold setItem
  try with_reducible refine wpAny_holding ?_
  first | refine wpAny_bind (wpAny_pure ?_) | skip
  refine wpAny_bind (wpAny_sequenceKey hl.typeIs (by decide) ?_)
  refine wpAny_bind (wpAny_callSpecial?_slot (name := Str.ofString "__setitem__") hl.typeIs slot_list_setitem
    (wpAny_call_entry slot_list_setitem hl.typeIs entry_list_setitem ?_ (args_list_setitem _ _ _)))
  show wpAny _ _ (Builtin.List.listSubscript? (.int (-1) t) >>= _) _ _ s
  refine wpAny_bind (wpAny_listSubscript_int (fitsIndex_neg (by decide) (by decide)) ?_)
  show wpAny _ _ ((Builtin.List.listItems (.ref l) >>= fun xs => pure ((seqIndex? (Int.negSucc 0) xs.size).bind fun i => xs[i]?.map (i, ·))) >>= _) _ _ s
  refine wpAny_bind (wpAny_bind ?_)
  show wpAny _ _ (seqItems? (.ref l) >>= _) _ _ s
  refine wpAny_bind (wpAny_seqItems e rfl (wpAny_pure (wpAny_pure ?_)))
  have hs : vs.toArray.size = vs.length := by simp
  have hj : ((Int.negSucc 0) + (vs.length : Int)).toNat = vs.length - 1 := by
    have : Int.negSucc 0 = -1 := rfl
    omega
  have hx : vs.toArray[vs.length - 1]? = some vs[vs.length - 1] := by simp
  rw [hs, seqIndex_neg (by decide) (by have : Int.negSucc 0 = -1 := rfl; omega), hj]
  simp only [Option.bind_some, hx, Option.map_some]
  show wpAny _ _ (setSeqItemAt l (vs.length - 1) v >>= _) _ _ s
  refine wpAny_bind (wpAny_setSeqItemAt e rfl ?_)
  first
    | exact wpAny_bind (wpAny_pure (wpAny_pure ⟨.none, rfl, wpAny_pure hQ⟩))
    | exact wpAny_pure ⟨.none, rfl, wpAny_pure hQ⟩
theorem Run1.setLast (ok : C.Ok) {x : Str} (i : Nat) {pp spos upos ipos pos : Pos} {k : Nat} {e : Expr} {f : EF} (hf : EvD C e f) (hi : C.xs[i]? = some x)
    (hs : swapsWith e (some (.Subscript (.Name x pp) (.UnaryOp .USub (.Constant (.int 1) k ipos) upos) spos)) pos.line C.env = pure false := by rfl) :
    Run1 C (.Assign [.Subscript (.Name x pp) (.UnaryOp .USub (.Constant (.int 1) k ipos) upos) spos] e pos) (ownF i setLastO f) := fun σ oa s Q E out h H hQ => by
  unfold ownF at h
  split at h
  · rename_i a d q
    split at h
    · rename_i p qs
      split at h
      · rename_i j l qo
        by_cases hj : j = i
        · subst hj
          rw [decide_eq_true rfl] at h
          dsimp only at h
          split at h
          · rename_i l' qp
            cases h
            obtain ⟨b, vs, k, hn, hoa, e4, e5⟩ := own_get H hi qo
            refine wpAny_Assign_Subscript (hf σ oa s _ _ a d q H fun v s₁ H₁ k₁ r => ?_) hs
            have e4' := k₁.keep _ _ (oa_D ok H hoa) e4
            obtain ⟨n0, hn0, hx0⟩ := hn
            have hn1 : ∃ n, s₁.heap.Ns C.N n ∧ n x = some (.ref b) := ⟨n0, k₁.nn ok hn0 ok.nl, hx0⟩
            refine own_name ok hi hn1 (wpAny_UnaryOp (wpAny_Constant_int (PyProof.Rows.neg_int ?_)))
            have hne : l ≠ [] := fun e => by subst e; cases qp
            have hvs : vs ≠ [] := fun e => by subst e; cases e5; exact hne rfl
            obtain ⟨n, e6⟩ := mapSeq_at e4' fun xs => xs.setIfInBounds (vs.length - 1) v
            have hset : (vs.toArray.setIfInBounds (vs.length - 1) v) = (vs.dropLast ++ [v]).toArray := by
              obtain ⟨vs', w, rfl⟩ : ∃ vs' w, vs = vs' ++ [w] := ⟨vs.dropLast, vs.getLast hvs, (List.dropLast_concat_getLast hvs).symm⟩
              simp
            rw [hset] at e6
            have hl' : l' = l.dropLast ++ [p] := by
              unfold setLastO at qp
              split at qp
              · exact absurd rfl hne
              · exact (Option.some.inj qp).symm
            subst hl'
            have hk : ∀ b', b' ≠ b → (s₁.heap.update b (Obj.mapSeq fun xs => xs.setIfInBounds (vs.length - 1) v)).get? b' = s₁.heap.get? b' := fun b' hb => Heap.get?_update_other _ _ (Ne.symm hb)
            have rr : Reps C.d (oa ++ C.X') s₁.heap (vs.dropLast ++ [v]) (l.dropLast ++ [p]) := by
              have e7 := e5.next ok k₁
              rw [List.dropLast_eq_take, List.dropLast_eq_take, e5.length]
              exact (e7.take _).append (.cons (r.strong qs) .nil)
            have H' := own_set (t := s₁.toks + 1 + 1) (l := l) ok H₁ hi hn1 hoa e4' (fun j' l'' e => by have : some (j, l) = some (j', l'') := qo.symm.trans e; cases this; rfl) e6 hk rr
            exact setItem_last (s := { s₁ with toks := s₁.toks + 1 + 1 }) e4' hvs (hQ _ _ H' ((Mv.of k₁).trans ok (own_mv hoa hk) fun a ha => (H'.oaX a ha).1))
          · cases h
        · rw [decide_eq_false hj] at h; cases h
      · cases h
    · cases h
  · cases h
/-- rows.pop() -/
theorem Run1.pop (ok : C.Ok) {x : Str} (i : Nat) {pp apos pos epos : Pos} (hi : C.xs[i]? = some x) (hline : (apos.endLine == pos.line) = true) : Run1 C (.Expr (.Call (.Attribute (.Name x pp) "pop" apos) [] [] pos) epos) (popF i) := fun σ oa s Q E out h H hQ => by
  unfold popF at h
  split at h
  · rename_i j l qo
    by_cases hj : j = i
    · subst hj
      rw [decide_eq_true rfl] at h
      dsimp only at h
      split at h
      · rename_i y ql
        by_cases hz : l.length ≤ 16777216
        · rw [if_pos hz] at h; cases h
          obtain ⟨b, vs, k, hn, hoa, e4, e5⟩ := own_get H hi qo
          refine wpAny_Expr (wpAny_Call_method (T := "list") (id := "list.pop") rfl rfl hline F.plainAttrs_list F.slot_list_pop F.type_list_pop (own_name ok hi hn ⟨⟨_, e4, rfl⟩, fun c ec => ?_, ?_⟩)) ok.eI
          · cases ec; exact ⟨_, e4, rfl⟩
          · have hlen := e5.length
            have hgl : l[l.length - 1]? = some (.bytes y) := by rw [List.getLast?_eq_getElem?] at ql; exact ql
            obtain ⟨v, ev, rv⟩ := e5.get hgl
            obtain ⟨tk, rfl⟩ := Rep.bytes_inv rv
            refine PySem.P.pop_list e4 (y := .bytes y.toArray tk) ?_ ?_ ?_
            · rw [List.size_toArray, hlen]; simpa using ev
            · obtain ⟨n, e6⟩ := mapSeq_at e4 fun xs => xs.eraseIdxIfInBounds (vs.toArray.size - 1)
              have hvs : vs ≠ [] := fun e => by subst e; cases ev
              have hset : vs.toArray.eraseIdxIfInBounds (vs.toArray.size - 1) = vs.dropLast.toArray := by
                obtain ⟨vs', w, rfl⟩ : ∃ vs' w, vs = vs' ++ [w] := ⟨vs.dropLast, vs.getLast hvs, (List.dropLast_concat_getLast hvs).symm⟩
                simp [Array.eraseIdxIfInBounds, List.eraseIdx_append_of_length_le]
              rw [hset] at e6
              have hk : ∀ b', b' ≠ b → (s.heap.update b (Obj.mapSeq fun xs => xs.eraseIdxIfInBounds (vs.toArray.size - 1))).get? b' = s.heap.get? b' := fun b' hb => Heap.get?_update_other _ _ (Ne.symm hb)
              have rr : Reps C.d (oa ++ C.X') s.heap vs.dropLast l.dropLast := by
                rw [List.dropLast_eq_take, List.dropLast_eq_take, e5.length]
                exact e5.take _
              have H' := own_set (t := s.toks) (l := l) ok H hi hn hoa e4 (fun j' l'' e => by have : some (j, l) = some (j', l'') := qo.symm.trans e; cases this; rfl) e6 hk rr
              exact hQ _ _ H' (own_mv hoa hk)
            · rw [List.size_toArray, hlen, show sizeLine = 16777216 by decide]; exact hz
        · rw [if_neg hz] at h; cases h
      · cases h
    · rw [decide_eq_false hj] at h; cases h
  · cases h
end
end Mine

namespace Mine
noncomputable def IterO (o : Obj) : Prop := ∃ vs, o.data = .fields vs
section
variable {d : Addr} {X : List Addr} {h h' : Heap} {I : Addr}
theorem iter_ne (hI : ∀ o, h.get? I = some o → IterO o) {a : Addr} {o : Obj} (ho : h.get? a = some o) (hd : ∀ vs, o.data ≠ .fields vs) : a ≠ I := fun e => by
  obtain ⟨_, q⟩ := hI _ (e ▸ ho)
  exact hd _ q
theorem Rep.iter (hI : ∀ o, h.get? I = some o → IterO o) (k : ∀ b o, b ≠ I → h.get? b = some o → h'.get? b = some o) {v : Value} {p : PV} (r : Rep d X h v p) : Rep d X h' v p :=
  r.rec (motive_1 := fun v p _ => Rep d X h' v p) (motive_2 := fun vs ps _ => Reps d X h' vs ps) (motive_3 := fun xs es fs _ => RepF d X h' xs es fs)
    .none (fun b => .bool b) (fun i t => .int i t) (fun s t => .str s t) (fun l t => .bytes l t) (fun ha ho _ ih => .tup ha (k _ _ (iter_ne hI ho fun _ z => nomatch z) ho) ih) (fun ha ho _ ih => .lst ha (k _ _ (iter_ne hI ho fun _ z => nomatch z) ho) ih)
    (fun ha hd ho hq _ ih => .inst ha hd (k _ _ (iter_ne hI ho fun _ z => nomatch z) ho) (k _ _ (iter_ne hI hq fun _ z => nomatch z) hq) ih) .deck .nil (fun _ _ a b => .cons a b) .nil (fun _ _ a b => .cons a b)
theorem Reps.iter (hI : ∀ o, h.get? I = some o → IterO o) (k : ∀ b o, b ≠ I → h.get? b = some o → h'.get? b = some o) {vs : List Value} {ps : List PV} (r : Reps d X h vs ps) : Reps d X h' vs ps :=
  r.ind (P := fun vs ps => Reps d X h' vs ps) .nil fun hv _ ih => .cons (hv.iter hI k) ih
end
noncomputable def flatB : PV → Bool
  | .none | .bool _ | .int _ | .str _ | .bytes _ => true
  | _ => false
theorem flat_rep {p : PV} (f : flatB p = true) {d d' : Addr} {X Y : List Addr} {h h' : Heap} {v : Value} (r : Rep d X h v p) : Rep d' Y h' v p := by
  cases r with
  | none => exact .none
  | bool => exact .bool _
  | int => exact .int _ _
  | str => exact .str _ _
  | bytes => exact .bytes _ _
  | _ => cases f
noncomputable def itemsO : PV → Option (List PV)
  | .bytes x => some (x.map fun c => .int (c.toNat : Int))
  | .lst l => if l.all flatB = true ∧ l.length ≤ 16777216 then some l else none
  | _ => none
noncomputable def forGo (i : Nat) (b : SF) : List PV → SF
  | [], σ => some (.nx σ)
  | p :: l, σ => match b (σ.set i p) with
    | some (.nx σ') => forGo i b l σ'
    | some (.rt r d) => some (.rt r d)
    | _ => none
noncomputable def forF (i : Nat) (f : EF) (b : SF) : SF := fun σ => match f σ with
  | some (a, d) => (match a.strong with
    | some p => (match itemsO p with
      | some l => forGo i b l (σ.setD d)
      | none => none)
    | none => none)
  | none => none
noncomputable def rangeF (i : Nat) (f : EF) (b : SF) : SF := fun σ => match f σ with
  | some (.st (.int n), d) => if 0 ≤ n ∧ n < 1000000 then forGo i b ((List.range n.toNat).map fun (k : Nat) => PV.int (k : Int)) (σ.setD d) else none
  | _ => none
structure IterAt (C : Cx) (oa : List Addr) (h₀ h₂ : Heap) (it : Value) (ps : List PV) : Prop where
  ex : ∃ I fp P St, it = .ref I ∧ Walks C.W.prog C.W.w C.A I fp [I] ps.length P St ∧ St 0 h₂ ∧ h₀.get? I = none ∧ (∀ b ∈ fp, b = I ∨ b ∉ oa ++ C.X' ∧ ∃ o, h₂.get? b = some o) ∧
    (∀ i h, St i h → ∃ o, h.get? I = some o ∧ IterO o) ∧ ∀ i v, P i v → ∃ p, ps[i]? = some p ∧ ∀ d X h, Rep d X h v p
section
variable {C : Cx} {σ : St} {oa : List Addr}
theorem Here.iter (ok : C.Ok) {s : Shared} (H : Here C σ oa s) {I : Addr} {h' : Heap} {k : Nat} (hX : I ∉ oa ++ C.X') (h0 : C.h₀.get? I = none) (hI : ∀ o, s.heap.get? I = some o → IterO o) (hk : ∀ b o, b ≠ I → s.heap.get? b = some o → h'.get? b = some o) : Here C σ oa { s with heap := h', toks := k } := by
  have ne : ∀ a ∈ oa ++ C.X', a ≠ I := fun a ha e => hX (e ▸ ha)
  obtain ⟨m, F⟩ := H.fr
  obtain ⟨n, hn, hv, ho⟩ := H.ns
  refine ⟨H.gens, H.drawn, H.os, H.deck.kb fun a ha o e => hk a o (ne _ (sub_X' ok ha)) e, ⟨m, Ns.kb F.ns fun o e => hk _ o (ne _ (List.mem_append_right _ (.head _))) e, fun b o e => hk b o (fun q => by rw [q, h0] at e; cases e) (F.keep b o e), F.above⟩, fun a ha => ?_,
    ⟨n, Ns.kb hn fun o e => hk _ o (ne _ (List.mem_append_right _ (.tail _ (.head _)))) e, fun i x p e1 e2 => ?_, fun i l e => ?_⟩, fun b hb hl => by
      obtain ⟨sl, e⟩ := H.fs b hb hl
      exact ⟨sl, hk _ _ (ne _ (List.mem_append_right _ (ok.fsub b hb))) e⟩, H.oaX⟩
  · obtain ⟨o, e⟩ := H.al a ha
    exact ⟨o, hk a o (ne a ha) e⟩
  · obtain ⟨v, e, r⟩ := hv i x p e1 e2
    exact ⟨v, e, r.iter hI hk⟩
  · obtain ⟨x, a, vs, k, e1, e2, e3, e4, e5⟩ := ho i l e
    exact ⟨x, a, vs, k, e1, e2, e3, hk _ _ (ne _ (List.mem_append_left _ e3)) e4, e5.iter hI hk⟩
theorem for_core (ok : C.Ok) (hLN : C.N = C.L) {x : Str} {px : Pos} {body : List Stmt} (i : Nat) {f : SF} (hf : Runs C body f) (hi : C.xs[i]? = some x) {s₀ s₂ : Shared} {it : Value} {ps : List PV} {out : Out} {Q : Flow → Shared → Prop} {E E' : Value → Shared → Prop} (hl : Mv C oa s₀.heap oa s₂.heap)
    (hit : IterAt C oa s₀.heap s₂.heap it ps) (h : forGo i f ps σ = some out) (H : Here C σ oa s₂) (hX : ∀ I, it = .ref I → I ∉ oa ++ C.X') (hF₀ : ∃ m, Fr C.h₀ C.L s₀.heap m) (hQ : Post C oa s₀.heap Q E' out) :
    codeAny C.M C.A (.forLoop (.Name x px) it body [] C.env) (fun r s' => match r with | .ok f => Q f s' | .error e => E e s') s₂ := by
  obtain ⟨I, fp, P, St, rfl, W, st0, hI0, hfp, hSt, hP⟩ := hit
  have hIX := hX I rfl
  have hIX' : I ∉ C.X' := fun h => hIX (List.mem_append_right _ h)
  refine codeAny_forLoop (fun n s => ∃ j σ' oa', n = ps.length - j ∧ j ≤ ps.length ∧ Here C σ' oa' s ∧ Mv C (I :: oa) s₂.heap (I :: oa') s.heap ∧ I ∉ oa' ∧ St j s.heap ∧ forGo i f (ps.drop j) σ' = some out) (fun n s hJ => ?_) ps.length ⟨0, σ, oa, rfl, Nat.zero_le _, H, Mv.refl _, fun h => hIX (List.mem_append_left _ h), st0, h⟩
  obtain ⟨j, σ', oa', hn, hj, H', m, hIo, st, hgo⟩ := hJ
  have hIa : I ∉ oa' ++ C.X' := fun h => (List.mem_append.mp h).elim hIo hIX'
  have hIO : ∀ o, s.heap.get? I = some o → IterO o := fun o e => by
    obtain ⟨o', e', q⟩ := hSt j _ st
    rw [e'] at e; cases e; exact q
  have h0 := fresh₀ hF₀ hI0
  by_cases hjl : j < ps.length
  · refine W.item j s _ _ hjl st fun v h' tk hp st' hk => ?_
    dsimp only
    have hk' : ∀ b o, b ≠ I → s.heap.get? b = some o → h'.get? b = some o := fun b o hb e => hk b o (fun q => hb (List.mem_singleton.mp q)) e
    have H₁ := H'.iter (k := tk) ok hIa h0 hIO hk'
    obtain ⟨p, ep, rp⟩ := hP j v hp
    have hd : ps.drop j = p :: ps.drop (j + 1) := by
      rw [List.drop_eq_getElem_cons hjl]
      congr 1
      rw [List.getElem?_eq_getElem hjl] at ep
      exact Option.some.inj ep
    rw [hd] at hgo
    refine assign_Name (store_st ok hLN H₁ hi (rp _ _ _) fun s₃ H₃ m₃ => ?_)
    have stf : ∀ {ob oc : List Addr} {g g' : Heap} {q : Nat}, Mv C ob g oc g' → (I ∉ ob) → (∀ b ∈ fp, b ≠ I → b ∉ ob) → St q g → St q g' := fun {ob oc g g' q} mm h1 h2 s1 => W.frame q g g' s1 fun b hb o e => by
      have hbX : b ∉ C.X' := by
        rcases hfp b hb with rfl | ⟨h3, _⟩
        · exact hIX'
        · exact fun h => h3 (List.mem_append_right _ h)
      refine mm.keep b o (fun q => hbX (q ▸ .head _)) ?_ (fun hd => oaQ hbX ok hd) e
      by_cases hbI : b = I
      · rw [hbI]; exact h1
      · exact h2 b hb hbI
    have hfo : ∀ b ∈ fp, b ≠ I → b ∉ oa' := fun b hb hbI hbo => by
      rcases hfp b hb with e | ⟨h3, o, h4⟩
      · exact hbI e
      · rcases m.new b (.tail _ hbo) with h5 | h5
        · cases h5 with
          | head => exact hbI rfl
          | tail _ h5 => exact h3 (List.mem_append_left _ h5)
        · rw [h5] at h4; cases h4
    have st3 := stf m₃ hIo hfo st'
    unfold forGo at hgo
    have m13 : Mv C (I :: oa) s₂.heap (I :: oa') s₃.heap := by
      refine ⟨fun b o h1 h2 h3 e => ?_, m.new⟩
      refine m₃.keep b o h1 (fun hbo => ?_) h3 (hk' b o (fun q => h2 (q ▸ .head _)) (m.keep b o h1 h2 h3 e))
      rcases m.new b (.tail _ hbo) with h5 | h5
      · exact h2 h5
      · rw [h5] at e; cases e
    split at hgo
    · rename_i σ'' q
      refine hf _ oa' s₃ _ _ _ q H₃ fun oa'' s₄ H₄ m₄ => ⟨ps.length - (j + 1), by omega, j + 1, σ'', oa'', rfl, hjl, H₄, ?_, fun hz => ?_, stf m₄ hIo hfo st3, hgo⟩
      · refine ⟨fun b o h1 h2 h3 e => m₄.keep b o h1 (fun hbo => ?_) h3 (m13.keep b o h1 h2 h3 e), fun b hb => ?_⟩
        · rcases m.new b (.tail _ hbo) with h5 | h5
          · exact h2 h5
          · rw [h5] at e; cases e
        · cases hb with
          | head => exact .inl (.head _)
          | tail _ hb =>
            rcases m₄.new b hb with h5 | h5
            · exact m13.new b (.tail _ h5)
            · by_cases hb1 : b ∈ I :: oa
              · exact .inl hb1
              · refine .inr ?_
                cases q2 : s₂.heap.get? b with
                | none => rfl
                | some o =>
                  have hbX := (H₄.oaX b hb).1
                  have := m13.keep b o (fun e => hbX (e ▸ .head _)) hb1 (fun hd => oaQ hbX ok hd) q2
                  rw [h5] at this; cases this
      · rcases m₄.new I hz with h5 | h5
        · exact hIo h5
        · obtain ⟨o, e, _⟩ := hSt _ _ st3
          rw [h5] at e; cases e
    · rename_i r d q
      cases hgo
      exact hf _ oa' s₃ _ _ _ q H₃ fun v s₄ H₄ rf => hQ v s₄ H₄ rf
    · cases hgo
  · have hjl' : j = ps.length := by omega
    subst hjl'
    refine W.done s _ _ st fun h' tk hk => ?_
    dsimp only
    rw [List.drop_length] at hgo
    cases hgo
    have hk' : ∀ b o, b ≠ I → s.heap.get? b = some o → h'.get? b = some o := fun b o hb e => hk b o (fun q => hb (List.mem_singleton.mp q)) e
    refine wpAny_execs_nil (hQ oa' _ (H'.iter ok hIa h0 hIO hk') ⟨fun b o h1 h2 h3 e => ?_, fun b hb => ?_⟩)
    · have hbI : b ≠ I := fun q => by rw [q, hI0] at e; cases e
      exact hk' b o hbI (m.keep b o h1 (fun hz => by
        cases hz with
        | head => exact hbI rfl
        | tail _ hz => exact h2 hz) h3 (hl.keep b o h1 h2 h3 e))
    · rcases m.new b (.tail _ hb) with h5 | h5
      · cases h5 with
        | head => exact absurd hb hIo
        | tail _ h5 => exact .inl h5
      · by_cases hb1 : b ∈ oa
        · exact .inl hb1
        · refine .inr ?_
          cases q2 : s₀.heap.get? b with
          | none => rfl
          | some o =>
            have hbX := (H'.oaX b hb).1
            have := hl.keep b o (fun e => hbX (e ▸ .head _)) hb1 (fun hd => oaQ hbX ok hd) q2
            rw [h5] at this; cases this
end
end Mine

namespace Mine
section
variable {C : Cx} {σ : St} {oa : List Addr}
theorem iter_at (ok : C.Ok) {s : Shared} {v : Value} {p : PV} {ps : List PV} (H : Here C σ oa s) (r : Rep C.d (oa ++ C.X') s.heap v p) (h : itemsO p = some ps) {Q : Value → Shared → Prop} {E : Value → Shared → Prop}
    (hQ : ∀ it s₂, Here C σ oa s₂ → (∀ b o, s.heap.get? b = some o → s₂.heap.get? b = some o) → IterAt C oa s.heap s₂.heap it ps → (∀ I, it = .ref I → I ∉ oa ++ C.X') → Q it s₂) : wpAny C.M C.A (pyIter v) Q E s := by
  have hI : ∀ I, Value.ref s.heap.objs.size = .ref I → I ∉ oa ++ C.X' := fun I e => by cases e; exact H.size_out
  unfold itemsO at h
  split at h
  · rename_i x
    cases h
    obtain ⟨tk, rfl⟩ := Rep.bytes_inv r
    refine KBw.pyIter_bytes (hQ _ _ (H.push ok _) (fun _ _ e => Heap.get?_push_of_some _ e) ?_ hI)
    have W := KBw.walks (prog := C.W.prog) (w := C.W.w) (A := C.A) (handled_none ok) s.heap.objs.size x.toArray tk
    rw [show x.toArray.size = (x.map fun c => PV.int (c.toNat : Int)).length by simp] at W
    refine ⟨_, _, _, _, rfl, W, ⟨_, Heap.get?_push_size _ rfl, rfl, rfl⟩, size_none _, fun b hb => .inl (List.mem_singleton.mp hb), fun i h st => ?_, fun i v hv => ?_⟩
    · obtain ⟨o, e, _, q⟩ := st
      exact ⟨o, e, _, q⟩
    · obtain ⟨c, u, e, rfl⟩ := hv
      refine ⟨.int (c.toNat : Int), ?_, fun _ _ _ => .int _ _⟩
      rw [List.getElem?_map]
      have : x[i]? = some c := by simpa using e
      rw [this]; rfl
  · rename_i l
    by_cases hz : l.all flatB = true ∧ l.length ≤ 16777216
    · rw [if_pos hz] at h; cases h
      obtain ⟨a, vs, n, rfl, ha, ho, hr⟩ := Rep.lst_inv r
      have hne : a ≠ s.heap.objs.size := fun e => absurd (lt_of ho) (e ▸ Nat.lt_irrefl _)
      refine wpAny_pyIter_list (isList_of ho) (hQ _ _ (H.push ok _) (fun _ _ e => Heap.get?_push_of_some _ e) ?_ hI)
      have W := Walks.list (prog := C.W.prog) (w := C.W.w) (A := C.A) (handled_none ok) s.heap.objs.size a hne vs.toArray
      rw [show vs.toArray.size = ps.length by rw [List.size_toArray, hr.length]] at W
      refine ⟨_, _, _, _, rfl, W, ⟨⟨_, Heap.get?_push_size _ rfl, rfl, rfl⟩, (isList_of ho).push _⟩, size_none _, fun b hb => ?_, fun i h st => ?_, fun i v hv => ?_⟩
      · cases hb with
        | head => exact .inl rfl
        | tail _ hb =>
          rw [List.mem_singleton.mp hb]
          exact .inr ⟨ha, _, Heap.get?_push_of_some _ ho⟩
      · obtain ⟨⟨o, e, _, q⟩, _⟩ := st
        exact ⟨o, e, _, q⟩
      · have hv' : vs[i]? = some v := by simpa using hv
        obtain ⟨hlt, _⟩ := List.getElem?_eq_some_iff.mp hv'
        rw [hr.length] at hlt
        obtain ⟨v', e, rv⟩ := hr.get (List.getElem?_eq_getElem hlt)
        rw [hv'] at e; cases e
        exact ⟨_, List.getElem?_eq_getElem hlt, fun d X h => flat_rep (List.all_eq_true.mp hz.1 _ (List.getElem_mem hlt)) rv⟩
    · rw [if_neg hz] at h; cases h
  · cases h
theorem Run1.for (ok : C.Ok) (hLN : C.N = C.L) {x : Str} (i : Nat) {px pos : Pos} {iter : Expr} {body : List Stmt} {f : EF} {g : SF} (hf : EvD C iter f) (hg : Runs C body g) (hi : C.xs[i]? = some x) (hs : ∀ x, foldedSetIterable iter C.env x = pure x := by intro _; rfl) : Run1 C (.For (.Name x px) iter body [] pos) (forF i f g) := fun σ oa s Q E out h H hQ => by
  unfold forF at h
  split at h
  · rename_i a d q
    split at h
    · rename_i p qs
      split at h
      · rename_i l ql
        refine wpAny_For (hf σ oa s _ _ a d q H fun v s₁ H₁ k₁ r => iter_at ok H₁ (r.strong qs) ql fun it s₂ H₂ k₂ hit hI => ?_) hs
        obtain ⟨I, fp, P, St, e1, e2, e3, e4, e5⟩ := hit
        refine codeAny_mono (for_core ok hLN i hg hi (s₀ := s) (Mv.of (k₁.trans (KQ.of k₂))) ⟨I, fp, P, St, e1, e2, e3, ?_, e5⟩ h H₂ hI H.fr (E := cameBackBy C.M C.A C.env E) hQ) fun r s' z => ?_
        · cases q0 : s.heap.get? I with
          | none => rfl
          | some o =>
            have := k₁.keep I o (fun hd => hI I e1 (sub_Q ok hd)) q0
            rw [e4] at this; cases this
        · cases r with
          | ok f => exact z
          | error e => exact z
      · cases h
    · cases h
  · cases h
theorem Run1.forR (ok : C.Ok) (hLN : C.N = C.L) {x : Str} (i : Nat) {px pos pp cpos : Pos} {e : Expr} {body : List Stmt} {f : EF} {g : SF} (hf : EvD C e f) (hg : Runs C body g) (hi : C.xs[i]? = some x)
    (hgl : nsIn C.W.K mainGlobals "range" = some none) (hk : C.env.kindOf "range" = some .globalImplicit) (hv : bootBuiltins "range" = some (.type "range")) (hst : starEach [e] C.env = (false, eval e C.env) :: starEach [] C.env := by rfl) : Run1 C (.For (.Name x px) (.Call (.Name "range" pp) [e] [] cpos) body [] pos) (rangeF i f g) := fun σ oa s Q E out h H hQ => by
  unfold rangeF at h
  split at h
  · rename_i n d q
    by_cases hz : 0 ≤ n ∧ n < 1000000
    · rw [if_pos hz] at h
      refine wpAny_For (Call_Name rfl (builtin_at ok hgl hv (by decide) hk (by decide) ⟨σ, oa, H⟩ (PyProof.Rows.callWith_type1 (one_arg hst (hf σ oa s _ _ _ d q H fun v s₁ H₁ k₁ r => ?_)) hst rfl))) (by intro _; rfl)
      obtain ⟨tk, rfl⟩ := Rep.int_inv r
      refine call_range_1 ?_
      have H₂ := H₁.push (k := s₁.toks + 1 + 1) ok { cls := .type "range", data := .fields #[.int 0 s₁.toks, .int n tk, .int 1 (s₁.toks + 1)] }
      have k2 : KQ C s₁.heap (s₁.heap.push { cls := .type "range", data := .fields #[.int 0 s₁.toks, .int n tk, .int 1 (s₁.toks + 1)] }) := KQ.push _ _
      have hr := IsRange.new s₁.heap 0 n 1 s₁.toks tk (s₁.toks + 1)
      generalize hh : s₁.heap.push { cls := .type "range", data := .fields #[.int 0 s₁.toks, .int n tk, .int 1 (s₁.toks + 1)] } = h2 at *
      refine wpAny_pyIter_range hr ?_ ?_
      · unfold Builtin.Range.small
        rw [rangeSize_nat]
        simp [Builtin.Range.rangeFitsLong]
        omega
      have W := Walks.range (prog := C.W.prog) (w := C.W.w) (A := C.A) (handled_none ok) h2.objs.size 0 1 n.toNat
      have W := W.bound
      have hlen : ((List.range n.toNat).map fun (k : Nat) => PV.int (k : Int)).length = n.toNat := by simp
      rw [← hlen] at W
      have e0 : s.heap.get? h2.objs.size = none := by
        cases q0 : s.heap.get? h2.objs.size with
        | none => rfl
        | some o =>
          have := (k₁.trans k2).keep _ o (fun hd => H₂.size_out (sub_Q ok hd)) q0
          rw [size_none] at this; cases this
      refine codeAny_mono (for_core ok hLN i hg hi (s₀ := s) (Mv.of ((k₁.trans k2).trans (KQ.push _ _))) ⟨_, _, _, _, rfl, W, ?_, e0, fun b hb => .inl (List.mem_singleton.mp hb), fun i h st => ⟨_, st, _, rfl⟩, fun i v hv => ?_⟩ h (H₂.push ok _) (fun I e => by cases e; exact H₂.size_out) H.fr (E := cameBackBy C.M C.A C.env E) hQ) fun r s' z => ?_
      · have e1 : (0 : Int) + ((0 : Nat) : Int) * 1 = 0 := by simp
        have e2 : ((((List.range n.toNat).map fun (k : Nat) => PV.int (k : Int)).length : Nat) : Int) - ((0 : Nat) : Int) = Builtin.Range.rangeSize 0 n 1 := by
          rw [hlen, rangeSize_nat, Int.sub_zero]; simp
        rw [e1, e2]
        exact Heap.get?_push_size _ rfl
      · obtain ⟨hlt, t, rfl⟩ := hv
        rw [hlen] at hlt
        refine ⟨.int (i : Int), ?_, fun _ _ _ => ?_⟩
        · rw [List.getElem?_map, List.getElem?_range hlt]; rfl
        · rw [show (0 : Int) + (i : Int) * 1 = i by omega]; exact .int _ _
      · cases r with
        | ok f => exact z
        | error e => exact z
    · rw [if_neg hz] at h; cases h
  · cases h
end
end Mine

namespace Mine
/-! comprehensions -/
noncomputable def itemsK : PV → Option (List PV)
  | .bytes x => if x.length ≤ 16777216 then some (x.map fun c => .int (c.toNat : Int)) else none
  | .lst l => if l.length ≤ 16777216 then some l else none
  | .str x => if x.cps.size ≤ 16777216 then some (x.cps.toList.map fun c => .str ⟨#[c]⟩) else none
  | _ => none
noncomputable abbrev cSt (p : PV) (d : DS) : St := ⟨[some p], none, d⟩
noncomputable def compK (t : TF) (e : EF) : List PV → DS → Option (List PV × DS)
  | [], d => some ([], d)
  | p :: l, d => match t (cSt p d) with
    | some (true, d) => (match e (cSt p d) with
      | some (.st q, d) => (match compK t e l d with | some (r, d) => some (q :: r, d) | none => none)
      | _ => none)
    | some (false, d) => compK t e l d
    | none => none
noncomputable def compF (f : EF) (t : TF) (e : EF) : EF := fun σ => match f σ with
  | some (a, d) => (match itemsK a.pv with
    | some ps => (match compK t e ps d with | some (r, d) => some (.fr r, d) | none => none)
    | none => none)
  | none => none
noncomputable abbrev Cx.wide (C : Cx) (As : List Addr) : Cx := { C with Xs := As ++ C.Xs }
noncomputable abbrev Cx.comp (C : Cx) (scope : Scope) (x : Str) (I : Addr) : Cx := { C with env := compEnvC scope [] (I + 2) C.env, N := I + 2, Xs := (I + 1) :: I :: C.Xs, xs := [x] }
structure CompOf (C : Cx) (scope : Scope) (x : Str) (C' : Cx) : Prop where
  ex : ∃ I, C' = C.comp scope x I
  ok : C'.Ok
  fs : FsOk C → FsOk C'
inductive TestsD (C : Cx) : List Expr → TF → Prop
  | none : TestsD C [] (bF true)
  | one {e : Expr} {t : TF} (h : TeD C e t) : TestsD C [e] t
/-- what the walk over the items of a comprehension needs -/
structure IterK (C : Cx) (oa : List Addr) (h₁ h₂ : Heap) (ps : List PV) : Prop where
  ex : ∃ fp P St, Walks C.W.prog C.W.w C.A h₁.objs.size fp [h₁.objs.size] ps.length P St ∧ St 0 h₂ ∧ (∀ b ∈ fp, b = h₁.objs.size ∨ b ∉ C.X' ∧ ∃ o, h₁.get? b = some o) ∧
    (∀ i h, St i h → ∃ o, h.get? h₁.objs.size = some o) ∧ ∀ i v, P i v → ∃ p, ps[i]? = some p ∧ Rep C.d (oa ++ C.X') h₁ v p
section
variable {C : Cx} {σ : St} {oa : List Addr}
theorem Cx.Ok.wide (ok : C.Ok) (As : List Addr) : (C.wide As).Ok := { ok with
  fsub := fun a ha => by
    cases ok.fsub a ha with
    | head => exact .head _
    | tail _ h => cases h with
      | head => exact .tail _ (.head _)
      | tail _ h => exact .tail _ (.tail _ (List.mem_append_right _ h))
  dsub := fun a ha => List.mem_append_right _ (ok.dsub a ha) }
theorem KQ.wide {As : List Addr} {h h' : Heap} (k : KQ C h h') : KQ (C.wide As) h h' := ⟨k.keep, k.ln⟩
theorem lt_push (h : Heap) (o : Obj) : h.objs.size < (h.push o).objs.size := by rw [Heap.size_push]; exact Nat.lt_succ_self _
/-- new things are in nothing that the frame knew -/
theorem Here.wide (ok : C.Ok) {s : Shared} (H : Here C σ oa s) {As : List Addr} {h' : Heap} {k : Nat} (hk : ∀ b o, s.heap.get? b = some o → h'.get? b = some o) (h0 : ∀ a ∈ As, s.heap.get? a = none) (h1 : ∀ a ∈ As, ∃ o, h'.get? a = some o) : Here (C.wide As) σ oa { s with heap := h', toks := k } := by
  have H' := H.grow (k := k) ok hk
  obtain ⟨n, hn, hv, ho⟩ := H.ns
  have sub : ∀ a, a ∈ oa ++ C.X' → a ∈ oa ++ (C.wide As).X' := fun a ha => by
    rcases List.mem_append.mp ha with h | h
    · exact List.mem_append_left _ h
    · refine List.mem_append_right _ ?_
      cases h with
      | head => exact .head _
      | tail _ h => cases h with
        | head => exact .tail _ (.head _)
        | tail _ h => exact .tail _ (.tail _ (List.mem_append_right _ h))
  have sup : ∀ a, a ∈ oa ++ (C.wide As).X' → a ∈ As ∨ a ∈ oa ++ C.X' := fun a ha => by
    rcases List.mem_append.mp ha with h | h
    · exact .inr (List.mem_append_left _ h)
    · cases h with
      | head => exact .inr (List.mem_append_right _ (.head _))
      | tail _ h => cases h with
        | head => exact .inr (List.mem_append_right _ (.tail _ (.head _)))
        | tail _ h => exact (List.mem_append.mp h).elim .inl fun h => .inr (List.mem_append_right _ (.tail _ (.tail _ h)))
  have hs : ∀ b o, s.heap.get? b = some o → b ∉ oa ++ C.X' → b ∉ oa ++ (C.wide As).X' := fun b o e hb hc => (sup b hc).elim (fun h => by rw [h0 b h] at e; cases e) hb
  refine ⟨H'.gens, H'.drawn, H'.os, H'.deck, H'.fr, fun a ha => (sup a ha).elim (h1 a) (H'.al a), ⟨n, Ns.kb hn fun o e => hk _ o e, fun i x p e1 e2 => ?_, fun i l e => ?_⟩, H'.fs, fun a ha => ⟨fun h => ?_, (H.oaX a ha).2⟩⟩
  · obtain ⟨v, e, r⟩ := hv i x p e1 e2
    exact ⟨v, e, r.mono (KB.of hk) hs⟩
  · obtain ⟨x, a, vs, k, e1, e2, e3, e4, e5⟩ := ho i l e
    exact ⟨x, a, vs, k, e1, e2, e3, hk _ _ e4, e5.mono (KB.of hk) hs⟩
  · obtain ⟨o, e⟩ := H.al a (List.mem_append_left _ ha)
    refine hs a o e (fun z => ?_) (List.mem_append_right _ h)
    cases h with
    | head => exact (H.oaX _ ha).1 (.head _)
    | tail _ h => cases h with
      | head => exact (H.oaX _ ha).1 (.tail _ (.head _))
      | tail _ h => exact (List.mem_append.mp h).elim (fun h => by rw [h0 _ h] at e; cases e) fun h => (H.oaX _ ha).1 (.tail _ (.tail _ h))
theorem Here.narrow' {As Bs : List Addr} (hs : ∀ a ∈ Bs, a ∈ As) {s : Shared} (H : Here (C.wide As) σ oa s) : Here (C.wide Bs) σ oa s := by
  have sub : ∀ a, a ∈ (C.wide Bs).X' → a ∈ (C.wide As).X' := fun a h => by
    cases h with
    | head => exact .head _
    | tail _ h => cases h with
      | head => exact .tail _ (.head _)
      | tail _ h => exact .tail _ (.tail _ ((List.mem_append.mp h).elim (fun h => List.mem_append_left _ (hs a h)) fun h => List.mem_append_right _ h))
  have sub' : ∀ a, a ∈ oa ++ (C.wide Bs).X' → a ∈ oa ++ (C.wide As).X' := fun a ha => (List.mem_append.mp ha).elim (List.mem_append_left _) fun h => List.mem_append_right _ (sub a h)
  obtain ⟨n, hn, hv, ho⟩ := H.ns
  refine ⟨H.gens, H.drawn, H.os, H.deck, H.fr, fun a ha => H.al a (sub' a ha), ⟨n, hn, fun i x p e1 e2 => ?_, fun i l e => ?_⟩, H.fs, fun a ha => ⟨fun h => (H.oaX a ha).1 (sub a h), (H.oaX a ha).2⟩⟩
  · obtain ⟨v, e, r⟩ := hv i x p e1 e2
    exact ⟨v, e, r.less sub'⟩
  · obtain ⟨x, a, vs, k, e1, e2, e3, e4, e5⟩ := ho i l e
    exact ⟨x, a, vs, k, e1, e2, e3, e4, e5.less sub'⟩
theorem Here.narrow {As : List Addr} {s : Shared} (H : Here (C.wide As) σ oa s) : Here C σ oa s := Here.narrow' (Bs := []) (fun _ h => nomatch h) H
/-- a step that changes one thing of the footprint -/
theorem Here.poke {a : Addr} {s : Shared} (H : Here C σ oa s) (aX : a ∈ C.X') (aL : a ≠ C.L) (aN : a ≠ C.N) (aQ : a ∉ C.D ++ C.Fs) (a0 : C.h₀.get? a = none) {h' : Heap} {k : Nat} (hk : ∀ b o, b ≠ a → s.heap.get? b = some o → h'.get? b = some o) (h1 : ∃ o, h'.get? a = some o) : Here C σ oa { s with heap := h', toks := k } := by
  have kb : KB (oa ++ C.X') s.heap h' := fun b o hb e => hk b o (fun q => hb (q ▸ List.mem_append_right _ aX)) e
  have ne : ∀ b, b ∈ C.D ++ C.Fs → b ≠ a := fun b hb q => aQ (q ▸ hb)
  obtain ⟨m, F⟩ := H.fr
  obtain ⟨n, hn, hv, ho⟩ := H.ns
  refine ⟨H.gens, H.drawn, H.os, H.deck.kb fun b hb o e => hk b o (ne b (List.mem_append_left _ hb)) e, ⟨m, Ns.kb F.ns fun o e => hk _ o (Ne.symm aL) e, fun b o e => hk b o (fun q => by rw [q, a0] at e; cases e) (F.keep b o e), F.above⟩, fun b hb => ?_, ⟨n, Ns.kb hn fun o e => hk _ o (Ne.symm aN) e, fun i x p e1 e2 => ?_, fun i l e => ?_⟩, fun b hb hl => ?_, H.oaX⟩
  · by_cases q : b = a
    · exact q ▸ h1
    · obtain ⟨o, e⟩ := H.al b hb
      exact ⟨o, hk b o q e⟩
  · obtain ⟨v, e, r⟩ := hv i x p e1 e2
    exact ⟨v, e, r.kb kb⟩
  · obtain ⟨x, b, vs, k, e1, e2, e3, e4, e5⟩ := ho i l e
    exact ⟨x, b, vs, k, e1, e2, e3, hk _ _ (fun q => (H.oaX b e3).1 (q ▸ aX)) e4, e5.kb kb⟩
  · obtain ⟨sl, e⟩ := H.fs b hb hl
    exact ⟨sl, hk _ _ (ne b (List.mem_append_right _ hb)) e⟩
/-- a step that changes a thing of the wider footprint, which is then let go -/
theorem Here.pokeN {As : List Addr} {a : Addr} {s : Shared} (H : Here (C.wide As) σ oa s) (hA : a ∈ As) (aX : a ∉ C.X') (aQ : a ∉ C.D ++ C.Fs) (a0 : C.h₀.get? a = none) {h' : Heap} {k : Nat} (hk : ∀ b o, b ≠ a → s.heap.get? b = some o → h'.get? b = some o) : Here C σ oa { s with heap := h', toks := k } := by
  have aX' : a ∈ (C.wide As).X' := .tail _ (.tail _ (List.mem_append_left _ hA))
  have kb : KB (oa ++ (C.wide As).X') s.heap h' := fun b o hb e => hk b o (fun q => hb (q ▸ List.mem_append_right _ aX')) e
  have ne : ∀ b, b ∈ C.D ++ C.Fs → b ≠ a := fun b hb q => aQ (q ▸ hb)
  have H' := H.narrow
  have sub : ∀ b, b ∈ oa ++ C.X' → b ∈ oa ++ (C.wide As).X' := fun b ha => (List.mem_append.mp ha).elim (List.mem_append_left _) fun h => List.mem_append_right _ (by
    cases h with
    | head => exact .head _
    | tail _ h => cases h with
      | head => exact .tail _ (.head _)
      | tail _ h => exact .tail _ (.tail _ (List.mem_append_right _ h)))
  obtain ⟨m, F⟩ := H.fr
  obtain ⟨n, hn, hv, ho⟩ := H.ns
  refine ⟨H.gens, H.drawn, H.os, H.deck.kb fun b hb o e => hk b o (ne b (List.mem_append_left _ hb)) e, ⟨m, Ns.kb F.ns fun o e => hk _ o (fun q => aX (q ▸ .head _)) e, fun b o e => hk b o (fun q => by rw [q, a0] at e; cases e) (F.keep b o e), F.above⟩, fun b hb => ?_, ⟨n, Ns.kb hn fun o e => hk _ o (fun q => aX (q ▸ .tail _ (.head _))) e, fun i x p e1 e2 => ?_, fun i l e => ?_⟩, fun b hb hl => ?_, H'.oaX⟩
  · obtain ⟨o, e⟩ := H.al b (sub b hb)
    refine ⟨o, hk b o (fun q => ?_) e⟩
    subst q
    exact (List.mem_append.mp hb).elim (fun h => (H.oaX _ h).1 aX') aX
  · obtain ⟨v, e, r⟩ := hv i x p e1 e2
    exact ⟨v, e, (r.kb kb).less sub⟩
  · obtain ⟨x, b, vs, k, e1, e2, e3, e4, e5⟩ := ho i l e
    exact ⟨x, b, vs, k, e1, e2, e3, hk _ _ (fun q => (H.oaX b e3).1 (q ▸ aX')) e4, (e5.kb kb).less sub⟩
  · obtain ⟨sl, e⟩ := H.fs b hb hl
    exact ⟨sl, hk _ _ (ne b (List.mem_append_right _ hb)) e⟩
theorem KQ.but {h₁ h h' : Heap} (k : KQ C h₁ h) {a : Addr} (a1 : h₁.get? a = none) (aL : a ≠ C.L) (hk : ∀ b o, b ≠ a → h.get? b = some o → h'.get? b = some o) : KQ C h₁ h' :=
  ⟨fun b o hb e => hk b o (fun q => by rw [q, a1] at e; cases e) (k.keep b o hb e), fun n e => Ns.kb (k.ln n e) fun o e => hk _ o (Ne.symm aL) e⟩
theorem comp_ok (ok : C.Ok) (hLN : C.N = C.L) {scope : Scope} {x : Str} (hkind : scope.kind = .function) (hx : scope.names.lookup x = some .local) (hxd : (x == ("__debug__" : Str)) = false) {s : Shared} (H : Here C σ oa s) : CompOf C scope x (C.comp scope x s.heap.objs.size) := by
  have fresh : ∀ a, s.heap.objs.size ≤ a → ∀ o, s.heap.get? a ≠ some o := fun a ha o e => absurd (lt_of e) (Nat.not_lt.mpr ha)
  have hxk : (compEnvC scope [] (s.heap.objs.size + 2) C.env).kindOf x = some .local := lookup_relabel_local hx
  have out : ∀ a, s.heap.objs.size ≤ a → a ∉ oa ++ C.X' := fun a ha h => by
    obtain ⟨o, e⟩ := H.al a h
    exact fresh a ha o e
  refine ⟨⟨_, rfl⟩, { ok with
    fsub := fun a ha => ?_
    eN := rfl
    eK := hkind
    eI := ?_
    dfree := fun a ha => ⟨(ok.dfree a ha).1, fun q => out a ((show a = s.heap.objs.size + 2 from q) ▸ Nat.le_add_right _ 2) (sub_X' ok ha), (ok.dfree a ha).2.2⟩
    dsub := fun a ha => .tail _ (.tail _ (ok.dsub a ha))
    xk := fun i y hy => ?_
    xd := List.nodup_cons.mpr ⟨fun h => (nomatch h), List.nodup_nil⟩
    nl := .inr fun h => out _ (Nat.le_add_right _ 2) (List.mem_append_right _ (ok.fsub _ h)) }, fun f => ⟨f.fs, f.all⟩⟩
  · cases ok.fsub a ha with
    | head => exact .head _
    | tail _ h => cases h with
      | head => rw [hLN]; exact .head _
      | tail _ h => exact .tail _ (.tail _ (.tail _ (.tail _ h)))
  · show (scope.kind == .module && _) = false
    rw [hkind]; rfl
  · cases i with
    | zero => cases hy; exact ⟨hxk, hxd⟩
    | succ i => cases hy
theorem Here.comp (hLN : C.N = C.L) {scope : Scope} {x : Str} {I : Addr} {s : Shared} (H : Here (C.wide [I, I + 2, I + 1]) σ oa s) {m : Str → Option Value} (hn : s.heap.Ns (I + 2) m) {v : Value} {p : PV} (hm : m x = some v) (r : Rep C.d (oa ++ (C.wide [I, I + 2, I + 1]).X') s.heap v p) : Here (C.comp scope x I) (cSt p σ.dk) oa s := by
  have sub : ∀ a, a ∈ (C.comp scope x I).X' → a ∈ (C.wide [I, I + 2, I + 1]).X' := fun a h => by
    rcases List.mem_cons.mp h with rfl | h
    · exact .head _
    rcases List.mem_cons.mp h with rfl | h
    · exact .tail _ (.tail _ (.tail _ (.head _)))
    rcases List.mem_cons.mp h with rfl | h
    · exact .tail _ (.tail _ (.tail _ (.tail _ (.head _))))
    rcases List.mem_cons.mp h with rfl | h
    · exact .tail _ (.tail _ (.head _))
    · exact .tail _ (.tail _ (.tail _ (.tail _ (.tail _ h))))
  have sub' : ∀ a, a ∈ oa ++ (C.comp scope x I).X' → a ∈ oa ++ (C.wide [I, I + 2, I + 1]).X' := fun a ha => (List.mem_append.mp ha).elim (List.mem_append_left _) fun h => List.mem_append_right _ (sub a h)
  refine ⟨H.gens, H.drawn, H.os, H.deck, H.fr, fun a ha => H.al a (sub' a ha), ⟨m, hn, fun i y q e1 e2 => ?_, fun i l e => nomatch e⟩, H.fs, fun a ha => ⟨fun h => (H.oaX a ha).1 (sub a h), (H.oaX a ha).2⟩⟩
  cases i with
  | zero => cases e1; cases e2; exact ⟨v, hm, r.less sub'⟩
  | succ i => cases e1
theorem Here.back (ok : C.Ok) {As : List Addr} {s s' : Shared} (H : Here (C.wide As) σ oa s) {C' : Cx} {σ' : St} {oa' : List Addr} (H' : Here C' σ' oa' s') (k : KQ C s.heap s'.heap) (hW : C'.W = C.W) (hd : C'.d = C.d) (hD : C'.D = C.D) (hF : C'.Fs = C.Fs) (hL : C'.L = C.L) (hf : C'.fo = C.fo) (e1 : C'.gens = C.gens) (e2 : C'.drawn = C.drawn) (e3 : C'.os = C.os) : Here (C.wide As) (σ.setD σ'.dk) oa s' := by
  have A := H.after (d := σ'.dk) (k := s'.toks) (ok.wide As) (h' := s'.heap) ⟨k.keep, k.ln⟩ (fun b hb hl => by have := H'.fs b (hF ▸ hb) (hL ▸ hl); rw [hf] at this; exact this) (by have := H'.deck; rw [hW, hd, hD] at this; exact this)
  exact ⟨e1 ▸ H'.gens, e2 ▸ H'.drawn, e3 ▸ H'.os, A.deck, A.fr, A.al, A.ns, A.fs, A.oaX⟩
theorem TestsD.run {ifs : List Expr} {t : TF} (h : TestsD C ifs t) {s : Shared} {b : Bool} {d : DS} {Q : Bool → Shared → Prop} {E : Value → Shared → Prop} (q : t σ = some (b, d)) (H : Here C σ oa s) (hQ : ∀ s', Here C (σ.setD d) oa s' → KQ C s.heap s'.heap → Q b s') : wpAny C.M C.A (forIn ifs true fun c r => if r = true then do let ok ← isTrue c C.env (eval c C.env); pure (ForInStep.yield ok) else pure (ForInStep.yield r)) Q E s := by
  cases h with
  | none => cases q; exact wpAny_tests_nil (hQ s H (KQ.refl _))
  | one h => exact wpAny_tests_one (h σ oa s Q E b d q H hQ)
/-- where the block's loop stands -/
structure CompAt (C : Cx) (σ : St) (oa : List Addr) (I : Addr) (h₁ : Heap) (t : TF) (e : EF) (ps : List PV) (St : Nat → Heap → Prop) (out : List PV × DS) (j : Nat) (d : DS) (s : Shared) : Prop where
  le : j ≤ ps.length
  h : Here (C.wide [I, I + 2, I + 1]) (σ.setD d) oa s
  k : KQ C h₁ s.heap
  st : St j s.heap
  n : ∃ m, s.heap.Ns (I + 2) m
  r : ∃ ys n qs r, s.heap.get? (I + 1) = some (lstO ys n) ∧ Reps C.d (oa ++ (C.wide [I, I + 2, I + 1]).X') s.heap ys qs ∧ ys.length ≤ j ∧ compK t e (ps.drop j) d = some (r, out.2) ∧ qs ++ r = out.1
theorem comp_core (ok : C.Ok) (hLN : C.N = C.L) {elt iter : Expr} {x : Str} {px : Pos} {ifs : List Expr} {scope : Scope} {pos : Pos} {t : TF} {e : EF} (ht : ∀ C', CompOf C scope x C' → TestsD C' ifs t) (he : ∀ C', CompOf C scope x C' → EvD C' elt e)
    (hcell : ∀ y ∈ scope.names, y.2 ≠ .cell) (hkind : scope.kind = .function) (hx : scope.names.lookup x = some .local) (hxd : (x == ("__debug__" : Str)) = false)
    {s₁ : Shared} (H₁ : Here C σ oa s₁) {o : Obj} {ps r : List PV} {d' : DS} (hit : IterK C oa s₁.heap (s₁.heap.push o) ps) (hlen : ps.length ≤ sizeLine) (q3 : compK t e ps σ.dk = some (r, d')) {RR : Value → Addr → Result → Shared → Prop} {E : Value → Shared → Prop}
    (hRR : ∀ s' m ys n, Here (C.wide [s₁.heap.objs.size + 2, s₁.heap.objs.size + 1]) (σ.setD d') oa s' → KQ C s₁.heap s'.heap → s'.heap.Ns (s₁.heap.objs.size + 2) m → s'.heap.get? (s₁.heap.objs.size + 1) = some (lstO ys n) → Reps C.d (oa ++ (C.wide [s₁.heap.objs.size + 2, s₁.heap.objs.size + 1]).X') s'.heap ys r → RR (.ref (s₁.heap.objs.size + 1)) (s₁.heap.objs.size + 2) (.ok .next) s') :
    wpAny C.M C.A (newList []) (fun acc s₃ => wpAny C.M C.A (newFunctionEnv scope C.env.globals [] [] C.env.qual none .none (some C.env)) (fun cenv s₄ =>
      codeAny C.M C.A (.compStart (.ListComp elt [⟨.Name x px, iter, ifs, 0⟩] scope pos) 0 (.ref s₁.heap.objs.size) acc { cenv with scope := relabel scope C.env }) (RR acc cenv.locals) s₄) E s₃) E { s₁ with heap := s₁.heap.push o } := by
  refine Classical.byContradiction fun hG => ?_
  obtain ⟨fp, P, St, W, st0, hfp, hSt, hP⟩ := hit
  have hCO := comp_ok ok hLN hkind hx hxd H₁
  have fresh : ∀ a, s₁.heap.objs.size ≤ a → s₁.heap.get? a = none := fun a ha => by
    cases e : s₁.heap.get? a with
    | none => rfl
    | some o' => exact absurd (Heap.lt_size e) (Nat.not_lt.mpr ha)
  have dead : ∀ a, s₁.heap.objs.size ≤ a → a ∉ oa ++ C.X' := fun a ha h => by
    obtain ⟨o, q⟩ := H₁.al a h
    rw [fresh a ha] at q; cases q
  have f0 : ∀ a, s₁.heap.objs.size ≤ a → C.h₀.get? a = none := fun a ha => fresh₀ H₁.fr (fresh a ha)
  have aL : ∀ a, s₁.heap.objs.size ≤ a → a ≠ C.L := fun a ha q => dead a ha (List.mem_append_right _ (q ▸ .head _))
  have aN : ∀ a, s₁.heap.objs.size ≤ a → a ≠ C.N := fun a ha q => dead a ha (List.mem_append_right _ (q ▸ .tail _ (.head _)))
  have aQ : ∀ a, s₁.heap.objs.size ≤ a → a ∉ C.D ++ C.Fs := fun a ha h => dead a ha (sub_Q ok h)
  refine hG (wpAny_newObj_type (wpAny_newFunctionEnv hcell (by intro y hy; simp at hy) (fun h₁ hns₁ hsb₁ => ?_) hkind))
  clear hG
  dsimp only at hns₁ hsb₁ ⊢
  generalize hI : s₁.heap.objs.size = I at *
  have z1 : (s₁.heap.push o).objs.size = I + 1 := by rw [Heap.size_push, hI]
  have z2 : ((s₁.heap.push o).push { cls := .type "list", dict := none, data := .seq ([] : List Value).toArray }).objs.size = I + 2 := by rw [Heap.size_push, z1]
  rw [z2] at hns₁ hsb₁ ⊢
  rw [z1]
  generalize hH2 : (s₁.heap.push o).push { cls := .type "list", dict := none, data := .seq ([] : List Value).toArray } = H2 at hns₁ hsb₁ z2 ⊢
  have oldP : ∀ b o', (s₁.heap.push o).get? b = some o' → h₁.get? b = some o' := fun b o' e => by
    have : b < I + 1 := z1 ▸ Heap.lt_size e
    exact hsb₁.extBut b o' (Nat.ne_of_lt (Nat.lt_succ_of_lt this)) (Heap.get?_push_of_some _ (hH2 ▸ Heap.get?_push_of_some _ e))
  have old : ∀ b o', s₁.heap.get? b = some o' → h₁.get? b = some o' := fun b o' e => oldP b o' (Heap.get?_push_of_some _ e)
  have eD : h₁.get? (I + 1) = some (lstO [] 0) := hsb₁.extBut _ _ (Nat.ne_of_lt (Nat.lt_succ_self _)) (Heap.get?_push_of_some _ (by rw [← hH2, ← z1]; exact Heap.get?_push_size _ rfl))
  have st1 : St 0 h₁ := W.frame _ _ _ st0 fun b _ o' e => oldP b o' e
  have le1 : I ≤ I + 1 := Nat.le_succ _
  have le2 : I ≤ I + 2 := Nat.le_add_right _ 2
  have HW : Here (C.wide [I, I + 2, I + 1]) (σ.setD σ.dk) oa { s₁ with heap := h₁, toks := s₁.toks + ([] : List (Str × Value)).length } := by
    refine H₁.wide ok old (fun a ha => ?_) fun a ha => ?_
    all_goals
      rcases List.mem_cons.mp ha with h | ha
      · subst h
        first
        | exact fresh _ (Nat.le_refl _)
        | exact hSt _ _ st1
      rcases List.mem_cons.mp ha with rfl | ha
      · first
        | exact fresh _ le2
        | (obtain ⟨o', _, _, e', _⟩ := hns₁; exact ⟨o', e'⟩)
      obtain rfl := List.mem_singleton.mp ha
      first
      | exact fresh _ le1
      | exact ⟨_, eD⟩
  have ne1 : I + 1 ≠ I := Nat.succ_ne_self _
  have ne2 : I + 2 ≠ I := by omega
  have ne12 : I + 2 ≠ I + 1 := Nat.succ_ne_self _
  have mC : I + 2 ∈ (C.wide [I, I + 2, I + 1]).X' := .tail _ (.tail _ (.tail _ (.head _)))
  have mD : I + 1 ∈ (C.wide [I, I + 2, I + 1]).X' := .tail _ (.tail _ (.tail _ (.tail _ (.head _))))
  have mI : I ∈ (C.wide [I, I + 2, I + 1]).X' := .tail _ (.tail _ (.head _))
  have fpn : ∀ b ∈ fp, b ≠ I + 1 ∧ b ≠ I + 2 ∧ b ∉ C.D ++ C.Fs := fun b hb => by
    rcases hfp b hb with rfl | ⟨h2, o', e'⟩
    · exact ⟨Ne.symm ne1, Ne.symm ne2, aQ _ (Nat.le_refl _)⟩
    · refine ⟨fun q => ?_, fun q => ?_, fun z => h2 ?_⟩
      · rw [q, fresh _ le1] at e'; cases e'
      · rw [q, fresh _ le2] at e'; cases e'
      · exact (List.mem_append.mp z).elim (fun z => .tail _ (.tail _ (ok.dsub _ z))) (ok.fsub _)
  have loop : ∀ s₃ : Shared, s₃ = { s₁ with heap := h₁, toks := s₁.toks + ([] : List (Str × Value)).length } →
      codeAny C.M C.A (.compLoop (.ListComp elt [⟨.Name x px, iter, ifs, 0⟩] scope pos) 0 (.ref I) (.ref (I + 1)) (compEnvC scope [] (I + 2) C.env)) (RR (.ref (I + 1)) (I + 2)) s₃ := by
    intro s₃ hs₃
    refine codeAny_compLoop_tests (fun k s => ∃ j d, k = ps.length - j ∧ CompAt C σ oa I s₁.heap t e ps St (r, d') j d s) (fun k s hJ => ?_) ps.length
      ⟨0, σ.dk, rfl, Nat.zero_le _, hs₃ ▸ HW, hs₃ ▸ KQ.of old, hs₃ ▸ st1, hs₃ ▸ ⟨_, hns₁⟩, [], 0, [], r, hs₃ ▸ eD, .nil, Nat.le_refl _, q3, rfl⟩
    refine Classical.byContradiction fun hG => ?_
    obtain ⟨j, d, rfl, A⟩ := hJ
    obtain ⟨ys, n, qs, r', eD', hys, hyl, hK, hr⟩ := A.r
    obtain ⟨m, hn⟩ := A.n
    by_cases hjl : j < ps.length
    · refine hG (W.item j s _ _ hjl A.st fun v h' tk hp st' hk => ?_)
      clear hG
      dsimp only
      have hk' : ∀ b o, b ≠ I → s.heap.get? b = some o → h'.get? b = some o := fun b o hb e => hk b o (fun q => hb (List.mem_singleton.mp q)) e
      have HA := A.h.poke (k := tk) mI (aL _ (Nat.le_refl _)) (aN _ (Nat.le_refl _)) (aQ _ (Nat.le_refl _)) (f0 _ (Nat.le_refl _)) hk' (hSt _ _ st')
      have kA := A.k.but (fresh I (Nat.le_refl _)) (aL _ (Nat.le_refl _)) hk'
      obtain ⟨p, ep, rp⟩ := hP j v hp
      have hd : ps.drop j = p :: ps.drop (j + 1) := by
        rw [List.drop_eq_getElem_cons hjl]
        congr 1
        rw [List.getElem?_eq_getElem hjl] at ep
        exact Option.some.inj ep
      rw [hd] at hK
      refine wpAny_assign_Name (wpAny_storeName_local (lookup_relabel_local hx) (Ns.kb hn fun o e => hk' _ o ne2 e) (fun h₂ hn₂ hs₂ => ?_) (by show (scope.kind == .class || _) = false; rw [show (compEnvC scope [] (I + 2) C.env).scope.kind = scope.kind from rfl, hkind]; rfl))
      have hk2 : ∀ b o, b ≠ I + 2 → h'.get? b = some o → h₂.get? b = some o := fun b o hb e => (hs₂.2 b hb).trans e
      have HB := HA.poke (k := tk + 1) mC (aL _ le2) (aN _ le2) (aQ _ le2) (f0 _ le2) hk2 (by obtain ⟨o', _, _, e', _⟩ := hn₂; exact ⟨o', e'⟩)
      have kB := kA.but (fresh _ le2) (aL _ le2) hk2
      have st2 : St (j + 1) h₂ := W.frame _ _ _ st' fun b hb o e => hk2 b o (fpn b hb).2.1 e
      have rp₂ : Rep C.d (oa ++ (C.wide [I, I + 2, I + 1]).X') h₂ v p := rp.mono (kB.keep.more fun b hb => sub_Q ok hb) fun b o e hb hc => by
        have hb0 : b ∈ [I, I + 2, I + 1] → False := fun h => by
          rcases List.mem_cons.mp h with q | h
          · rw [q, fresh _ (Nat.le_refl _)] at e; cases e
          rcases List.mem_cons.mp h with q | h
          · rw [q, fresh _ le2] at e; cases e
          · rw [List.mem_singleton.mp h, fresh _ le1] at e; cases e
        rcases List.mem_append.mp hc with h | h
        · exact hb (List.mem_append_left _ h)
        · cases h with
          | head => exact hb (List.mem_append_right _ (.head _))
          | tail _ h => cases h with
            | head => exact hb (List.mem_append_right _ (.tail _ (.head _)))
            | tail _ h => exact (List.mem_append.mp h).elim hb0 fun h => hb (List.mem_append_right _ (.tail _ (.tail _ h)))
      have Hc := Here.comp (scope := scope) (x := x) hLN HB hn₂ (if_pos rfl) rp₂
      have eD₂ : h₂.get? (I + 1) = some (lstO ys n) := hk2 _ _ (Ne.symm ne12) (hk' _ _ ne1 eD')
      have hys₂ : Reps C.d (oa ++ (C.wide [I, I + 2, I + 1]).X') h₂ ys qs := hys.kb fun b o hb e => hk2 b o (fun q => hb (by rw [q]; exact List.mem_append_right _ mC)) (hk' b o (fun q => hb (by rw [q]; exact List.mem_append_right _ mI)) e)
      have go : ∀ {sA : Shared} {d₀ : DS} {σ' : Mine.St} {s' : Shared}, Here (C.wide [I, I + 2, I + 1]) (σ.setD d₀) oa sA → Here (C.comp scope x I) σ' oa s' → KQ (C.comp scope x I) sA.heap s'.heap → KQ C s₁.heap sA.heap → St (j + 1) sA.heap → (∃ m, sA.heap.Ns (I + 2) m) → sA.heap.get? (I + 1) = some (lstO ys n) → Reps C.d (oa ++ (C.wide [I, I + 2, I + 1]).X') sA.heap ys qs →
          Here (C.wide [I, I + 2, I + 1]) (σ.setD σ'.dk) oa s' ∧ KQ C s₁.heap s'.heap ∧ St (j + 1) s'.heap ∧ (∃ m, s'.heap.Ns (I + 2) m) ∧ s'.heap.get? (I + 1) = some (lstO ys n) ∧ Reps C.d (oa ++ (C.wide [I, I + 2, I + 1]).X') s'.heap ys qs := fun {sA d₀ σ' s'} HA H' k' kA' stA mA dA rA => by
        have kC : KQ C sA.heap s'.heap := ⟨k'.keep, k'.ln⟩
        refine ⟨?_, kA'.trans kC, W.frame _ _ _ stA fun b hb o e => kC.keep b o (fpn b hb).2.2 e, ?_, kC.keep _ _ (aQ _ le1) dA, rA.kb (kC.keep.more fun b hb => ?_)⟩
        · exact HA.back (σ' := σ') ok H' kC rfl rfl rfl rfl rfl rfl rfl rfl rfl
        · obtain ⟨m, hm⟩ := mA
          exact ⟨m, Ns.kb hm fun o e => kC.keep _ o (aQ _ le2) e⟩
        · exact sub_Q (ok.wide [I, I + 2, I + 1]) hb
      unfold compK at hK
      split at hK
      · rename_i d1 q1
        refine (ht _ hCO).run (C := C.comp scope x I) q1 Hc fun s₃ H₃ k₃ => ?_
        rw [if_pos rfl]
        obtain ⟨g1, g2, g3, g4, g5, g6⟩ := go HB H₃ k₃ kB st2 ⟨_, hn₂⟩ eD₂ hys₂
        split at hK
        · rename_i q d2 q2
          split at hK
          · rename_i r2 d3 q4
            cases hK
            refine he _ hCO _ oa s₃ _ _ _ d2 q2 H₃ fun y s₄ H₄ k₄ ry => ?_
            obtain ⟨g1, g2, g3, g4, g5, g6⟩ := go g1 H₄ k₄ g2 g3 g4 g5 g6
            refine wpAny_list_append_plain ⟨n, g5⟩ (fun h₅ hpl hs₅ => ?_) (by rw [List.size_toArray]; omega)
            have hk5 : ∀ b o, b ≠ I + 1 → s₄.heap.get? b = some o → h₅.get? b = some o := fun b o hb e => (hs₅.2 b hb).trans e
            obtain ⟨n', hpl⟩ := hpl
            rw [List.push_toArray] at hpl
            have kk : KB (oa ++ (C.wide [I, I + 2, I + 1]).X') s₄.heap h₅ := fun b o hb e => hk5 b o (fun q => hb (by rw [q]; exact List.mem_append_right _ mD)) e
            have ry' : Rep C.d (oa ++ (C.wide [I, I + 2, I + 1]).X') s₄.heap y q := Rep.less (fun b hb => by
              rcases List.mem_append.mp hb with h | h
              · exact List.mem_append_left _ h
              · refine List.mem_append_right _ ?_
                rcases List.mem_cons.mp h with rfl | h
                · exact .head _
                rcases List.mem_cons.mp h with rfl | h
                · rw [hLN]; exact .head _
                rcases List.mem_cons.mp h with rfl | h
                · exact .tail _ (.tail _ (.tail _ (.head _)))
                rcases List.mem_cons.mp h with rfl | h
                · exact .tail _ (.head _)
                rcases List.mem_cons.mp h with rfl | h
                · exact .tail _ (.tail _ (.head _))
                · exact .tail _ (.tail _ (.tail _ (.tail _ h)))) ry
            refine ⟨ps.length - (j + 1), by omega, j + 1, d2, rfl, hjl, g1.poke (k := s₄.toks) mD (aL _ le1) (aN _ le1) (aQ _ le1) (f0 _ le1) hk5 ⟨_, hpl⟩, g2.but (fresh _ le1) (aL _ le1) hk5, W.frame _ _ _ g3 fun b hb o e => hk5 b o (fpn b hb).1 e, ?_, ys ++ [y], n', qs ++ [q], r2, hpl, (g6.append (.cons ry' .nil)).kb kk, ?_, q4, by rw [List.append_assoc]; exact hr⟩
            · obtain ⟨m, hm⟩ := g4
              exact ⟨m, Ns.kb hm fun o e => hk5 _ o ne12 e⟩
            · rw [List.length_append]; exact Nat.succ_le_succ hyl
          · cases hK
        · cases hK
      · rename_i d1 q1
        refine (ht _ hCO).run (C := C.comp scope x I) q1 Hc fun s₃ H₃ k₃ => ?_
        rw [if_neg Bool.false_ne_true]
        obtain ⟨g1, g2, g3, g4, g5, g6⟩ := go HB H₃ k₃ kB st2 ⟨_, hn₂⟩ eD₂ hys₂
        exact ⟨ps.length - (j + 1), by omega, j + 1, d1, rfl, hjl, g1, g2, g3, g4, ys, n, qs, r', g5, g6, Nat.le_succ_of_le hyl, hK, hr⟩
      · cases hK
    · have hjl' : j = ps.length := Nat.le_antisymm A.le (Nat.le_of_not_lt hjl)
      subst hjl'
      refine hG (W.done s _ _ A.st fun h' tk hk => ?_)
      clear hG
      dsimp only
      rw [List.drop_length] at hK
      cases hK
      have hk' : ∀ b o, b ≠ I → s.heap.get? b = some o → h'.get? b = some o := fun b o hb e => hk b o (fun q => hb (List.mem_singleton.mp q)) e
      rw [List.append_nil] at hr
      subst hr
      obtain ⟨m, hm⟩ := A.n
      have mI2 : I ∉ (C.wide [I + 2, I + 1]).X' := fun h => by
        rcases List.mem_cons.mp h with q | h
        · exact aL _ (Nat.le_refl _) q
        rcases List.mem_cons.mp h with q | h
        · exact aN _ (Nat.le_refl _) q
        rcases List.mem_cons.mp h with q | h
        · exact ne2 q.symm
        rcases List.mem_cons.mp h with q | h
        · exact ne1 q.symm
        · exact dead I (Nat.le_refl _) (List.mem_append_right _ (.tail _ (.tail _ h)))
      refine hRR _ m ys n ((Here.pokeN (C := C.wide [I + 2, I + 1]) (As := [I]) A.h (.head _) mI2 (aQ _ (Nat.le_refl _)) (f0 _ (Nat.le_refl _)) hk')) (A.k.but (fresh _ (Nat.le_refl _)) (aL _ (Nat.le_refl _)) hk') (Ns.kb hm fun o e => hk' _ o ne2 e) (hk' _ _ ne1 eD') ((hys.kb fun b o hb e => hk' b o (fun q => hb (by rw [q]; exact List.mem_append_right _ mI)) e).less fun b hb => ?_)
      rcases List.mem_append.mp hb with h | h
      · exact List.mem_append_left _ h
      · refine List.mem_append_right _ ?_
        rcases List.mem_cons.mp h with rfl | h
        · exact .head _
        rcases List.mem_cons.mp h with rfl | h
        · exact .tail _ (.head _)
        · exact .tail _ (.tail _ (.tail _ h))
  exact codeAny_compStart_list (loop _ rfl) (W.self 0 _ _ _ st1 (loop _ rfl))
theorem iter_compK (ok : C.Ok) {s : Shared} {v : Value} {p : PV} {ps : List PV} (H : Here C σ oa s) (r : WR C oa s.heap v p) (h : itemsK p = some ps) {Q : Value → Shared → Prop} {E : Value → Shared → Prop}
    (hQ : ∀ o, IterK C oa s.heap (s.heap.push o) ps → ps.length ≤ sizeLine → Q (.ref s.heap.objs.size) { s with heap := s.heap.push o }) : wpAny C.M C.A (pyIter v) Q E s := by
  have hs : sizeLine = 16777216 := by decide
  unfold itemsK at h
  split at h
  · rename_i x
    by_cases hz : x.length ≤ 16777216
    · rw [if_pos hz] at h; cases h
      obtain ⟨tk, rfl⟩ := r.bytes
      refine KBw.pyIter_bytes (hQ _ ?_ (by rw [List.length_map, hs]; exact hz))
      have W := KBw.walks (prog := C.W.prog) (w := C.W.w) (A := C.A) (handled_none ok) s.heap.objs.size x.toArray tk
      rw [show x.toArray.size = (x.map fun c => PV.int (c.toNat : Int)).length by simp] at W
      refine ⟨_, _, _, W, ⟨_, Heap.get?_push_size _ rfl, rfl, rfl⟩, fun b hb => .inl (List.mem_singleton.mp hb), fun i h st => ?_, fun i v hv => ?_⟩
      · obtain ⟨o, e, _, q⟩ := st
        exact ⟨o, e⟩
      obtain ⟨c, u, e, rfl⟩ := hv
      refine ⟨.int (c.toNat : Int), ?_, .int _ _⟩
      rw [List.getElem?_map]
      have : x[i]? = some c := by simpa using e
      rw [this]; rfl
    · rw [if_neg hz] at h; cases h
  · rename_i l
    by_cases hz : l.length ≤ 16777216
    · rw [if_pos hz] at h; cases h
      obtain ⟨a, vs, n, rfl, ho, hX, hr⟩ := r.lst
      have hne : a ≠ s.heap.objs.size := fun e => absurd (lt_of ho) (e ▸ Nat.lt_irrefl _)
      refine wpAny_pyIter_list (isList_of ho) (hQ _ ?_ (hs ▸ hz))
      have W := Walks.list (prog := C.W.prog) (w := C.W.w) (A := C.A) (handled_none ok) s.heap.objs.size a hne vs.toArray
      rw [show vs.toArray.size = ps.length by rw [List.size_toArray, hr.length]] at W
      refine ⟨_, _, _, W, ⟨⟨_, Heap.get?_push_size _ rfl, rfl, rfl⟩, (isList_of ho).push _⟩, fun b hb => ?_, fun i h st => ?_, fun i v hv => ?_⟩
      · cases hb with
        | head => exact .inl rfl
        | tail _ hb =>
          rw [List.mem_singleton.mp hb]
          exact .inr ⟨hX, _, ho⟩
      · obtain ⟨⟨o, e, _, q⟩, _⟩ := st
        exact ⟨o, e⟩
      · have hv' : vs[i]? = some v := by simpa using hv
        obtain ⟨hlt, _⟩ := List.getElem?_eq_some_iff.mp hv'
        rw [hr.length] at hlt
        obtain ⟨v', e, rv⟩ := hr.get (List.getElem?_eq_getElem hlt)
        rw [hv'] at e; cases e
        exact ⟨_, List.getElem?_eq_getElem hlt, rv⟩
    · rw [if_neg hz] at h; cases h
  · rename_i x
    by_cases hz : x.cps.size ≤ 16777216
    · rw [if_pos hz] at h; cases h
      obtain ⟨tk, rfl⟩ := r.str
      have hP : ∀ i v, SignAt x i v → ∃ p, (x.cps.toList.map fun c => PV.str ⟨#[c]⟩)[i]? = some p ∧ Rep C.d (oa ++ C.X') s.heap v p := fun i v hv => by
        obtain ⟨c, u, e, rfl⟩ := hv
        refine ⟨.str ⟨#[c]⟩, ?_, .str _ _⟩
        rw [List.getElem?_map]
        have : x.cps.toList[i]? = some c := by simpa using e
        rw [this]; rfl
      have hz' : (x.cps.toList.map fun c => PV.str ⟨#[c]⟩).length ≤ sizeLine := by rw [List.length_map, hs]; simpa using hz
      have hl : x.cps.size = (x.cps.toList.map fun c => PV.str ⟨#[c]⟩).length := by simp
      cases ha : x.cps.all (· < 128)
      · have W := Walks.strWide (prog := C.W.prog) (w := C.W.w) (handled_none ok) s.heap.objs.size x tk
        rw [hl] at W
        exact wpAny_pyIter_wide ha (hQ _ ⟨_, _, _, W, ⟨_, Heap.get?_push_size _ rfl, rfl, rfl⟩, fun b hb => .inl (List.mem_singleton.mp hb), fun i h st => (let ⟨o, e, _⟩ := st; ⟨o, e⟩), hP⟩ hz')
      · have W := Walks.strAscii (prog := C.W.prog) (w := C.W.w) (handled_none ok) s.heap.objs.size x tk
        rw [hl] at W
        exact wpAny_pyIter_ascii ha (hQ _ ⟨_, _, _, W, ⟨_, Heap.get?_push_size _ rfl, rfl, rfl⟩, fun b hb => .inl (List.mem_singleton.mp hb), fun i h st => (let ⟨o, e, _⟩ := st; ⟨o, e⟩), hP⟩ hz')
    · rw [if_neg hz] at h; cases h
  · cases h
/-- behind the block: its names are let go -/
theorem comp_end (ok : C.Ok) {s₁ s' : Shared} (H₁ : Here C σ oa s₁) {d : DS} {σ' : St} (H' : Here (C.wide [s₁.heap.objs.size + 2, s₁.heap.objs.size + 1]) σ' oa s') {h' : Heap} (hs : Heap.SameBut (s₁.heap.objs.size + 2) s'.heap h') {ys : List Value} {n : Nat} {r : List PV} (eD : s'.heap.get? (s₁.heap.objs.size + 1) = some (lstO ys n)) (hr : Reps C.d (oa ++ (C.wide [s₁.heap.objs.size + 2, s₁.heap.objs.size + 1]).X') s'.heap ys r) :
    Here C σ' oa { s' with heap := h' } ∧ FreshL C oa s₁.heap h' (.ref (s₁.heap.objs.size + 1)) r ∧ (∀ h, KQ C s₁.heap h → (∀ b o, b ≠ s₁.heap.objs.size + 2 → h.get? b = some o → h'.get? b = some o) → KQ C s₁.heap h') := by
  have fresh : ∀ a, s₁.heap.objs.size ≤ a → s₁.heap.get? a = none := fun a ha => by
    cases e : s₁.heap.get? a with
    | none => rfl
    | some o' => exact absurd (Heap.lt_size e) (Nat.not_lt.mpr ha)
  have dead : ∀ a, s₁.heap.objs.size ≤ a → a ∉ oa ++ C.X' := fun a ha h => by
    obtain ⟨o, q⟩ := H₁.al a h
    rw [fresh a ha] at q; cases q
  have hk : ∀ b o, b ≠ s₁.heap.objs.size + 2 → s'.heap.get? b = some o → h'.get? b = some o := fun b o hb e => (hs.2 b hb).trans e
  have le1 : s₁.heap.objs.size ≤ s₁.heap.objs.size + 1 := Nat.le_succ _
  have le2 : s₁.heap.objs.size ≤ s₁.heap.objs.size + 2 := Nat.le_add_right _ 2
  have mC : s₁.heap.objs.size + 2 ∈ oa ++ (C.wide [s₁.heap.objs.size + 2, s₁.heap.objs.size + 1]).X' := List.mem_append_right _ (.tail _ (.tail _ (.head _)))
  refine ⟨Here.pokeN H' (.head _) (fun h => dead _ le2 (List.mem_append_right _ h)) (fun h => dead _ le2 (sub_Q ok h)) (fresh₀ H₁.fr (fresh _ le2)) hk, ⟨_, ys, n, rfl, hk _ _ (Nat.ne_of_lt (Nat.lt_succ_self _)) eD, fresh _ le1, dead _ le1, (hr.kb fun b o hb e => hk b o (fun q => hb (by rw [q]; exact mC)) e).less fun b hb => ?_⟩, fun h k hk' => k.but (fresh _ le2) (fun q => dead _ le2 (List.mem_append_right _ (q ▸ .head _))) hk'⟩
  rcases List.mem_cons.mp hb with rfl | h
  · exact List.mem_append_right _ (.tail _ (.tail _ (.tail _ (.head _))))
  rcases List.mem_append.mp h with h | h
  · exact List.mem_append_left _ h
  · refine List.mem_append_right _ ?_
    rcases List.mem_cons.mp h with rfl | h
    · exact .head _
    rcases List.mem_cons.mp h with rfl | h
    · exact .tail _ (.head _)
    · exact .tail _ (.tail _ (.tail _ (.tail _ h)))
theorem EvD.comp (ok : C.Ok) (hLN : C.N = C.L) {elt iter : Expr} {x : Str} {px : Pos} {ifs : List Expr} {scope : Scope} {pos : Pos} {f : EF} {t : TF} {e : EF} (hf : EvD C iter f) (ht : ∀ C', CompOf C scope x C' → TestsD C' ifs t) (he : ∀ C', CompOf C scope x C' → EvD C' elt e)
    (hclos : closureFor scope C.env = pure []) (hcell : ∀ y ∈ scope.names, y.2 ≠ .cell) (hkind : scope.kind = .function) (hnames : ∀ y ∈ scope.names, y.2 = .local → scope.names.lookup y.1 = some .local) (hx : scope.names.lookup x = some .local) (hxd : (x == ("__debug__" : Str)) = false)
    (hs : ∀ x, foldedSetIterable iter C.env x = pure x := by intro _; rfl) : EvD C (.ListComp elt [⟨.Name x px, iter, ifs, 0⟩] scope pos) (compF f t e) := fun σ oa s Q E rv d h H hQ => by
  unfold compF at h
  split at h
  · rename_i a d1 q1
    split at h
    · rename_i ps q2
      split at h
      · rename_i r d2 q3
        injection h with h; injection h with h1 h2; subst h1; subst h2
        rw [eval_ListComp]
        refine wpAny_comprehension_free (use := none) rfl hs hclos hkind hnames (hf σ oa s _ _ a _ q1 H fun v s₁ H₁ k₁ ra => iter_compK ok H₁ ra.wr q2 fun o hit hlen => ?_)
        refine comp_core ok hLN ht he hcell hkind hx hxd H₁ hit hlen q3 (RR := fun acc Cc => compPost C.M C.A E none Q acc Cc) fun s' m ys n H' k' hn eD hr => ⟨m, hn, fun h' hs' => ?_⟩
        obtain ⟨z1, z2, z3⟩ := comp_end (d := d2) ok H₁ H' hs' eD hr
        exact hQ _ _ z1 (k₁.trans (z3 _ k' fun b o hb e => (hs'.2 b hb).trans e)) (FreshL.since ok (h₁ := s₁.heap) z2 k₁)
      · cases h
    · cases h
  · cases h
/-- numbers = [..], kept as data -/
theorem Run1.comp (ok : C.Ok) (hLN : C.N = C.L) {elt iter : Expr} {x y : Str} (i : Nat) {px py : Pos} {ifs : List Expr} {scope : Scope} {pos spos : Pos} {f : EF} {t : TF} {e : EF} (hf : EvD C iter f) (ht : ∀ C', CompOf C scope x C' → TestsD C' ifs t) (he : ∀ C', CompOf C scope x C' → EvD C' elt e) (hi : C.xs[i]? = some y)
    (hclos : closureFor scope C.env = pure []) (hcell : ∀ y ∈ scope.names, y.2 ≠ .cell) (hkind : scope.kind = .function) (hnames : ∀ y ∈ scope.names, y.2 = .local → scope.names.lookup y.1 = some .local) (hx : scope.names.lookup x = some .local) (hxd : (x == ("__debug__" : Str)) = false)
    (hsw : swapsWith (.ListComp elt [⟨.Name x px, iter, ifs, 0⟩] scope pos) (some (.Name y py)) spos.line C.env = pure true) (hs : ∀ x, foldedSetIterable iter C.env x = pure x := by intro _; rfl) : Run1 C (.Assign [.Name y py] (.ListComp elt [⟨.Name x px, iter, ifs, 0⟩] scope pos) spos) (datF i (compF f t e)) := fun σ oa s Q E out h H hQ => by
  unfold datF compF at h
  split at h
  · rename_i p d q
    split at q
    · split at q
      · split at q
        · cases q
        · cases q
      · cases q
    · cases q
  · rename_i l d q
    cases h
    split at q
    · rename_i a d1 q1
      split at q
      · rename_i ps q2
        split at q
        · rename_i r d2 q3
          injection q with h; injection h with h1 h2; injection h1 with h1; subst h1; subst h2
          rw [exec_Assign_Name_used _ _ _ _ hsw]
          refine wpAny_bind (wpAny_standAt (wpAny_bind ?_))
          show wpAny _ C.A (do let _ ← comprehension (.ListComp elt [⟨.Name x px, iter, ifs, 0⟩] scope pos) scope C.env _ (newList []) false (eval iter C.env) (some (assign (.Name y py) C.env))) _ _ s
          refine wpAny_bind (wpAny_mono (wpAny_comprehension_free (use := some (assign (.Name y py) C.env)) (Q := fun _ s' => Q .next s') rfl hs hclos hkind hnames (hf σ oa s _ _ a _ q1 H fun v s₁ H₁ k₁ ra => iter_compK ok H₁ ra.wr q2 fun o hit hlen => ?_)) (fun _ s' hq => wpAny_pure (wpAny_pure hq)) fun _ _ e => e)
          refine comp_core ok hLN ht he hcell hkind hx hxd H₁ hit hlen q3 (RR := fun acc Cc => compPost C.M C.A E (some (assign (.Name y py) C.env)) (fun _ s' => Q .next s') acc Cc) fun s' m ys n H' k' hn eD hr => ?_
          have fresh : ∀ a, s₁.heap.objs.size ≤ a → s₁.heap.get? a = none := fun a ha => by
            cases e : s₁.heap.get? a with
            | none => rfl
            | some o' => exact absurd (Heap.lt_size e) (Nat.not_lt.mpr ha)
          have dead : ∀ a, s₁.heap.objs.size ≤ a → a ∉ oa ++ C.X' := fun a ha h => by
            obtain ⟨o, q⟩ := H₁.al a h
            rw [fresh a ha] at q; cases q
          have le1 : s₁.heap.objs.size ≤ s₁.heap.objs.size + 1 := Nat.le_succ _
          have le2 : s₁.heap.objs.size ≤ s₁.heap.objs.size + 2 := Nat.le_add_right _ 2
          have aL : ∀ a, s₁.heap.objs.size ≤ a → a ≠ C.L := fun a ha q => dead a ha (List.mem_append_right _ (q ▸ .head _))
          generalize s₁.heap.objs.size = I at *
          have hDX : I + 1 ∉ oa ++ (C.wide [I + 2]).X' := fun h => by
            rcases List.mem_append.mp h with h | h
            · exact dead _ le1 (List.mem_append_left _ h)
            rcases List.mem_cons.mp h with q | h
            · exact dead _ le1 (List.mem_append_right _ (by rw [q]; exact .head _))
            rcases List.mem_cons.mp h with q | h
            · exact dead _ le1 (List.mem_append_right _ (by rw [q]; exact .tail _ (.head _)))
            rcases List.mem_cons.mp h with q | h
            · exact absurd q (Nat.ne_of_lt (Nat.lt_succ_self _))
            · exact dead _ le1 (List.mem_append_right _ (.tail _ (.tail _ h)))
          have HD := Here.narrow' (Bs := [I + 2]) (fun a h => by rw [List.mem_singleton.mp h]; exact .head _) H'
          have hr' := hr.less (Y := oa ++ (C.wide [I + 2]).X') fun a h => (List.mem_append.mp h).elim (List.mem_append_left _) fun h => List.mem_append_right _ (by
            rcases List.mem_cons.mp h with rfl | h
            · exact .head _
            rcases List.mem_cons.mp h with rfl | h
            · exact .tail _ (.head _)
            rcases List.mem_cons.mp h with rfl | h
            · exact .tail _ (.tail _ (.head _))
            · exact .tail _ (.tail _ (.tail _ (.tail _ h))))
          refine wpAny_assign_Name (store_stK (C := C.wide [I + 2]) (ok.wide _) hLN HD hi (.lst hDX eD hr') fun s'' H'' m'' k'' => ⟨m, Ns.kb hn fun o e => k'' _ o (aL _ le2) e, fun h' hs' => ?_⟩)
          have hk : ∀ b o, b ≠ I + 2 → s''.heap.get? b = some o → h'.get? b = some o := fun b o hb e => (hs'.2 b hb).trans e
          refine hQ oa _ (Here.pokeN H'' (.head _) (fun h => dead _ le2 (List.mem_append_right _ h)) (fun h => dead _ le2 (sub_Q ok h)) (fresh₀ H₁.fr (fresh _ le2)) hk) ⟨fun b o h1 h2 h3 e => ?_, fun a ha => .inl ha⟩
          have e1 := k₁.keep b o h3 e
          exact hk b o (fun q => by rw [q, fresh _ le2] at e1; cases e1) (k'' b o h1 (k'.keep b o h3 e1))
        · cases q
      · cases q
    · cases q
  · cases h
end
end Mine

namespace Mine
noncomputable def setMany : List Nat → List PV → St → Option St
  | [], [], σ => some σ
  | i :: is, p :: ps, σ => setMany is ps (σ.set i p)
  | _, _, _ => none
noncomputable def tupF1 (is : List Nat) (f : EF) : SF := fun σ => match f σ with
  | some (.st (.tup ps), d) => (match setMany is ps (σ.setD d) with | some σ' => some (.nx σ') | none => none)
  | _ => none
noncomputable def tupS1 (is : List Nat) (f : EF) : SF := fun σ => match f σ with
  | some (.st (.tup ps), d) => (match setMany is ps.reverse (σ.setD d) with | some σ' => some (.nx σ') | none => none)
  | _ => none
/-- the first part becomes the frame's own list -/
noncomputable def ownFirst (i : Nat) (is : List Nat) (f : EF) (g : AF) : SF := fun σ => match f σ with
  | some (.fr l, d) => (match g (σ.setD d) with
    | some (ps, d') => if ps.length ≤ 1000 then (match setMany is ps ((σ.setD d').setOwn i l) with | some σ' => some (.nx σ') | none => none) else none
    | none => none)
  | _ => none
noncomputable def ownIs (σ : St) (i : Nat) : Bool := match σ.own with
  | some (j, _) => decide (j = i)
  | none => true
noncomputable def ownLast (i i1 : Nat) (f : EF) (g : AF) : SF := fun σ => match f σ with
  | some (.fr l, d) => (match g (σ.setD d) with
    | some ([p], d') => (match ownIs ((σ.setD d').set i1 p) i with | true => some (.nx (((σ.setD d').set i1 p).setOwn i l)) | false => none)
    | _ => none)
  | _ => none
noncomputable def Stores (C : Cx) (t : Value → Sem Unit) (x : Str) : Prop := ∀ v Q E s, wpAny C.M C.A (storeName C.env x v) Q E s → wpAny C.M C.A (t v) Q E s
inductive StoresL (C : Cx) : List (Value → Sem Unit) → List Nat → Prop
  | nil : StoresL C [] []
  | cons {t : Value → Sem Unit} {ts : List (Value → Sem Unit)} {i : Nat} {is : List Nat} (x : Str) (hi : C.xs[i]? = some x) (h : Stores C t x) (r : StoresL C ts is) : StoresL C (t :: ts) (i :: is)
inductive NamesL (C : Cx) : List Str → List Nat → Prop
  | nil : NamesL C [] []
  | cons {xs : List Str} {i : Nat} {is : List Nat} {x : Str} (hi : C.xs[i]? = some x) (r : NamesL C xs is) : NamesL C (x :: xs) (i :: is)
section
variable {C : Cx} {σ : St} {oa : List Addr}
theorem stores_names : ∀ {xs : List Str} {is : List Nat}, NamesL C xs is → StoresL C (xs.map fun n => bindName C.env n) is
  | _, _, .nil => .nil
  | _, _, .cons (x := x) hi r => .cons x hi (fun v Q E s h => wpAny_bindName h) (stores_names r)
theorem store_many (ok : C.Ok) (hLN : C.N = C.L) : ∀ {ts : List (Value → Sem Unit)} {is : List Nat}, StoresL C ts is → ∀ {vs : List Value} {ps : List PV} {σ σ' : St} {s : Shared} {Q : Unit → Shared → Prop} {E : Value → Shared → Prop}, Here C σ oa s → Reps C.d (oa ++ C.X') s.heap vs ps → setMany is ps σ = some σ' →
    (∀ s', Here C σ' oa s' → Mv C oa s.heap oa s'.heap → (∀ b o, b ≠ C.L → s.heap.get? b = some o → s'.heap.get? b = some o) → Q () s') → wpAny C.M C.A (assignInOrder ts vs) Q E s := by
  intro ts is hs
  induction hs with
  | nil =>
    intro vs ps σ σ' s Q E H r h hQ
    cases ps with
    | nil => cases h; exact assignInOrder_nil (hQ s H (Mv.refl _) fun _ _ _ e => e)
    | cons => cases h
  | @cons t ts i is x hi ht hr ih =>
    intro vs ps σ σ' s Q E H r h hQ
    cases r with
    | nil => cases h
    | cons rv rs =>
      refine assignInOrder_cons (ht _ _ _ _ ?_)
      refine store_stK ok hLN H hi rv fun s₁ H₁ m₁ k₁ => ih H₁ (rs.kb fun b o hb e => k₁ b o (fun q => hb (List.mem_append_right _ (q ▸ .head _))) e) h fun s' H' m' k' => hQ s' H' (m₁.trans ok m' fun a ha => (H'.oaX a ha).1) fun b o hb e => k' b o hb (k₁ b o hb e)
theorem Reps.rev {d : Addr} {X : List Addr} {h : Heap} : ∀ {vs : List Value} {ps : List PV}, Reps d X h vs ps → Reps d X h vs.reverse ps.reverse
  | _, _, .nil => .nil
  | _, _, .cons a b => by rw [List.reverse_cons, List.reverse_cons]; exact b.rev.append (.cons a .nil)
theorem setMany_len : ∀ {is : List Nat} {ps : List PV} {σ σ' : St}, setMany is ps σ = some σ' → is.length = ps.length
  | [], [], _, _, _ => rfl
  | [], _ :: _, _, _, h => nomatch h
  | _ :: _, [], _, _, h => nomatch h
  | _ :: _, _ :: _, _, _, h => congrArg (· + 1) (setMany_len h)
theorem StoresL.len : ∀ {ts : List (Value → Sem Unit)} {is : List Nat}, StoresL C ts is → ts.length = is.length
  | _, _, .nil => rfl
  | _, _, .cons _ _ _ r => congrArg (· + 1) r.len
theorem ext_grow (ok : C.Ok) {s : Shared} (H : Here C σ oa s) {h' : Heap} (e : Heap.ExtBut s.heap.objs.size s.heap h') : (∀ b o, s.heap.get? b = some o → h'.get? b = some o) := fun b o q => e b o (fun z => by rw [z, size_none] at q; cases q) q
/-- key, value = a pair -/
theorem Run1.tup1 (ok : C.Ok) (hLN : C.N = C.L) {elts : List Expr} {k} {tpos pos : Pos} {value : Expr} {is : List Nat} {f : EF} (hf : EvD C value f) (hst : StoresL C ((assignEach elts C.env).map (·.2)) is) (hstar : (assignEach elts C.env).findIdx? (·.1) = none)
    (hs : swapsWithSole [.Tuple elts k tpos] value pos.line C.env = pure false) (hw : swappedStores [.Tuple elts k tpos] value C.env = pure none) : Run1 C (.Assign [.Tuple elts k tpos] value pos) (tupF1 is f) := fun σ oa s Q E out h H hQ => by
  unfold tupF1 at h
  split at h
  · rename_i ps d q
    split at h
    · rename_i σ' q2
      cases h
      refine PyProof.Rows.Assign_Tuple (hf σ oa s _ _ _ d q H fun v s₁ H₁ k₁ r => ?_) hs hw
      obtain ⟨a, vs, n, rfl, ha, ho, hr⟩ := Rep.tup_inv r
      refine wpAny_assign_Tuple (handled_none ok) (isTuple_of ho) ?_ hstar fun h' he => ?_
      · have := hst.len
        rw [List.length_map] at this
        rw [this, setMany_len q2, List.size_toArray, hr.length]
      · have hk := ext_grow ok H₁ he
        have H₂ := H₁.grow (k := s₁.toks) ok hk
        refine store_many ok hLN hst H₂ (hr.next ok (KQ.of hk)) q2 fun s' H' m' _ => hQ oa s' H' ((Mv.of (k₁.trans (KQ.of hk))).trans ok m' fun a ha => (H'.oaX a ha).1)
    · cases h
  · cases h
/-- a, b = x, y, stored from behind -/
theorem Run1.tupS (ok : C.Ok) (hLN : C.N = C.L) {elts : List Expr} {k} {tpos pos : Pos} {value : Expr} {names : List Str} {is : List Nat} {f : EF} (hf : EvD C value f) (hst : NamesL C names.reverse is)
    (hs : swapsWithSole [.Tuple elts k tpos] value pos.line C.env = pure false) (hw : swappedStores [.Tuple elts k tpos] value C.env = pure (some names)) : Run1 C (.Assign [.Tuple elts k tpos] value pos) (tupS1 is f) := fun σ oa s Q E out h H hQ => by
  unfold tupS1 at h
  split at h
  · rename_i ps d q
    split at h
    · rename_i σ' q2
      cases h
      refine PyProof.Rows.Assign_Tuple_swapped (hf σ oa s _ _ _ d q H fun v s₁ H₁ k₁ r => ?_) hs hw
      obtain ⟨a, vs, n, rfl, ha, ho, hr⟩ := Rep.tup_inv r
      have hln : names.length = vs.toArray.size := by
        have := (stores_names hst).len
        rw [List.length_map, List.length_reverse] at this
        rw [this, setMany_len q2, List.length_reverse, List.size_toArray, hr.length]
      rw [hln]
      refine wpAny_unpackItems_tuple (handled_none ok) (isTuple_of ho) fun h' he => ?_
      have hk := ext_grow ok H₁ he
      have H₂ := H₁.grow (k := s₁.toks) ok hk
      exact store_many ok hLN (stores_names hst) H₂ (hr.next ok (KQ.of hk)).rev q2 fun s' H' m' _ => hQ oa s' H' ((Mv.of (k₁.trans (KQ.of hk))).trans ok m' fun a ha => (H'.oaX a ha).1)
    · cases h
  · cases h
structure OwnTup (C : Cx) (σ : St) (oa : List Addr) (s s' : Shared) (t a : Addr) (l ps : List PV) : Prop where
  here : Here C σ (a :: oa) s'
  kb : KQ C s.heap s'.heap
  none : s.heap.get? a = none
  tup : ∃ vs, s'.heap.get? t = some (tupO (.ref a :: vs) 0) ∧ Reps C.d ((a :: oa) ++ C.X') s'.heap vs ps
  lst : ∃ vs k, s'.heap.get? a = some (lstO vs k) ∧ Reps C.d (a :: (oa ++ C.X')) s'.heap vs l
  ne : ∀ j l y, σ.own = some (j, l) → C.xs[j]? = some y → ∃ b, b ≠ a ∧ ∃ n, s'.heap.Ns C.N n ∧ n y = some (.ref b)
theorem own_tup (ok : C.Ok) {e0 : Expr} {rest : List Expr} {k pos} {f : EF} {g : AF} (hf : EvD C e0 f) (hg : ArD C rest g) (hst : starEach (e0 :: rest) C.env = (false, eval e0 C.env) :: starEach rest C.env) {s : Shared} {l ps : List PV} {d d' : DS} (q1 : f σ = some (.fr l, d)) (q2 : g (σ.setD d) = some (ps, d')) (hz : ps.length ≤ 1000) (H : Here C σ oa s) {Q : Value → Shared → Prop} {E : Value → Shared → Prop}
    (hQ : ∀ t a s', OwnTup C (σ.setD d') oa s s' t a l ps → Q (.ref t) s') : wpAny C.M C.A (eval (.Tuple (e0 :: rest) k pos) C.env) Q E s := by
  refine wpAny_Tuple (wpAny_items_cons (hf σ oa s _ _ _ d q1 H fun v s₁ H₁ k₁ r => ?_) hst)
  obtain ⟨a, vs, n, rfl, e2, e3, e4, e5⟩ := r
  have H₁' := H.extend ok H₁ rfl rfl k₁ e3 e2 fun h => e4 (List.mem_append_right _ h)
  refine hg pos _ (a :: oa) s₁ _ _ ps d' q2 H₁' fun us s₂ H₂ k₂ r₂ => ⟨?_, ?_⟩
  · rw [List.length_cons, r₂.length, show sizeLine = 16777216 by decide]; omega
  · have hD : a ∉ C.D ++ C.Fs := fun z => e4 (sub_Q ok z)
    have hkp := KQ.push (C := C) s₂.heap { cls := .type "tuple", data := .seq (.ref a :: us).toArray }
    refine hQ _ a _ ⟨H₂.push ok _, (k₁.trans k₂).trans hkp, e3, ⟨us, Heap.get?_push_size _ rfl, r₂.next ok hkp⟩, ⟨vs, n, hkp.keep _ _ hD (k₂.keep _ _ hD e2), ?_⟩, fun j l y e hy => ?_⟩
    · exact e5.kb ((k₂.trans hkp).keep.more fun b hb => .tail _ (sub_Q ok hb))
    · exact own_ne (σ' := σ.setD d') ok H rfl ((k₁.trans k₂).trans hkp) e3 j l y e hy
/-- found, others, .. = [], 0, .. : the first becomes the frame's own list -/
theorem Run1.ownFirst (ok : C.Ok) (hLN : C.N = C.L) {elts : List Expr} {k k' tpos pos vpos} {e0 : Expr} {rest : List Expr} {x0 : Str} {i : Nat} {is : List Nat} {f : EF} {g : AF} (hf : EvD C e0 f) (hg : ArD C rest g) (hst : starEach (e0 :: rest) C.env = (false, eval e0 C.env) :: starEach rest C.env)
    (hi : C.xs[i]? = some x0) {t0 : Value → Sem Unit} {ts : List (Value → Sem Unit)} (hts : (assignEach elts C.env).map (·.2) = t0 :: ts) (h0 : Stores C t0 x0) (hst' : StoresL C ts is) (hstar : (assignEach elts C.env).findIdx? (·.1) = none)
    (hs : swapsWithSole [.Tuple elts k tpos] (.Tuple (e0 :: rest) k' vpos) pos.line C.env = pure false) (hw : swappedStores [.Tuple elts k tpos] (.Tuple (e0 :: rest) k' vpos) C.env = pure none) : Run1 C (.Assign [.Tuple elts k tpos] (.Tuple (e0 :: rest) k' vpos) pos) (Mine.ownFirst i is f g) := fun σ oa s Q E out h H hQ => by
  unfold Mine.ownFirst at h
  split at h
  · rename_i l d q1
    split at h
    · rename_i ps d' q2
      by_cases hz : ps.length ≤ 1000
      · rw [if_pos hz] at h
        split at h
        · rename_i σ' q3
          cases h
          refine PyProof.Rows.Assign_Tuple (own_tup ok hf hg hst q1 q2 hz H fun t a s₁ T => ?_) hs hw
          obtain ⟨vs, e1, r1⟩ := T.tup
          obtain ⟨us, n, e2, r2⟩ := T.lst
          refine wpAny_assign_Tuple (handled_none ok) (isTuple_of e1) ?_ hstar fun h' he => ?_
          · have h1 := congrArg List.length hts
            rw [List.length_map, List.length_cons, hst'.len, setMany_len q3] at h1
            rw [h1, List.size_toArray, List.length_cons, r1.length]
          · have hk := ext_grow ok T.here he
            have H₂ := T.here.grow (k := s₁.toks) ok hk
            rw [hts]
            have haD : a ∉ C.D := fun z => (H₂.oaX a (.head _)).1 (.tail _ (.tail _ (ok.dsub _ z)))
            refine assignInOrder_cons (h0 _ _ _ _ (store_own ok hLN H₂ hi (hk _ _ e2) (r2.kb (KB.of hk)) (fun j l y e _ hy => ?_) fun s₃ H₃ m₃ k₃ => ?_))
            · obtain ⟨b, hb, n', hn', e'⟩ := T.ne j l y e hy
              exact ⟨b, hb, n', Ns.kb hn' fun o e => hk _ o e, e'⟩
            · have mv := m₃ s.heap T.none oa (Mv.of (T.kb.trans (KQ.of hk)))
              have rr : Reps C.d ([a] ++ C.X') s₃.heap vs ps := ((r1.next ok (KQ.of hk)).kb fun b o hb e => k₃ b o (fun q => hb (List.mem_append_right _ (q ▸ .head _))) e).less fun b hb => by
                cases hb with
                | head => exact .head _
                | tail _ hb => exact List.mem_append_right _ hb
              exact store_many ok hLN hst' H₃ rr q3 fun s' H' m' _ => hQ [a] s' H' (mv.trans ok m' fun a ha => (H'.oaX a ha).1)
        · cases h
      · rw [if_neg hz] at h; cases h
    · cases h
  · cases h
end
end Mine

namespace Mine
/-- what a def answers: its body run upon its arguments -/
noncomputable def runF (n k : Nat) (g : SF) : FF := fun ps d => match decide (ps.length = n) with
  | true => (match g ⟨ps.map some ++ List.replicate k none, none, d⟩ with
    | some (.rt r d') => some (r, d')
    | some (.nx σ') => some (.val .none, σ'.dk)
    | _ => none)
  | false => none
noncomputable abbrev FX := List PV → DS → Option (Option PV × DS)
/-- the same of a def that may raise: none then -/
noncomputable def runX (n k : Nat) (g : SF) : FX := fun ps d => match decide (ps.length = n) with
  | true => (match g ⟨ps.map some ++ List.replicate k none, none, d⟩ with
    | some (.rt (.val p) d') => some (some p, d')
    | some (.ex d') => some (none, d')
    | _ => none)
  | false => none
/-- an exception that flies out of a frame -/
noncomputable def Flown (C : Cx) (h h' : Heap) (e : Addr) (d : DS) : Prop := ∃ (hm : Heap) (L' : Addr) (a0 : Value), h.get? L' = none ∧ KB (C.D ++ C.Fs) h hm ∧ FK C.Fs h hm ∧ DeckIn C.W C.d hm C.D d ∧ Heap.FlyingW (hideAll hm (L' :: C.Fs)) (C.fenv :: C.outer) e (.ref 45) a0 h' ∧ hm.UpToSlots h'
theorem funFrames_of {h base : Heap} : ∀ {l : List Env}, (∀ env ∈ l, env.scope.kind ≠ .module ∧ ∃ L, env.frame = some L) → (∀ L ∈ l.filterMap (·.frame), base.get? L = none ∧ ∃ o : Obj, (∀ vs, o.data ≠ .fields vs) ∧ h.get? L = some o) → h.FunFrames base l
  | [], _, _ => trivial
  | env :: l, h1, h2 => by
    obtain ⟨hk, L, hL⟩ := h1 env (.head _)
    have hm : L ∈ (env :: l).filterMap (·.frame) := List.mem_filterMap.mpr ⟨env, .head _, hL⟩
    obtain ⟨b, o, ho, hg⟩ := h2 L hm
    refine ⟨hk, ⟨L, o, hL, b, hg, ho⟩, funFrames_of (fun e he => h1 e (.tail _ he)) fun L' hL' => h2 L' ?_⟩
    obtain ⟨e, he, q⟩ := List.mem_filterMap.mp hL'
    exact List.mem_filterMap.mpr ⟨e, .tail _ he, q⟩
theorem Flown.use {C : Cx} (ok : C.Ok) {h h' : Heap} {e : Addr} {d : DS} (fl : Flown C h h' e d) (hal : ∀ a ∈ C.D, ∃ o, h.get? a = some o) : KB (C.D ++ C.Fs) h h' ∧ FK C.Fs h h' ∧ DeckIn C.W C.d h' C.D d := by
  obtain ⟨hm, L', a0, hL, kb, fk, dk, fw, up⟩ := fl
  refine ⟨fun b o hb e => ?_, fun b hb o ho e => ?_, dk.kb fun a ha o e => ?_⟩
  · refine fw.1 _ _ (hideAll_get _ (kb b o hb e) fun z => ?_)
    cases z with
    | head => rw [hL] at e; cases e
    | tail _ z => exact hb (List.mem_append_right _ z)
  · obtain ⟨sl, e1⟩ := fk b hb o ho e
    obtain ⟨sl', e2⟩ := up _ _ e1 ho
    exact ⟨sl', e2⟩
  · refine fw.1 _ _ (hideAll_get _ e fun z => ?_)
    cases z with
    | head => obtain ⟨o', e'⟩ := hal _ ha; rw [hL] at e'; cases e'
    | tail _ z => exact ok.fdj _ z ha
noncomputable def FnX (W : Wd) (f : Addr) (rk : Nat) (F : FX) : Prop :=
  ∀ (C : Cx), C.W = W → C.Ok → FsOk C → C.dp + rk < 900 → C.un + 4 * rk < 2000 → ∀ (X : List Addr) (s : Shared) (vs : List Value) (ps : List PV) (r : Option PV) (d d' : DS) (m : Str → Option Value) (Q E : Value → Shared → Prop), F ps d = some (r, d') → Fr C.h₀ C.L s.heap m → DeckIn C.W C.d s.heap C.D d → s.gens = C.gens → s.drawn = C.drawn → s.os = C.os →
    (∀ a ∈ X, ∃ o, s.heap.get? a = some o) → (∀ a ∈ C.D, a ∈ X) → (∀ a ∈ C.Fs, a ∈ X ∧ ∃ o : Obj, (∀ vs, o.data ≠ .fields vs) ∧ s.heap.get? a = some o) → Reps C.d X s.heap vs ps →
    (∀ p, r = some p → ∀ v h' k, Fr C.h₀ C.L h' m → KB (C.D ++ C.Fs) s.heap h' → FK C.Fs s.heap h' → DeckIn C.W C.d h' C.D d' → Rep C.d X h' v p → Q v { s with heap := h', toks := k }) →
    (r = none → ∀ e h' k, Flown C s.heap h' e d' → E (.ref e) { s with heap := h', toks := k }) → wpAny C.M C.A (call (.ref f) vs) Q E s
theorem FnD.weaken {W : Wd} {f : Addr} {rk : Nat} {ex : Bool} {F F' : FF} (h : FnD W f rk ex F) (k : ∀ ps d r, F' ps d = some r → F ps d = some r) : FnD W f rk ex F' :=
  fun C hW ok hx hdp hun X s vs ps r d d' m Q E e => h C hW ok hx hdp hun X s vs ps r d d' m Q E (k _ _ _ e)
theorem lookup_rev : ∀ {l : List (Str × Value)}, (l.map (·.1)).Nodup → ∀ x, l.reverse.lookup x = l.lookup x
  | [], _, _ => rfl
  | (y, v) :: l, hn, x => by
    obtain ⟨h1, h2⟩ := List.nodup_cons.mp hn
    rw [List.reverse_cons, List.lookup_append, lookup_rev h2]
    cases hxy : x == y with
    | true =>
      have : x = y := by simpa using hxy
      subst this
      have hnone : l.lookup x = none := by
        rw [List.lookup_eq_none_iff]
        intro p hp
        have : p.1 ≠ x := fun e => h1 (List.mem_map.mpr ⟨p, hp, e⟩)
        simpa using Ne.symm this
      rw [hnone]; simp
    | false => simp [List.lookup_cons, hxy]
theorem zip_look {d : Addr} {X : List Addr} {h : Heap} : ∀ {xs : List Str} {vs : List Value} {ps : List PV} {k : Nat}, Reps d X h vs ps → xs.Nodup → ∀ {i : Nat} {x : Str} {p : PV}, xs[i]? = some x → look (ps.map some ++ List.replicate k none) i = some p → ∃ v, (xs.zip vs).lookup x = some v ∧ Rep d X h v p := by
  intro xs
  induction xs with
  | nil => intro vs ps k r hn i x p e; cases e
  | cons y xs ih =>
    intro vs ps k r hn i x p e hl
    obtain ⟨hn1, hn2⟩ := List.nodup_cons.mp hn
    cases r with
    | nil =>
      exfalso
      have : ∀ (k i : Nat), look (List.replicate k none) i = none := fun k => by
        induction k with
        | zero => intro i; rfl
        | succ k ih => intro i; cases i with | zero => rfl | succ i => exact ih i
      rw [List.map_nil, List.nil_append, this] at hl; cases hl
    | cons rv rs =>
      cases i with
      | zero =>
        cases e; cases hl
        exact ⟨_, by rw [List.zip_cons_cons, List.lookup_cons, beq_self_eq_true], rv⟩
      | succ i =>
        obtain ⟨v', e', r'⟩ := ih rs hn2 e hl
        refine ⟨v', ?_, r'⟩
        have hxy : (x == y) = false := by
          have hm : x ∈ xs := List.mem_of_getElem? e
          have : x ≠ y := fun q => hn1 (q ▸ hm)
          simpa using this
        rw [List.zip_cons_cons, List.lookup_cons, hxy]
        exact e'
theorem hide_get {h : Heap} {l : List Addr} {b : Addr} {o : Obj} (e : h.get? b = some o) (hb : b ∉ l) : (hideAll h l).get? b = some o := hideAll_get _ e hb
/-- the context of a def's frame -/
noncomputable abbrev subCx (C : Cx) (s : Shared) (X : List Addr) (f : Addr) (qual : Str) (scope : Scope) (cdv : Value) (xs : List Str) : Cx :=
  { W := C.W, dp := C.dp + 1, un := C.un + 3, gd := C.gd, cn := qual, cs := scope, ad := f, cd := cdv, outer := C.fenv :: C.outer, A₀ := C.A, base := C.base, h₀ := hideAll s.heap (C.D ++ C.Fs), L := s.heap.objs.size, d := C.d, D := C.D, Xs := X, gens := C.gens, drawn := C.drawn, os := C.os, env := envX qual scope s.heap.objs.size f cdv [], N := s.heap.objs.size, xs := xs, Fs := s.heap.objs.size :: C.Fs, fo := fun a => (s.heap.get? a).getD emptyDict }
theorem FsOk.sub {C : Cx} {s : Shared} {X : List Addr} {f : Addr} {qual : Str} {scope : Scope} {cdv : Value} {xs : List Str} (x : FsOk C) (hk : scope.kind = .function) : FsOk (subCx C s X f qual scope cdv xs) := by
  refine ⟨?_, fun env he => ?_⟩
  · show s.heap.objs.size :: C.Fs = s.heap.objs.size :: (C.fenv :: C.outer).filterMap (·.frame)
    rw [x.fs]
  · cases he with
    | head => exact ⟨by show scope.kind ≠ .module; rw [hk]; exact fun z => (nomatch z), _, rfl⟩
    | tail _ he => exact x.all env he
theorem sub_keep {C : Cx} (ok : C.Ok) {s : Shared} {m : Str → Option Value} (F : Fr C.h₀ C.L s.heap m) : ∀ b o, C.h₀.get? b = some o → (hideAll s.heap (C.D ++ C.Fs)).get? b = some o := fun b o e => hide_get (F.keep b o e) fun z => by
  rcases List.mem_append.mp z with z | z
  · rw [(ok.dfree b z).2.2] at e; cases e
  · rw [ok.ffree b z] at e; cases e
theorem sub_ok {C : Cx} (ok : C.Ok) {s : Shared} {X : List Addr} {f : Addr} {qual : Str} {scope : Scope} {cdv : Value} {xs : List Str} {m : Str → Option Value} (F : Fr C.h₀ C.L s.heap m) (hbl : ∀ a ∈ X, ∃ o, s.heap.get? a = some o) (hDX : ∀ a ∈ C.D, a ∈ X) (hFX : ∀ a ∈ C.Fs, a ∈ X ∧ ∃ o : Obj, (∀ vs, o.data ≠ .fields vs) ∧ s.heap.get? a = some o) (hk : scope.kind = .function)
    (hl1 : ∀ x ∈ xs, scope.names.lookup x = some .local) (hl2 : ∀ x ∈ xs, (x == ("__debug__" : Str)) = false) (hnd : xs.Nodup) (hdp : C.dp + 1 < 900) (hun : C.un + 3 < 2000) : (subCx C s X f qual scope cdv xs).Ok := by
  have hlt : ∀ a ∈ X, a < s.heap.objs.size := fun a ha => by
    obtain ⟨o, e⟩ := hbl a ha
    exact lt_of e
  refine ⟨fun a ha => ?_, fun a ha => ?_, fun a ha vs => ?_, ok.X.keeps (sub_keep ok F), ok.T.keeps (sub_keep ok F), hk, rfl, rfl, rfl, hk, (by show (scope.kind == .module && _) = false; rw [hk]; rfl),
    fun a ha => ⟨Nat.ne_of_lt (hlt a (hDX a ha)), Nat.ne_of_lt (hlt a (hDX a ha)), hideAll_none _ (List.mem_append_left _ ha)⟩, fun a ha => hDX a ha, hdp, hun, fun i x hx => ⟨hl1 x (List.mem_of_getElem? hx), hl2 x (List.mem_of_getElem? hx)⟩, hnd, .inl rfl, fun a ha hd => ?_⟩
  · cases ha with
    | head => exact .head _
    | tail _ ha => exact .tail _ (.tail _ (hFX a ha).1)
  · cases ha with
    | head =>
      cases q : (hideAll s.heap (C.D ++ C.Fs)).get? s.heap.objs.size with
      | none => rfl
      | some o => exact absurd (lt_of (of_hideAll _ q)) (Nat.lt_irrefl _)
    | tail _ ha => exact hideAll_none _ (List.mem_append_right _ ha)
  · show ((s.heap.get? a).getD emptyDict).data ≠ .fields vs
    cases ha with
    | head => rw [size_none]; exact fun z => nomatch z
    | tail _ ha =>
      obtain ⟨_, o, h1, h2⟩ := hFX a ha
      rw [h2]; exact h1 vs
  · cases ha with
    | head => exact Nat.lt_irrefl _ (hlt _ (hDX _ hd))
    | tail _ ha => exact ok.fdj a ha hd
/-- what the caller learns of the heap when a frame is left -/
theorem sub_back {C : Cx} (ok : C.Ok) {s s' : Shared} {X : List Addr} {f : Addr} {qual : Str} {scope : Scope} {cdv : Value} {xs : List Str} {m m' : Str → Option Value} {σ : St} {oa : List Addr} (F : Fr C.h₀ C.L s.heap m) (hFX : ∀ a ∈ C.Fs, a ∈ X ∧ ∃ o : Obj, (∀ vs, o.data ≠ .fields vs) ∧ s.heap.get? a = some o)
    (Fn : Fr (hideAll s.heap (C.D ++ C.Fs)) s.heap.objs.size s'.heap m') (hfs : ∀ b ∈ s.heap.objs.size :: C.Fs, b ≠ s.heap.objs.size → ∃ sl, s'.heap.get? b = some { (s.heap.get? b).getD emptyDict with slots := sl }) :
    KB (C.D ++ C.Fs) s.heap s'.heap ∧ FK C.Fs s.heap s'.heap ∧ Fr C.h₀ C.L s'.heap m := by
  have kb : KB (C.D ++ C.Fs) s.heap s'.heap := fun b o hb e => Fn.keep b o (hide_get e hb)
  have fk : FK C.Fs s.heap s'.heap := fun b hb o ho e => by
    obtain ⟨sl, e'⟩ := hfs b (.tail _ hb) (Nat.ne_of_lt (lt_of e))
    rw [e] at e'
    exact ⟨sl, e'⟩
  have kq := KQ.ofF ok kb fk
  exact ⟨kb, fk, kq.ln m F.ns, fun b o e => kq.fre ok e (F.keep b o e), F.above⟩
theorem call_enter {W : Wd} {f : Addr} {name qual : Str} {params : Arguments} {body : List Stmt} {scope : Scope} {dV kV doc pm cdv ct oc : Value} {an od : Option Addr} {osl : Array (Option Value)} (np : Nat) (xs : List Str)
    (ho : W.K.lookup f = some ⟨oc, od, .func (fnOf name qual params body scope dV kV doc pm an cdv ct), osl⟩) (hcd : codeIn W.K cdv qual = true)
    (hbind : ∀ vs : List Value, vs.length = np → bindArgs (fnOf name qual params body scope dV kV doc pm an cdv ct) ⟨vs, []⟩ = pure (xs.zip vs))
    (hloc : (xs.all fun x => decide (scope.names.lookup x = some .local) && !(x == ("__debug__" : Str))) = true) (hnd : xs.Nodup) (hnp : np ≤ xs.length)
    (hco : scope.isCoroutine = false) (hgen : scope.isGenerator = false) (hk : scope.kind = .function) (hcell : (scope.names.all fun x => decide (x.2 ≠ .cell)) = true)
    {C : Cx} (hW : C.W = W) (ok : C.Ok) (hdp : C.dp + 1 < 900) (hun : C.un + 4 < 2000)
    {X : List Addr} {s : Shared} {vs : List Value} {ps : List PV} {d : DS} {m : Str → Option Value} {Q E : Value → Shared → Prop} (hps : ps.length = np) (F : Fr C.h₀ C.L s.heap m) (hdk : DeckIn C.W C.d s.heap C.D d) (hg : s.gens = C.gens) (hdr : s.drawn = C.drawn) (hos : s.os = C.os)
    (hbl : ∀ a ∈ X, ∃ o, s.heap.get? a = some o) (hDX : ∀ a ∈ C.D, a ∈ X) (hFX : ∀ a ∈ C.Fs, a ∈ X ∧ ∃ o : Obj, (∀ vs, o.data ≠ .fields vs) ∧ s.heap.get? a = some o) (hr : Reps C.d X s.heap vs ps)
    (h : ∀ s', (subCx C s X f qual scope cdv xs).Ok → Here (subCx C s X f qual scope cdv xs) ⟨ps.map some ++ List.replicate (xs.length - np) none, none, d⟩ [] s' → wpAny C.M (subCx C s X f qual scope cdv xs).A (execs body (subCx C s X f qual scope cdv xs).env) (fun fl s' => Q (match fl with | .ret v => v | _ => .none) s')
      (fun e s' => wpAny C.M (subCx C s X f qual scope cdv xs).A (leaving (subCx C s X f qual scope cdv xs).env e) (fun _ s'' => E e s'') (fun e' s'' => E e' s'') s') s') : wpAny C.M C.A (call (.ref f) vs) Q E s := by
  subst hW
  refine wpAny_call ?_
  have hvl : vs.length = np := by rw [hr.length, hps]
  have hall := List.all_eq_true.mp hloc
  have hl1 : ∀ x ∈ xs, scope.names.lookup x = some .local := fun x hx => by
    have := hall x hx
    rw [Bool.and_eq_true] at this
    exact of_decide_eq_true this.1
  have hl2 : ∀ x ∈ xs, (x == ("__debug__" : Str)) = false := fun x hx => by
    have := hall x hx
    rw [Bool.and_eq_true] at this
    simpa using this.2
  refine codeAny_call_def (fd := fnX name qual params body scope [] dV kV doc pm an cdv ct) (body := body) (binds := xs.zip vs) (by have := recursionLimit; show C.dp < recursionLimit; have : recursionLimit = 1000 := rfl; omega) ((ok.X.keeps F.keep) _ _ ho) rfl (ok.T.nolimit.keeps F.keep) (codeRec_of (ok.X.keeps F.keep) hcd) rfl (BindsTo.of_eq (hbind vs hvl))
    (fun x hx => of_decide_eq_true (List.all_eq_true.mp hcell x hx)) (fun y hy => hl1 _ (List.of_mem_zip hy).1) (fun h₁ hns hk₁ => ?_) hco hgen hk
  let C' : Cx := subCx C s X f qual scope cdv xs
  have ok' : C'.Ok := sub_ok ok F hbl hDX hFX hk hl1 hl2 hnd (by omega) (by omega)
  have F' : Fr C'.h₀ C'.L h₁ (fun y => (xs.zip vs).reverse.lookup y) := ⟨hns, fun b o e => hk₁ b o (of_hideAll _ e), Nat.le_of_eq (hideAll_size _ _)⟩
  have hzn : ((xs.zip vs).map (·.1)).Nodup := by
    have : (xs.zip vs).map (·.1) = xs.take vs.length := by
      rw [List.zip_eq_zip_take_min, List.map_fst_zip (by simp)]
      congr 1
      omega
    rw [this]; exact hnd.sublist (List.take_sublist _ _)
  have H' : Here C' ⟨ps.map some ++ List.replicate (xs.length - np) none, none, d⟩ [] { s with heap := h₁, toks := s.toks + (xs.zip vs).length } := by
    refine ⟨hg, hdr, hos, hdk.kb fun a ha o e => hk₁ _ _ e, ⟨_, F'⟩, fun a ha => ?_, ⟨_, hns, fun i x p e1 e2 => ?_, fun i l e => nomatch e⟩, fun b hb hl => ?_, fun a ha => nomatch ha⟩
    · have ha' : a ∈ C'.L :: C'.N :: X := ha
      have hL : ∃ o, h₁.get? s.heap.objs.size = some o := by
        obtain ⟨o, _, _, e, _⟩ := hns
        exact ⟨o, e⟩
      cases ha' with
      | head => exact hL
      | tail _ ha => cases ha with
        | head => exact hL
        | tail _ ha =>
          obtain ⟨o, e⟩ := hbl a ha
          exact ⟨o, hk₁ _ _ e⟩
    · obtain ⟨v, e, r⟩ := zip_look hr hnd e1 e2
      refine ⟨v, (lookup_rev hzn x).trans e, ?_⟩
      refine r.mono (KB.of hk₁) fun a o e hx => ?_
      have := lt_of e
      intro hm
      cases hm with
      | head => exact Nat.lt_irrefl _ this
      | tail _ hm => cases hm with
        | head => exact Nat.lt_irrefl _ this
        | tail _ hm => exact hx hm
    · cases hb with
      | head => exact absurd rfl hl
      | tail _ hb =>
        obtain ⟨_, o, h1, h2⟩ := hFX b hb
        refine ⟨o.slots, ?_⟩
        show h₁.get? b = some { (s.heap.get? b).getD emptyDict with slots := o.slots }
        rw [h2]; exact hk₁ _ _ h2
  exact h _ ok' H'
theorem call_core {W : Wd} {f : Addr} {rk : Nat} {g : SF} {name qual : Str} {params : Arguments} {body : List Stmt} {scope : Scope} {dV kV doc pm cdv ct oc : Value} {an od : Option Addr} {osl : Array (Option Value)} (np : Nat) (xs : List Str)
    (ho : W.K.lookup f = some ⟨oc, od, .func (fnOf name qual params body scope dV kV doc pm an cdv ct), osl⟩) (hcd : codeIn W.K cdv qual = true)
    (hbind : ∀ vs : List Value, vs.length = np → bindArgs (fnOf name qual params body scope dV kV doc pm an cdv ct) ⟨vs, []⟩ = pure (xs.zip vs))
    (hloc : (xs.all fun x => decide (scope.names.lookup x = some .local) && !(x == ("__debug__" : Str))) = true) (hnd : xs.Nodup) (hnp : np ≤ xs.length)
    (hco : scope.isCoroutine = false) (hgen : scope.isGenerator = false) (hk : scope.kind = .function) (hcell : (scope.names.all fun x => decide (x.2 ≠ .cell)) = true)
    {C : Cx} (hW : C.W = W) (ok : C.Ok) (hdp : C.dp + (rk + 1) < 900) {ft : Bool} (hft : ft = true → FsOk C) (hun : C.un + 4 * (rk + 1) < 2000) (h : ∀ C' : Cx, C'.Ok → C'.W = W → C'.N = C'.L → C'.env = envX qual scope C'.L f cdv [] → C'.xs = xs → (ft = true → FsOk C' ∧ C'.env = C'.fenv) → C'.dp + rk < 900 → C'.un + 4 * rk < 2000 → Runs C' body g)
    {X : List Addr} {s : Shared} {vs : List Value} {ps : List PV} {d : DS} {m : Str → Option Value} {Q E : Value → Shared → Prop} {out : Out} (hps : ps.length = np) (q : g ⟨ps.map some ++ List.replicate (xs.length - np) none, none, d⟩ = some out) (F : Fr C.h₀ C.L s.heap m) (hdk : DeckIn C.W C.d s.heap C.D d) (hg : s.gens = C.gens) (hdr : s.drawn = C.drawn) (hos : s.os = C.os)
    (hbl : ∀ a ∈ X, ∃ o, s.heap.get? a = some o) (hDX : ∀ a ∈ C.D, a ∈ X) (hFX : ∀ a ∈ C.Fs, a ∈ X ∧ ∃ o : Obj, (∀ vs, o.data ≠ .fields vs) ∧ s.heap.get? a = some o) (hr : Reps C.d X s.heap vs ps)
    (hQ : ∀ r d', out = .rt r d' ∨ (∃ σ', out = .nx σ' ∧ r = .val .none ∧ d' = σ'.dk) → ∀ v h' k, Fr C.h₀ C.L h' m → KB (C.D ++ C.Fs) s.heap h' → FK C.Fs s.heap h' → DeckIn C.W C.d h' C.D d' → RetF C.d X s.heap h' v r → Q v { s with heap := h', toks := k })
    (hE : ∀ d', out = .ex d' → FsOk C ∧ ∀ e h' k, Flown C s.heap h' e d' → E (.ref e) { s with heap := h', toks := k }) : wpAny C.M C.A (call (.ref f) vs) Q E s := by
  subst hW
  refine call_enter np xs ho hcd hbind hloc hnd hnp hco hgen hk hcell rfl ok (by omega) (by omega) hps F hdk hg hdr hos hbl hDX hFX hr fun s₁ ok' H' => ?_
  let C' : Cx := subCx C s X f qual scope cdv xs
  have fin : ∀ s' v r d', Here C' (goneS d') [] s' → RetF C'.d C'.X' C'.h₀ s'.heap v r → (∀ v h' k, Fr C.h₀ C.L h' m → KB (C.D ++ C.Fs) s.heap h' → FK C.Fs s.heap h' → DeckIn C.W C.d h' C.D d' → RetF C.d X s.heap h' v r → Q v { s with heap := h', toks := k }) → Q v s' := by
    intro s' v r d' Hn rf hQ
    obtain ⟨m', Fn⟩ := Hn.fr
    have es : s' = { s with heap := s'.heap, toks := s'.toks } := by
      obtain ⟨a, b, c, d, e⟩ := s'
      have g1 := Hn.gens; have g2 := Hn.drawn; have g3 := Hn.os
      dsimp only [C'] at g1 g2 g3 ⊢
      rw [g1, g2, g3, ← hg, ← hdr, ← hos]
    obtain ⟨kb, fk, F2⟩ := sub_back (xs := xs) (qual := qual) (f := f) (scope := scope) (cdv := cdv) (σ := goneS d') (oa := []) ok F hFX Fn Hn.fs
    rw [es]
    refine hQ v s'.heap s'.toks F2 kb fk Hn.deck ?_
    cases r with
    | val p => exact Rep.less (fun a ha => .tail _ (.tail _ ha)) rf
    | own l =>
      obtain ⟨a, vs', k, e1, e2, e3, e4, e5⟩ := rf
      have ha : a ∉ X := fun hx => e4 (.tail _ (.tail _ hx))
      refine ⟨a, vs', k, e1, e2, ?_, ha, e5.less fun b hx => ?_⟩
      · cases q : s.heap.get? a with
        | none => rfl
        | some o =>
          have := hide_get (l := C.D ++ C.Fs) q fun hd => (List.mem_append.mp hd).elim (fun hd => ha (hDX _ hd)) fun hd => ha (hFX _ hd).1
          rw [show C'.h₀ = hideAll s.heap (C.D ++ C.Fs) from rfl] at e3
          rw [this] at e3; cases e3
      · cases hx with
        | head => exact .head _
        | tail _ hx => exact .tail _ (.tail _ (.tail _ hx))
  refine h C' ok' rfl rfl rfl rfl (fun z => ⟨(hft z).sub hk, rfl⟩) (by show C.dp + 1 + rk < 900; omega) (by show C.un + 3 + 4 * rk < 2000; omega) _ _ _ _ _ _ q H' ?_
  cases out with
  | nx σ' => exact fun oa' s' Hn _ => fin s' .none (.val .none) _ Hn.gone .none (hQ _ _ (.inr ⟨σ', rfl, rfl, rfl⟩))
  | rt r' d2 => exact fun v s' Hn rf => fin s' v _ _ Hn rf (hQ _ _ (.inl rfl))
  | ex d2 =>
    intro v s' B
    obtain ⟨hx, hE⟩ := hE d2 rfl
    obtain ⟨e, h2, m2, rfl, F2, dk2, bn, g1, g2, g3, f2⟩ := B
    obtain ⟨tt, dx, o, b1, b2, b3, args, n, b4, b5⟩ := bn.there
    have hx' : FsOk C' := hx.sub hk
    have fr : ∀ L ∈ (C'.fenv :: C'.outer).filterMap (·.frame), L ∈ C'.Fs := fun L hL => hx'.fs ▸ hL
    have live : ∀ L ∈ C'.Fs, ∃ o : Obj, (∀ vs, o.data ≠ .fields vs) ∧ h2.get? L = some o := fun L hL => by
      by_cases hl : L = C'.L
      · obtain ⟨o, es, ep, e1, e2, _⟩ := F2.ns
        exact ⟨o, fun vs z => (by rw [e2] at z; cases z), hl ▸ e1⟩
      · obtain ⟨sl, e1⟩ := f2 L hL hl
        exact ⟨{ C'.fo L with slots := sl }, fun vs => ok'.fnf L hL vs, e1⟩
    refine wpAny_leaving_firstW (base := hideAll h2 C'.Fs) (outer := C'.outer) (L := s.heap.objs.size) rfl (funFrames_of hx'.all fun L hL => ?_) rfl b1 (fun b o e1 => bn.keeps _ _ (of_hideAll _ e1)) ?_ rfl rfl rfl fun h' hL => ?_
    · obtain ⟨o, o1, o2⟩ := live L (fr L hL)
      exact ⟨hideAll_none _ (fr L hL), o, o1, bn.keeps _ _ o2⟩
    · cases z : (hideAll h2 C'.Fs).get? e with
      | none => rfl
      | some o => have := of_hideAll _ z; rw [bn.new] at this; cases this
    · obtain ⟨k1, ⟨_, _, k2⟩, k3, k4⟩ := hL
      obtain ⟨kb, fk, _⟩ := sub_back (s' := { s' with heap := h2 }) (xs := xs) (qual := qual) (f := f) (scope := scope) (cdv := cdv) (σ := goneS d2) (oa := []) ok F hFX F2 f2
      have es : ({ s' with heap := h' } : Shared) = { s with heap := h', toks := s'.toks } := by
        obtain ⟨a, b, c, d, e⟩ := s'
        dsimp only [C'] at g1 g2 g3 ⊢
        rw [g1, g2, g3, ← hg, ← hdr, ← hos]
      show E (.ref e) { s' with heap := h' }
      rw [es]
      refine hE e h' s'.toks ⟨h2, s.heap.objs.size, _, size_none _, kb, fk, dk2, ⟨k1, ?_, k2, k3⟩, (Heap.UpToSlots.of_keeps bn.keeps).trans k4⟩
      cases z : (hideAll h2 C'.Fs).get? e with
      | none => rfl
      | some o => have := of_hideAll _ z; rw [bn.new] at this; cases this
theorem FnD.of_runs {W : Wd} {f : Addr} {rk : Nat} {ex : Bool} {g : SF} {name qual : Str} {params : Arguments} {body : List Stmt} {scope : Scope} {dV kV doc pm cdv ct oc : Value} {an od : Option Addr} {osl : Array (Option Value)} (np : Nat) (xs : List Str)
    (ho : W.K.lookup f = some ⟨oc, od, .func (fnOf name qual params body scope dV kV doc pm an cdv ct), osl⟩) (hcd : codeIn W.K cdv qual = true)
    (hbind : ∀ vs : List Value, vs.length = np → bindArgs (fnOf name qual params body scope dV kV doc pm an cdv ct) ⟨vs, []⟩ = pure (xs.zip vs))
    (hloc : (xs.all fun x => decide (scope.names.lookup x = some .local) && !(x == ("__debug__" : Str))) = true) (hnd : xs.Nodup) (hnp : np ≤ xs.length)
    (hco : scope.isCoroutine = false) (hgen : scope.isGenerator = false) (hk : scope.kind = .function) (hcell : (scope.names.all fun x => decide (x.2 ≠ .cell)) = true)
    (h : ∀ C : Cx, C.Ok → C.W = W → C.N = C.L → C.env = envX qual scope C.L f cdv [] → C.xs = xs → (ex = true → FsOk C ∧ C.env = C.fenv) → C.dp + rk < 900 → C.un + 4 * rk < 2000 → Runs C body g) : FnD W f (rk + 1) ex (runF np (xs.length - np) g) := by
  intro C hW ok hfx hdp hun X s vs ps r d d' m Q E hF F hdk hg hdr hos hbl hDX hFX hr hQ
  unfold runF at hF
  split at hF
  · rename_i hps
    split at hF
    · rename_i q
      cases hF
      exact call_core np xs ho hcd hbind hloc hnd hnp hco hgen hk hcell hW ok hdp hfx hun h (of_decide_eq_true hps) q F hdk hg hdr hos hbl hDX hFX hr (fun r d' e => by
        rcases e with e | ⟨σ', e, _⟩
        · cases e; exact hQ
        · cases e) (fun d' e => nomatch e)
    · rename_i σ' q
      cases hF
      exact call_core np xs ho hcd hbind hloc hnd hnp hco hgen hk hcell hW ok hdp hfx hun h (of_decide_eq_true hps) q F hdk hg hdr hos hbl hDX hFX hr (fun r d' e => by
        rcases e with e | ⟨σ', e, rfl, rfl⟩
        · cases e
        · cases e; exact hQ) (fun d' e => nomatch e)
    · cases hF
  · cases hF
theorem FnX.of_runs {W : Wd} {f : Addr} {rk : Nat} {g : SF} {name qual : Str} {params : Arguments} {body : List Stmt} {scope : Scope} {dV kV doc pm cdv ct oc : Value} {an od : Option Addr} {osl : Array (Option Value)} (np : Nat) (xs : List Str)
    (ho : W.K.lookup f = some ⟨oc, od, .func (fnOf name qual params body scope dV kV doc pm an cdv ct), osl⟩) (hcd : codeIn W.K cdv qual = true)
    (hbind : ∀ vs : List Value, vs.length = np → bindArgs (fnOf name qual params body scope dV kV doc pm an cdv ct) ⟨vs, []⟩ = pure (xs.zip vs))
    (hloc : (xs.all fun x => decide (scope.names.lookup x = some .local) && !(x == ("__debug__" : Str))) = true) (hnd : xs.Nodup) (hnp : np ≤ xs.length)
    (hco : scope.isCoroutine = false) (hgen : scope.isGenerator = false) (hk : scope.kind = .function) (hcell : (scope.names.all fun x => decide (x.2 ≠ .cell)) = true)
    (h : ∀ C : Cx, C.Ok → C.W = W → C.N = C.L → C.env = envX qual scope C.L f cdv [] → C.xs = xs → FsOk C → C.dp + rk < 900 → C.un + 4 * rk < 2000 → Runs C body g) : FnX W f (rk + 1) (runX np (xs.length - np) g) := by
  intro C hW ok hfx hdp hun X s vs ps r d d' m Q E hF F hdk hg hdr hos hbl hDX hFX hr hQ hE
  unfold runX at hF
  split at hF
  · rename_i hps
    split at hF
    · rename_i q
      cases hF
      exact call_core np xs ho hcd hbind hloc hnd hnp hco hgen hk hcell hW ok hdp (ft := true) (fun _ => hfx) hun (fun C' a b c d e f => h C' a b c d e (f rfl).1) (of_decide_eq_true hps) q F hdk hg hdr hos hbl hDX hFX hr (fun r d' e => by
        rcases e with e | ⟨σ', e, _⟩
        · cases e; exact hQ _ rfl
        · cases e) (fun d' e => nomatch e)
    · rename_i q
      cases hF
      exact call_core np xs ho hcd hbind hloc hnd hnp hco hgen hk hcell hW ok hdp (ft := true) (fun _ => hfx) hun (fun C' a b c d e f => h C' a b c d e (f rfl).1) (of_decide_eq_true hps) q F hdk hg hdr hos hbl hDX hFX hr (fun r d' e => by
        rcases e with e | ⟨σ', e, _⟩
        · cases e
        · cases e) (fun d' e => by cases e; exact ⟨hfx, hE rfl⟩)
    · cases hF
  · cases hF
end Mine

namespace Mine
/-! the deck -/
noncomputable def deckI (i : Nat) (turn : Bool) : EF := fun σ => match look σ.vars i, σ.dk with
  | some .deck, some k => some (.st (.int (match turn with | true => k.turn | false => k.mixed)), some k)
  | _, _ => none
noncomputable def deckTurn (i : Nat) (f : EF) : SF := fun σ => match f σ with
  | some (.st (.int n), some k) => (match look σ.vars i with
    | some .deck => some (.nx (σ.setD (some ⟨k.cells, k.mixed, n⟩)))
    | _ => none)
  | _ => none
noncomputable def deckHas (i : Nat) : TF := fun σ => match look σ.vars i, σ.dk with
  | some .deck, some k => some (!k.cells.isEmpty, some k)
  | _, _ => none
noncomputable def deckPop (i : Nat) : EF := fun σ => match look σ.vars i, σ.dk with
  | some .deck, some k => (match k.cells.getLast? with
    | some n => if k.cells.length ≤ 1000 then some (.st (.int n), some ⟨k.cells.dropLast, k.mixed, k.turn⟩) else none
    | none => none)
  | _, _ => none
noncomputable def deckPush (i : Nat) (f : EF) : SF := fun σ => match f σ with
  | some (.st (.int n), some k) => (match look σ.vars i, σ.dk with
    | some .deck, some _ => if k.cells.length ≤ 1000 then some (.nx (σ.setD (some ⟨k.cells ++ [n], k.mixed, k.turn⟩))) else none
    | _, _ => none)
  | _ => none
theorem DeckIn.inv {W : Wd} {d : Addr} {h : Heap} {D : List Addr} {k : Dk} (x : DeckIn W d h D (some k)) : ∃ c tm tt vs n2, D = [d, c] ∧ d ≠ c ∧ h.DictOf (strKind W.prog W.w) d [("cells", .ref c), ("mixed", .int k.mixed tm), ("turn", .int k.turn tt)] ∧ h.get? c = some (lstO vs n2) ∧ IntsAre vs k.cells := by
  cases x with
  | yes hne tm tt hd vs n2 hc hi => exact ⟨_, tm, tt, vs, n2, rfl, hne, hd, hc, hi⟩
theorem ints_take {vs : List Value} {ns : List Int} (h : IntsAre vs ns) : ∀ n, IntsAre (vs.take n) (ns.take n) := by
  induction h with
  | nil => intro n; rw [List.take_nil, List.take_nil]; exact .nil
  | cons a t _ ih =>
    intro n
    cases n with
    | zero => exact .nil
    | succ n => exact .cons a t (ih n)
theorem ints_snoc {vs : List Value} {ns : List Int} (h : IntsAre vs ns) (a : Int) (t : Tok) : IntsAre (vs ++ [.int a t]) (ns ++ [a]) := by
  induction h with
  | nil => exact .cons a t .nil
  | cons b u _ ih => exact .cons b u ih
theorem ints_get {vs : List Value} {ns : List Int} (h : IntsAre vs ns) : ∀ {i : Nat} {n : Int}, ns[i]? = some n → ∃ t, vs[i]? = some (.int n t) := by
  induction h with
  | nil => intro i n e; cases e
  | cons a t _ ih =>
    intro i n e
    cases i with
    | zero => cases e; exact ⟨t, rfl⟩
    | succ i => exact ih e
section
variable {C : Cx} {σ : St} {oa : List Addr}
theorem deck_name (ok : C.Ok) {s : Shared} (H : Here C σ oa s) {x : Str} {i : Nat} {pos : Pos} (hi : C.xs[i]? = some x) (hx : look σ.vars i = some .deck) {Q : Value → Shared → Prop} {E : Value → Shared → Prop} (h : Q (.ref C.d) s) : wpAny C.M C.A (eval (.Name x pos) C.env) Q E s := by
  obtain ⟨hk, hd⟩ := ok.xk i x hi
  obtain ⟨n, hn, hv, _⟩ := H.ns
  obtain ⟨v, e, r⟩ := hv i x _ hi hx
  obtain rfl := Rep.deck_inv r
  exact wpAny_Name (wpAny_loadName_local ok.eK hk (by rw [ok.eN]; exact hn) e h) hd
theorem deck_item (ok : C.Ok) {s : Shared} (H : Here C σ oa s) {x key : Str} {i : Nat} {k : Dk} {kk : Nat} {pp ip pos : Pos} (hi : C.xs[i]? = some x) (hx : look σ.vars i = some .deck) {kvs : List (Str × Value)} {v : Value} (hm : s.heap.DictOf (strKind C.W.prog C.W.w) C.d kvs) (hv : valueAt kvs key = some v) {Q : Value → Shared → Prop} {E : Value → Shared → Prop} (h : ∀ k, Q v { s with toks := k }) : wpAny C.M C.A (eval (.Subscript (.Name x pp) (.Constant (.str key) kk ip) pos) C.env) Q E s :=
  Subscript_ (deck_name ok H hi hx (Calls.Constant_str (tail_any ⟨"dict", _, slot_dict_getitem.lookup, hm.typeIs, wpAny_getItem_of (strKind_is _ _ _ _) hm.mapOf hv (h _)⟩ rfl)))
theorem deck_val {c : Addr} {m t : Int} {tm tt : Tok} : valueAt [(("cells" : Str), Value.ref c), ("mixed", .int m tm), ("turn", .int t tt)] "cells" = some (.ref c) ∧ valueAt [(("cells" : Str), Value.ref c), ("mixed", .int m tm), ("turn", .int t tt)] "mixed" = some (.int m tm) ∧ valueAt [(("cells" : Str), Value.ref c), ("mixed", .int m tm), ("turn", .int t tt)] "turn" = some (.int t tt) := by
  refine ⟨rfl, ?_, ?_⟩ <;> rfl
theorem EvD.deckI (ok : C.Ok) {x key : Str} (i : Nat) (turn : Bool) {kk : Nat} {pp ip pos : Pos} (hi : C.xs[i]? = some x) (hkey : key = match turn with | true => ("turn" : Str) | false => ("mixed" : Str)) : EvD C (.Subscript (.Name x pp) (.Constant (.str key) kk ip) pos) (deckI i turn) := fun σ oa s Q E rv d h H hQ => by
  unfold Mine.deckI at h
  split at h
  · rename_i k hx hk
    cases h
    have hdk := H.deck
    rw [hk] at hdk
    obtain ⟨c, tm, tt, vs, n2, hD, hne, hd, hc, hint⟩ := hdk.inv
    subst hkey
    have e : σ.setD (some k) = σ := by rw [← hk]
    rw [e] at hQ
    cases turn with
    | true => exact deck_item (k := k) ok H hi hx hd deck_val.2.2 fun t => hQ _ _ (H.toks t) (KQ.refl _) (.int _ _)
    | false => exact deck_item (k := k) ok H hi hx hd deck_val.2.1 fun t => hQ _ _ (H.toks t) (KQ.refl _) (.int _ _)
  · cases h
theorem Run1.deckTurn (ok : C.Ok) {x : Str} (i : Nat) {kk : Nat} {pp ip spos pos : Pos} {e : Expr} {f : EF} (hf : EvD C e f) (hi : C.xs[i]? = some x)
    (hs : swapsWith e (some (.Subscript (.Name x pp) (.Constant (.str "turn") kk ip) spos)) pos.line C.env = pure false := by rfl) : Run1 C (.Assign [.Subscript (.Name x pp) (.Constant (.str "turn") kk ip) spos] e pos) (deckTurn i f) := fun σ oa s Q E out h H hQ => by
  unfold Mine.deckTurn at h
  split at h
  · rename_i n k q
    split at h
    · rename_i hx
      cases h
      refine wpAny_Assign_Subscript (hf σ oa s _ _ _ _ q H fun v s₁ H₁ k₁ r => deck_name ok H₁ hi hx (Calls.Constant_str ?_)) hs
      obtain ⟨t, rfl⟩ := Rep.int_inv r
      obtain ⟨c, tm, tt, vs, n2, hD, hne, hd, hc, hint⟩ := H₁.deck.inv
      refine wpAny_setItem_pairs (strKind_is _ _ _ _) hd (fun h' hd' hs' => ?_) (by show 3 ≤ sizeLine; decide)
      have hk : ∀ b, b ≠ C.d → h'.get? b = s₁.heap.get? b := hs'.2
      obtain ⟨H₂, kb⟩ := H₁.after0 (k := s₁.toks + 1 + 1) (d := some ⟨k.cells, k.mixed, n⟩) ok (fun b o hb e => (hk b fun q => hb (by rw [hD, q]; exact .head _)).trans e) (by rw [hD]; exact .yes hne tm t hd' vs n2 ((hk c (Ne.symm hne)).trans hc) hint)
      exact hQ oa _ H₂ (Mv.of (k₁.trans kb))
    · cases h
  · cases h
theorem TeD.deckHas (ok : C.Ok) {x : Str} (i : Nat) {kk : Nat} {pp ip spos lpos pos : Pos} (hi : C.xs[i]? = some x) : TeD C (.Compare (.Subscript (.Name x pp) (.Constant (.str "cells") kk ip) spos) [.NotEq] [.List [] lpos] pos) (deckHas i) := fun σ oa s Q E b d h H hQ => by
  unfold Mine.deckHas at h
  split at h
  · rename_i k hx hk
    cases h
    have hdk := H.deck
    rw [hk] at hdk
    obtain ⟨c, tm, tt, vs, n2, hD, hne, hd, hc, hint⟩ := hdk.inv
    have e : σ.setD (some k) = σ := by rw [← hk]
    rw [e] at hQ
    refine wpAny_isTrue_Compare1 (deck_item (k := k) ok H hi hx hd deck_val.1 fun t => wpAny_List (wpAny_items_nil ⟨by decide, ?_⟩)) rfl
    have hl := (isList_of hc).push { cls := .type "list", data := .seq ([] : List Value).toArray }
    have hl2 : (s.heap.push { cls := .type "list", data := .seq ([] : List Value).toArray }).IsList s.heap.objs.size ([] : List Value).toArray := ⟨_, Heap.get?_push_size _ rfl, rfl, _, rfl⟩
    have fin : ∀ r, RcNeAt C.A { s with heap := s.heap.push { cls := .type "list", data := .seq ([] : List Value).toArray }, toks := t } (.ref c) (.ref s.heap.objs.size) r → r = (!k.cells.isEmpty) → wpAny C.M C.A (compareOp .NotEq (.ref c) (.ref s.heap.objs.size)) (fun v s₁ => wpAny C.M C.A (truthy v) Q E s₁) E { s with heap := s.heap.push { cls := .type "list", data := .seq ([] : List Value).toArray }, toks := t } := fun r hr e => by
      refine hr _ _ _ _ (wpAny_truthy_bool ?_)
      rw [e]
      exact hQ _ (H.push ok _) (KQ.push _ _)
    have hlen := hint.length
    cases hc0 : k.cells with
    | nil =>
      rw [hc0] at hlen
      obtain rfl := List.length_eq_zero_iff.mp hlen
      exact fin _ (RcNeAt.lists hl hl2 rfl (units_lt ok) (e := fun _ => true) fun j h1 => absurd h1 (Nat.not_lt_zero _)) (by rw [hc0]; rfl)
    | cons a l =>
      rw [hc0] at hlen
      refine fin _ (RcNeAt.lists_lengths hl hl2 ?_ (units_lt ok)) (by rw [hc0]; rfl)
      rw [List.size_toArray, hlen]; rfl
  · cases h
theorem cells_after (ok : C.Ok) {s : Shared} {k k' : Dk} {c : Addr} {tm tt : Tok} {vs : List Value} {n2 : Nat} {h' : Heap} {t : Nat} (H : Here C (σ.setD (some k)) oa s) (hD : C.D = [C.d, c]) (hne : C.d ≠ c) (hd : s.heap.DictOf (strKind C.W.prog C.W.w) C.d [("cells", .ref c), ("mixed", .int k.mixed tm), ("turn", .int k.turn tt)]) (hk : ∀ b, b ≠ c → h'.get? b = s.heap.get? b)
    (hc : h'.get? c = some (lstO vs n2)) (hi : IntsAre vs k'.cells) (e1 : k'.mixed = k.mixed) (e2 : k'.turn = k.turn) : Here C (σ.setD (some k')) oa { s with heap := h', toks := t } ∧ KQ C s.heap h' := by
  obtain ⟨o, es, ep, e, r⟩ := hd
  obtain ⟨cells, mixed, turn⟩ := k'
  subst e1 e2
  refine H.after0 (d := some ⟨cells, k.mixed, k.turn⟩) ok (fun b o hb e => (hk b fun q => hb (by rw [hD, q]; exact .tail _ (.head _))).trans e) ?_
  rw [hD]
  exact .yes hne tm tt ⟨o, es, ep, (hk _ hne).trans e, r⟩ vs n2 hc hi
theorem EvD.deckPop (ok : C.Ok) {x : Str} (i : Nat) {kk : Nat} {pp ip spos apos pos : Pos} (hi : C.xs[i]? = some x) (hline : (apos.endLine == pos.line) = true) : EvD C (.Call (.Attribute (.Subscript (.Name x pp) (.Constant (.str "cells") kk ip) spos) "pop" apos) [] [] pos) (deckPop i) := fun σ oa s Q E rv d h H hQ => by
  unfold Mine.deckPop at h
  split at h
  · rename_i k hx hk
    split at h
    · rename_i n hn
      by_cases hz : k.cells.length ≤ 1000
      · rw [if_pos hz] at h; cases h
        have hdk := H.deck
        rw [hk] at hdk
        obtain ⟨c, tm, tt, vs, n2, hD, hne, hd, hc, hint⟩ := hdk.inv
        have e : σ.setD (some k) = σ := by rw [← hk]
        have hlen := hint.length
        rw [List.getLast?_eq_getElem?] at hn
        obtain ⟨t, hv⟩ := ints_get hint hn
        refine wpAny_Call_method (T := "list") (id := "list.pop") rfl rfl hline F.plainAttrs_list F.slot_list_pop F.type_list_pop (deck_item (k := k) ok H hi hx hd deck_val.1 fun tk => ⟨⟨_, hc, rfl⟩, fun b eb => by cases eb; exact ⟨_, hc, rfl⟩, ?_⟩)
        refine PySem.P.pop_list (s := { s with toks := tk }) hc (y := .int n t) ?_ ?_ ?_
        · rw [List.size_toArray, hlen]; simpa using hv
        · obtain ⟨m, e6⟩ := mapSeq_at hc fun xs => xs.eraseIdxIfInBounds (vs.toArray.size - 1)
          have hvs : vs ≠ [] := fun e => by subst e; cases hv
          have hset : vs.toArray.eraseIdxIfInBounds (vs.toArray.size - 1) = vs.dropLast.toArray := by
            obtain ⟨vs', w, rfl⟩ : ∃ vs' w, vs = vs' ++ [w] := ⟨vs.dropLast, vs.getLast hvs, (List.dropLast_concat_getLast hvs).symm⟩
            simp [Array.eraseIdxIfInBounds, List.eraseIdx_append_of_length_le]
          rw [hset] at e6
          have hint' : IntsAre vs.dropLast k.cells.dropLast := by
            rw [List.dropLast_eq_take, List.dropLast_eq_take, hlen]; exact ints_take hint _
          obtain ⟨H', kb⟩ := cells_after (t := tk) (k' := ⟨k.cells.dropLast, k.mixed, k.turn⟩) ok (σ := σ) (by rw [e]; exact H) hD hne hd (fun b hb => Heap.get?_update_other _ _ (Ne.symm hb)) e6 hint' rfl rfl
          exact hQ _ _ H' kb (.int _ _)
        · rw [List.size_toArray, hlen, show sizeLine = 16777216 by decide]; omega
      · rw [if_neg hz] at h; cases h
    · cases h
  · cases h
theorem Run1.deckPush (ok : C.Ok) {x : Str} (i : Nat) {kk : Nat} {pp ip spos apos pos epos : Pos} {e : Expr} {f : EF} (hf : EvD C e f) (hi : C.xs[i]? = some x) (hst : starEach [e] C.env = (false, eval e C.env) :: starEach [] C.env) (hline : (apos.endLine == pos.line) = true) :
    Run1 C (.Expr (.Call (.Attribute (.Subscript (.Name x pp) (.Constant (.str "cells") kk ip) spos) "append" apos) [e] [] pos) epos) (deckPush i f) := fun σ oa s Q E out h H hQ => by
  unfold Mine.deckPush at h
  split at h
  · rename_i n k q
    split at h
    · rename_i k0 hx hk0
      by_cases hz : k.cells.length ≤ 1000
      · rw [if_pos hz] at h; cases h
        have hdk := H.deck
        rw [hk0] at hdk
        obtain ⟨c, tm, tt, vs, n2, hD, hne, hd, hc, hint⟩ := hdk.inv
        refine wpAny_Expr (wpAny_Call_method (T := "list") (id := "list.append") rfl (by rw [hst]; rfl) hline F.plainAttrs_list F.slot_list_append F.type_list_append (deck_item (k := k0) ok H hi hx hd deck_val.1 fun tk => ⟨⟨_, hc, rfl⟩, fun b eb => by cases eb; exact ⟨_, hc, rfl⟩, ?_⟩)) ok.eI
        rw [show backTo pos (starEach [e] C.env) = [(false, eval e C.env)] by rw [hst]; rfl]
        refine PySem.P.append_list (hf σ oa _ _ _ _ _ q (H.toks tk) fun v s₁ H₁ k₁ r => ?_)
        obtain ⟨c', tm', tt', vs', n2', hD', hne', hd', hc', hint'⟩ := H₁.deck.inv
        obtain rfl : c = c' := by rw [hD] at hD'; cases hD'; rfl
        refine ⟨vs'.toArray, n2', ?_, hc', ?_⟩
        · rw [List.size_toArray, hint'.length, show sizeLine = 16777216 by decide]; omega
        · obtain ⟨t, rfl⟩ := Rep.int_inv r
          obtain ⟨m, e6⟩ := mapSeq_at hc' fun xs => xs.push (Value.int n t)
          rw [show vs'.toArray.push (Value.int n t) = (vs' ++ [Value.int n t]).toArray by simp] at e6
          obtain ⟨H', kb⟩ := cells_after (t := s₁.toks) (k' := ⟨k.cells ++ [n], k.mixed, k.turn⟩) ok H₁ hD hne hd' (fun b hb => Heap.get?_update_other _ _ (Ne.symm hb)) e6 (ints_snoc hint' n t) rfl rfl
          exact hQ oa _ H' (Mv.of (k₁.trans kb))
      · rw [if_neg hz] at h; cases h
    · cases h
  · cases h
end
end Mine

namespace Mine
noncomputable def attrF (K : Addr) (j : Nat) (f : EF) : EF := fun σ => match f σ with
  | some (.st (.inst c ps), d) => (match decide (c = K) with
    | true => (match ps[j]? with | some p => some (.st p, d) | none => none)
    | false => none)
  | _ => none
/-- the one argument of a method without more -/
noncomputable def selfF (K : Addr) (f : EF) : AF := fun σ => match f σ with
  | some (.st (.inst c ps), d) => (match decide (c = K) with
    | true => some ([.inst c ps], d)
    | false => none)
  | _ => none
noncomputable def makeF (K : Addr) (n : Nat) (g : AF) : EF := fun σ => match g σ with
  | some (ps, d) => (match decide (ps.length = n) with
    | true => some (.st (.inst K ps), d)
    | false => none)
  | none => none
theorem RepF.get {d : Addr} {X : List Addr} {h : Heap} : ∀ {xs : List Str} {es : List DictEntry} {ps : List PV}, RepF d X h xs es ps → xs.Nodup → ∀ {j : Nat} {x : Str} {p : PV}, xs[j]? = some x → ps[j]? = some p → ∃ v, es.find? (·.key.isStr x) = some v ∧ Rep d X h v.val p := by
  intro xs
  induction xs with
  | nil => intro es ps r hn j x p e; cases e
  | cons y xs ih =>
    intro es ps r hn j x p e ep
    obtain ⟨hn1, hn2⟩ := List.nodup_cons.mp hn
    cases r with
    | @cons hh _ t v q _ es fs hv hs =>
      cases j with
      | zero =>
        cases e; cases ep
        exact ⟨⟨hh, .str y t, v⟩, by rw [List.find?_cons, show Value.isStr (.str y t) y = true from beq_self_eq_true y], hv⟩
      | succ j =>
        obtain ⟨w, e1, e2⟩ := ih hs hn2 e ep
        refine ⟨w, ?_, e2⟩
        have hne : Value.isStr (.str y t) x = false := beq_eq_false_iff_ne.mpr fun q => hn1 (q ▸ List.mem_of_getElem? e)
        rw [List.find?_cons, hne]; exact e1
theorem RepF.noRef {d : Addr} {X : List Addr} {h : Heap} : ∀ {xs : List Str} {es : List DictEntry} {ps : List PV}, RepF d X h xs es ps → es.any (·.refKey) = false := by
  intro xs
  induction xs with
  | nil => intro es ps r; cases r; rfl
  | cons y xs ih => intro es ps r; cases r with | cons hv hs => rw [List.any_cons, ih hs]; rfl
theorem RepF.miss {d : Addr} {X : List Addr} {h : Heap} : ∀ {xs : List Str} {es : List DictEntry} {ps : List PV}, RepF d X h xs es ps → ∀ {x : Str}, x ∉ xs → es.find? (·.key.isStr x) = none := by
  intro xs
  induction xs with
  | nil => intro es ps r x hx; cases r; rfl
  | cons y xs ih =>
    intro es ps r x hx
    cases r with
    | @cons hh _ t v q _ es fs hv hs =>
      have hne : Value.isStr (.str y t) x = false := beq_eq_false_iff_ne.mpr fun q => hx (by rw [q]; exact .head _)
      rw [List.find?_cons, hne]
      exact ih hs fun h => hx (.tail _ h)
theorem handed_of {d : Addr} {X : List Addr} {h : Heap} {v : Value} {p : PV} (r : Rep d X h v p) : handedIn v = true := by
  cases r <;> rfl
/-- what the class gives for a field -/
structure FieldOk (K : Frag) (C : Addr) (x : Str) : Prop where
  g : plainGet K C x = true
  h : hasDictIn K C = true
  a : ∃ attr, findIn K (.ref C) x = some attr ∧ noGet K attr = true
structure MethOk (K : Frag) (C : Addr) (x : Str) (f : Addr) : Prop where
  g : plainGet K C x = true
  at_ : findIn K (.ref C) x = some (some (.ref f))
  t : isFn K (.ref f) = true
  k : keepIn K (.ref f) = true
  no : x ∉ fieldsOf C
section
variable {C : Cx} {σ : St} {oa : List Addr}
theorem inst_at {h : Heap} {a dx c : Addr} {es : List DictEntry} {n : Nat} (ho : h.get? a = some (instObj c dx)) (hq : h.get? dx = some (dictOf es n)) : PySem.W.InstAt h a (instObj c dx) c (some (dictOf es n)) := ⟨ho, rfl, rfl, hq⟩
theorem attribute_ {e : Expr} {x : Str} {pos : Pos} {s : Shared} {Q : Value → Shared → Prop} {E : Value → Shared → Prop} (hbase : attributeBase e x C.env (eval e C.env) = eval e C.env) (h : wpAny C.M C.A (eval e C.env) (fun v s₁ => wpAny C.M C.A (getAttr v x true) Q E s₁) E s) : wpAny C.M C.A (eval (.Attribute e x pos) C.env) Q E s := by
  rw [arm_eval_Attribute, hbase]
  exact wpAny_bind (wpAny_mono h (fun v s₁ h₁ => wpAny_bind (wpAny_standAt (wpAny_bind (wpAny_holding (wpAny_mono h₁ (fun r s₂ h₂ => wpAny_bind (wpAny_letTemporaryGo (wpAny_pure h₂))) fun _ _ e => e))))) fun _ _ e => e)
theorem EvD.attr (ok : C.Ok) {e : Expr} {x : Str} {pos : Pos} {K j : Nat} {f : EF} (hf : EvD C e f) (ho : FieldOk C.W.K K x) (hj : (fieldsOf K)[j]? = some x) (hn : (fieldsOf K).Nodup) (hbase : attributeBase e x C.env (eval e C.env) = eval e C.env := by rfl) : EvD C (.Attribute e x pos) (attrF K j f) := fun σ oa s Q E rv d h H hQ => by
  unfold attrF at h
  split at h
  · rename_i c ps d' q
    by_cases hc : c = K
    · rw [decide_eq_true hc] at h
      dsimp only at h
      split at h
      · rename_i p ep
        cases h
        subst hc
        refine attribute_ hbase (hf σ oa s _ _ _ _ q H fun v s₁ H₁ k₁ r => ?_)
        obtain ⟨a, dx, es, n, rfl, ha, hd, ho', hq, hr⟩ := Rep.inst_inv r
        obtain ⟨w, e1, e2⟩ := hr.get hn hj ep
        obtain ⟨attr, f1, f2⟩ := ho.a
        obtain ⟨m, F⟩ := H₁.fr
        exact get_own F ok.X (inst_at ho' hq) ho.g ho.h f1 f2 (by unfold getL; rw [e1]) (handed_of e2) (hQ _ _ (H₁.toks _) k₁ e2)
      · cases h
    · rw [decide_eq_false hc] at h; cases h
  · cases h
/-- a method of an object, without arguments -/
theorem EvD.meth0 (ok : C.Ok) {e : Expr} {x : Str} {apos pos : Pos} {K fm : Nat} {F : FF} {f : EF} {rk : Nat} {ex : Bool} (hf : EvD C e f) (ho : MethOk C.W.K K x fm) (hF : FnD C.W fm rk ex F) (hfx : ex = true → FsOk C) (hdp : C.dp + rk < 900) (hun : C.un + 4 * rk < 2000) (pl : Sem Bool)
    (he : eval (.Call (.Attribute e x apos) [] [] pos) C.env = (do
      let ov ← eval e C.env
      standAt apos.atName
      let (f, first) ← holding [ov] (getMethod ov x pl)
      callWith pos f first (backTo pos (starEach [] C.env)) (backToKw pos (keywordEach [] C.env)))) : EvD C (.Call (.Attribute e x apos) [] [] pos) (callF F (selfF K f)) := fun σ oa s Q E rv d h H hQ => by
  unfold callF selfF at h
  split at h
  · cases h
  · rename_i ps d1 q1
    split at q1
    · rename_i c qs d2 q2
      by_cases hc : c = K
      · rw [decide_eq_true hc] at q1; cases q1
        subst hc
        have go : ∀ r d', F [.inst c qs] d1 = some (r, d') → (∀ v (s₁ s' : Shared), Here C (σ.setD d') oa s' → KQ C s.heap s₁.heap → KQ C s₁.heap s'.heap → RetF C.d (oa ++ C.X') s₁.heap s'.heap v r → Q v s') → wpAny C.M C.A (eval (.Call (.Attribute e x apos) [] [] pos) C.env) Q E s := fun r d' hr hQ => by
          refine methodCall_KW (pl := pl) (hf σ oa s _ _ _ _ q2 H fun v s₁ H₁ k₁ r₁ => ?_) he
          have r₁' := r₁
          cases r₁ with
          | @inst a dx _ es n fs ha hd ho' hq hfs =>
            obtain ⟨m, F₁⟩ := H₁.fr
            refine method_inst F₁ ok.X (inst_at ho' hq) ho.g ho.at_ ho.t ?_ ?_
            · unfold getL; rw [hfs.miss ho.no, hfs.noRef]; rfl
            · refine callWith_K0 (ok.X.keeps F₁.keep) ho.k ?_
              exact hF C rfl ok hfx hdp hun (oa ++ C.X') s₁ [.ref a] [.inst c qs] r d1 d' m Q E hr F₁ H₁.deck H₁.gens H₁.drawn H₁.os H₁.alive (fun b hb => sub_X' ok hb) (H₁.live ok) (.cons r₁' .nil) fun v h' k F' kb fk dk rf => hQ v s₁ _ (H₁.after' ok kb fk dk) k₁ (.ofF ok kb fk) rf
        split at h
        · rename_i p d2 q3
          cases h
          exact go _ _ q3 fun v s₁ s' H' k₁ k₂ rf => hQ v s' H' (k₁.trans k₂) rf
        · rename_i l d2 q3
          cases h
          refine go _ _ q3 fun v s₁ s' H' k₁ k₂ rf => hQ v s' H' (k₁.trans k₂) (FreshL.since ok (h₁ := s₁.heap) ?_ k₁)
          exact rf
        · cases h
      · rw [decide_eq_false hc] at q1; cases q1
    · cases q1
end
/-! making an object of a class -/
inductive InitB : List Stmt → List Str → Prop
  | nil : InitB [] []
  | cons {x : Str} {p1 p2 p3 p4 : Pos} {b : List Stmt} {xs : List Str} (h : InitB b xs) : InitB (.Assign [.Attribute (.Name "self" p1) x p2] (.Name x p3) p4 :: b) (x :: xs)
inductive Ents : List DictEntry → List Str → List Value → Prop
  | nil : Ents [] [] []
  | cons (hh : Int) (t : Tok) {x : Str} {v : Value} {es : List DictEntry} {xs : List Str} {vs : List Value} (h : Ents es xs vs) : Ents (⟨hh, .str x t, v⟩ :: es) (x :: xs) (v :: vs)
theorem Ents.snoc {es : List DictEntry} {xs : List Str} {vs : List Value} (h : Ents es xs vs) (hh : Int) (t : Tok) (x : Str) (v : Value) : Ents (es ++ [⟨hh, .str x t, v⟩]) (xs ++ [x]) (vs ++ [v]) := by
  induction h with
  | nil => exact .cons hh t .nil
  | cons a b _ ih => exact .cons a b ih
theorem Ents.len {es : List DictEntry} {xs : List Str} {vs : List Value} (h : Ents es xs vs) : es.length = xs.length := by
  induction h with
  | nil => rfl
  | cons a b _ ih => exact congrArg (· + 1) ih
theorem Ents.miss {es : List DictEntry} {xs : List Str} {vs : List Value} (h : Ents es xs vs) {y : Str} (hy : y ∉ xs) : es.find? (·.key.isStr y) = none ∧ es.any (·.refKey) = false ∧ ∀ hh k v, putL y hh k v es = es ++ [⟨hh, k, v⟩] := by
  induction h with
  | nil => exact ⟨rfl, rfl, fun _ _ _ => rfl⟩
  | @cons a t x v es xs vs _ ih =>
    obtain ⟨i1, i2, i3⟩ := ih fun h => hy (.tail _ h)
    have hne : Value.isStr (.str x t) y = false := beq_eq_false_iff_ne.mpr fun q => hy (by rw [q]; exact .head _)
    refine ⟨by rw [List.find?_cons, hne]; exact i1, by rw [List.any_cons, i2]; rfl, fun hh k w => ?_⟩
    show (if Value.isStr (.str x t) y = true then _ else _) = _
    rw [hne, if_neg Bool.false_ne_true, i3]; rfl
theorem Ents.repF {d : Addr} {X : List Addr} {h : Heap} {es : List DictEntry} {xs : List Str} {vs : List Value} (e : Ents es xs vs) : ∀ {ps : List PV}, Reps d X h vs ps → RepF d X h xs es ps := by
  induction e with
  | nil => intro ps r; cases r; exact .nil
  | cons a t _ ih => intro ps r; cases r with | cons rv rs => exact .cons rv (ih rs)
structure ClassOk (K : Frag) (C fI : Addr) (cdv : Value) (qual : Str) : Prop where
  make : makesIn K C = true
  ini : findIn K (.ref C) "__init__" = some (some (.ref fI))
  fn : isFn K (.ref fI) = true
  set : findIn K (.ref C) "__setattr__" = some (some (.builtin "object.__setattr__"))
  over : plainOver K C = true
  dict : hasDictIn K C = true
  taker : ∀ x ∈ fieldsOf C, takerIn K C x = some none
  keep : keepIn K (.ref C) = true
  code : codeIn K cdv qual = true
  nd : (fieldsOf C).Nodup
  few : (fieldsOf C).length ≤ 20
theorem init_body {prog : Program} {w : World} {A : Around} {K : Frag} {Cl fI : Addr} {cdv : Value} {qual : Str} (ho : ClassOk K Cl fI cdv qual) {g : Heap} {L x dx : Addr} {m : Str → Option Value} {env : Env} (X₀ : K.In g) (hL : env.locals = L) (hkind : env.scope.kind = .function) (hself : env.kindOf "self" = some .local) (hloc : ∀ y ∈ fieldsOf Cl, env.kindOf y = some .local ∧ (y == ("__debug__" : Str)) = false) (hms : m "self" = some (.ref x)) (hdx : dx ≠ x) {dk : List (Addr × Obj)} (hdk : ∀ p ∈ dk, p.1 ≠ dx) :
    ∀ {b : List Stmt} {xs : List Str}, InitB b xs → ∀ {vs us : List Value} {ys : List Str} {es : List DictEntry} {n : Nat} {s : Shared} {Q : Flow → Shared → Prop} {E : Value → Shared → Prop}, ys ++ xs = fieldsOf Cl → Ents es ys us → vs.length = xs.length → (∀ (i : Nat) (y : Str) (v : Value), xs[i]? = some y → vs[i]? = some v → m y = some v) →
      Fr g L s.heap m → News g L s.heap ((x, instObj Cl dx) :: (dx, dictOf es n) :: dk) →
      (∀ h' k n' es', Fr g L h' m → News g L h' ((x, instObj Cl dx) :: (dx, dictOf es' n') :: dk) → Ents es' (fieldsOf Cl) (us ++ vs) → Q .next { s with heap := h', toks := k }) → wpAny (model prog w) A (execs b env) Q E s := by
  intro b xs hb
  induction hb with
  | nil =>
    intro vs us ys es n s Q E hx he hv hm F N hQ
    obtain rfl := List.length_eq_zero_iff.mp hv
    rw [List.append_nil] at hx hQ
    exact wpAny_execs_nil (hQ _ _ _ _ F N (hx ▸ he))
  | @cons y p1 p2 p3 p4 b xs hb ih =>
    intro vs us ys es n s Q E hx he hv hm F N hQ
    obtain ⟨v, vs, rfl⟩ : ∃ v vs', vs = v :: vs' := by
      cases vs with
      | nil => cases hv
      | cons v vs => exact ⟨v, vs, rfl⟩
    have hy : y ∈ fieldsOf Cl := hx ▸ List.mem_append_right _ (.head _)
    have hyn : y ∉ ys := fun h => by
      have := ho.nd
      rw [← hx] at this
      exact (List.nodup_append.mp this).2.2 y h y (.head _) rfl
    obtain ⟨hk, hd⟩ := hloc y hy
    have hn : s.heap.Ns env.locals m := hL ▸ F.ns
    obtain ⟨m1, m2, m3⟩ := he.miss hyn
    refine wpAny_execs_cons (plainObj_wpAny_Assign_Attribute (wpAny_Name (wpAny_loadName_local hkind hk hn (hm 0 y v rfl rfl) (wpAny_Name (wpAny_loadName_local hkind hself hn hms ?_) (by decide))) hd))
    refine set_dict (es' := es ++ [⟨PyData.keyHash w.params y, .str y (s.toks + 1), v⟩]) (n' := putN y es n) F X₀ N (inst_at (N _ (.head _)).1 (N _ (.tail _ (.head _))).1) rfl ho.set ho.over (ho.taker y hy) ho.dict ?_ ?_ (.tail (Ne.symm hdx) (.head hdk)) ?_ fun h' F' N' => ?_
    · unfold getL; rw [m1, m2]; rfl
    · rw [m3]
    · rw [List.length_append, List.length_singleton, he.len]
      have := congrArg List.length hx
      rw [List.length_append] at this
      have := ho.few
      omega
    · refine ih (vs := vs) (us := us ++ [v]) (ys := ys ++ [y]) (by rw [List.append_assoc]; exact hx) (he.snoc _ _ y v) (Nat.succ.inj hv) (fun i z u e1 e2 => hm (i + 1) z u e1 e2) F' N' fun h'' k n' es' F'' N'' he' => ?_
      rw [List.append_assoc] at he'
      exact hQ h'' k n' es' F'' N'' he'
end Mine

namespace Mine
structure InitOk (K : Frag) (Cl fI : Addr) : Prop where
  ex : ∃ (name qual : Str) (params : Arguments) (body : List Stmt) (scope : Scope) (dV kV doc pm cdv ct oc : Value) (an od : Option Addr) (osl : Array (Option Value)), ClassOk K Cl fI cdv qual ∧ K.lookup fI = some ⟨oc, od, .func (fnOf name qual params body scope dV kV doc pm an cdv ct), osl⟩ ∧
    (∀ vs : List Value, vs.length = (fieldsOf Cl).length + 1 → bindArgs (fnOf name qual params body scope dV kV doc pm an cdv ct) ⟨vs, []⟩ = pure ((("self" : Str) :: fieldsOf Cl).zip vs)) ∧ InitB body (fieldsOf Cl) ∧
    (((("self" : Str) :: fieldsOf Cl).all fun x => decide (scope.names.lookup x = some .local) && !(x == ("__debug__" : Str))) = true) ∧ (("self" : Str) :: fieldsOf Cl).Nodup ∧
    scope.isCoroutine = false ∧ scope.isGenerator = false ∧ scope.kind = .function ∧ (scope.names.all fun x => decide (x.2 ≠ .cell)) = true
section
variable {C : Cx} {σ : St} {oa : List Addr}
theorem zip_val : ∀ {xs : List Str} {vs : List Value}, xs.Nodup → ∀ {i : Nat} {x : Str} {v : Value}, xs[i]? = some x → vs[i]? = some v → (xs.zip vs).lookup x = some v := by
  intro xs
  induction xs with
  | nil => intro vs hn i x v e; cases e
  | cons y xs ih =>
    intro vs hn i x v e ev
    obtain ⟨hn1, hn2⟩ := List.nodup_cons.mp hn
    cases vs with
    | nil => cases ev
    | cons u vs =>
      cases i with
      | zero => cases e; cases ev; rw [List.zip_cons_cons, List.lookup_cons, beq_self_eq_true]
      | succ i =>
        have hxy : (x == y) = false := beq_eq_false_iff_ne.mpr fun q => hn1 (q ▸ List.mem_of_getElem? e)
        rw [List.zip_cons_cons, List.lookup_cons, hxy]
        exact ih hn2 e ev
theorem make_at (ok : C.Ok) {Cl fI : Addr} (ho : InitOk C.W.K Cl fI) {s : Shared} {vs : List Value} {ps : List PV} (H : Here C σ oa s) (r : Reps C.d (oa ++ C.X') s.heap vs ps) (hlen : ps.length = (fieldsOf Cl).length) {Q E : Value → Shared → Prop}
    (hQ : ∀ v s', Here C σ oa s' → KQ C s.heap s'.heap → Rep C.d (oa ++ C.X') s'.heap v (.inst Cl ps) → Q v s') : wpAny C.M C.A (call (.ref Cl) vs) Q E s := by
  obtain ⟨name, qual, params, body, scope, dV, kV, doc, pm, cdv, ct, oc, an, od, osl, co, hlk, hbind, hb, hloc, hnd, hco, hgen, hkind, hcell⟩ := ho.ex
  obtain ⟨m, F⟩ := H.fr
  have X := ok.X.keeps F.keep
  have hgens := H.gens; have hdrawn := H.drawn; have hos := H.os
  obtain ⟨hh, gg, dd, tt, oo⟩ := s
  dsimp only at hgens hdrawn hos
  refine wpAny_call (make_core (makes_of X co.make) (looks_findIn X co.ini) (fun self => bind_fn X self (beq_iff_eq.mp co.fn)) (.inl rfl) ?_)
  have F2 := (F.push emptyDict).push (instObj Cl hh.objs.size)
  have keep2 : ∀ b o, hh.get? b = some o → ((hh.push emptyDict).push (instObj Cl hh.objs.size)).get? b = some o := fun b o e => Heap.get?_push_of_some _ (Heap.get?_push_of_some _ e)
  have e1 : ((hh.push emptyDict).push (instObj Cl hh.objs.size)).get? (hh.objs.size + 1) = some (instObj Cl hh.objs.size) := by
    rw [← Heap.size_push hh emptyDict]; exact Heap.get?_push_size _ rfl
  have e0 : ((hh.push emptyDict).push (instObj Cl hh.objs.size)).get? hh.objs.size = some (dictOf [] 0) := Heap.get?_push_of_some _ (Heap.get?_push_size _ rfl)
  generalize hH2 : (hh.push emptyDict).push (instObj Cl hh.objs.size) = h2 at *
  have hsz2 : h2.objs.size = hh.objs.size + 2 := by rw [← hH2, Heap.size_push, Heap.size_push]
  have hall := List.all_eq_true.mp hloc
  have hl : ∀ x ∈ (("self" : Str) :: fieldsOf Cl), scope.names.lookup x = some .local ∧ (x == ("__debug__" : Str)) = false := fun x hx => by
    have := hall x hx
    rw [Bool.and_eq_true] at this
    exact ⟨of_decide_eq_true this.1, by simpa using this.2⟩
  have hvl : (Value.ref (hh.objs.size + 1) :: vs).length = (fieldsOf Cl).length + 1 := by rw [List.length_cons, r.length, hlen]
  refine codeAny_call_def (fd := fnX name qual params body scope [] dV kV doc pm an cdv ct) (body := body) (binds := (("self" : Str) :: fieldsOf Cl).zip (.ref (hh.objs.size + 1) :: vs)) (by have := ok.dp; have hw : (Code.builtin "type.__call__" ⟨.ref Cl :: vs, []⟩).weight ≤ 10 := Nat.le_of_ble_eq_true (by kernel_rfl); show C.dp + (Code.builtin "type.__call__" ⟨.ref Cl :: vs, []⟩).weight < recursionLimit; have : recursionLimit = 1000 := rfl; omega) ((ok.X.keeps F2.keep) _ _ hlk) rfl (ok.T.nolimit.keeps F2.keep) (codeRec_of (ok.X.keeps F2.keep) co.code) rfl (BindsTo.of_eq (hbind _ hvl))
    (fun x hx => of_decide_eq_true (List.all_eq_true.mp hcell x hx)) (fun y hy => (hl _ (List.of_mem_zip hy).1).1) (fun h₁ hns hk₁ => ?_) hco hgen hkind
  have hzn : (((("self" : Str) :: fieldsOf Cl).zip (Value.ref (hh.objs.size + 1) :: vs)).map (·.1)).Nodup := by
    rw [List.map_fst_zip (by rw [hvl]; exact Nat.le_refl _)]; exact hnd
  have F' : Fr (hideAll h2 [hh.objs.size + 1, hh.objs.size]) h2.objs.size h₁ (fun y => ((("self" : Str) :: fieldsOf Cl).zip (.ref (hh.objs.size + 1) :: vs)).reverse.lookup y) := ⟨hns, fun b o e => hk₁ b o (of_hideAll _ e), Nat.le_of_eq (hideAll_size _ _)⟩
  have N' : News (hideAll h2 [hh.objs.size + 1, hh.objs.size]) h2.objs.size h₁ [(hh.objs.size + 1, instObj Cl hh.objs.size), (hh.objs.size, dictOf [] 0)] := fun p hp => by
    cases hp with
    | head => exact ⟨hk₁ _ _ e1, Nat.ne_of_lt (lt_of e1), hideAll_none _ (.head _)⟩
    | tail _ hp => cases hp with
      | head => exact ⟨hk₁ _ _ e0, Nat.ne_of_lt (lt_of e0), hideAll_none _ (.tail _ (.head _))⟩
      | tail _ hp => nomatch hp
  have old : ∀ b o, hh.get? b = some o → b ∉ [hh.objs.size + 1, hh.objs.size] := fun b o e hm => by
    cases hm with
    | head => exact absurd (lt_of e) (Nat.not_lt.mpr (Nat.le_succ _))
    | tail _ hm => cases hm with
      | head => exact absurd (lt_of e) (Nat.lt_irrefl _)
      | tail _ hm => nomatch hm
  have st : ∀ b o, C.h₀.get? b = some o → (hideAll h2 [hh.objs.size + 1, hh.objs.size]).get? b = some o := fun b o e => hide_get (keep2 b o (F.keep b o e)) (old b o (F.keep b o e))
  refine init_body co (m := fun y => ((("self" : Str) :: fieldsOf Cl).zip (Value.ref (hh.objs.size + 1) :: vs)).reverse.lookup y) (dx := hh.objs.size) (x := hh.objs.size + 1) (env := callEnv (fnX name qual params body scope [] dV kV doc pm an cdv ct) h2.objs.size fI) (ok.X.keeps st) rfl hkind (hl _ (.head _)).1 (fun y hy => hl y (.tail _ hy)) ((lookup_rev hzn _).trans (zip_val hnd (i := 0) rfl rfl)) (Nat.ne_of_lt (Nat.lt_succ_self _)) (dk := []) (fun p hp => (nomatch hp)) hb (vs := vs) (us := []) (ys := []) (es := []) (n := 0) rfl .nil (by rw [r.length, hlen]) (fun i y v e1 e2 => (lookup_rev hzn _).trans (zip_val hnd (i := i + 1) (x := y) e1 e2)) F' N' fun h' k n' es' F'' N'' he => ?_
  refine ⟨rfl, ?_⟩
  have hk : ∀ b o, hh.get? b = some o → h'.get? b = some o := fun b o e => F''.keep b o (hide_get (keep2 b o e) (old b o e))
  have HH := H.grow (k := k) ok hk
  refine hQ _ _ HH (KQ.of hk) ?_
  have hX : ∀ a, hh.objs.size ≤ a → a ∉ oa ++ C.X' := fun a ha hm => by
    obtain ⟨o, e⟩ := H.al a hm
    exact absurd (lt_of e) (Nat.not_lt.mpr ha)
  exact .inst (hX _ (Nat.le_succ _)) (hX _ (Nat.le_refl _)) (N'' _ (.head _)).1 (N'' _ (.tail _ (.head _))).1 (he.repF (by rw [List.nil_append]; exact r.next ok (KQ.of hk)))
theorem EvD.make (ok : C.Ok) {x : Str} {pp pos : Pos} {Cl fI : Addr} {e : Expr} {rest : List Expr} {g : AF} (hg : ArD C (e :: rest) g) (ho : InitOk C.W.K Cl fI) (hgl : nsIn C.W.K mainGlobals x = some (some (.ref Cl))) (hd : (x == ("__debug__" : Str)) = false) (hk : C.env.kindOf x = some .globalImplicit) (hkeep : keepIn C.W.K (.ref Cl) = true) (hst : starEach (e :: rest) C.env = (false, eval e C.env) :: starEach rest C.env := by rfl) (hplain : (backTo pos (starEach rest C.env)).any (·.1) = false := by rfl) :
    EvD C (.Call (.Name x pp) (e :: rest) [] pos) (makeF Cl (fieldsOf Cl).length g) := fun σ oa s Q E rv d h H hQ => by
  unfold makeF at h
  split at h
  · rename_i ps d' q
    by_cases hz : ps.length = (fieldsOf Cl).length
    · rw [decide_eq_true hz] at h; cases h
      obtain ⟨m, F⟩ := H.fr
      refine Call_Name rfl (nameG_K F ok.X (topRead_of ok.T) hgl ?_ ok.eG ok.eK hk hd)
      refine callWith_K ok.X hkeep (hg pos σ oa s _ _ ps d q H fun vs s₁ H₁ k₁ r₁ => ?_) hst hplain
      obtain ⟨m₁, F₁⟩ := H₁.fr
      exact ⟨ok.X.keeps F₁.keep, make_at ok ho H₁ r₁ hz fun v s' H' k' rr => hQ v s' H' (k₁.trans k') rr⟩
    · rw [decide_eq_false hz] at h; cases h
  · cases h
end
end Mine

open PySem PySem.W PyProof.Rows PySem.Calls PySem.Spec Builtin Builtin.ObjectAttr
namespace Mine
noncomputable def badMro : List Value := [.ref 45, .ref 32, .type "Exception", .type "BaseException", .type "object"]
theorem refuse_bad (self : Value) : refuseLoop self "__setattr__" badMro = pure () := by
  unfold badMro
  rw [refuseLoop_ref, refuseLoop_ref]
  kernel_rfl
theorem exc_set {prog : Program} {w : World} {A : Around} {K : Frag} {s : Shared} {e : Addr} {vs : Array Value} {v : Value} {cd : ClassData} (X : K.In s.heap) (he : s.heap.get? e = some { cls := .ref 45, data := .fields vs }) (hc : clsIn K 45 = some cd) (hm : cd.mro = badMro) (hh' : cd.hasDict = true)
    (hs : findIn K (.ref 45) "__setattr__" = some (some (.builtin "object.__setattr__"))) (ht : findIn K (.ref 45) "told" = some none) {Q : Unit → Shared → Prop} {E : Value → Shared → Prop}
    (hQ : ∀ h' k, (∀ b o, b ≠ e → s.heap.get? b = some o → h'.get? b = some o) → (∃ dx, h'.get? e = some { cls := .ref 45, dict := some dx, data := .fields vs }) → Q () { s with heap := h', toks := k }) : wpAny (model prog w) A (setAttr (.ref e) "told" v) Q E s := by
  obtain ⟨hh, gg, dd, tt, oo⟩ := s
  dsimp only at X he hQ
  have I : PySem.W.InstAt hh e { cls := .ref 45, data := .fields vs } 45 none := ⟨he, rfl, rfl, trivial⟩
  refine set_plain (s := ⟨hh, gg, dd, tt, oo⟩) X I hs ?_
  have SF := PySem.F.store_object
  have sub : Looks (model prog w) hh (isInstance (.ref e) (.type "object")) true := I.type.andThen (looks_mroIn X (by unfold mroIn; rw [hc, Option.bind_some, hm]; rfl))
  refine codeAny_call_builtin SF.slot.plain SF.entry (@check_slot (model prog w) _ _ ⟨hh, gg, dd, tt + 1, oo⟩ "object.__setattr__" "object" "__setattr__" (.ref e) [.str "told" tt, v] [] _ SF.kind SF.split sub (SF.args (.ref e) (.str "told" tt) v) ?_)
  have hmL : Looks (model prog w) hh (mroOf (.ref 45)) cd.mro := (looks_clsIn X hc).andThen .now
  rw [osa_eq, refuse_eq]
  refine wpAny_bind (wpAny_bind (I.type.at (wpAny_bind (hmL.at ?_))))
  rw [hm, refuse_bad]
  refine wpAny_pure (wpAny_bind (I.type.at (wpAny_bind ((looks_findIn X ht).at (wpAny_bind (wpAny_pure ?_))))))
  show wpAny _ _ (storeInOwnDict (.ref e) (.ref 45) _ _ _ _) _ _ _
  unfold storeInOwnDict
  refine wpAny_bind (wpAny_pure ?_)
  show wpAny _ _ (ownDictForStores (.ref e) >>= _) _ _ _
  show wpAny _ _ (instanceDict e true >>= _) _ _ _
  refine wpAny_bind ?_
  unfold instanceDict
  refine wpAny_bind (wpAny_loadPart he (wpAny_bind ((looks_clsIn X hc).at ?_)))
  rw [hh']
  show wpAny _ _ (alloc _ >>= _) _ _ _
  have hd := Heap.get?_push_size hh (o := emptyDict) rfl
  have he1 := Heap.get?_push_of_some emptyDict he
  have hne : e ≠ hh.objs.size := Nat.ne_of_lt (lt_of he)
  refine wpAny_bind (wpAny_alloc (wpAny_bind (wpAny_update he1 ?_)))
  refine wpAny_pure ?_
  show wpAny _ _ (storeInDict hh.objs.size _ _ _) _ _ _
  unfold storeInDict
  refine wpAny_bind (wpAny_pure (wpAny_bind ?_))
  have hd2 : ((hh.push emptyDict).update e fun o => { o with dict := some hh.objs.size }).get? hh.objs.size = some emptyDict := (Heap.get?_update_other _ _ hne).trans hd
  unfold nsSet
  refine wpAny_bind (wpAny_bind (wpAny_askSetting (wpAny_pure (wpAny_bind (wpAny_mkText (wpAny_bind (wpAny_loadPart hd2 ?_)))))))
  dsimp only [emptyDict]
  rw [aRefKeyMayBeTheName_at, show ((!(#[] : Array DictEntry).any fun x => x.key.isStr "told") && (#[] : Array DictEntry).any fun x => x.refKey) = false by simp]
  refine wpAny_updatePart hd2 ?_
  have hfin : ∀ f : Obj → Obj, (((hh.push emptyDict).update e fun o => { o with dict := some hh.objs.size }).update hh.objs.size f).get? e = some { cls := .ref 45, dict := some hh.objs.size, data := .fields vs } := fun f => (Heap.get?_update_other _ _ (Ne.symm hne)).trans (Heap.get?_update_self _ he1 rfl)
  refine wpAny_bind (wpAny_lookBehind (Heap.get?_update_self _ hd2 rfl) ?_ ?_)
  · exact pastItsLine_dict (show 1 ≤ sizeLine + 1 by decide)
  · refine wpAny_pure (hQ _ _ (fun b o hb e' => ?_) ⟨_, hfin _⟩)
    have hbs : b ≠ hh.objs.size := Nat.ne_of_lt (lt_of e')
    exact (Heap.get?_update_other _ _ (Ne.symm hbs)).trans ((Heap.get?_update_other _ _ (Ne.symm hb)).trans (Heap.get?_push_of_some _ e'))
noncomputable def badTail : List Value := [.ref 32, .type "Exception", .type "BaseException", .type "object"]
theorem binds_K {K : Frag} {s : Shared} {fd : FuncData} {args : Args} {binds : List (Str × Value)} (X : K.In s.heap) (h : ∀ S : Setting, peek K S (bindArgs fd args) = some binds) : BindsTo s fd args binds :=
  fun _ _ _ _ hq => (Looks.of_peek X (h _)).here hq
structure BadCls (K : Frag) : Prop where
  obj : ∃ nm q N bs hdct sn sub ab col dd k0 k1 k2 k3 k5, K.lookup 45 = some (excClassObj nm q 45 N bs badTail hdct sn sub ab col dd k0 k1 k2 k3 k5 "Exception.__new__")
  cls : ∃ cd, clsIn K 45 = some cd ∧ cd.mro = badMro ∧ cd.hasDict = true
  ini : findIn K (.ref 45) "__init__" = some (some (.ref 29))
  fn : isFn K (.ref 29) = true
  set : findIn K (.ref 45) "__setattr__" = some (some (.builtin "object.__setattr__"))
  told : findIn K (.ref 45) "told" = some none
  fun_ : ∃ (name qual : Str) (params : Arguments) (p1 p2 p3 p4 : Pos) (scope : Scope) (dV kV doc pm cdv ct oc : Value) (an od : Option Addr) (osl : Array (Option Value)), codeIn K cdv qual = true ∧
    K.lookup 29 = some ⟨oc, od, .func (fnOf name qual params [.Assign [.Attribute (.Name "self" p1) "told" p2] (.Name "told" p3) p4] scope dV kV doc pm an cdv ct), osl⟩ ∧
    (∀ (S : Setting) (a b : Value), peek K S (bindArgs (fnOf name qual params [.Assign [.Attribute (.Name "self" p1) "told" p2] (.Name "told" p3) p4] scope dV kV doc pm an cdv ct) ⟨[a, b], []⟩) = some [(("self" : Str), a), (("told" : Str), b)]) ∧
    scope.names.lookup ("self" : Str) = some .local ∧ scope.names.lookup ("told" : Str) = some .local ∧ scope.isCoroutine = false ∧ scope.isGenerator = false ∧ scope.kind = .function ∧ (scope.names.all fun x => decide (x.2 ≠ .cell)) = true
section
variable {prog : Program} {w : World} {A : Around} {K : Frag} {h : Heap} {g : Array GenState} {d : Drawn} {t : Nat} {os : OsState}
theorem exc_init (BC : BadCls K) (X : K.In h) (hl : h.NoLimit) (hr : A.depth < recursionLimit) {e : Addr} {vs : Array Value} {v : Value} (he : h.get? e = some { cls := .ref 45, data := .fields vs }) {R : Result → Shared → Prop}
    (hQ : ∀ h' k, (∀ b o, b ≠ e → h.get? b = some o → h'.get? b = some o) → (∃ dx, h'.get? e = some { cls := .ref 45, dict := some dx, data := .fields vs }) → R (.ok (.ret .none)) ⟨h', g, d, k, os⟩) :
    codeAny (model prog w) A (.call (.ref 29) ⟨[.ref e, v], []⟩) R ⟨h, g, d, t, os⟩ := by
  obtain ⟨name, qual, params, p1, p2, p3, p4, scope, dV, kV, doc, pm, cdv, ct, oc, an, od, osl, hcd, hlk, hbind, l1, l2, hco, hgen, hk, hcell⟩ := BC.fun_
  obtain ⟨cd, c1, c2, c3⟩ := BC.cls
  refine codeAny_call_def (fd := fnX name qual params _ scope [] dV kV doc pm an cdv ct) (body := [.Assign [.Attribute (.Name "self" p1) "told" p2] (.Name "told" p3) p4]) (binds := [(("self" : Str), .ref e), (("told" : Str), v)]) hr (X _ _ hlk) rfl hl (codeRec_of X hcd) rfl (binds_K (s := ⟨h, g, d, t, os⟩) X fun S => hbind S _ _)
    (fun x hx => of_decide_eq_true (List.all_eq_true.mp hcell x hx)) (fun y hy => ?_) (fun h₁ hns hk₁ => ?_) hco hgen hk
  · cases hy with
    | head => exact l1
    | tail _ hy => cases hy with
      | head => exact l2
      | tail _ hy => nomatch hy
  · have hn : h₁.Ns (callEnv (fnX name qual params [.Assign [.Attribute (.Name "self" p1) "told" p2] (.Name "told" p3) p4] scope [] dV kV doc pm an cdv ct) h.objs.size 29).locals _ := hns
    refine wpAny_execs_cons (plainObj_wpAny_Assign_Attribute (wpAny_Name (wpAny_loadName_local hk l2 hn rfl (wpAny_Name (wpAny_loadName_local hk l1 hn rfl ?_) (by decide))) (by decide)))
    refine exc_set (s := ⟨h₁, g, d, _, os⟩) (X.keeps hk₁) (hk₁ _ _ he) c1 c2 c3 BC.set BC.told fun h' k k1 k2 => wpAny_execs_nil ?_
    exact hQ h' k (fun b o hb e' => k1 b o hb (hk₁ b o e')) k2
end
end Mine

namespace Mine
section
variable {prog : Program} {w : World} {A : Around} {K : Frag} {h : Heap} {g : Array GenState} {d : Drawn} {t : Nat} {os : OsState}
variable {nm q : Str} {N : Addr} {bs : List Value} {hdct : Bool} {sn : List Str} {sub : List Value} {ab : Bool} {col : Option Bool} {dd : Option Addr} {k0 k1 k2 k3 k5 : Option Value}
theorem bad_check_new {M : Model} {E : Value → Shared → Prop} {rest : List Value} {Q : Unit → Shared → Prop} (hC : h.get? 45 = some (excClassObj nm q 45 N bs badTail hdct sn sub ab col dd k0 k1 k2 k3 k5 "Exception.__new__"))
    (hq : Q () ⟨h, g, d, t, os⟩) : wpAny M A (checkBuiltinCall "Exception.__new__" ⟨.ref 45 :: rest, []⟩) Q E ⟨h, g, d, t, os⟩ := by
  have F := PySem.F.excBase_Exception
  have hcont : (Value.ref 45 :: badTail).contains (.type "Exception") = true := by decide
  have hstar := F.noStar
  simp only [checkBuiltinCall, F.newKind, F.newSplit, F.newRow]
  repeat (first | refine wpAny_loadPart_at hC ?_ | (refine wpAny_isSubtype_exc hC ?_; rw [hcont]) | refine wpAny_staticBase_exc hC ?_ | refine wpAny_madeBy_exc hC ?_ | simp only [bne_self_eq_false, Bool.false_eq_true, if_false] | wp_step)
  exact hq
theorem bad_new {R : Result → Shared → Prop} {rest : List Value} (hC : h.get? 45 = some (excClassObj nm q 45 N bs badTail hdct sn sub ab col dd k0 k1 k2 k3 k5 "Exception.__new__"))
    (hq : R (.ok (.ret (.ref (h.objs.size + 1)))) ⟨(h.push { cls := .type "tuple", data := .seq rest.toArray }).push { cls := .ref 45, data := .fields #[.ref h.objs.size, .none, .none, .none, .bool false, .none] }, g, d, t, os⟩) (hrest : rest.length ≤ sizeLine) :
    codeAny (model prog w) A (.builtin "Exception.__new__" ⟨.ref 45 :: rest, []⟩) R ⟨h, g, d, t, os⟩ := by
  have F := PySem.F.excBase_Exception
  have hends := F.ends
  have hcB : (Value.ref 45 :: badTail).contains (.type "Exception") = true := by decide
  have hcA : (Value.ref 45 :: badTail).contains (.type "AttributeError") = false := by decide
  have hcN : (Value.ref 45 :: badTail).contains (.type "NameError") = false := by decide
  refine codeAny_builtinAt F.entry ?_
  unfold Builtin.«BaseException.__new__»
  refine PySem.wpAt_bind ?_
  show PySem.wpAt _ _ _ (stack >>= _) _ _ _
  refine PySem.wpAt_bind (PySem.wpAt_stack fun p below => PySem.wpAt_of_wpAny ?_)
  wp_walk
  refine PySem.wpAt_of_wpAny ?_
  rw [F.owner]
  repeat (first | with_reducible refine wpAny_madeHere_exc F.canon hC ?_ | with_reducible refine wpAny_loadPart_at hC ?_ | (with_reducible refine wpAny_isSubtype_exc hC ?_; first | rw [hcB] | rw [hcA] | rw [hcN]) | wp_step)
  show R _ _
  rw [Heap.size_push]
  exact hq
theorem bad_type_call (BC : BadCls K) (X : K.In h) (hl : h.NoLimit) (hr : A.depth + 20 < recursionLimit) {E : Value → Shared → Prop} {v : Value} {Q : Fin → Shared → Prop}
    (hq : ∀ h' k e, BadNew h h' e → Q (.done (.ret (.ref e))) ⟨h', g, d, k, os⟩) : wpAny (model prog w) A (Builtin.«type.__call__» ⟨[.ref 45, v], []⟩) Q E ⟨h, g, d, t, os⟩ := by
  have F := PySem.F.excBase_Exception
  obtain ⟨nm, q, N, bs, hdct, sn, sub, ab, col, dd, k0, k1, k2, k3, k5, hlk⟩ := BC.obj
  have hC := X _ _ hlk
  repeat (first | with_reducible refine wpAny_loadPart_at hC ?_ | with_reducible refine wpAny_madeBy_exc hC ?_ | wp_step)
  refine codeAny_call_builtin_code (Code.quiet_builtin _ F.quiet) (bad_check_new hC ?_)
  refine bad_new hC ?_ (show 1 ≤ sizeLine by decide)
  show wpAny _ _ _ _ _ _
  have keep2 : ∀ b o, h.get? b = some o → ((h.push { cls := .type "tuple", data := .seq [v].toArray }).push { cls := .ref 45, data := .fields #[.ref h.objs.size, .none, .none, .none, .bool false, .none] }).get? b = some o := fun b o e => Heap.get?_push_of_some _ (Heap.get?_push_of_some _ e)
  have hC₁ := keep2 _ _ hC
  have hget : ((h.push { cls := .type "tuple", data := .seq [v].toArray }).push
      { cls := .ref 45, data := .fields #[.ref h.objs.size, .none, .none, .none, .bool false, .none] }).get? (h.objs.size + 1) = some
      { cls := .ref 45, data := .fields #[.ref h.objs.size, .none, .none, .none, .bool false, .none] } := by heap_get
  have hgt : ((h.push { cls := .type "tuple", data := .seq [v].toArray }).push
      { cls := .ref 45, data := .fields #[.ref h.objs.size, .none, .none, .none, .bool false, .none] }).get? h.objs.size = some { cls := .type "tuple", data := .seq [v].toArray } := Heap.get?_push_of_some _ (Heap.get?_push_size _ rfl)
  have hcC : (Value.ref 45 :: badTail).contains (.ref 45) = true := by decide
  have X₁ := X.keeps keep2
  unfold isInstance
  repeat (first | with_reducible refine wpAny_loadPart_at hget ?_ | (with_reducible refine wpAny_isSubtype_exc hC₁ ?_; rw [hcC]) | wp_step)
  show wpAny _ _ (typeLookup (.ref 45) _) _ _ _
  refine (looks_findIn X₁ BC.ini).at ?_
  refine wpAny_holding (wpAny_bind ((bind_fn X₁ _ (beq_iff_eq.mp BC.fn)).at ?_))
  refine wpAny_bind (wpAny_call (exc_init BC X₁ (hl.keeps keep2) ?_ hget fun h' k k1 k2 => ?_))
  · exact Nat.lt_of_le_of_lt (Nat.le_add_right _ 20) hr
  · wp_walk
    obtain ⟨dx, k2⟩ := k2
    have k3 : ∀ b o, h.get? b = some o → h'.get? b = some o := fun b o e => k1 b o (Nat.ne_of_lt (Nat.lt_succ_of_lt (lt_of e))) (keep2 b o e)
    exact hq h' k _ ⟨k3, Heap.get?_none_of_le (Nat.le_succ _), _, dx, _, k2, size_none _, k1 _ _ (Nat.ne_of_lt (Nat.lt_succ_self _)) hgt, _, _, rfl, rfl⟩
theorem bad_call (BC : BadCls K) (X : K.In h) (hl : h.NoLimit) (hr : A.depth + 40 < recursionLimit) {E : Value → Shared → Prop} {v : Value} {Q : Value → Shared → Prop}
    (hq : ∀ h' k e, BadNew h h' e → Q (.ref e) ⟨h', g, d, k, os⟩) : wpAny (model prog w) A (call (.ref 45) [v]) Q E ⟨h, g, d, t, os⟩ := by
  obtain ⟨nm, q, N, bs, hdct, sn, sub, ab, col, dd, k0, k1, k2, k3, k5, hlk⟩ := BC.obj
  have hC := X _ _ hlk
  have f1 := tc_lookup
  have f2 := PySem.tc_bind (.ref 45)
  have hT : (⟨h, g, d, t, os⟩ : Shared).TypeIs (.ref 45) "type" := ⟨_, hC, rfl⟩
  refine wpAny_call (codeAny_of_tree ?_)
  show wpAny _ _ (callAny (.ref 45) _) _ _ _
  repeat (any_goals (first | assumption | with_reducible refine wpAny_loadPart_at hC ?_ | wp_step))
  refine ⟨rfl, ?_⟩
  refine codeAny_call_builtin_at (Code.quiet_builtin _ (by decide +kernel)) entry_typeCall (wpAny_check_type_call_sub hC (bad_type_call BC X hl ?_ fun h' k e hm => ?_))
  · have hw : (Code.builtin "type.__call__" ⟨[.ref 45, v], []⟩).weight ≤ 10 := Nat.le_of_ble_eq_true (by kernel_rfl)
    show A.depth + (Code.builtin "type.__call__" ⟨[.ref 45, v], []⟩).weight + 20 < recursionLimit
    omega
  · exact hq h' k e hm
end
end Mine

namespace Mine
noncomputable def exF : SF := fun σ => some (.ex σ.dk)
theorem bad_raiseStmt {M : Model} {A : Around} {env : Env} {nm q : Str} {N : Addr} {bs : List Value} {hdct : Bool} {sn : List Str} {sub : List Value} {ab : Bool} {col : Option Bool} {dd : Option Addr} {k0 k1 k2 k3 k5 : Option Value} {s : Shared} {x : Sem Value} {Q : Flow → Shared → Prop} {E : Value → Shared → Prop} (hh : A.handled = none)
    (h : wpAny M A x (fun v s₁ => ∃ e t dx, v = .ref e ∧ s₁.heap.get? 45 = some (excClassObj nm q 45 N bs badTail hdct sn sub ab col dd k0 k1 k2 k3 k5 "Exception.__new__") ∧
      s₁.heap.get? e = some { cls := .ref 45, dict := some dx, data := .fields #[.ref t, .none, .none, .none, .bool false, .none] } ∧ E (.ref e) s₁) E s) :
    wpAny M A (raiseStmt env (some x) none) Q E s := by
  have hcB : (Value.ref 45 :: badTail).contains (.type "BaseException") = true := by decide
  unfold raiseStmt
  refine wpAny_bind (wpAny_mono h (fun v s₁ h₁ => ?_) fun _ _ x => x)
  obtain ⟨e, t, dx, rfl, hC, he, hE⟩ := h₁
  obtain ⟨hp, g, d, tk, os⟩ := s₁
  repeat (first | with_reducible refine wpAny_loadPart_at he ?_ | with_reducible refine wpAny_loadPart_at hC ?_ | (with_reducible refine wpAny_isSubtype_exc hC ?_; rw [hcB]) | wp_step)
  exact wpAny_raiseNew_none hh hE
section
variable {C : Cx} {σ : St} {oa : List Addr}
theorem Run1.raise (ok : C.Ok) (BC : BadCls C.W.K) {np cpos ip pos : Pos} {msg : Str} {k : Nat} (hgl : nsIn C.W.K mainGlobals "BadObject" = some (some (.ref 45))) (hk : C.env.kindOf "BadObject" = some .globalImplicit) (hkeep : keepIn C.W.K (.ref 45) = true) :
    Run1 C (.Raise (some (.Call (.Name "BadObject" np) [.Constant (.str msg) k ip] [] cpos)) none pos) exF := fun σ oa s Q E out h H hQ => by
  cases h
  obtain ⟨nm, q, N, bs, hdct, sn, sub, ab, col, dd, k0, k1, k2, k3, k5, hlk⟩ := BC.obj
  obtain ⟨m, F⟩ := H.fr
  have hgens := H.gens; have hdrawn := H.drawn; have hos := H.os; have hdeck := H.deck; have hfs := H.fs
  obtain ⟨hh, gg, dr, tt, oo⟩ := s
  dsimp only at hgens hdrawn hos hdeck F
  rw [arm_exec_Raise]
  refine wpAny_bind (wpAny_standAt (bad_raiseStmt (nm := nm) (q := q) (N := N) (bs := bs) (hdct := hdct) (sn := sn) (sub := sub) (ab := ab) (col := col) (dd := dd) (k0 := k0) (k1 := k1) (k2 := k2) (k3 := k3) (k5 := k5) (handled_none ok) ?_))
  have X := ok.X.keeps F.keep
  have fin : wpAny C.M C.A (eval (.Call (.Name "BadObject" np) [.Constant (.str msg) k ip] [] cpos) C.env) (fun v s₁ => ∃ e t dx, v = .ref e ∧ s₁.heap.get? 45 = some (excClassObj nm q 45 N bs badTail hdct sn sub ab col dd k0 k1 k2 k3 k5 "Exception.__new__") ∧
      s₁.heap.get? e = some { cls := .ref 45, dict := some dx, data := .fields #[.ref t, .none, .none, .none, .bool false, .none] } ∧ E (.ref e) s₁) E ⟨hh, gg, dr, tt, oo⟩ := by
    refine Call_Name rfl (nameG_K F ok.X (topRead_of ok.T) hgl ?_ ok.eG ok.eK hk (by decide))
    refine callWith_K ok.X hkeep (one_arg rfl (Calls.Constant_str ⟨X, ?_⟩)) rfl rfl
    refine bad_call BC X (ok.T.nolimit.keeps F.keep) (by have := ok.dp; show C.dp + 40 < recursionLimit; have : recursionLimit = 1000 := rfl; omega) fun h' k e hm => ?_
    obtain ⟨t', dx, o, h1, h2, h3, h4⟩ := hm.there
    exact ⟨e, t', dx, rfl, hm.keeps _ _ (X _ _ hlk), h1, hQ _ _ ⟨e, hh, m, rfl, F, hdeck, hm, hgens, hdrawn, hos, hfs⟩⟩
  first
    | exact wpAny_bind (wpAny_mono fin (fun v s₁ h₁ => wpAny_standAt (wpAny_pure h₁)) fun _ _ e => e)
    | exact wpAny_bind (wpAny_mono fin (fun v s₁ h₁ => wpAny_bind (wpAny_standAt (wpAny_pure h₁))) fun _ _ e => e)
end
end Mine

namespace Mine
/-- x = f(..), and None if it raises -/
noncomputable def tryF (i : Nat) (F : FX) (g : AF) : SF := fun σ => match g σ with
  | none => none
  | some (ps, d) => match F ps d with
    | some (some p, d') => some (.nx ((σ.setD d').set i p))
    | some (none, d') => some (.nx ((σ.setD d').set i .none))
    | none => none
section
variable {C : Cx} {σ : St} {oa : List Addr}
theorem call_atX (ok : C.Ok) (hx : FsOk C) {x : Str} {pp pos : Pos} {f rk : Nat} {F : FX} {e : Expr} {rest : List Expr} {g : AF} (hg : ArD C (e :: rest) g) (hgl : nsIn C.W.K mainGlobals x = some (some (.ref f))) (hd : (x == ("__debug__" : Str)) = false) (hfn : fnIn' C.W.K f = true) (hF : FnX C.W f rk F) (hdp : C.dp + rk < 900) (hun : C.un + 4 * rk < 2000)
    (hk : C.env.kindOf x = some .globalImplicit) (hst : starEach (e :: rest) C.env = (false, eval e C.env) :: starEach rest C.env)
    {s : Shared} {ps : List PV} {r : Option PV} {d d' : DS} {Q E : Value → Shared → Prop} (q1 : g σ = some (ps, d)) (q2 : F ps d = some (r, d')) (H : Here C σ oa s)
    (hQ : ∀ p, r = some p → ∀ v s', Here C (σ.setD d') oa s' → KQ C s.heap s'.heap → Rep C.d (oa ++ C.X') s'.heap v p → Q v s')
    (hE : r = none → ∀ e (s₁ : Shared) h' k, Here C (σ.setD d) oa s₁ → KQ C s.heap s₁.heap → Flown C s₁.heap h' e d' → E (.ref e) { s₁ with heap := h', toks := k }) : wpAny C.M C.A (eval (.Call (.Name x pp) (e :: rest) [] pos) C.env) Q E s := by
  refine Call_Name rfl ?_
  obtain ⟨m, F₀⟩ := H.fr
  refine nameG_K F₀ ok.X (topRead_of ok.T) hgl ?_ ok.eG ok.eK hk hd
  obtain ⟨o, fd, e1, e2⟩ := callee_fn ok.X hfn
  refine callWith_def (o := o) e2 ?_ hst
  refine hg pos σ oa s _ _ ps d q1 H fun vs s₂ H₂ k₂ r₂ => ?_
  obtain ⟨m, F₂⟩ := H₂.fr
  refine ⟨F₂.keep _ _ e1, hF C rfl ok hx hdp hun (oa ++ C.X') s₂ vs ps r d d' m Q E q2 F₂ H₂.deck H₂.gens H₂.drawn H₂.os H₂.alive (fun a ha => sub_X' ok ha) (H₂.live ok) r₂ (fun p er v h' k F' kb fk dk rf => ?_) fun er e h' k fl => hE er e s₂ h' k H₂ k₂ fl⟩
  exact hQ p er v _ (H₂.after' ok kb fk dk) (k₂.trans (.ofF ok kb fk)) rf
theorem Run1.try_ (ok : C.Ok) (hx : FsOk C) (hLN : C.N = C.L) (he : C.env = C.fenv) (BC : BadCls C.W.K) {x fn : Str} {np pp cpos apos np2 cp apos2 bp hpos pos : Pos} {k : Nat} (i : Nat) {f rk : Nat} {F : FX} {e : Expr} {rest : List Expr} {g : AF} (hg : ArD C (e :: rest) g) (hgl : nsIn C.W.K mainGlobals fn = some (some (.ref f))) (hd : (fn == ("__debug__" : Str)) = false) (hfn : fnIn' C.W.K f = true) (hF : FnX C.W f rk F) (hdp : C.dp + rk < 900) (hun : C.un + 4 * rk < 2000)
    (hk : C.env.kindOf fn = some .globalImplicit) (hi : C.xs[i]? = some x) (hbg : nsIn C.W.K mainGlobals "BadObject" = some (some (.ref 45))) (hbk : C.env.kindOf "BadObject" = some .globalImplicit) (hst : starEach (e :: rest) C.env = (false, eval e C.env) :: starEach rest C.env := by rfl)
    (hs : swapsWith (.Call (.Name fn pp) (e :: rest) [] cpos) (some (.Name x np)) apos.line C.env = pure false := by rfl) (hs2 : swapsWith (.Constant .none k cp) (some (.Name x np2)) apos2.line C.env = pure false := by rfl) :
    Run1 C (.Try [.Assign [.Name x np] (.Call (.Name fn pp) (e :: rest) [] cpos) apos] [.ExceptHandler (some (.Name "BadObject" bp)) none [.Assign [.Name x np2] (.Constant .none k cp) apos2] hpos] [] [] pos) (tryF i F g) := fun σ oa s Q E out h H hQ => by
  unfold tryF at h
  split at h
  · cases h
  · rename_i ps d q1
    split at h
    · rename_i p d' q2
      cases h
      refine wpAny_Try_except (wpAny_execs_cons (wpAny_Assign_Name (call_atX ok hx hg hgl hd hfn hF hdp hun hk hst q1 q2 H (fun p' ep v s₁ H₁ k₁ r => ?_) fun er => nomatch er) hs))
      cases ep
      exact store_st ok hLN H₁ hi r fun s' H' m => wpAny_execs_nil (wpAny_execs_nil (hQ _ s' H' ((Mv.of k₁).trans ok m fun a ha => (H'.oaX a ha).1)))
    · rename_i d' q2
      cases h
      refine wpAny_Try_except (wpAny_execs_cons (wpAny_Assign_Name (call_atX ok hx hg hgl hd hfn hF hdp hun hk hst q1 q2 H (fun p' ep => nomatch ep) fun _ ea s₁ h₁ t H₁ k₁ fl => ?_) hs))
      have hfr : C.A.frames = some (C.fenv :: C.outer) := rfl
      rw [he]
      have fl0 := fl
      obtain ⟨hm, L', a0, hL, kb, fk, dk, fw, up⟩ := fl
      refine wpAny_looks_onW hfr rfl fw fun h₂ hheld up₂ => ?_
      refine wpAny_landsW hheld fun h₃ fw₃ up₃ => ?_
      have fl₃ : Flown C s₁.heap h₃ ea d' := ⟨hm, L', a0, hL, kb, fk, dk, fw₃, up.trans (up₂.trans up₃)⟩
      have hal : ∀ a ∈ C.D, ∃ o, s₁.heap.get? a = some o := fun a ha => H₁.al a (sub_X' ok ha)
      obtain ⟨kb₃, fk₃, dk₃⟩ := fl₃.use ok hal
      have H₃ := H₁.after' (k := t) ok kb₃ fk₃ dk₃
      obtain ⟨m₃, F₃⟩ := H₃.fr
      obtain ⟨ob, hob, hobc⟩ := fw₃.there
      obtain ⟨nm, q, N, bs, hdct, sn, sub, ab, col, dd, j0, j1, j2, j3, j5, hlk⟩ := BC.obj
      refine wpAny_handleBy_cons (codeAny_handlers_test (nameG_K F₃ ok.X (topRead_of ok.T) hbg ?_ (he ▸ ok.eG) (he ▸ ok.eK) (he ▸ hbk) (by decide))) (by intro q; cases q)
      refine wpAny_excMatches_sub_self ((ok.X.keeps F₃.keep) _ _ hlk) hob hobc (by decide) (codeAny_handlers_suite ?_)
      refine lands_againW fw₃ fun h₄ fw₄ up₄ => ?_
      have fl₄ : Flown C s₁.heap h₄ ea d' := ⟨hm, L', a0, hL, kb, fk, dk, fw₄, up.trans (up₂.trans (up₃.trans up₄))⟩
      obtain ⟨kb₄, fk₄, dk₄⟩ := fl₄.use ok hal
      have H₄ := H₁.after' (k := t) ok kb₄ fk₄ dk₄
      refine wpAny_noRaise (wpAny_execs_cons (wpAny_Assign_Name (wpAny_Constant_none ?_) (he ▸ hs2)))
      rw [← he]
      exact store_st ok hLN H₄ hi .none fun s' H' m => wpAny_execs_nil (hQ _ s' H' (((Mv.of (k₁.trans (.ofF ok kb₄ fk₄)))).trans ok m fun a ha => (H'.oaX a ha).1))
    · cases h
end
end Mine

namespace Mine
/-! what the top of the text leaves -/
noncomputable abbrev S := Str.ofString
noncomputable abbrev kh (P : Params) (x : Str) : Int := PyData.keyHash P x
noncomputable abbrev pg : Program := PySem.Challenge.pw_nt0276_01
noncomputable def st (k : Nat) : Stmt := match pg.main.body[k]? with
  | some s => s
  | none => .Pass ⟨0, 0, 0, 0⟩
noncomputable def su (k j : Nat) : Stmt := match st k with
  | .ClassDef _ _ _ b _ _ _ _ _ _ _ => (match b[j]? with | some s => s | none => .Pass ⟨0, 0, 0, 0⟩)
  | _ => .Pass ⟨0, 0, 0, 0⟩
noncomputable def fp : Stmt → Arguments
  | .FunctionDef _ a _ _ _ _ _ _ _ _ => a
  | _ => ⟨[], [], none, [], [], none, []⟩
noncomputable def fb : Stmt → FuncBody
  | .FunctionDef _ _ b _ _ _ _ _ _ _ => .stmts b
  | _ => .stmts []
noncomputable def fs : Stmt → Scope
  | .FunctionDef _ _ _ _ _ _ s _ _ _ => s
  | _ => ⟨.module, [], false, false, []⟩
noncomputable def o2 (P : Params) : Obj := ⟨.none, .none, .dict #[⟨kh P (S "type.__subclasses__.Exception.0"), .str (S "type.__subclasses__.Exception.0") 219, .int 32 0⟩, ⟨kh P (S "type.__subclasses__.Exception.n"), .str (S "type.__subclasses__.Exception.n") 220, .int 1 0⟩] 2, #[]⟩
noncomputable def o3 (P : Params) : Obj := ⟨.type "dict", .none, .dict #[⟨kh P (S "__name__"), .str (S "__name__") 165, .str (S "law_nt0276_01") 507⟩, ⟨kh P (S "__doc__"), .str (S "__doc__") 166, .none⟩, ⟨kh P (S "__package__"), .str (S "__package__") 167, .none⟩, ⟨kh P (S "__loader__"), .str (S "__loader__") 168, .builtin "__main__.__loader__#opaque"⟩, ⟨kh P (S "__spec__"), .str (S "__spec__") 169, .none⟩, ⟨kh P (S "__annotations__"), .str (S "__annotations__") 170, .ref 6⟩, ⟨kh P (S "__builtins__"), .str (S "__builtins__") 171, .ref 4⟩, ⟨kh P (S "__file__"), .str (S "__file__") 173, .str (S "/claim/cut.py") 172⟩, ⟨kh P (S "__cached__"), .str (S "__cached__") 174, .none⟩, ⟨kh P (S "HEX_SIGNS"), .str (S "HEX_SIGNS") 190, .str (S "0123456789abcdef") 189⟩, ⟨kh P (S "NOUGHT_SIGN"), .str (S "NOUGHT_SIGN") 192, .int 48 191⟩, ⟨kh P (S "GitError"), .str (S "GitError") 222, .ref 32⟩, ⟨kh P (S "BadObject"), .str (S "BadObject") 238, .ref 45⟩, ⟨kh P (S "text_of"), .str (S "text_of") 244, .ref 52⟩, ⟨kh P (S "octets_of"), .str (S "octets_of") 250, .ref 57⟩, ⟨kh P (S "hex_of"), .str (S "hex_of") 259, .ref 64⟩, ⟨kh P (S "number_by"), .str (S "number_by") 270, .ref 71⟩, ⟨kh P (S "number_of"), .str (S "number_of") 277, .ref 78⟩, ⟨kh P (S "OBJECT_DIGITS"), .str (S "OBJECT_DIGITS") 281, .bytes #[48, 49, 50, 51, 52, 53, 54, 55, 56, 57] 280⟩, ⟨kh P (S "OBJECT_BLANKS"), .str (S "OBJECT_BLANKS") 283, .bytes #[32, 9, 13, 11, 12] 282⟩, ⟨kh P (S "OBJECT_SIGNED_OFF"), .str (S "OBJECT_SIGNED_OFF") 285, .bytes #[83, 105, 103, 110, 101, 100, 45, 111, 102, 102, 45, 98, 121] 284⟩, ⟨kh P (S "OBJECT_PICKED"), .str (S "OBJECT_PICKED") 287, .bytes #[40, 99, 104, 101, 114, 114, 121, 32, 112, 105, 99, 107, 101, 100, 32, 102, 114, 111, 109, 32, 99, 111, 109, 109, 105, 116, 32] 286⟩, ⟨kh P (S "object_has_sign"), .str (S "object_has_sign") 296, .ref 85⟩, ⟨kh P (S "object_are_all"), .str (S "object_are_all") 305, .ref 92⟩, ⟨kh P (S "object_trimmed"), .str (S "object_trimmed") 315, .ref 99⟩, ⟨kh P (S "object_cut_end"), .str (S "object_cut_end") 324, .ref 106⟩, ⟨kh P (S "Person"), .str (S "Person") 366, .ref 130⟩, ⟨kh P (S "read_person"), .str (S "read_person") 381, .ref 141⟩, ⟨kh P (S "person_minutes"), .str (S "person_minutes") 389, .ref 148⟩, ⟨kh P (S "object_head_row"), .str (S "object_head_row") 397, .ref 155⟩, ⟨kh P (S "object_rows"), .str (S "object_rows") 403, .ref 160⟩, ⟨kh P (S "object_subject"), .str (S "object_subject") 413, .ref 167⟩, ⟨kh P (S "object_trailer_of"), .str (S "object_trailer_of") 423, .ref 174⟩, ⟨kh P (S "object_last_part"), .str (S "object_last_part") 433, .ref 181⟩, ⟨kh P (S "object_trailers"), .str (S "object_trailers") 449, .ref 188⟩, ⟨kh P (S "Commit"), .str (S "Commit") 506, .ref 219⟩, ⟨kh P (S "_law_deck"), .str (S "_law_deck") 514, .ref 228⟩, ⟨kh P (S "_law_draw"), .str (S "_law_draw") 524, .ref 235⟩, ⟨kh P (S "_law_pick"), .str (S "_law_pick") 532, .ref 242⟩, ⟨kh P (S "_law_number"), .str (S "_law_number") 541, .ref 249⟩, ⟨kh P (S "_law_parts"), .str (S "_law_parts") 547, .ref 254⟩, ⟨kh P (S "_law_heard"), .str (S "_law_heard") 555, .ref 261⟩, ⟨kh P (S "_law_person_right"), .str (S "_law_person_right") 561, .ref 266⟩, ⟨kh P (S "_law_people_right"), .str (S "_law_people_right") 567, .ref 271⟩, ⟨kh P (S "_law_subject"), .str (S "_law_subject") 577, .ref 278⟩, ⟨kh P (S "_law_stripped"), .str (S "_law_stripped") 584, .ref 285⟩, ⟨kh P (S "_law_pair"), .str (S "_law_pair") 590, .ref 290⟩, ⟨kh P (S "_law_trailers"), .str (S "_law_trailers") 596, .ref 295⟩, ⟨kh P (S "_law_message_right"), .str (S "_law_message_right") 602, .ref 300⟩, ⟨kh P (S "_law_messages_right"), .str (S "_law_messages_right") 615, .ref 307⟩, ⟨kh P (S "law"), .str (S "law") 623, .ref 314⟩] 51, #[]⟩
noncomputable def o11 (P : Params) : Obj := ⟨.type "tuple", .none, .seq #[] 0, #[]⟩
noncomputable def o12 (P : Params) : Obj := ⟨.none, .none, .fields #[.int 4 0, .int 0 0, .ref 20, .int 8 0, .int 0 0, .ref 41, .int 10 0, .int 0 0, .ref 51, .int 12 0, .int 0 0, .ref 56, .int 18 0, .int 0 0, .ref 63, .int 24 0, .int 0 0, .ref 70, .int 34 0, .int 0 0, .ref 77, .int 43 0, .int 0 0, .ref 84, .int 48 0, .int 0 0, .ref 91, .int 53 0, .int 0 0, .ref 98, .int 60 0, .int 0 0, .ref 105, .int 65 0, .int 0 0, .ref 112, .int 75 0, .int 0 0, .ref 140, .int 95 0, .int 0 0, .ref 147, .int 98 0, .int 0 0, .ref 154, .int 100 0, .int 0 0, .ref 159, .int 102 0, .int 0 0, .ref 166, .int 110 0, .int 0 0, .ref 173, .int 119 0, .int 0 0, .ref 180, .int 130 0, .int 0 0, .ref 187, .int 147 0, .int 0 0, .ref 194, .int 171 0, .int 0 0, .ref 227, .int 176 0, .int 0 0, .ref 234, .int 188 0, .int 0 0, .ref 241, .int 190 0, .int 0 0, .ref 248, .int 197 0, .int 0 0, .ref 253, .int 209 0, .int 0 0, .ref 260, .int 216 0, .int 0 0, .ref 265, .int 227 0, .int 0 0, .ref 270, .int 242 0, .int 0 0, .ref 277, .int 254 0, .int 0 0, .ref 284, .int 260 0, .int 0 0, .ref 289, .int 267 0, .int 0 0, .ref 294, .int 289 0, .int 0 0, .ref 299, .int 294 0, .int 0 0, .ref 306, .int 311 0, .int 0 0, .ref 313], #[]⟩
noncomputable def o13 (P : Params) : Obj := ⟨.type "code", .none, .fields #[.str (S "<module>") 182, .str (S "<module>") 183, .str (S "/claim/cut.py") 184, .int 1 0, .int 0 0, .int 0 0, .int 0 0, .int 0 0, .ref 11, .bool false, .int 181 0, .ref 12, .none, .none, .none, .none, .int 185 0, .int 1 0, .str (S "/claim/cut.py") 186], #[]⟩
noncomputable def o14 (P : Params) : Obj := ⟨.type "frame", .none, .plain, #[.some (.ref 13), .some (.ref 3), .some (.ref 3), .none, .some (.str (S "__main__") 164), .none, .some (.ref 0)]⟩
noncomputable def o15 (P : Params) : Obj := ⟨.type "tuple", .none, .seq #[.type "Exception"] 0, #[]⟩
noncomputable def o16 (P : Params) : Obj := ⟨.type "builtin_function_or_method", .none, .fields #[.builtin "type.__prepare__", .type "type"], #[]⟩
noncomputable def o17 (P : Params) : Obj := ⟨.type "dict", .none, .dict #[⟨kh P (S "__module__"), .str (S "__module__") 200, .str (S "gitcore.base") 187⟩, ⟨kh P (S "__qualname__"), .str (S "__qualname__") 202, .str (S "GitError") 201⟩, ⟨kh P (S "__firstlineno__"), .str (S "__firstlineno__") 204, .int 4 203⟩, ⟨kh P (S "__init__"), .str (S "__init__") 213, .ref 29⟩, ⟨kh P (S "__static_attributes__"), .str (S "__static_attributes__") 215, .ref 30⟩] 5, #[]⟩
noncomputable def o18 (P : Params) : Obj := ⟨.type "tuple", .none, .seq #[] 0, #[]⟩
noncomputable def o19 (P : Params) : Obj := ⟨.none, .none, .fields #[.int 6 0, .int 4 0, .ref 28], #[]⟩
noncomputable def o20 (P : Params) : Obj := ⟨.type "code", .none, .fields #[.str (S "GitError") 195, .str (S "GitError") 196, .str (S "/claim/cut.py") 197, .int 4 0, .int 0 0, .int 0 0, .int 0 0, .int 0 0, .ref 18, .bool false, .int 181 0, .ref 19, .none, .none, .none, .none, .int 198 0, .int 4 0, .str (S "/claim/cut.py") 199], #[]⟩
noncomputable def o21 (P : Params) : Obj := ⟨.type "frame", .none, .plain, #[.some (.ref 20), .some (.ref 3), .some (.ref 17), .none, .some (.str (S "gitcore.base") 187), .none, .some (.ref 0)]⟩
noncomputable def o22 (P : Params) : Obj := ⟨.type "tuple", .none, .seq #[.str (S "") 205] 0, #[]⟩
noncomputable def o23 (P : Params) : Obj := ⟨.type "tuple", .none, .seq #[] 0, #[]⟩
noncomputable def o24 (P : Params) : Obj := ⟨.none, .none, .fields #[], #[]⟩
noncomputable def o25 (P : Params) : Obj := ⟨.type "tuple", .none, .seq #[.str (S "self") 209, .str (S "told") 210] 0, #[]⟩
noncomputable def o26 (P : Params) : Obj := ⟨.type "tuple", .none, .seq #[] 0, #[]⟩
noncomputable def o27 (P : Params) : Obj := ⟨.none, .none, .func ⟨S "__init__", S "GitError.__init__", (fp (su 3 0)), (fb (su 3 0)), (fs (su 3 0)), 0, [], .none, .none, .none, .none, .none, .none, .none, 0⟩, #[]⟩
noncomputable def o28 (P : Params) : Obj := ⟨.type "code", .none, .fields #[.str (S "__init__") 206, .str (S "GitError.__init__") 207, .str (S "/claim/cut.py") 208, .int 6 0, .int 2 0, .int 0 0, .int 0 0, .int 3 0, .ref 23, .bool true, .int 181 0, .ref 24, .none, .ref 25, .ref 26, .ref 27, .int 211 0, .int 6 0, .str (S "/claim/cut.py") 212], #[]⟩
noncomputable def o29 (P : Params) : Obj := ⟨.type "function", .none, .func ⟨S "__init__", S "GitError.__init__", (fp (su 3 0)), (fb (su 3 0)), (fs (su 3 0)), 3, [], .ref 22, .none, .none, .str (S "gitcore.base") 187, .none, .ref 28, .none, 0⟩, #[]⟩
noncomputable def o30 (P : Params) : Obj := ⟨.type "tuple", .none, .seq #[.str (S "told") 214] 0, #[]⟩
noncomputable def o31 (P : Params) : Obj := ⟨.type "dict", .none, .dict #[⟨kh P (S "__module__"), .str (S "__module__") 200, .str (S "gitcore.base") 187⟩, ⟨kh P (S "__firstlineno__"), .str (S "__firstlineno__") 204, .int 4 203⟩, ⟨kh P (S "__init__"), .str (S "__init__") 213, .ref 29⟩, ⟨kh P (S "__static_attributes__"), .str (S "__static_attributes__") 215, .ref 30⟩, ⟨kh P (S "__weakref__"), .str (S "__weakref__") 217, .ref 33⟩, ⟨kh P (S "__doc__"), .str (S "__doc__") 218, .none⟩] 3, #[]⟩
noncomputable def o32 (P : Params) : Obj := ⟨.type "type", .none, .cls ⟨S "GitError", [.type "Exception"], [.ref 32, .type "Exception", .type "BaseException", .type "object"], 31, S "GitError", true, [], [.ref 45], false, .none, false⟩, #[.some (.ref 15), .none, .some (.str (S "GitError") 193), .some (.str (S "GitError") 201), .some (.builtin "Exception.__new__"), .some (.bool true)]⟩
noncomputable def o33 (P : Params) : Obj := ⟨.type "getset_descriptor", .none, .fields #[.str (S "__weakref__") 216, .ref 32, .builtin "ExceptionGroup.__weakref__", .none], #[]⟩
noncomputable def o34 (P : Params) : Obj := ⟨.type "super", .none, .fields #[.ref 32, .ref 32, .ref 32], #[]⟩
noncomputable def o35 (P : Params) : Obj := ⟨.type "builtin_function_or_method", .none, .fields #[.builtin "object.__init_subclass__", .ref 32], #[]⟩
noncomputable def o36 (P : Params) : Obj := ⟨.type "tuple", .none, .seq #[.ref 32] 0, #[]⟩
noncomputable def o37 (P : Params) : Obj := ⟨.type "builtin_function_or_method", .none, .fields #[.builtin "type.__prepare__", .type "type"], #[]⟩
noncomputable def o38 (P : Params) : Obj := ⟨.type "dict", .none, .dict #[⟨kh P (S "__module__"), .str (S "__module__") 230, .str (S "gitcore.base") 187⟩, ⟨kh P (S "__qualname__"), .str (S "__qualname__") 232, .str (S "BadObject") 231⟩, ⟨kh P (S "__firstlineno__"), .str (S "__firstlineno__") 234, .int 8 233⟩, ⟨kh P (S "__static_attributes__"), .str (S "__static_attributes__") 235, .ref 43⟩] 4, #[]⟩
noncomputable def o39 (P : Params) : Obj := ⟨.type "tuple", .none, .seq #[] 0, #[]⟩
noncomputable def o40 (P : Params) : Obj := ⟨.none, .none, .fields #[], #[]⟩
noncomputable def o41 (P : Params) : Obj := ⟨.type "code", .none, .fields #[.str (S "BadObject") 225, .str (S "BadObject") 226, .str (S "/claim/cut.py") 227, .int 8 0, .int 0 0, .int 0 0, .int 0 0, .int 0 0, .ref 39, .bool false, .int 181 0, .ref 40, .none, .none, .none, .none, .int 228 0, .int 8 0, .str (S "/claim/cut.py") 229], #[]⟩
noncomputable def o42 (P : Params) : Obj := ⟨.type "frame", .none, .plain, #[.some (.ref 41), .some (.ref 3), .some (.ref 38), .none, .some (.str (S "gitcore.base") 187), .none, .some (.ref 0)]⟩
noncomputable def o43 (P : Params) : Obj := ⟨.type "tuple", .none, .seq #[] 0, #[]⟩
noncomputable def o44 (P : Params) : Obj := ⟨.type "dict", .none, .dict #[⟨kh P (S "__module__"), .str (S "__module__") 230, .str (S "gitcore.base") 187⟩, ⟨kh P (S "__firstlineno__"), .str (S "__firstlineno__") 234, .int 8 233⟩, ⟨kh P (S "__static_attributes__"), .str (S "__static_attributes__") 235, .ref 43⟩, ⟨kh P (S "__doc__"), .str (S "__doc__") 236, .none⟩] 2, #[]⟩
noncomputable def o45 (P : Params) : Obj := ⟨.type "type", .none, .cls ⟨S "BadObject", [.ref 32], [.ref 45, .ref 32, .type "Exception", .type "BaseException", .type "object"], 44, S "BadObject", true, [], [], false, .none, false⟩, #[.some (.ref 36), .none, .some (.str (S "BadObject") 223), .some (.str (S "BadObject") 231), .some (.builtin "Exception.__new__"), .some (.bool true)]⟩
noncomputable def o46 (P : Params) : Obj := ⟨.type "super", .none, .fields #[.ref 45, .ref 45, .ref 45], #[]⟩
noncomputable def o47 (P : Params) : Obj := ⟨.type "builtin_function_or_method", .none, .fields #[.builtin "object.__init_subclass__", .ref 45], #[]⟩
noncomputable def o48 (P : Params) : Obj := ⟨.type "tuple", .none, .seq #[] 0, #[]⟩
noncomputable def o49 (P : Params) : Obj := ⟨.none, .none, .fields #[], #[]⟩
noncomputable def o50 (P : Params) : Obj := ⟨.none, .none, .func ⟨S "text_of", S "text_of", (fp (st 5)), (fb (st 5)), (fs (st 5)), 0, [], .none, .none, .none, .none, .none, .none, .none, 0⟩, #[]⟩
noncomputable def o51 (P : Params) : Obj := ⟨.type "code", .none, .fields #[.str (S "text_of") 239, .str (S "text_of") 240, .str (S "/claim/cut.py") 241, .int 10 0, .int 1 0, .int 0 0, .int 0 0, .int 3 0, .ref 48, .bool true, .int 181 0, .ref 49, .none, .none, .none, .ref 50, .int 242 0, .int 10 0, .str (S "/claim/cut.py") 243], #[]⟩
noncomputable def o52 (P : Params) : Obj := ⟨.type "function", .none, .func ⟨S "text_of", S "text_of", (fp (st 5)), (fb (st 5)), (fs (st 5)), 3, [], .none, .none, .none, .str (S "gitcore.base") 187, .none, .ref 51, .none, 0⟩, #[]⟩
noncomputable def o53 (P : Params) : Obj := ⟨.type "tuple", .none, .seq #[] 0, #[]⟩
noncomputable def o54 (P : Params) : Obj := ⟨.none, .none, .fields #[], #[]⟩
noncomputable def o55 (P : Params) : Obj := ⟨.none, .none, .func ⟨S "octets_of", S "octets_of", (fp (st 6)), (fb (st 6)), (fs (st 6)), 0, [], .none, .none, .none, .none, .none, .none, .none, 0⟩, #[]⟩
noncomputable def o56 (P : Params) : Obj := ⟨.type "code", .none, .fields #[.str (S "octets_of") 245, .str (S "octets_of") 246, .str (S "/claim/cut.py") 247, .int 12 0, .int 1 0, .int 0 0, .int 0 0, .int 3 0, .ref 53, .bool true, .int 181 0, .ref 54, .none, .none, .none, .ref 55, .int 248 0, .int 12 0, .str (S "/claim/cut.py") 249], #[]⟩
noncomputable def o57 (P : Params) : Obj := ⟨.type "function", .none, .func ⟨S "octets_of", S "octets_of", (fp (st 6)), (fb (st 6)), (fs (st 6)), 3, [], .none, .none, .none, .str (S "gitcore.base") 187, .none, .ref 56, .none, 0⟩, #[]⟩
noncomputable def o58 (P : Params) : Obj := ⟨.type "tuple", .none, .seq #[] 0, #[]⟩
noncomputable def o59 (P : Params) : Obj := ⟨.none, .none, .fields #[], #[]⟩
noncomputable def o60 (P : Params) : Obj := ⟨.type "tuple", .none, .seq #[.str (S "octets") 254, .str (S "found") 255, .str (S "octet") 256] 0, #[]⟩
noncomputable def o61 (P : Params) : Obj := ⟨.type "tuple", .none, .seq #[] 0, #[]⟩
noncomputable def o62 (P : Params) : Obj := ⟨.none, .none, .func ⟨S "hex_of", S "hex_of", (fp (st 7)), (fb (st 7)), (fs (st 7)), 0, [], .none, .none, .none, .none, .none, .none, .none, 0⟩, #[]⟩
noncomputable def o63 (P : Params) : Obj := ⟨.type "code", .none, .fields #[.str (S "hex_of") 251, .str (S "hex_of") 252, .str (S "/claim/cut.py") 253, .int 18 0, .int 1 0, .int 0 0, .int 0 0, .int 3 0, .ref 58, .bool true, .int 181 0, .ref 59, .none, .ref 60, .ref 61, .ref 62, .int 257 0, .int 18 0, .str (S "/claim/cut.py") 258], #[]⟩
noncomputable def o64 (P : Params) : Obj := ⟨.type "function", .none, .func ⟨S "hex_of", S "hex_of", (fp (st 7)), (fb (st 7)), (fs (st 7)), 3, [], .none, .none, .none, .str (S "gitcore.base") 187, .none, .ref 63, .none, 0⟩, #[]⟩
noncomputable def o65 (P : Params) : Obj := ⟨.type "tuple", .none, .seq #[] 0, #[]⟩
noncomputable def o66 (P : Params) : Obj := ⟨.none, .none, .fields #[], #[]⟩
noncomputable def o67 (P : Params) : Obj := ⟨.type "tuple", .none, .seq #[.str (S "octets") 263, .str (S "base") 264, .str (S "number") 265, .str (S "octet") 266, .str (S "digit") 267] 0, #[]⟩
noncomputable def o68 (P : Params) : Obj := ⟨.type "tuple", .none, .seq #[] 0, #[]⟩
noncomputable def o69 (P : Params) : Obj := ⟨.none, .none, .func ⟨S "number_by", S "number_by", (fp (st 8)), (fb (st 8)), (fs (st 8)), 0, [], .none, .none, .none, .none, .none, .none, .none, 0⟩, #[]⟩
noncomputable def o70 (P : Params) : Obj := ⟨.type "code", .none, .fields #[.str (S "number_by") 260, .str (S "number_by") 261, .str (S "/claim/cut.py") 262, .int 24 0, .int 2 0, .int 0 0, .int 0 0, .int 3 0, .ref 65, .bool true, .int 181 0, .ref 66, .none, .ref 67, .ref 68, .ref 69, .int 268 0, .int 24 0, .str (S "/claim/cut.py") 269], #[]⟩
noncomputable def o71 (P : Params) : Obj := ⟨.type "function", .none, .func ⟨S "number_by", S "number_by", (fp (st 8)), (fb (st 8)), (fs (st 8)), 3, [], .none, .none, .none, .str (S "gitcore.base") 187, .none, .ref 70, .none, 0⟩, #[]⟩
noncomputable def o72 (P : Params) : Obj := ⟨.type "tuple", .none, .seq #[] 0, #[]⟩
noncomputable def o73 (P : Params) : Obj := ⟨.none, .none, .fields #[], #[]⟩
noncomputable def o74 (P : Params) : Obj := ⟨.type "tuple", .none, .seq #[.str (S "octets") 274] 0, #[]⟩
noncomputable def o75 (P : Params) : Obj := ⟨.type "tuple", .none, .seq #[] 0, #[]⟩
noncomputable def o76 (P : Params) : Obj := ⟨.none, .none, .func ⟨S "number_of", S "number_of", (fp (st 9)), (fb (st 9)), (fs (st 9)), 0, [], .none, .none, .none, .none, .none, .none, .none, 0⟩, #[]⟩
noncomputable def o77 (P : Params) : Obj := ⟨.type "code", .none, .fields #[.str (S "number_of") 271, .str (S "number_of") 272, .str (S "/claim/cut.py") 273, .int 34 0, .int 1 0, .int 0 0, .int 0 0, .int 3 0, .ref 72, .bool true, .int 181 0, .ref 73, .none, .ref 74, .ref 75, .ref 76, .int 275 0, .int 34 0, .str (S "/claim/cut.py") 276], #[]⟩
noncomputable def o78 (P : Params) : Obj := ⟨.type "function", .none, .func ⟨S "number_of", S "number_of", (fp (st 9)), (fb (st 9)), (fs (st 9)), 3, [], .none, .none, .none, .str (S "gitcore.base") 187, .none, .ref 77, .none, 0⟩, #[]⟩
noncomputable def o79 (P : Params) : Obj := ⟨.type "tuple", .none, .seq #[] 0, #[]⟩
noncomputable def o80 (P : Params) : Obj := ⟨.none, .none, .fields #[], #[]⟩
noncomputable def o81 (P : Params) : Obj := ⟨.type "tuple", .none, .seq #[.str (S "octets") 291, .str (S "signs") 292, .str (S "sign") 293] 0, #[]⟩
noncomputable def o82 (P : Params) : Obj := ⟨.type "tuple", .none, .seq #[] 0, #[]⟩
noncomputable def o83 (P : Params) : Obj := ⟨.none, .none, .func ⟨S "object_has_sign", S "object_has_sign", (fp (st 15)), (fb (st 15)), (fs (st 15)), 0, [], .none, .none, .none, .none, .none, .none, .none, 0⟩, #[]⟩
noncomputable def o84 (P : Params) : Obj := ⟨.type "code", .none, .fields #[.str (S "object_has_sign") 288, .str (S "object_has_sign") 289, .str (S "/claim/cut.py") 290, .int 43 0, .int 2 0, .int 0 0, .int 0 0, .int 3 0, .ref 79, .bool true, .int 181 0, .ref 80, .none, .ref 81, .ref 82, .ref 83, .int 294 0, .int 43 0, .str (S "/claim/cut.py") 295], #[]⟩
noncomputable def o85 (P : Params) : Obj := ⟨.type "function", .none, .func ⟨S "object_has_sign", S "object_has_sign", (fp (st 15)), (fb (st 15)), (fs (st 15)), 3, [], .none, .none, .none, .str (S "gitcore.objects") 278, .none, .ref 84, .none, 0⟩, #[]⟩
noncomputable def o86 (P : Params) : Obj := ⟨.type "tuple", .none, .seq #[] 0, #[]⟩
noncomputable def o87 (P : Params) : Obj := ⟨.none, .none, .fields #[], #[]⟩
noncomputable def o88 (P : Params) : Obj := ⟨.type "tuple", .none, .seq #[.str (S "octets") 300, .str (S "signs") 301, .str (S "sign") 302] 0, #[]⟩
noncomputable def o89 (P : Params) : Obj := ⟨.type "tuple", .none, .seq #[] 0, #[]⟩
noncomputable def o90 (P : Params) : Obj := ⟨.none, .none, .func ⟨S "object_are_all", S "object_are_all", (fp (st 16)), (fb (st 16)), (fs (st 16)), 0, [], .none, .none, .none, .none, .none, .none, .none, 0⟩, #[]⟩
noncomputable def o91 (P : Params) : Obj := ⟨.type "code", .none, .fields #[.str (S "object_are_all") 297, .str (S "object_are_all") 298, .str (S "/claim/cut.py") 299, .int 48 0, .int 2 0, .int 0 0, .int 0 0, .int 3 0, .ref 86, .bool true, .int 181 0, .ref 87, .none, .ref 88, .ref 89, .ref 90, .int 303 0, .int 48 0, .str (S "/claim/cut.py") 304], #[]⟩
noncomputable def o92 (P : Params) : Obj := ⟨.type "function", .none, .func ⟨S "object_are_all", S "object_are_all", (fp (st 16)), (fb (st 16)), (fs (st 16)), 3, [], .none, .none, .none, .str (S "gitcore.objects") 278, .none, .ref 91, .none, 0⟩, #[]⟩
noncomputable def o93 (P : Params) : Obj := ⟨.type "tuple", .none, .seq #[] 0, #[]⟩
noncomputable def o94 (P : Params) : Obj := ⟨.none, .none, .fields #[], #[]⟩
noncomputable def o95 (P : Params) : Obj := ⟨.type "tuple", .none, .seq #[.str (S "octets") 309, .str (S "signs") 310, .str (S "start") 311, .str (S "end") 312] 0, #[]⟩
noncomputable def o96 (P : Params) : Obj := ⟨.type "tuple", .none, .seq #[] 0, #[]⟩
noncomputable def o97 (P : Params) : Obj := ⟨.none, .none, .func ⟨S "object_trimmed", S "object_trimmed", (fp (st 17)), (fb (st 17)), (fs (st 17)), 0, [], .none, .none, .none, .none, .none, .none, .none, 0⟩, #[]⟩
noncomputable def o98 (P : Params) : Obj := ⟨.type "code", .none, .fields #[.str (S "object_trimmed") 306, .str (S "object_trimmed") 307, .str (S "/claim/cut.py") 308, .int 53 0, .int 2 0, .int 0 0, .int 0 0, .int 3 0, .ref 93, .bool true, .int 181 0, .ref 94, .none, .ref 95, .ref 96, .ref 97, .int 313 0, .int 53 0, .str (S "/claim/cut.py") 314], #[]⟩
noncomputable def o99 (P : Params) : Obj := ⟨.type "function", .none, .func ⟨S "object_trimmed", S "object_trimmed", (fp (st 17)), (fb (st 17)), (fs (st 17)), 3, [], .none, .none, .none, .str (S "gitcore.objects") 278, .none, .ref 98, .none, 0⟩, #[]⟩
noncomputable def o100 (P : Params) : Obj := ⟨.type "tuple", .none, .seq #[] 0, #[]⟩
noncomputable def o101 (P : Params) : Obj := ⟨.none, .none, .fields #[], #[]⟩
noncomputable def o102 (P : Params) : Obj := ⟨.type "tuple", .none, .seq #[.str (S "octets") 319, .str (S "signs") 320, .str (S "end") 321] 0, #[]⟩
noncomputable def o103 (P : Params) : Obj := ⟨.type "tuple", .none, .seq #[] 0, #[]⟩
noncomputable def o104 (P : Params) : Obj := ⟨.none, .none, .func ⟨S "object_cut_end", S "object_cut_end", (fp (st 18)), (fb (st 18)), (fs (st 18)), 0, [], .none, .none, .none, .none, .none, .none, .none, 0⟩, #[]⟩
noncomputable def o105 (P : Params) : Obj := ⟨.type "code", .none, .fields #[.str (S "object_cut_end") 316, .str (S "object_cut_end") 317, .str (S "/claim/cut.py") 318, .int 60 0, .int 2 0, .int 0 0, .int 0 0, .int 3 0, .ref 100, .bool true, .int 181 0, .ref 101, .none, .ref 102, .ref 103, .ref 104, .int 322 0, .int 60 0, .str (S "/claim/cut.py") 323], #[]⟩
noncomputable def o106 (P : Params) : Obj := ⟨.type "function", .none, .func ⟨S "object_cut_end", S "object_cut_end", (fp (st 18)), (fb (st 18)), (fs (st 18)), 3, [], .none, .none, .none, .str (S "gitcore.objects") 278, .none, .ref 105, .none, 0⟩, #[]⟩
noncomputable def o107 (P : Params) : Obj := ⟨.type "tuple", .none, .seq #[] 0, #[]⟩
noncomputable def o108 (P : Params) : Obj := ⟨.type "builtin_function_or_method", .none, .fields #[.builtin "type.__prepare__", .type "type"], #[]⟩
noncomputable def o109 (P : Params) : Obj := ⟨.type "dict", .none, .dict #[⟨kh P (S "__module__"), .str (S "__module__") 332, .str (S "gitcore.objects") 278⟩, ⟨kh P (S "__qualname__"), .str (S "__qualname__") 334, .str (S "Person") 333⟩, ⟨kh P (S "__firstlineno__"), .str (S "__firstlineno__") 336, .int 65 335⟩, ⟨kh P (S "__init__"), .str (S "__init__") 347, .ref 120⟩, ⟨kh P (S "octets"), .str (S "octets") 354, .ref 127⟩, ⟨kh P (S "__static_attributes__"), .str (S "__static_attributes__") 359, .ref 128⟩] 6, #[]⟩
noncomputable def o110 (P : Params) : Obj := ⟨.type "tuple", .none, .seq #[] 0, #[]⟩
noncomputable def o111 (P : Params) : Obj := ⟨.none, .none, .fields #[.int 67 0, .int 4 0, .ref 119, .int 73 0, .int 4 0, .ref 126], #[]⟩
noncomputable def o112 (P : Params) : Obj := ⟨.type "code", .none, .fields #[.str (S "Person") 327, .str (S "Person") 328, .str (S "/claim/cut.py") 329, .int 65 0, .int 0 0, .int 0 0, .int 0 0, .int 0 0, .ref 110, .bool false, .int 181 0, .ref 111, .none, .none, .none, .none, .int 330 0, .int 65 0, .str (S "/claim/cut.py") 331], #[]⟩
noncomputable def o113 (P : Params) : Obj := ⟨.type "frame", .none, .plain, #[.some (.ref 112), .some (.ref 3), .some (.ref 109), .none, .some (.str (S "gitcore.objects") 278), .none, .some (.ref 0)]⟩
noncomputable def o114 (P : Params) : Obj := ⟨.type "tuple", .none, .seq #[] 0, #[]⟩
noncomputable def o115 (P : Params) : Obj := ⟨.none, .none, .fields #[], #[]⟩
noncomputable def o116 (P : Params) : Obj := ⟨.type "tuple", .none, .seq #[.str (S "self") 340, .str (S "name") 341, .str (S "email") 342, .str (S "when") 343, .str (S "zone") 344] 0, #[]⟩
noncomputable def o117 (P : Params) : Obj := ⟨.type "tuple", .none, .seq #[] 0, #[]⟩
noncomputable def o118 (P : Params) : Obj := ⟨.none, .none, .func ⟨S "__init__", S "Person.__init__", (fp (su 19 0)), (fb (su 19 0)), (fs (su 19 0)), 0, [], .none, .none, .none, .none, .none, .none, .none, 0⟩, #[]⟩
noncomputable def o119 (P : Params) : Obj := ⟨.type "code", .none, .fields #[.str (S "__init__") 337, .str (S "Person.__init__") 338, .str (S "/claim/cut.py") 339, .int 67 0, .int 5 0, .int 0 0, .int 0 0, .int 3 0, .ref 114, .bool true, .int 181 0, .ref 115, .none, .ref 116, .ref 117, .ref 118, .int 345 0, .int 67 0, .str (S "/claim/cut.py") 346], #[]⟩
noncomputable def o120 (P : Params) : Obj := ⟨.type "function", .none, .func ⟨S "__init__", S "Person.__init__", (fp (su 19 0)), (fb (su 19 0)), (fs (su 19 0)), 3, [], .none, .none, .none, .str (S "gitcore.objects") 278, .none, .ref 119, .none, 0⟩, #[]⟩
noncomputable def o121 (P : Params) : Obj := ⟨.type "tuple", .none, .seq #[] 0, #[]⟩
noncomputable def o122 (P : Params) : Obj := ⟨.none, .none, .fields #[], #[]⟩
noncomputable def o123 (P : Params) : Obj := ⟨.type "tuple", .none, .seq #[.str (S "self") 351] 0, #[]⟩
noncomputable def o124 (P : Params) : Obj := ⟨.type "tuple", .none, .seq #[] 0, #[]⟩
noncomputable def o125 (P : Params) : Obj := ⟨.none, .none, .func ⟨S "octets", S "Person.octets", (fp (su 19 1)), (fb (su 19 1)), (fs (su 19 1)), 0, [], .none, .none, .none, .none, .none, .none, .none, 0⟩, #[]⟩
noncomputable def o126 (P : Params) : Obj := ⟨.type "code", .none, .fields #[.str (S "octets") 348, .str (S "Person.octets") 349, .str (S "/claim/cut.py") 350, .int 73 0, .int 1 0, .int 0 0, .int 0 0, .int 3 0, .ref 121, .bool true, .int 181 0, .ref 122, .none, .ref 123, .ref 124, .ref 125, .int 352 0, .int 73 0, .str (S "/claim/cut.py") 353], #[]⟩
noncomputable def o127 (P : Params) : Obj := ⟨.type "function", .none, .func ⟨S "octets", S "Person.octets", (fp (su 19 1)), (fb (su 19 1)), (fs (su 19 1)), 3, [], .none, .none, .none, .str (S "gitcore.objects") 278, .none, .ref 126, .none, 0⟩, #[]⟩
noncomputable def o128 (P : Params) : Obj := ⟨.type "tuple", .none, .seq #[.str (S "email") 355, .str (S "name") 356, .str (S "when") 357, .str (S "zone") 358] 0, #[]⟩
noncomputable def o129 (P : Params) : Obj := ⟨.type "dict", .none, .dict #[⟨kh P (S "__module__"), .str (S "__module__") 332, .str (S "gitcore.objects") 278⟩, ⟨kh P (S "__firstlineno__"), .str (S "__firstlineno__") 336, .int 65 335⟩, ⟨kh P (S "__init__"), .str (S "__init__") 347, .ref 120⟩, ⟨kh P (S "octets"), .str (S "octets") 354, .ref 127⟩, ⟨kh P (S "__static_attributes__"), .str (S "__static_attributes__") 359, .ref 128⟩, ⟨kh P (S "__dict__"), .str (S "__dict__") 361, .ref 131⟩, ⟨kh P (S "__weakref__"), .str (S "__weakref__") 363, .ref 132⟩, ⟨kh P (S "__doc__"), .str (S "__doc__") 364, .none⟩] 4, #[]⟩
noncomputable def o130 (P : Params) : Obj := ⟨.type "type", .none, .cls ⟨S "Person", [.type "object"], [.ref 130, .type "object"], 129, S "Person", true, [], [], false, .none, false⟩, #[.none, .none, .some (.str (S "Person") 325), .some (.str (S "Person") 333), .some (.builtin "object.__new__"), .some (.bool true)]⟩
noncomputable def o131 (P : Params) : Obj := ⟨.type "getset_descriptor", .none, .fields #[.str (S "__dict__") 360, .ref 130, .builtin "function.__dict__", .builtin "function.__dict__#set"], #[]⟩
noncomputable def o132 (P : Params) : Obj := ⟨.type "getset_descriptor", .none, .fields #[.str (S "__weakref__") 362, .ref 130, .builtin "ExceptionGroup.__weakref__", .none], #[]⟩
noncomputable def o133 (P : Params) : Obj := ⟨.type "super", .none, .fields #[.ref 130, .ref 130, .ref 130], #[]⟩
noncomputable def o134 (P : Params) : Obj := ⟨.type "builtin_function_or_method", .none, .fields #[.builtin "object.__init_subclass__", .ref 130], #[]⟩
noncomputable def o135 (P : Params) : Obj := ⟨.type "tuple", .none, .seq #[] 0, #[]⟩
noncomputable def o136 (P : Params) : Obj := ⟨.none, .none, .fields #[], #[]⟩
noncomputable def o137 (P : Params) : Obj := ⟨.type "tuple", .none, .seq #[.str (S "octets") 370, .str (S "start") 371, .str (S "name") 372, .str (S "rest") 373, .str (S "end") 374, .str (S "email") 375, .str (S "blank") 376, .str (S "when") 377, .str (S "zone") 378] 0, #[]⟩
noncomputable def o138 (P : Params) : Obj := ⟨.type "tuple", .none, .seq #[] 0, #[]⟩
noncomputable def o139 (P : Params) : Obj := ⟨.none, .none, .func ⟨S "read_person", S "read_person", (fp (st 20)), (fb (st 20)), (fs (st 20)), 0, [], .none, .none, .none, .none, .none, .none, .none, 0⟩, #[]⟩
noncomputable def o140 (P : Params) : Obj := ⟨.type "code", .none, .fields #[.str (S "read_person") 367, .str (S "read_person") 368, .str (S "/claim/cut.py") 369, .int 75 0, .int 1 0, .int 0 0, .int 0 0, .int 3 0, .ref 135, .bool true, .int 181 0, .ref 136, .none, .ref 137, .ref 138, .ref 139, .int 379 0, .int 75 0, .str (S "/claim/cut.py") 380], #[]⟩
noncomputable def o141 (P : Params) : Obj := ⟨.type "function", .none, .func ⟨S "read_person", S "read_person", (fp (st 20)), (fb (st 20)), (fs (st 20)), 3, [], .none, .none, .none, .str (S "gitcore.objects") 278, .none, .ref 140, .none, 0⟩, #[]⟩
noncomputable def o142 (P : Params) : Obj := ⟨.type "tuple", .none, .seq #[] 0, #[]⟩
noncomputable def o143 (P : Params) : Obj := ⟨.none, .none, .fields #[], #[]⟩
noncomputable def o144 (P : Params) : Obj := ⟨.type "tuple", .none, .seq #[.str (S "person") 385, .str (S "many") 386] 0, #[]⟩
noncomputable def o145 (P : Params) : Obj := ⟨.type "tuple", .none, .seq #[] 0, #[]⟩
noncomputable def o146 (P : Params) : Obj := ⟨.none, .none, .func ⟨S "person_minutes", S "person_minutes", (fp (st 21)), (fb (st 21)), (fs (st 21)), 0, [], .none, .none, .none, .none, .none, .none, .none, 0⟩, #[]⟩
noncomputable def o147 (P : Params) : Obj := ⟨.type "code", .none, .fields #[.str (S "person_minutes") 382, .str (S "person_minutes") 383, .str (S "/claim/cut.py") 384, .int 95 0, .int 1 0, .int 0 0, .int 0 0, .int 3 0, .ref 142, .bool true, .int 181 0, .ref 143, .none, .ref 144, .ref 145, .ref 146, .int 387 0, .int 95 0, .str (S "/claim/cut.py") 388], #[]⟩
noncomputable def o148 (P : Params) : Obj := ⟨.type "function", .none, .func ⟨S "person_minutes", S "person_minutes", (fp (st 21)), (fb (st 21)), (fs (st 21)), 3, [], .none, .none, .none, .str (S "gitcore.objects") 278, .none, .ref 147, .none, 0⟩, #[]⟩
noncomputable def o149 (P : Params) : Obj := ⟨.type "tuple", .none, .seq #[] 0, #[]⟩
noncomputable def o150 (P : Params) : Obj := ⟨.none, .none, .fields #[], #[]⟩
noncomputable def o151 (P : Params) : Obj := ⟨.type "tuple", .none, .seq #[.str (S "key") 393, .str (S "value") 394] 0, #[]⟩
noncomputable def o152 (P : Params) : Obj := ⟨.type "tuple", .none, .seq #[] 0, #[]⟩
noncomputable def o153 (P : Params) : Obj := ⟨.none, .none, .func ⟨S "object_head_row", S "object_head_row", (fp (st 22)), (fb (st 22)), (fs (st 22)), 0, [], .none, .none, .none, .none, .none, .none, .none, 0⟩, #[]⟩
noncomputable def o154 (P : Params) : Obj := ⟨.type "code", .none, .fields #[.str (S "object_head_row") 390, .str (S "object_head_row") 391, .str (S "/claim/cut.py") 392, .int 98 0, .int 2 0, .int 0 0, .int 0 0, .int 3 0, .ref 149, .bool true, .int 181 0, .ref 150, .none, .ref 151, .ref 152, .ref 153, .int 395 0, .int 98 0, .str (S "/claim/cut.py") 396], #[]⟩
noncomputable def o155 (P : Params) : Obj := ⟨.type "function", .none, .func ⟨S "object_head_row", S "object_head_row", (fp (st 22)), (fb (st 22)), (fs (st 22)), 3, [], .none, .none, .none, .str (S "gitcore.objects") 278, .none, .ref 154, .none, 0⟩, #[]⟩
noncomputable def o156 (P : Params) : Obj := ⟨.type "tuple", .none, .seq #[] 0, #[]⟩
noncomputable def o157 (P : Params) : Obj := ⟨.none, .none, .fields #[], #[]⟩
noncomputable def o158 (P : Params) : Obj := ⟨.none, .none, .func ⟨S "object_rows", S "object_rows", (fp (st 23)), (fb (st 23)), (fs (st 23)), 0, [], .none, .none, .none, .none, .none, .none, .none, 0⟩, #[]⟩
noncomputable def o159 (P : Params) : Obj := ⟨.type "code", .none, .fields #[.str (S "object_rows") 398, .str (S "object_rows") 399, .str (S "/claim/cut.py") 400, .int 100 0, .int 1 0, .int 0 0, .int 0 0, .int 3 0, .ref 156, .bool true, .int 181 0, .ref 157, .none, .none, .none, .ref 158, .int 401 0, .int 100 0, .str (S "/claim/cut.py") 402], #[]⟩
noncomputable def o160 (P : Params) : Obj := ⟨.type "function", .none, .func ⟨S "object_rows", S "object_rows", (fp (st 23)), (fb (st 23)), (fs (st 23)), 3, [], .none, .none, .none, .str (S "gitcore.objects") 278, .none, .ref 159, .none, 0⟩, #[]⟩
noncomputable def o161 (P : Params) : Obj := ⟨.type "tuple", .none, .seq #[] 0, #[]⟩
noncomputable def o162 (P : Params) : Obj := ⟨.none, .none, .fields #[], #[]⟩
noncomputable def o163 (P : Params) : Obj := ⟨.type "tuple", .none, .seq #[.str (S "message") 407, .str (S "rows") 408, .str (S "at") 409, .str (S "start") 410] 0, #[]⟩
noncomputable def o164 (P : Params) : Obj := ⟨.type "tuple", .none, .seq #[] 0, #[]⟩
noncomputable def o165 (P : Params) : Obj := ⟨.none, .none, .func ⟨S "object_subject", S "object_subject", (fp (st 24)), (fb (st 24)), (fs (st 24)), 0, [], .none, .none, .none, .none, .none, .none, .none, 0⟩, #[]⟩
noncomputable def o166 (P : Params) : Obj := ⟨.type "code", .none, .fields #[.str (S "object_subject") 404, .str (S "object_subject") 405, .str (S "/claim/cut.py") 406, .int 102 0, .int 1 0, .int 0 0, .int 0 0, .int 3 0, .ref 161, .bool true, .int 181 0, .ref 162, .none, .ref 163, .ref 164, .ref 165, .int 411 0, .int 102 0, .str (S "/claim/cut.py") 412], #[]⟩
noncomputable def o167 (P : Params) : Obj := ⟨.type "function", .none, .func ⟨S "object_subject", S "object_subject", (fp (st 24)), (fb (st 24)), (fs (st 24)), 3, [], .none, .none, .none, .str (S "gitcore.objects") 278, .none, .ref 166, .none, 0⟩, #[]⟩
noncomputable def o168 (P : Params) : Obj := ⟨.type "tuple", .none, .seq #[] 0, #[]⟩
noncomputable def o169 (P : Params) : Obj := ⟨.none, .none, .fields #[], #[]⟩
noncomputable def o170 (P : Params) : Obj := ⟨.type "tuple", .none, .seq #[.str (S "row") 417, .str (S "end") 418, .str (S "key") 419, .str (S "sign") 420] 0, #[]⟩
noncomputable def o171 (P : Params) : Obj := ⟨.type "tuple", .none, .seq #[] 0, #[]⟩
noncomputable def o172 (P : Params) : Obj := ⟨.none, .none, .func ⟨S "object_trailer_of", S "object_trailer_of", (fp (st 25)), (fb (st 25)), (fs (st 25)), 0, [], .none, .none, .none, .none, .none, .none, .none, 0⟩, #[]⟩
noncomputable def o173 (P : Params) : Obj := ⟨.type "code", .none, .fields #[.str (S "object_trailer_of") 414, .str (S "object_trailer_of") 415, .str (S "/claim/cut.py") 416, .int 110 0, .int 1 0, .int 0 0, .int 0 0, .int 3 0, .ref 168, .bool true, .int 181 0, .ref 169, .none, .ref 170, .ref 171, .ref 172, .int 421 0, .int 110 0, .str (S "/claim/cut.py") 422], #[]⟩
noncomputable def o174 (P : Params) : Obj := ⟨.type "function", .none, .func ⟨S "object_trailer_of", S "object_trailer_of", (fp (st 25)), (fb (st 25)), (fs (st 25)), 3, [], .none, .none, .none, .str (S "gitcore.objects") 278, .none, .ref 173, .none, 0⟩, #[]⟩
noncomputable def o175 (P : Params) : Obj := ⟨.type "tuple", .none, .seq #[] 0, #[]⟩
noncomputable def o176 (P : Params) : Obj := ⟨.none, .none, .fields #[], #[]⟩
noncomputable def o177 (P : Params) : Obj := ⟨.type "tuple", .none, .seq #[.str (S "message") 427, .str (S "rows") 428, .str (S "start") 429, .str (S "row") 430] 0, #[]⟩
noncomputable def o178 (P : Params) : Obj := ⟨.type "tuple", .none, .seq #[] 0, #[]⟩
noncomputable def o179 (P : Params) : Obj := ⟨.none, .none, .func ⟨S "object_last_part", S "object_last_part", (fp (st 26)), (fb (st 26)), (fs (st 26)), 0, [], .none, .none, .none, .none, .none, .none, .none, 0⟩, #[]⟩
noncomputable def o180 (P : Params) : Obj := ⟨.type "code", .none, .fields #[.str (S "object_last_part") 424, .str (S "object_last_part") 425, .str (S "/claim/cut.py") 426, .int 119 0, .int 1 0, .int 0 0, .int 0 0, .int 3 0, .ref 175, .bool true, .int 181 0, .ref 176, .none, .ref 177, .ref 178, .ref 179, .int 431 0, .int 119 0, .str (S "/claim/cut.py") 432], #[]⟩
noncomputable def o181 (P : Params) : Obj := ⟨.type "function", .none, .func ⟨S "object_last_part", S "object_last_part", (fp (st 26)), (fb (st 26)), (fs (st 26)), 3, [], .none, .none, .none, .str (S "gitcore.objects") 278, .none, .ref 180, .none, 0⟩, #[]⟩
noncomputable def o182 (P : Params) : Obj := ⟨.type "tuple", .none, .seq #[] 0, #[]⟩
noncomputable def o183 (P : Params) : Obj := ⟨.none, .none, .fields #[], #[]⟩
noncomputable def o184 (P : Params) : Obj := ⟨.type "tuple", .none, .seq #[.str (S "message") 437, .str (S "found") 438, .str (S "others") 439, .str (S "picked") 440, .str (S "made") 441, .str (S "is_open") 442, .str (S "row") 443, .str (S "told") 444, .str (S "key") 445, .str (S "value") 446] 0, #[]⟩
noncomputable def o185 (P : Params) : Obj := ⟨.type "tuple", .none, .seq #[] 0, #[]⟩
noncomputable def o186 (P : Params) : Obj := ⟨.none, .none, .func ⟨S "object_trailers", S "object_trailers", (fp (st 27)), (fb (st 27)), (fs (st 27)), 0, [], .none, .none, .none, .none, .none, .none, .none, 0⟩, #[]⟩
noncomputable def o187 (P : Params) : Obj := ⟨.type "code", .none, .fields #[.str (S "object_trailers") 434, .str (S "object_trailers") 435, .str (S "/claim/cut.py") 436, .int 130 0, .int 1 0, .int 0 0, .int 0 0, .int 3 0, .ref 182, .bool true, .int 181 0, .ref 183, .none, .ref 184, .ref 185, .ref 186, .int 447 0, .int 130 0, .str (S "/claim/cut.py") 448], #[]⟩
noncomputable def o188 (P : Params) : Obj := ⟨.type "function", .none, .func ⟨S "object_trailers", S "object_trailers", (fp (st 27)), (fb (st 27)), (fs (st 27)), 3, [], .none, .none, .none, .str (S "gitcore.objects") 278, .none, .ref 187, .none, 0⟩, #[]⟩
noncomputable def o189 (P : Params) : Obj := ⟨.type "tuple", .none, .seq #[] 0, #[]⟩
noncomputable def o190 (P : Params) : Obj := ⟨.type "builtin_function_or_method", .none, .fields #[.builtin "type.__prepare__", .type "type"], #[]⟩
noncomputable def o191 (P : Params) : Obj := ⟨.type "dict", .none, .dict #[⟨kh P (S "__module__"), .str (S "__module__") 457, .str (S "gitcore.objects") 278⟩, ⟨kh P (S "__qualname__"), .str (S "__qualname__") 459, .str (S "Commit") 458⟩, ⟨kh P (S "__firstlineno__"), .str (S "__firstlineno__") 461, .int 147 460⟩, ⟨kh P (S "__init__"), .str (S "__init__") 474, .ref 202⟩, ⟨kh P (S "octets"), .str (S "octets") 485, .ref 209⟩, ⟨kh P (S "subject"), .str (S "subject") 492, .ref 216⟩, ⟨kh P (S "__static_attributes__"), .str (S "__static_attributes__") 499, .ref 217⟩] 7, #[]⟩
noncomputable def o192 (P : Params) : Obj := ⟨.type "tuple", .none, .seq #[] 0, #[]⟩
noncomputable def o193 (P : Params) : Obj := ⟨.none, .none, .fields #[.int 149 0, .int 4 0, .ref 201, .int 157 0, .int 4 0, .ref 208, .int 168 0, .int 4 0, .ref 215], #[]⟩
noncomputable def o194 (P : Params) : Obj := ⟨.type "code", .none, .fields #[.str (S "Commit") 452, .str (S "Commit") 453, .str (S "/claim/cut.py") 454, .int 147 0, .int 0 0, .int 0 0, .int 0 0, .int 0 0, .ref 192, .bool false, .int 181 0, .ref 193, .none, .none, .none, .none, .int 455 0, .int 147 0, .str (S "/claim/cut.py") 456], #[]⟩
noncomputable def o195 (P : Params) : Obj := ⟨.type "frame", .none, .plain, #[.some (.ref 194), .some (.ref 3), .some (.ref 191), .none, .some (.str (S "gitcore.objects") 278), .none, .some (.ref 0)]⟩
noncomputable def o196 (P : Params) : Obj := ⟨.type "tuple", .none, .seq #[] 0, #[]⟩
noncomputable def o197 (P : Params) : Obj := ⟨.none, .none, .fields #[], #[]⟩
noncomputable def o198 (P : Params) : Obj := ⟨.type "tuple", .none, .seq #[.str (S "self") 465, .str (S "tree") 466, .str (S "parents") 467, .str (S "author") 468, .str (S "committer") 469, .str (S "extra") 470, .str (S "message") 471] 0, #[]⟩
noncomputable def o199 (P : Params) : Obj := ⟨.type "tuple", .none, .seq #[] 0, #[]⟩
noncomputable def o200 (P : Params) : Obj := ⟨.none, .none, .func ⟨S "__init__", S "Commit.__init__", (fp (su 28 0)), (fb (su 28 0)), (fs (su 28 0)), 0, [], .none, .none, .none, .none, .none, .none, .none, 0⟩, #[]⟩
noncomputable def o201 (P : Params) : Obj := ⟨.type "code", .none, .fields #[.str (S "__init__") 462, .str (S "Commit.__init__") 463, .str (S "/claim/cut.py") 464, .int 149 0, .int 7 0, .int 0 0, .int 0 0, .int 3 0, .ref 196, .bool true, .int 181 0, .ref 197, .none, .ref 198, .ref 199, .ref 200, .int 472 0, .int 149 0, .str (S "/claim/cut.py") 473], #[]⟩
noncomputable def o202 (P : Params) : Obj := ⟨.type "function", .none, .func ⟨S "__init__", S "Commit.__init__", (fp (su 28 0)), (fb (su 28 0)), (fs (su 28 0)), 3, [], .none, .none, .none, .str (S "gitcore.objects") 278, .none, .ref 201, .none, 0⟩, #[]⟩
noncomputable def o203 (P : Params) : Obj := ⟨.type "tuple", .none, .seq #[] 0, #[]⟩
noncomputable def o204 (P : Params) : Obj := ⟨.none, .none, .fields #[], #[]⟩
noncomputable def o205 (P : Params) : Obj := ⟨.type "tuple", .none, .seq #[.str (S "self") 478, .str (S "parts") 479, .str (S "oid") 480, .str (S "key") 481, .str (S "value") 482] 0, #[]⟩
noncomputable def o206 (P : Params) : Obj := ⟨.type "tuple", .none, .seq #[] 0, #[]⟩
noncomputable def o207 (P : Params) : Obj := ⟨.none, .none, .func ⟨S "octets", S "Commit.octets", (fp (su 28 1)), (fb (su 28 1)), (fs (su 28 1)), 0, [], .none, .none, .none, .none, .none, .none, .none, 0⟩, #[]⟩
noncomputable def o208 (P : Params) : Obj := ⟨.type "code", .none, .fields #[.str (S "octets") 475, .str (S "Commit.octets") 476, .str (S "/claim/cut.py") 477, .int 157 0, .int 1 0, .int 0 0, .int 0 0, .int 3 0, .ref 203, .bool true, .int 181 0, .ref 204, .none, .ref 205, .ref 206, .ref 207, .int 483 0, .int 157 0, .str (S "/claim/cut.py") 484], #[]⟩
noncomputable def o209 (P : Params) : Obj := ⟨.type "function", .none, .func ⟨S "octets", S "Commit.octets", (fp (su 28 1)), (fb (su 28 1)), (fs (su 28 1)), 3, [], .none, .none, .none, .str (S "gitcore.objects") 278, .none, .ref 208, .none, 0⟩, #[]⟩
noncomputable def o210 (P : Params) : Obj := ⟨.type "tuple", .none, .seq #[] 0, #[]⟩
noncomputable def o211 (P : Params) : Obj := ⟨.none, .none, .fields #[], #[]⟩
noncomputable def o212 (P : Params) : Obj := ⟨.type "tuple", .none, .seq #[.str (S "self") 489] 0, #[]⟩
noncomputable def o213 (P : Params) : Obj := ⟨.type "tuple", .none, .seq #[] 0, #[]⟩
noncomputable def o214 (P : Params) : Obj := ⟨.none, .none, .func ⟨S "subject", S "Commit.subject", (fp (su 28 2)), (fb (su 28 2)), (fs (su 28 2)), 0, [], .none, .none, .none, .none, .none, .none, .none, 0⟩, #[]⟩
noncomputable def o215 (P : Params) : Obj := ⟨.type "code", .none, .fields #[.str (S "subject") 486, .str (S "Commit.subject") 487, .str (S "/claim/cut.py") 488, .int 168 0, .int 1 0, .int 0 0, .int 0 0, .int 3 0, .ref 210, .bool true, .int 181 0, .ref 211, .none, .ref 212, .ref 213, .ref 214, .int 490 0, .int 168 0, .str (S "/claim/cut.py") 491], #[]⟩
noncomputable def o216 (P : Params) : Obj := ⟨.type "function", .none, .func ⟨S "subject", S "Commit.subject", (fp (su 28 2)), (fb (su 28 2)), (fs (su 28 2)), 3, [], .none, .none, .none, .str (S "gitcore.objects") 278, .none, .ref 215, .none, 0⟩, #[]⟩
noncomputable def o217 (P : Params) : Obj := ⟨.type "tuple", .none, .seq #[.str (S "author") 493, .str (S "committer") 494, .str (S "extra") 495, .str (S "message") 496, .str (S "parents") 497, .str (S "tree") 498] 0, #[]⟩
noncomputable def o218 (P : Params) : Obj := ⟨.type "dict", .none, .dict #[⟨kh P (S "__module__"), .str (S "__module__") 457, .str (S "gitcore.objects") 278⟩, ⟨kh P (S "__firstlineno__"), .str (S "__firstlineno__") 461, .int 147 460⟩, ⟨kh P (S "__init__"), .str (S "__init__") 474, .ref 202⟩, ⟨kh P (S "octets"), .str (S "octets") 485, .ref 209⟩, ⟨kh P (S "subject"), .str (S "subject") 492, .ref 216⟩, ⟨kh P (S "__static_attributes__"), .str (S "__static_attributes__") 499, .ref 217⟩, ⟨kh P (S "__dict__"), .str (S "__dict__") 501, .ref 220⟩, ⟨kh P (S "__weakref__"), .str (S "__weakref__") 503, .ref 221⟩, ⟨kh P (S "__doc__"), .str (S "__doc__") 504, .none⟩] 4, #[]⟩
noncomputable def o219 (P : Params) : Obj := ⟨.type "type", .none, .cls ⟨S "Commit", [.type "object"], [.ref 219, .type "object"], 218, S "Commit", true, [], [], false, .none, false⟩, #[.none, .none, .some (.str (S "Commit") 450), .some (.str (S "Commit") 458), .some (.builtin "object.__new__"), .some (.bool true)]⟩
noncomputable def o220 (P : Params) : Obj := ⟨.type "getset_descriptor", .none, .fields #[.str (S "__dict__") 500, .ref 219, .builtin "function.__dict__", .builtin "function.__dict__#set"], #[]⟩
noncomputable def o221 (P : Params) : Obj := ⟨.type "getset_descriptor", .none, .fields #[.str (S "__weakref__") 502, .ref 219, .builtin "ExceptionGroup.__weakref__", .none], #[]⟩
noncomputable def o222 (P : Params) : Obj := ⟨.type "super", .none, .fields #[.ref 219, .ref 219, .ref 219], #[]⟩
noncomputable def o223 (P : Params) : Obj := ⟨.type "builtin_function_or_method", .none, .fields #[.builtin "object.__init_subclass__", .ref 219], #[]⟩
noncomputable def o224 (P : Params) : Obj := ⟨.type "tuple", .none, .seq #[] 0, #[]⟩
noncomputable def o225 (P : Params) : Obj := ⟨.none, .none, .fields #[], #[]⟩
noncomputable def o226 (P : Params) : Obj := ⟨.none, .none, .func ⟨S "_law_deck", S "_law_deck", (fp (st 30)), (fb (st 30)), (fs (st 30)), 0, [], .none, .none, .none, .none, .none, .none, .none, 0⟩, #[]⟩
noncomputable def o227 (P : Params) : Obj := ⟨.type "code", .none, .fields #[.str (S "_law_deck") 509, .str (S "_law_deck") 510, .str (S "/claim/cut.py") 511, .int 171 0, .int 1 0, .int 0 0, .int 0 0, .int 3 0, .ref 224, .bool true, .int 181 0, .ref 225, .none, .none, .none, .ref 226, .int 512 0, .int 171 0, .str (S "/claim/cut.py") 513], #[]⟩
noncomputable def o228 (P : Params) : Obj := ⟨.type "function", .none, .func ⟨S "_law_deck", S "_law_deck", (fp (st 30)), (fb (st 30)), (fs (st 30)), 3, [], .none, .none, .none, .str (S "law_nt0276_01") 507, .none, .ref 227, .none, 0⟩, #[]⟩
noncomputable def o229 (P : Params) : Obj := ⟨.type "tuple", .none, .seq #[] 0, #[]⟩
noncomputable def o230 (P : Params) : Obj := ⟨.none, .none, .fields #[], #[]⟩
noncomputable def o231 (P : Params) : Obj := ⟨.type "tuple", .none, .seq #[.str (S "deck") 518, .str (S "below") 519, .str (S "figure") 520, .str (S "cell") 521] 0, #[]⟩
noncomputable def o232 (P : Params) : Obj := ⟨.type "tuple", .none, .seq #[] 0, #[]⟩
noncomputable def o233 (P : Params) : Obj := ⟨.none, .none, .func ⟨S "_law_draw", S "_law_draw", (fp (st 31)), (fb (st 31)), (fs (st 31)), 0, [], .none, .none, .none, .none, .none, .none, .none, 0⟩, #[]⟩
noncomputable def o234 (P : Params) : Obj := ⟨.type "code", .none, .fields #[.str (S "_law_draw") 515, .str (S "_law_draw") 516, .str (S "/claim/cut.py") 517, .int 176 0, .int 2 0, .int 0 0, .int 0 0, .int 3 0, .ref 229, .bool true, .int 181 0, .ref 230, .none, .ref 231, .ref 232, .ref 233, .int 522 0, .int 176 0, .str (S "/claim/cut.py") 523], #[]⟩
noncomputable def o235 (P : Params) : Obj := ⟨.type "function", .none, .func ⟨S "_law_draw", S "_law_draw", (fp (st 31)), (fb (st 31)), (fs (st 31)), 3, [], .none, .none, .none, .str (S "law_nt0276_01") 507, .none, .ref 234, .none, 0⟩, #[]⟩
noncomputable def o236 (P : Params) : Obj := ⟨.type "tuple", .none, .seq #[] 0, #[]⟩
noncomputable def o237 (P : Params) : Obj := ⟨.none, .none, .fields #[], #[]⟩
noncomputable def o238 (P : Params) : Obj := ⟨.type "tuple", .none, .seq #[.str (S "deck") 528, .str (S "some") 529] 0, #[]⟩
noncomputable def o239 (P : Params) : Obj := ⟨.type "tuple", .none, .seq #[] 0, #[]⟩
noncomputable def o240 (P : Params) : Obj := ⟨.none, .none, .func ⟨S "_law_pick", S "_law_pick", (fp (st 32)), (fb (st 32)), (fs (st 32)), 0, [], .none, .none, .none, .none, .none, .none, .none, 0⟩, #[]⟩
noncomputable def o241 (P : Params) : Obj := ⟨.type "code", .none, .fields #[.str (S "_law_pick") 525, .str (S "_law_pick") 526, .str (S "/claim/cut.py") 527, .int 188 0, .int 2 0, .int 0 0, .int 0 0, .int 3 0, .ref 236, .bool true, .int 181 0, .ref 237, .none, .ref 238, .ref 239, .ref 240, .int 530 0, .int 188 0, .str (S "/claim/cut.py") 531], #[]⟩
noncomputable def o242 (P : Params) : Obj := ⟨.type "function", .none, .func ⟨S "_law_pick", S "_law_pick", (fp (st 32)), (fb (st 32)), (fs (st 32)), 3, [], .none, .none, .none, .str (S "law_nt0276_01") 507, .none, .ref 241, .none, 0⟩, #[]⟩
noncomputable def o243 (P : Params) : Obj := ⟨.type "tuple", .none, .seq #[] 0, #[]⟩
noncomputable def o244 (P : Params) : Obj := ⟨.none, .none, .fields #[], #[]⟩
noncomputable def o245 (P : Params) : Obj := ⟨.type "tuple", .none, .seq #[.str (S "octets") 536, .str (S "found") 537, .str (S "sign") 538] 0, #[]⟩
noncomputable def o246 (P : Params) : Obj := ⟨.type "tuple", .none, .seq #[] 0, #[]⟩
noncomputable def o247 (P : Params) : Obj := ⟨.none, .none, .func ⟨S "_law_number", S "_law_number", (fp (st 33)), (fb (st 33)), (fs (st 33)), 0, [], .none, .none, .none, .none, .none, .none, .none, 0⟩, #[]⟩
noncomputable def o248 (P : Params) : Obj := ⟨.type "code", .none, .fields #[.str (S "_law_number") 533, .str (S "_law_number") 534, .str (S "/claim/cut.py") 535, .int 190 0, .int 1 0, .int 0 0, .int 0 0, .int 3 0, .ref 243, .bool true, .int 181 0, .ref 244, .none, .ref 245, .ref 246, .ref 247, .int 539 0, .int 190 0, .str (S "/claim/cut.py") 540], #[]⟩
noncomputable def o249 (P : Params) : Obj := ⟨.type "function", .none, .func ⟨S "_law_number", S "_law_number", (fp (st 33)), (fb (st 33)), (fs (st 33)), 3, [], .none, .none, .none, .str (S "law_nt0276_01") 507, .none, .ref 248, .none, 0⟩, #[]⟩
noncomputable def o250 (P : Params) : Obj := ⟨.type "tuple", .none, .seq #[] 0, #[]⟩
noncomputable def o251 (P : Params) : Obj := ⟨.none, .none, .fields #[], #[]⟩
noncomputable def o252 (P : Params) : Obj := ⟨.none, .none, .func ⟨S "_law_parts", S "_law_parts", (fp (st 34)), (fb (st 34)), (fs (st 34)), 0, [], .none, .none, .none, .none, .none, .none, .none, 0⟩, #[]⟩
noncomputable def o253 (P : Params) : Obj := ⟨.type "code", .none, .fields #[.str (S "_law_parts") 542, .str (S "_law_parts") 543, .str (S "/claim/cut.py") 544, .int 197 0, .int 1 0, .int 0 0, .int 0 0, .int 3 0, .ref 250, .bool true, .int 181 0, .ref 251, .none, .none, .none, .ref 252, .int 545 0, .int 197 0, .str (S "/claim/cut.py") 546], #[]⟩
noncomputable def o254 (P : Params) : Obj := ⟨.type "function", .none, .func ⟨S "_law_parts", S "_law_parts", (fp (st 34)), (fb (st 34)), (fs (st 34)), 3, [], .none, .none, .none, .str (S "law_nt0276_01") 507, .none, .ref 253, .none, 0⟩, #[]⟩
noncomputable def o255 (P : Params) : Obj := ⟨.type "tuple", .none, .seq #[] 0, #[]⟩
noncomputable def o256 (P : Params) : Obj := ⟨.none, .none, .fields #[], #[]⟩
noncomputable def o257 (P : Params) : Obj := ⟨.type "tuple", .none, .seq #[.str (S "octets") 551, .str (S "found") 552] 0, #[]⟩
noncomputable def o258 (P : Params) : Obj := ⟨.type "tuple", .none, .seq #[] 0, #[]⟩
noncomputable def o259 (P : Params) : Obj := ⟨.none, .none, .func ⟨S "_law_heard", S "_law_heard", (fp (st 35)), (fb (st 35)), (fs (st 35)), 0, [], .none, .none, .none, .none, .none, .none, .none, 0⟩, #[]⟩
noncomputable def o260 (P : Params) : Obj := ⟨.type "code", .none, .fields #[.str (S "_law_heard") 548, .str (S "_law_heard") 549, .str (S "/claim/cut.py") 550, .int 209 0, .int 1 0, .int 0 0, .int 0 0, .int 3 0, .ref 255, .bool true, .int 181 0, .ref 256, .none, .ref 257, .ref 258, .ref 259, .int 553 0, .int 209 0, .str (S "/claim/cut.py") 554], #[]⟩
noncomputable def o261 (P : Params) : Obj := ⟨.type "function", .none, .func ⟨S "_law_heard", S "_law_heard", (fp (st 35)), (fb (st 35)), (fs (st 35)), 3, [], .none, .none, .none, .str (S "law_nt0276_01") 507, .none, .ref 260, .none, 0⟩, #[]⟩
noncomputable def o262 (P : Params) : Obj := ⟨.type "tuple", .none, .seq #[] 0, #[]⟩
noncomputable def o263 (P : Params) : Obj := ⟨.none, .none, .fields #[], #[]⟩
noncomputable def o264 (P : Params) : Obj := ⟨.none, .none, .func ⟨S "_law_person_right", S "_law_person_right", (fp (st 36)), (fb (st 36)), (fs (st 36)), 0, [], .none, .none, .none, .none, .none, .none, .none, 0⟩, #[]⟩
noncomputable def o265 (P : Params) : Obj := ⟨.type "code", .none, .fields #[.str (S "_law_person_right") 556, .str (S "_law_person_right") 557, .str (S "/claim/cut.py") 558, .int 216 0, .int 1 0, .int 0 0, .int 0 0, .int 3 0, .ref 262, .bool true, .int 181 0, .ref 263, .none, .none, .none, .ref 264, .int 559 0, .int 216 0, .str (S "/claim/cut.py") 560], #[]⟩
noncomputable def o266 (P : Params) : Obj := ⟨.type "function", .none, .func ⟨S "_law_person_right", S "_law_person_right", (fp (st 36)), (fb (st 36)), (fs (st 36)), 3, [], .none, .none, .none, .str (S "law_nt0276_01") 507, .none, .ref 265, .none, 0⟩, #[]⟩
noncomputable def o267 (P : Params) : Obj := ⟨.type "tuple", .none, .seq #[] 0, #[]⟩
noncomputable def o268 (P : Params) : Obj := ⟨.none, .none, .fields #[], #[]⟩
noncomputable def o269 (P : Params) : Obj := ⟨.none, .none, .func ⟨S "_law_people_right", S "_law_people_right", (fp (st 37)), (fb (st 37)), (fs (st 37)), 0, [], .none, .none, .none, .none, .none, .none, .none, 0⟩, #[]⟩
noncomputable def o270 (P : Params) : Obj := ⟨.type "code", .none, .fields #[.str (S "_law_people_right") 562, .str (S "_law_people_right") 563, .str (S "/claim/cut.py") 564, .int 227 0, .int 1 0, .int 0 0, .int 0 0, .int 3 0, .ref 267, .bool true, .int 181 0, .ref 268, .none, .none, .none, .ref 269, .int 565 0, .int 227 0, .str (S "/claim/cut.py") 566], #[]⟩
noncomputable def o271 (P : Params) : Obj := ⟨.type "function", .none, .func ⟨S "_law_people_right", S "_law_people_right", (fp (st 37)), (fb (st 37)), (fs (st 37)), 3, [], .none, .none, .none, .str (S "law_nt0276_01") 507, .none, .ref 270, .none, 0⟩, #[]⟩
noncomputable def o272 (P : Params) : Obj := ⟨.type "tuple", .none, .seq #[] 0, #[]⟩
noncomputable def o273 (P : Params) : Obj := ⟨.none, .none, .fields #[], #[]⟩
noncomputable def o274 (P : Params) : Obj := ⟨.type "tuple", .none, .seq #[.str (S "message") 571, .str (S "found") 572, .str (S "row") 573, .str (S "bare") 574] 0, #[]⟩
noncomputable def o275 (P : Params) : Obj := ⟨.type "tuple", .none, .seq #[] 0, #[]⟩
noncomputable def o276 (P : Params) : Obj := ⟨.none, .none, .func ⟨S "_law_subject", S "_law_subject", (fp (st 38)), (fb (st 38)), (fs (st 38)), 0, [], .none, .none, .none, .none, .none, .none, .none, 0⟩, #[]⟩
noncomputable def o277 (P : Params) : Obj := ⟨.type "code", .none, .fields #[.str (S "_law_subject") 568, .str (S "_law_subject") 569, .str (S "/claim/cut.py") 570, .int 242 0, .int 1 0, .int 0 0, .int 0 0, .int 3 0, .ref 272, .bool true, .int 181 0, .ref 273, .none, .ref 274, .ref 275, .ref 276, .int 575 0, .int 242 0, .str (S "/claim/cut.py") 576], #[]⟩
noncomputable def o278 (P : Params) : Obj := ⟨.type "function", .none, .func ⟨S "_law_subject", S "_law_subject", (fp (st 38)), (fb (st 38)), (fs (st 38)), 3, [], .none, .none, .none, .str (S "law_nt0276_01") 507, .none, .ref 277, .none, 0⟩, #[]⟩
noncomputable def o279 (P : Params) : Obj := ⟨.type "tuple", .none, .seq #[] 0, #[]⟩
noncomputable def o280 (P : Params) : Obj := ⟨.none, .none, .fields #[], #[]⟩
noncomputable def o281 (P : Params) : Obj := ⟨.type "tuple", .none, .seq #[.str (S "octets") 581] 0, #[]⟩
noncomputable def o282 (P : Params) : Obj := ⟨.type "tuple", .none, .seq #[] 0, #[]⟩
noncomputable def o283 (P : Params) : Obj := ⟨.none, .none, .func ⟨S "_law_stripped", S "_law_stripped", (fp (st 39)), (fb (st 39)), (fs (st 39)), 0, [], .none, .none, .none, .none, .none, .none, .none, 0⟩, #[]⟩
noncomputable def o284 (P : Params) : Obj := ⟨.type "code", .none, .fields #[.str (S "_law_stripped") 578, .str (S "_law_stripped") 579, .str (S "/claim/cut.py") 580, .int 254 0, .int 1 0, .int 0 0, .int 0 0, .int 3 0, .ref 279, .bool true, .int 181 0, .ref 280, .none, .ref 281, .ref 282, .ref 283, .int 582 0, .int 254 0, .str (S "/claim/cut.py") 583], #[]⟩
noncomputable def o285 (P : Params) : Obj := ⟨.type "function", .none, .func ⟨S "_law_stripped", S "_law_stripped", (fp (st 39)), (fb (st 39)), (fs (st 39)), 3, [], .none, .none, .none, .str (S "law_nt0276_01") 507, .none, .ref 284, .none, 0⟩, #[]⟩
noncomputable def o286 (P : Params) : Obj := ⟨.type "tuple", .none, .seq #[] 0, #[]⟩
noncomputable def o287 (P : Params) : Obj := ⟨.none, .none, .fields #[], #[]⟩
noncomputable def o288 (P : Params) : Obj := ⟨.none, .none, .func ⟨S "_law_pair", S "_law_pair", (fp (st 40)), (fb (st 40)), (fs (st 40)), 0, [], .none, .none, .none, .none, .none, .none, .none, 0⟩, #[]⟩
noncomputable def o289 (P : Params) : Obj := ⟨.type "code", .none, .fields #[.str (S "_law_pair") 585, .str (S "_law_pair") 586, .str (S "/claim/cut.py") 587, .int 260 0, .int 1 0, .int 0 0, .int 0 0, .int 3 0, .ref 286, .bool true, .int 181 0, .ref 287, .none, .none, .none, .ref 288, .int 588 0, .int 260 0, .str (S "/claim/cut.py") 589], #[]⟩
noncomputable def o290 (P : Params) : Obj := ⟨.type "function", .none, .func ⟨S "_law_pair", S "_law_pair", (fp (st 40)), (fb (st 40)), (fs (st 40)), 3, [], .none, .none, .none, .str (S "law_nt0276_01") 507, .none, .ref 289, .none, 0⟩, #[]⟩
noncomputable def o291 (P : Params) : Obj := ⟨.type "tuple", .none, .seq #[] 0, #[]⟩
noncomputable def o292 (P : Params) : Obj := ⟨.none, .none, .fields #[], #[]⟩
noncomputable def o293 (P : Params) : Obj := ⟨.none, .none, .func ⟨S "_law_trailers", S "_law_trailers", (fp (st 41)), (fb (st 41)), (fs (st 41)), 0, [], .none, .none, .none, .none, .none, .none, .none, 0⟩, #[]⟩
noncomputable def o294 (P : Params) : Obj := ⟨.type "code", .none, .fields #[.str (S "_law_trailers") 591, .str (S "_law_trailers") 592, .str (S "/claim/cut.py") 593, .int 267 0, .int 1 0, .int 0 0, .int 0 0, .int 3 0, .ref 291, .bool true, .int 181 0, .ref 292, .none, .none, .none, .ref 293, .int 594 0, .int 267 0, .str (S "/claim/cut.py") 595], #[]⟩
noncomputable def o295 (P : Params) : Obj := ⟨.type "function", .none, .func ⟨S "_law_trailers", S "_law_trailers", (fp (st 41)), (fb (st 41)), (fs (st 41)), 3, [], .none, .none, .none, .str (S "law_nt0276_01") 507, .none, .ref 294, .none, 0⟩, #[]⟩
noncomputable def o296 (P : Params) : Obj := ⟨.type "tuple", .none, .seq #[] 0, #[]⟩
noncomputable def o297 (P : Params) : Obj := ⟨.none, .none, .fields #[], #[]⟩
noncomputable def o298 (P : Params) : Obj := ⟨.none, .none, .func ⟨S "_law_message_right", S "_law_message_right", (fp (st 42)), (fb (st 42)), (fs (st 42)), 0, [], .none, .none, .none, .none, .none, .none, .none, 0⟩, #[]⟩
noncomputable def o299 (P : Params) : Obj := ⟨.type "code", .none, .fields #[.str (S "_law_message_right") 597, .str (S "_law_message_right") 598, .str (S "/claim/cut.py") 599, .int 289 0, .int 1 0, .int 0 0, .int 0 0, .int 3 0, .ref 296, .bool true, .int 181 0, .ref 297, .none, .none, .none, .ref 298, .int 600 0, .int 289 0, .str (S "/claim/cut.py") 601], #[]⟩
noncomputable def o300 (P : Params) : Obj := ⟨.type "function", .none, .func ⟨S "_law_message_right", S "_law_message_right", (fp (st 42)), (fb (st 42)), (fs (st 42)), 3, [], .none, .none, .none, .str (S "law_nt0276_01") 507, .none, .ref 299, .none, 0⟩, #[]⟩
noncomputable def o301 (P : Params) : Obj := ⟨.type "tuple", .none, .seq #[] 0, #[]⟩
noncomputable def o302 (P : Params) : Obj := ⟨.none, .none, .fields #[], #[]⟩
noncomputable def o303 (P : Params) : Obj := ⟨.type "tuple", .none, .seq #[.str (S "deck") 606, .str (S "prose") 607, .str (S "keys") 608, .str (S "turn") 609, .str (S "rows") 610, .str (S "go") 611, .str (S "by_hand") 612] 0, #[]⟩
noncomputable def o304 (P : Params) : Obj := ⟨.type "tuple", .none, .seq #[] 0, #[]⟩
noncomputable def o305 (P : Params) : Obj := ⟨.none, .none, .func ⟨S "_law_messages_right", S "_law_messages_right", (fp (st 43)), (fb (st 43)), (fs (st 43)), 0, [], .none, .none, .none, .none, .none, .none, .none, 0⟩, #[]⟩
noncomputable def o306 (P : Params) : Obj := ⟨.type "code", .none, .fields #[.str (S "_law_messages_right") 603, .str (S "_law_messages_right") 604, .str (S "/claim/cut.py") 605, .int 294 0, .int 1 0, .int 0 0, .int 0 0, .int 3 0, .ref 301, .bool true, .int 181 0, .ref 302, .none, .ref 303, .ref 304, .ref 305, .int 613 0, .int 294 0, .str (S "/claim/cut.py") 614], #[]⟩
noncomputable def o307 (P : Params) : Obj := ⟨.type "function", .none, .func ⟨S "_law_messages_right", S "_law_messages_right", (fp (st 43)), (fb (st 43)), (fs (st 43)), 3, [], .none, .none, .none, .str (S "law_nt0276_01") 507, .none, .ref 306, .none, 0⟩, #[]⟩
noncomputable def o308 (P : Params) : Obj := ⟨.type "tuple", .none, .seq #[] 0, #[]⟩
noncomputable def o309 (P : Params) : Obj := ⟨.none, .none, .fields #[], #[]⟩
noncomputable def o310 (P : Params) : Obj := ⟨.type "tuple", .none, .seq #[.str (S "script") 619, .str (S "deck") 620] 0, #[]⟩
noncomputable def o311 (P : Params) : Obj := ⟨.type "tuple", .none, .seq #[] 0, #[]⟩
noncomputable def o312 (P : Params) : Obj := ⟨.none, .none, .func ⟨S "law", S "law", (fp (st 44)), (fb (st 44)), (fs (st 44)), 0, [], .none, .none, .none, .none, .none, .none, .none, 0⟩, #[]⟩
noncomputable def o313 (P : Params) : Obj := ⟨.type "code", .none, .fields #[.str (S "law") 616, .str (S "law") 617, .str (S "/claim/cut.py") 618, .int 311 0, .int 1 0, .int 0 0, .int 0 0, .int 3 0, .ref 308, .bool true, .int 181 0, .ref 309, .none, .ref 310, .ref 311, .ref 312, .int 621 0, .int 311 0, .str (S "/claim/cut.py") 622], #[]⟩
noncomputable def o314 (P : Params) : Obj := ⟨.type "function", .none, .func ⟨S "law", S "law", (fp (st 44)), (fb (st 44)), (fs (st 44)), 3, [], .none, .none, .none, .str (S "law_nt0276_01") 507, .none, .ref 313, .none, 0⟩, #[]⟩
noncomputable def hp (P : Params) : Heap := ⟨#[PySem.W.boot_o_0 P, PySem.W.boot_o_1 P, o2 P, o3 P, PySem.W.boot_o_4 P, PySem.W.boot_o_5 P, PySem.W.boot_o_6 P, PySem.W.boot_o_7 P, PySem.W.boot_o_8 P, PySem.W.boot_o_9 P, PySem.W.boot_o_10 P, o11 P, o12 P, o13 P, o14 P, o15 P, o16 P, o17 P, o18 P, o19 P, o20 P, o21 P, o22 P, o23 P, o24 P, o25 P, o26 P, o27 P, o28 P, o29 P, o30 P, o31 P, o32 P, o33 P, o34 P, o35 P, o36 P, o37 P, o38 P, o39 P, o40 P, o41 P, o42 P, o43 P, o44 P, o45 P, o46 P, o47 P, o48 P, o49 P, o50 P, o51 P, o52 P, o53 P, o54 P, o55 P, o56 P, o57 P, o58 P, o59 P, o60 P, o61 P, o62 P, o63 P, o64 P, o65 P, o66 P, o67 P, o68 P, o69 P, o70 P, o71 P, o72 P, o73 P, o74 P, o75 P, o76 P, o77 P, o78 P, o79 P, o80 P, o81 P, o82 P, o83 P, o84 P, o85 P, o86 P, o87 P, o88 P, o89 P, o90 P, o91 P, o92 P, o93 P, o94 P, o95 P, o96 P, o97 P, o98 P, o99 P, o100 P, o101 P, o102 P, o103 P, o104 P, o105 P, o106 P, o107 P, o108 P, o109 P, o110 P, o111 P, o112 P, o113 P, o114 P, o115 P, o116 P, o117 P, o118 P, o119 P, o120 P, o121 P, o122 P, o123 P, o124 P, o125 P, o126 P, o127 P, o128 P, o129 P, o130 P, o131 P, o132 P, o133 P, o134 P, o135 P, o136 P, o137 P, o138 P, o139 P, o140 P, o141 P, o142 P, o143 P, o144 P, o145 P, o146 P, o147 P, o148 P, o149 P, o150 P, o151 P, o152 P, o153 P, o154 P, o155 P, o156 P, o157 P, o158 P, o159 P, o160 P, o161 P, o162 P, o163 P, o164 P, o165 P, o166 P, o167 P, o168 P, o169 P, o170 P, o171 P, o172 P, o173 P, o174 P, o175 P, o176 P, o177 P, o178 P, o179 P, o180 P, o181 P, o182 P, o183 P, o184 P, o185 P, o186 P, o187 P, o188 P, o189 P, o190 P, o191 P, o192 P, o193 P, o194 P, o195 P, o196 P, o197 P, o198 P, o199 P, o200 P, o201 P, o202 P, o203 P, o204 P, o205 P, o206 P, o207 P, o208 P, o209 P, o210 P, o211 P, o212 P, o213 P, o214 P, o215 P, o216 P, o217 P, o218 P, o219 P, o220 P, o221 P, o222 P, o223 P, o224 P, o225 P, o226 P, o227 P, o228 P, o229 P, o230 P, o231 P, o232 P, o233 P, o234 P, o235 P, o236 P, o237 P, o238 P, o239 P, o240 P, o241 P, o242 P, o243 P, o244 P, o245 P, o246 P, o247 P, o248 P, o249 P, o250 P, o251 P, o252 P, o253 P, o254 P, o255 P, o256 P, o257 P, o258 P, o259 P, o260 P, o261 P, o262 P, o263 P, o264 P, o265 P, o266 P, o267 P, o268 P, o269 P, o270 P, o271 P, o272 P, o273 P, o274 P, o275 P, o276 P, o277 P, o278 P, o279 P, o280 P, o281 P, o282 P, o283 P, o284 P, o285 P, o286 P, o287 P, o288 P, o289 P, o290 P, o291 P, o292 P, o293 P, o294 P, o295 P, o296 P, o297 P, o298 P, o299 P, o300 P, o301 P, o302 P, o303 P, o304 P, o305 P, o306 P, o307 P, o308 P, o309 P, o310 P, o311 P, o312 P, o313 P, o314 P], ⟨[], [], [], 0, [], [], false, #[], [], 0, false, false, false, 0, [2000, 10, 10], false, 0, true, [], [], 0, false⟩⟩
noncomputable def KK (P : Params) : Frag := [(2, o2 P), (3, o3 P), (15, o15 P), (22, o22 P), (23, o23 P), (25, o25 P), (26, o26 P), (28, o28 P), (29, o29 P), (30, o30 P), (31, o31 P), (32, o32 P), (33, o33 P), (36, o36 P), (43, o43 P), (44, o44 P), (45, o45 P), (48, o48 P), (51, o51 P), (52, o52 P), (53, o53 P), (56, o56 P), (57, o57 P), (58, o58 P), (60, o60 P), (61, o61 P), (63, o63 P), (64, o64 P), (65, o65 P), (67, o67 P), (68, o68 P), (70, o70 P), (71, o71 P), (72, o72 P), (74, o74 P), (75, o75 P), (77, o77 P), (78, o78 P), (79, o79 P), (81, o81 P), (82, o82 P), (84, o84 P), (85, o85 P), (86, o86 P), (88, o88 P), (89, o89 P), (91, o91 P), (92, o92 P), (93, o93 P), (95, o95 P), (96, o96 P), (98, o98 P), (99, o99 P), (100, o100 P), (102, o102 P), (103, o103 P), (105, o105 P), (106, o106 P), (114, o114 P), (116, o116 P), (117, o117 P), (119, o119 P), (120, o120 P), (121, o121 P), (123, o123 P), (124, o124 P), (126, o126 P), (127, o127 P), (128, o128 P), (129, o129 P), (130, o130 P), (131, o131 P), (132, o132 P), (135, o135 P), (137, o137 P), (138, o138 P), (140, o140 P), (141, o141 P), (142, o142 P), (144, o144 P), (145, o145 P), (147, o147 P), (148, o148 P), (149, o149 P), (151, o151 P), (152, o152 P), (154, o154 P), (155, o155 P), (156, o156 P), (159, o159 P), (160, o160 P), (161, o161 P), (163, o163 P), (164, o164 P), (166, o166 P), (167, o167 P), (168, o168 P), (170, o170 P), (171, o171 P), (173, o173 P), (174, o174 P), (175, o175 P), (177, o177 P), (178, o178 P), (180, o180 P), (181, o181 P), (182, o182 P), (184, o184 P), (185, o185 P), (187, o187 P), (188, o188 P), (196, o196 P), (198, o198 P), (199, o199 P), (201, o201 P), (202, o202 P), (203, o203 P), (205, o205 P), (206, o206 P), (208, o208 P), (209, o209 P), (210, o210 P), (212, o212 P), (213, o213 P), (215, o215 P), (216, o216 P), (217, o217 P), (218, o218 P), (219, o219 P), (220, o220 P), (221, o221 P), (224, o224 P), (227, o227 P), (228, o228 P), (229, o229 P), (231, o231 P), (232, o232 P), (234, o234 P), (235, o235 P), (236, o236 P), (238, o238 P), (239, o239 P), (241, o241 P), (242, o242 P), (243, o243 P), (245, o245 P), (246, o246 P), (248, o248 P), (249, o249 P), (250, o250 P), (253, o253 P), (254, o254 P), (255, o255 P), (257, o257 P), (258, o258 P), (260, o260 P), (261, o261 P), (262, o262 P), (265, o265 P), (266, o266 P), (267, o267 P), (270, o270 P), (271, o271 P), (272, o272 P), (274, o274 P), (275, o275 P), (277, o277 P), (278, o278 P), (279, o279 P), (281, o281 P), (282, o282 P), (284, o284 P), (285, o285 P), (286, o286 P), (289, o289 P), (290, o290 P), (291, o291 P), (294, o294 P), (295, o295 P), (296, o296 P), (299, o299 P), (300, o300 P), (301, o301 P), (303, o303 P), (304, o304 P), (306, o306 P), (307, o307 P), (308, o308 P), (310, o310 P), (311, o311 P), (313, o313 P), (314, o314 P)]
noncomputable def KA : List Addr := [2, 3, 15, 22, 23, 25, 26, 28, 29, 30, 31, 32, 33, 36, 43, 44, 45, 48, 51, 52, 53, 56, 57, 58, 60, 61, 63, 64, 65, 67, 68, 70, 71, 72, 74, 75, 77, 78, 79, 81, 82, 84, 85, 86, 88, 89, 91, 92, 93, 95, 96, 98, 99, 100, 102, 103, 105, 106, 114, 116, 117, 119, 120, 121, 123, 124, 126, 127, 128, 129, 130, 131, 132, 135, 137, 138, 140, 141, 142, 144, 145, 147, 148, 149, 151, 152, 154, 155, 156, 159, 160, 161, 163, 164, 166, 167, 168, 170, 171, 173, 174, 175, 177, 178, 180, 181, 182, 184, 185, 187, 188, 196, 198, 199, 201, 202, 203, 205, 206, 208, 209, 210, 212, 213, 215, 216, 217, 218, 219, 220, 221, 224, 227, 228, 229, 231, 232, 234, 235, 236, 238, 239, 241, 242, 243, 245, 246, 248, 249, 250, 253, 254, 255, 257, 258, 260, 261, 262, 265, 266, 267, 270, 271, 272, 274, 275, 277, 278, 279, 281, 282, 284, 285, 286, 289, 290, 291, 294, 295, 296, 299, 300, 301, 303, 304, 306, 307, 308, 310, 311, 313, 314]
noncomputable def LS0 : List Str := [S "HEX_SIGNS", S "NOUGHT_SIGN", S "GitError", S "BadObject", S "text_of", S "octets_of", S "hex_of", S "number_by", S "number_of", S "OBJECT_DIGITS", S "OBJECT_BLANKS", S "OBJECT_SIGNED_OFF", S "OBJECT_PICKED", S "object_has_sign", S "object_are_all", S "object_trimmed", S "object_cut_end", S "Person", S "read_person", S "person_minutes", S "object_head_row", S "object_rows", S "object_subject", S "object_trailer_of", S "object_last_part", S "object_trailers", S "Commit", S "_law_deck", S "_law_draw", S "_law_pick", S "_law_number", S "_law_parts", S "_law_heard", S "_law_person_right", S "_law_people_right", S "_law_subject", S "_law_stripped", S "_law_pair", S "_law_trailers", S "_law_message_right", S "_law_messages_right"]
noncomputable abbrev QV : Program := view PySem.Challenge.rw_nt0276_01.row.toRowW.prog [44]
theorem KA_eq (P : Params) : KA = (KK P).map (·.1) := by kernel_rfl
noncomputable abbrev HK : Hook := kHook KK KA KA_eq
noncomputable abbrev RWp := PySem.Challenge.rw_nt0276_01.row
noncomputable abbrev XtM (s : Shared) : Bool := xlAt QV [] s && recOk (RowW.records RWp.toRowW) s
noncomputable abbrev LeftM : Prop := LeftO (RWp.toRowW.prog) QV LS0 XtM (Hook.obs HK) (Hook.val HK) 4204
end Mine

namespace Mine
theorem left_open : ∀ w : World, (fencedOpening treeTable RWp.toRowW.prog w 4204).map (fun s => (s.heap, s.gens, s.drawn, s.toks)) = some (boot_heap w.params, Array.mk [], boot_drawn, boot_toks) :=
  boot_open (by kernel_rfl) (by rfl) (by intro s; kernel_rfl)
theorem left_size : ∀ w : World, ((boot_heap w.params).isNs mainGlobals && (#[] : Array GenState).size == 0, (boot_heap w.params).objs.size, (boot_heap w.params).nsMap mainGlobals "__annotations__") = (true, 11, some (.ref 6)) := by intro w; kernel_rfl
theorem left_run : ∀ (w : World) (os : OsState), topRun treeTable RWp.toRowW.prog w 11 (some (.ref 6)) 2060 ⟨boot_heap w.params, #[], boot_drawn, boot_toks, os⟩ (topStub RWp.toRowW.prog) = some ⟨hp w.params, #[], {}, 624, os⟩ := by intro w os; kernel_rfl
end Mine

namespace Mine
theorem left_looks (w : World) (os : OsState) : (staticsOk (importedModules RWp.toRowW.prog.main.body) (boot_heap w.params) (hp w.params) && namesBound RWp.toRowW.prog (hp w.params) && gensDone ⟨hp w.params, #[], {}, 624, os⟩ && laidKept (boot_heap w.params) (hp w.params)) = true := by kernel_rfl
theorem left_hook (w : World) (os : OsState) : HK.obs ⟨hp w.params, #[], {}, 624, os⟩ = HK.val w := by kernel_rfl
theorem left_seen (w : World) (os : OsState) : openSeen QV LS0 (importedModules RWp.toRowW.prog.main.body) XtM true ⟨hp w.params, #[], {}, 624, os⟩ = openGood QV LS0 := by kernel_rfl
theorem left : LeftM := LeftO.of_pieces left_open left_size left_run (by decide) fun w => funext fun os => by rw [left_looks, left_hook, left_seen]
end Mine

namespace Mine
noncomputable section
noncomputable def lawD : DefRec := match defOf QV (S "law") with
  | some x => x.1
  | none => ⟨S "law", fp (st 44), [], fs (st 44), ⟨0, 0, 0, 0⟩⟩
theorem t0 : Challenge.rw_nt0276_01.wellSaid = true := by kernel_rfl
theorem t1 : defOf QV Challenge.rw_nt0276_01.row.name = some (lawD, []) := by kernel_rfl
theorem t2 : Challenge.rw_nt0276_01.row.prog.theDef Challenge.rw_nt0276_01.row.name = some (lawD.params, lawD.body, lawD.scope) := by kernel_rfl
theorem t3 : kwWritten? lawD.params.kwonlyargs lawD.params.kw_defaults = some [] := by kernel_rfl
theorem t4 : (!Challenge.rw_nt0276_01.row.writes || List.isEmpty Challenge.rw_nt0276_01.row.records) = true := by rfl
theorem t6 : (chainsOk QV && opensWell Challenge.rw_nt0276_01.row.prog && (frees Challenge.rw_nt0276_01.row.toRowW && Challenge.rw_nt0276_01.row.within.isEmpty)) = true := by decide +kernel
theorem t7 : Challenge.rw_nt0276_01.row.prog.bare := ⟨rfl, rfl, rfl, rfl, rfl, by decide +kernel⟩
theorem t8 : Challenge.rw_nt0276_01.row.promised := by w_witness2
theorem top (call : WalkO QV LS0 (XL QV []) HK.says RWp.toRowW lawD [] fun f vs => PySem.call f vs) : PySem.Challenge.rw_nt0276_01.Holds :=
  holds_law t0 fun said => holds_open (q := QV) (loose := LS0) (Xt := XtM) (XP := XL QV []) (Yf := HK.obs) (Ya := HK.val) (YP := HK.says) (d := lawD) (kwd := []) (N := 4204) left HK.of HK.keeps (fun s e => xl_of s (Bool.and_eq_true_iff.mp e).1) XL.keeps t1 t2 t3 (fun s e => recFacts_of (Bool.and_eq_true_iff.mp e).2) t4 said t6 t7 t8 call
end
end Mine

namespace Mine
noncomputable abbrev pgW : Program := RWp.toRowW.prog
noncomputable def wd (w : World) (mean : ExcName → Option Value) (mg mb : Str → Option Value) : Wd := ⟨RWp.toRowW.prog, w, KK w.params, QV, looseW QV LS0, mean, mg, mb⟩
theorem lenS {α : Type} {n : Nat} {l : List α} (h : l.length = n + 1) : ∃ a t, l = a :: t ∧ t.length = n := by
  cases l with
  | nil => cases h
  | cons a t => exact ⟨a, t, rfl, Nat.succ.inj h⟩
structure GB (W : Wd) (x : Str) (v : Value) : Prop where
  n : nsIn W.K mainGlobals x = some none
  v : bootBuiltins x = some v
  m : x ≠ "__name__"
  d : (x == ("__debug__" : Str)) = false
structure GC (W : Wd) (x : Str) (v : Value) : Prop where
  n : nsIn W.K mainGlobals x = some (some v)
  d : (x == ("__debug__" : Str)) = false
theorem xi {C : Cx} {l : List Str} {i : Nat} {x : Str} (hxs : C.xs = l) (h : l[i]? = some x) : C.xs[i]? = some x := hxs ▸ h
theorem kg {C : Cx} {x qual : Str} {scope : Scope} {f : Addr} {cdv : Value} (hE : C.env = envX qual scope C.L f cdv []) (h : (envX qual scope C.L f cdv []).kindOf x = some .globalImplicit) : C.env.kindOf x = some .globalImplicit := by rw [hE]; exact h
section
variable {C C' : Cx} {scope : Scope} {y : Str}
theorem CompOf.xs (h : CompOf C scope y C') : C'.xs = [y] := by obtain ⟨I, rfl⟩ := h.ex; rfl
theorem CompOf.W {W : Wd} (h : CompOf C scope y C') (e : C.W = W) : C'.W = W := by obtain ⟨I, rfl⟩ := h.ex; exact e
theorem CompOf.dp {n : Nat} (h : CompOf C scope y C') (e : C.dp + n < 900) : C'.dp + n < 900 := by obtain ⟨I, rfl⟩ := h.ex; exact e
theorem CompOf.un {n : Nat} (h : CompOf C scope y C') (e : C.un + n < 2000) : C'.un + n < 2000 := by obtain ⟨I, rfl⟩ := h.ex; exact e
theorem CompOf.kg {x : Str} (h : CompOf C scope y C') (e : (compEnvC scope [] 0 C.env).kindOf x = some .globalImplicit) : C'.env.kindOf x = some .globalImplicit := by obtain ⟨I, rfl⟩ := h.ex; exact e
theorem EvD.nm (ok : C.Ok) {l : List Str} {x : Str} {pos} (hxs : C.xs = l) (i : Nat) (h : l[i]? = some x) : EvD C (.Name x pos) (nameF i) := EvD.name ok i (hxs ▸ h)
theorem EvD.gc (ok : C.Ok) {x : Str} {v : Value} {p : PV} {pos} (g : GC C.W x v) (hk : C.env.kindOf x = some .globalImplicit) (hr : ∀ d X h, Rep d X h v p) : EvD C (.Name x pos) (cstF p) := EvD.glob ok g.n hk g.d hr
theorem EvD.bB (ok : C.Ok) {x : Str} {pp pos : Pos} {id : String} {e : Expr} {o : PV → Option RV} {g : EF} (G : GB C.W x (.builtin id)) (hk : C.env.kindOf x = some .globalImplicit) (ho : CallD1 C (.builtin id) o) (hg : EvD C e g) (hst : starEach [e] C.env = (false, eval e C.env) :: starEach [] C.env := by rfl) :
    EvD C (.Call (.Name x pp) [e] [] pos) (unF o g) := EvD.callB ok hg ho G.n hk G.v G.m G.d hst
theorem EvD.tT (ok : C.Ok) {x : Str} {pp pos : Pos} {T : String} {e : Expr} {o : PV → Option RV} {g : EF} (G : GB C.W x (.type T)) (hk : C.env.kindOf x = some .globalImplicit) (ho : CallD1 C (.type T) o) (hg : EvD C e g) (hst : starEach [e] C.env = (false, eval e C.env) :: starEach [] C.env := by rfl) :
    EvD C (.Call (.Name x pp) [e] [] pos) (unF o g) := EvD.callT ok hg ho G.n hk G.v G.m G.d hst
theorem EvD.find (ok : C.Ok) {e x : Expr} {apos pos : Pos} {f g : EF} (hf : EvD C e f) (hg : EvD C x g) (hbase : attributeBase e "find" C.env (eval e C.env) = eval e C.env := by rfl) (hst : starEach [x] C.env = (false, eval x C.env) :: starEach [] C.env := by rfl) (hline : (apos.endLine == pos.line) = true := by rfl) :
    EvD C (.Call (.Attribute e "find" apos) [x] [] pos) (binF findO f g) := EvD.meth ok hf hg .find .find FB.plainAttrs_bytes slot_find type_find hbase hst hline
theorem EvD.starts (ok : C.Ok) {e x : Expr} {apos pos : Pos} {f g : EF} (hf : EvD C e f) (hg : EvD C x g) (hbase : attributeBase e "startswith" C.env (eval e C.env) = eval e C.env := by rfl) (hst : starEach [x] C.env = (false, eval x C.env) :: starEach [] C.env := by rfl) (hline : (apos.endLine == pos.line) = true := by rfl) :
    EvD C (.Call (.Attribute e "startswith" apos) [x] [] pos) (binF startsO f g) := EvD.meth ok hf hg .starts .starts FB.plainAttrs_bytes FB.slot_bytes_startswith FB.type_bytes_startswith hbase hst hline
theorem EvD.split (ok : C.Ok) {e x : Expr} {apos pos : Pos} {f g : EF} (hf : EvD C e f) (hg : EvD C x g) (hbase : attributeBase e "split" C.env (eval e C.env) = eval e C.env := by rfl) (hst : starEach [x] C.env = (false, eval x C.env) :: starEach [] C.env := by rfl) (hline : (apos.endLine == pos.line) = true := by rfl) :
    EvD C (.Call (.Attribute e "split" apos) [x] [] pos) (binF splitO f g) := EvD.meth ok hf hg (.split ok) .split FB.plainAttrs_bytes slot_split type_split hbase hst hline
theorem EvD.join (ok : C.Ok) {e x : Expr} {apos pos : Pos} {f g : EF} (hf : EvD C e f) (hg : EvD C x g) (hbase : attributeBase e "join" C.env (eval e C.env) = eval e C.env := by rfl) (hst : starEach [x] C.env = (false, eval x C.env) :: starEach [] C.env := by rfl) (hline : (apos.endLine == pos.line) = true := by rfl) :
    EvD C (.Call (.Attribute e "join" apos) [x] [] pos) (binF joinO f g) := EvD.meth ok hf hg .join .join FB.plainAttrs_bytes slot_join type_join hbase hst hline
theorem EvD.joinS (ok : C.Ok) {e x : Expr} {apos pos : Pos} {f g : EF} (hf : EvD C e f) (hg : EvD C x g) (hbase : attributeBase e "join" C.env (eval e C.env) = eval e C.env := by rfl) (hst : starEach [x] C.env = (false, eval x C.env) :: starEach [] C.env := by rfl) (hline : (apos.endLine == pos.line) = true := by rfl) :
    EvD C (.Call (.Attribute e "join" apos) [x] [] pos) (binF joinSO f g) := EvD.meth ok hf hg .joinS .joinS PySem.F.plainAttrs_str PySem.F.slot_str_join PySem.F.type_str_join hbase hst hline
theorem TeD.tv {x : Expr} {f : EF} (hf : EvD C x f) (he : ∀ whole, PySem.isTrue x C.env whole = (do let v ← whole; standAt x.pos; holding [v] (truthy v)) := by intro _; rfl) : TeD C x (valF f) := TeD.val hf fun Q E s h => wpAny_isTrue_value h (he _)
noncomputable def deadF : SF := fun _ => none
theorem Runs.dead {b : List Stmt} : Runs C b deadF := fun _ _ _ _ _ _ h => nomatch h
theorem Stores.nm {t : Value → Sem Unit} {x : Str} {p : Pos} (h : t = assign (.Name x p) C.env) : Stores C t x := fun v Q E s q => by rw [h]; exact assign_Name q
theorem callee {W : Wd} {x : Str} {f : Addr} {F : FF} {rk n : Nat} {ex : Bool} (hW : C.W = W) (g : GC W x (.ref f)) (hf : fnIn' W.K f = true) (D : FnD W f rk ex F) (hx : ex = true → FsOk C) (hd : C.dp + n < 900) (hu : C.un + 4 * n < 2000) (hn : rk ≤ n) : Callee C x f F :=
  ⟨by rw [hW]; exact g.n, g.d, by rw [hW]; exact hf, rk, ex, hx, by omega, by omega, by rw [hW]; exact D⟩
end
end Mine

namespace Mine
section
variable {w : World} {mean : ExcName → Option Value} {mg mb : Str → Option Value}
theorem B_len {C : Cx} (hW : C.W = wd w mean mg mb) : GB C.W "len" (.builtin "len") := hW ▸ ⟨by kernel_rfl!, rfl, by decide, by decide⟩
theorem B_ord {C : Cx} (hW : C.W = wd w mean mg mb) : GB C.W "ord" (.builtin "ord") := hW ▸ ⟨by kernel_rfl!, rfl, by decide, by decide⟩
theorem B_chr {C : Cx} (hW : C.W = wd w mean mg mb) : GB C.W "chr" (.builtin "chr") := hW ▸ ⟨by kernel_rfl!, rfl, by decide, by decide⟩
theorem B_int {C : Cx} (hW : C.W = wd w mean mg mb) : GB C.W "int" (.type "int") := hW ▸ ⟨by kernel_rfl!, rfl, by decide, by decide⟩
theorem B_str {C : Cx} (hW : C.W = wd w mean mg mb) : GB C.W "str" (.type "str") := hW ▸ ⟨by kernel_rfl!, rfl, by decide, by decide⟩
theorem B_bytes {C : Cx} (hW : C.W = wd w mean mg mb) : GB C.W "bytes" (.type "bytes") := hW ▸ ⟨by kernel_rfl!, rfl, by decide, by decide⟩
theorem B_tuple {C : Cx} (hW : C.W = wd w mean mg mb) : GB C.W "tuple" (.type "tuple") := hW ▸ ⟨by kernel_rfl!, rfl, by decide, by decide⟩
theorem B_range {C : Cx} (hW : C.W = wd w mean mg mb) : GB C.W "range" (.type "range") := hW ▸ ⟨by kernel_rfl!, rfl, by decide, by decide⟩
theorem G_OBJECT_DIGITS {C : Cx} (hW : C.W = wd w mean mg mb) : GC C.W "OBJECT_DIGITS" (.bytes ([48, 49, 50, 51, 52, 53, 54, 55, 56, 57] : List UInt8).toArray 280) := hW ▸ ⟨by kernel_rfl!, by decide⟩
theorem G_OBJECT_BLANKS {C : Cx} (hW : C.W = wd w mean mg mb) : GC C.W "OBJECT_BLANKS" (.bytes ([32, 9, 13, 11, 12] : List UInt8).toArray 282) := hW ▸ ⟨by kernel_rfl!, by decide⟩
theorem G_OBJECT_SIGNED_OFF {C : Cx} (hW : C.W = wd w mean mg mb) : GC C.W "OBJECT_SIGNED_OFF" (.bytes ([83, 105, 103, 110, 101, 100, 45, 111, 102, 102, 45, 98, 121] : List UInt8).toArray 284) := hW ▸ ⟨by kernel_rfl!, by decide⟩
theorem G_OBJECT_PICKED {C : Cx} (hW : C.W = wd w mean mg mb) : GC C.W "OBJECT_PICKED" (.bytes ([40, 99, 104, 101, 114, 114, 121, 32, 112, 105, 99, 107, 101, 100, 32, 102, 114, 111, 109, 32, 99, 111, 109, 109, 105, 116, 32] : List UInt8).toArray 286) := hW ▸ ⟨by kernel_rfl!, by decide⟩
theorem G_NOUGHT_SIGN {C : Cx} (hW : C.W = wd w mean mg mb) : GC C.W "NOUGHT_SIGN" (.int 48 191) := hW ▸ ⟨by kernel_rfl!, by decide⟩
theorem G_text_of : GC (wd w mean mg mb) "text_of" (.ref 52) := ⟨by kernel_rfl!, by decide⟩
theorem G_octets_of : GC (wd w mean mg mb) "octets_of" (.ref 57) := ⟨by kernel_rfl!, by decide⟩
theorem G_number_by : GC (wd w mean mg mb) "number_by" (.ref 71) := ⟨by kernel_rfl!, by decide⟩
theorem G_number_of : GC (wd w mean mg mb) "number_of" (.ref 78) := ⟨by kernel_rfl!, by decide⟩
theorem G_object_has_sign : GC (wd w mean mg mb) "object_has_sign" (.ref 85) := ⟨by kernel_rfl!, by decide⟩
theorem G_object_are_all : GC (wd w mean mg mb) "object_are_all" (.ref 92) := ⟨by kernel_rfl!, by decide⟩
theorem G_object_trimmed : GC (wd w mean mg mb) "object_trimmed" (.ref 99) := ⟨by kernel_rfl!, by decide⟩
theorem G_object_cut_end : GC (wd w mean mg mb) "object_cut_end" (.ref 106) := ⟨by kernel_rfl!, by decide⟩
theorem G_person_minutes : GC (wd w mean mg mb) "person_minutes" (.ref 148) := ⟨by kernel_rfl!, by decide⟩
theorem G_object_rows : GC (wd w mean mg mb) "object_rows" (.ref 160) := ⟨by kernel_rfl!, by decide⟩
theorem G_object_subject : GC (wd w mean mg mb) "object_subject" (.ref 167) := ⟨by kernel_rfl!, by decide⟩
theorem G_object_trailer_of : GC (wd w mean mg mb) "object_trailer_of" (.ref 174) := ⟨by kernel_rfl!, by decide⟩
theorem G_object_last_part : GC (wd w mean mg mb) "object_last_part" (.ref 181) := ⟨by kernel_rfl!, by decide⟩
theorem G_object_trailers : GC (wd w mean mg mb) "object_trailers" (.ref 188) := ⟨by kernel_rfl!, by decide⟩
theorem G__law_draw : GC (wd w mean mg mb) "_law_draw" (.ref 235) := ⟨by kernel_rfl!, by decide⟩
theorem G__law_pick : GC (wd w mean mg mb) "_law_pick" (.ref 242) := ⟨by kernel_rfl!, by decide⟩
theorem G__law_number : GC (wd w mean mg mb) "_law_number" (.ref 249) := ⟨by kernel_rfl!, by decide⟩
theorem G__law_parts : GC (wd w mean mg mb) "_law_parts" (.ref 254) := ⟨by kernel_rfl!, by decide⟩
theorem G__law_person_right : GC (wd w mean mg mb) "_law_person_right" (.ref 266) := ⟨by kernel_rfl!, by decide⟩
theorem G__law_people_right : GC (wd w mean mg mb) "_law_people_right" (.ref 271) := ⟨by kernel_rfl!, by decide⟩
theorem G__law_subject : GC (wd w mean mg mb) "_law_subject" (.ref 278) := ⟨by kernel_rfl!, by decide⟩
theorem G__law_stripped : GC (wd w mean mg mb) "_law_stripped" (.ref 285) := ⟨by kernel_rfl!, by decide⟩
theorem G__law_pair : GC (wd w mean mg mb) "_law_pair" (.ref 290) := ⟨by kernel_rfl!, by decide⟩
theorem G__law_trailers : GC (wd w mean mg mb) "_law_trailers" (.ref 295) := ⟨by kernel_rfl!, by decide⟩
theorem G__law_message_right : GC (wd w mean mg mb) "_law_message_right" (.ref 300) := ⟨by kernel_rfl!, by decide⟩
theorem G__law_messages_right : GC (wd w mean mg mb) "_law_messages_right" (.ref 307) := ⟨by kernel_rfl!, by decide⟩
theorem G__law_heard : GC (wd w mean mg mb) "_law_heard" (.ref 261) := ⟨by kernel_rfl!, by decide⟩
theorem G_Person {C : Cx} (hW : C.W = wd w mean mg mb) : GC C.W "Person" (.ref 130) := hW ▸ ⟨by kernel_rfl!, by decide⟩
theorem G_Commit {C : Cx} (hW : C.W = wd w mean mg mb) : GC C.W "Commit" (.ref 219) := hW ▸ ⟨by kernel_rfl!, by decide⟩
theorem G_BadObject {C : Cx} (hW : C.W = wd w mean mg mb) : GC C.W "BadObject" (.ref 45) := hW ▸ ⟨by kernel_rfl!, by decide⟩
theorem G_read_person {C : Cx} (hW : C.W = wd w mean mg mb) : GC C.W "read_person" (.ref 141) := hW ▸ ⟨by kernel_rfl!, by decide⟩
theorem Kp_45 {C : Cx} (hW : C.W = wd w mean mg mb) : keepIn C.W.K (.ref 45) = true := hW ▸ by kernel_rfl!
theorem Kp_130 {C : Cx} (hW : C.W = wd w mean mg mb) : keepIn C.W.K (.ref 130) = true := hW ▸ by kernel_rfl!
theorem Kp_219 {C : Cx} (hW : C.W = wd w mean mg mb) : keepIn C.W.K (.ref 219) = true := hW ▸ by kernel_rfl!
theorem Fn_141 {C : Cx} (hW : C.W = wd w mean mg mb) : fnIn' C.W.K 141 = true := hW ▸ by kernel_rfl!
theorem Fd_130_0 {C : Cx} (hW : C.W = wd w mean mg mb) : FieldOk C.W.K 130 "name" := hW ▸ ⟨by kernel_rfl!, by kernel_rfl!, none, by kernel_rfl!, by kernel_rfl!⟩
theorem Fd_130_1 {C : Cx} (hW : C.W = wd w mean mg mb) : FieldOk C.W.K 130 "email" := hW ▸ ⟨by kernel_rfl!, by kernel_rfl!, none, by kernel_rfl!, by kernel_rfl!⟩
theorem Fd_130_2 {C : Cx} (hW : C.W = wd w mean mg mb) : FieldOk C.W.K 130 "when" := hW ▸ ⟨by kernel_rfl!, by kernel_rfl!, none, by kernel_rfl!, by kernel_rfl!⟩
theorem Fd_130_3 {C : Cx} (hW : C.W = wd w mean mg mb) : FieldOk C.W.K 130 "zone" := hW ▸ ⟨by kernel_rfl!, by kernel_rfl!, none, by kernel_rfl!, by kernel_rfl!⟩
theorem Fd_219_5 {C : Cx} (hW : C.W = wd w mean mg mb) : FieldOk C.W.K 219 "message" := hW ▸ ⟨by kernel_rfl!, by kernel_rfl!, none, by kernel_rfl!, by kernel_rfl!⟩
theorem M127 {C : Cx} (hW : C.W = wd w mean mg mb) : MethOk C.W.K 130 "octets" 127 := hW ▸ ⟨by kernel_rfl!, by kernel_rfl!, by kernel_rfl!, by kernel_rfl!, by decide⟩
theorem M216 {C : Cx} (hW : C.W = wd w mean mg mb) : MethOk C.W.K 219 "subject" 216 := hW ▸ ⟨by kernel_rfl!, by kernel_rfl!, by kernel_rfl!, by kernel_rfl!, by decide⟩
theorem I_130 {C : Cx} (hW : C.W = wd w mean mg mb) : InitOk C.W.K 130 120 := by
  rw [hW]
  refine ⟨_, _, _, _, _, _, _, _, _, _, _, _, _, _, _, ⟨by kernel_rfl!, by kernel_rfl!, by kernel_rfl!, by kernel_rfl!, by kernel_rfl!, by kernel_rfl!, ?_, by kernel_rfl!, ?_, by decide, by decide⟩, by with_unfolding_all exact rfl, ?_, ?_, by decide +kernel, by decide, rfl, rfl, rfl, by decide +kernel⟩
  · intro x hx
    simp only [fieldsOf, reduceIte, List.mem_cons, List.not_mem_nil, or_false, Nat.reduceEqDiff] at hx
    rcases hx with rfl | rfl | rfl | rfl <;> kernel_rfl!
  · kernel_rfl!
  · intro vs hv
    obtain ⟨v0, t0, rfl, h0⟩ := lenS hv
    obtain ⟨v1, t1, rfl, h1⟩ := lenS h0
    obtain ⟨v2, t2, rfl, h2⟩ := lenS h1
    obtain ⟨v3, t3, rfl, h3⟩ := lenS h2
    obtain ⟨v4, t4, rfl, h4⟩ := lenS h3
    obtain rfl := List.length_eq_zero_iff.mp h4
    rfl
  · exact .cons (.cons (.cons (.cons (.nil))))
theorem I_219 {C : Cx} (hW : C.W = wd w mean mg mb) : InitOk C.W.K 219 202 := by
  rw [hW]
  refine ⟨_, _, _, _, _, _, _, _, _, _, _, _, _, _, _, ⟨by kernel_rfl!, by kernel_rfl!, by kernel_rfl!, by kernel_rfl!, by kernel_rfl!, by kernel_rfl!, ?_, by kernel_rfl!, ?_, by decide, by decide⟩, by with_unfolding_all exact rfl, ?_, ?_, by decide +kernel, by decide, rfl, rfl, rfl, by decide +kernel⟩
  · intro x hx
    simp only [fieldsOf, reduceIte, List.mem_cons, List.not_mem_nil, or_false, Nat.reduceEqDiff] at hx
    rcases hx with rfl | rfl | rfl | rfl | rfl | rfl <;> kernel_rfl!
  · kernel_rfl!
  · intro vs hv
    obtain ⟨v0, t0, rfl, h0⟩ := lenS hv
    obtain ⟨v1, t1, rfl, h1⟩ := lenS h0
    obtain ⟨v2, t2, rfl, h2⟩ := lenS h1
    obtain ⟨v3, t3, rfl, h3⟩ := lenS h2
    obtain ⟨v4, t4, rfl, h4⟩ := lenS h3
    obtain ⟨v5, t5, rfl, h5⟩ := lenS h4
    obtain ⟨v6, t6, rfl, h6⟩ := lenS h5
    obtain rfl := List.length_eq_zero_iff.mp h6
    rfl
  · exact .cons (.cons (.cons (.cons (.cons (.cons (.nil))))))
theorem Bad {C : Cx} (hW : C.W = wd w mean mg mb) : BadCls C.W.K := by
  rw [hW]
  refine ⟨⟨_, _, _, _, _, _, _, _, _, _, _, _, _, _, _, by with_unfolding_all exact rfl⟩, ⟨_, by with_unfolding_all exact rfl, rfl, rfl⟩, by kernel_rfl!, by kernel_rfl!, by kernel_rfl!, by kernel_rfl!, ⟨_, _, _, _, _, _, _, _, _, _, _, _, _, _, _, _, _, _, ?_, by with_unfolding_all exact rfl, fun _ _ _ => by kernel_rfl!, rfl, rfl, rfl, rfl, rfl, by decide +kernel⟩⟩
  kernel_rfl!
theorem low {a n k : Nat} (h : a + n < 900) (e : k ≤ n) : a + k < 900 := by omega
theorem lou {a n k : Nat} (h : a + 4 * n < 2000) (e : k ≤ n) : a + 4 * k < 2000 := by omega
end
end Mine

namespace Mine
section
variable {w : World} {mean : ExcName → Option Value} {mg mb : Str → Option Value}
/-! text_of -/
noncomputable def g52 : SF := seqF (retF (binF joinSO (cstF (.str (S ""))) (compF (nameF 0) (bF true) (unF chrO (nameF 0))))) (doneF')
noncomputable def F52 : FF := runF 1 0 g52
set_option maxHeartbeats 4000000 in
theorem D52 : FnD (wd w mean mg mb) 52 1 false F52 := by
  refine FnD.of_runs 1 ["octets"] (by with_unfolding_all exact rfl) (by kernel_rfl!) ?_ (by decide +kernel) (by decide +kernel) (by decide) rfl rfl rfl (by decide +kernel) ?_
  · intro vs hv
    obtain ⟨v0, t0, rfl, h0⟩ := lenS hv
    obtain rfl := List.length_eq_zero_iff.mp h0
    rfl
  · intro C ok hW hLN hE hxs hx hdp hun
    exact Runs.cons ok (Run1.ret (EvD.joinS ok (EvD.cstr) (EvD.comp ok hLN (EvD.nm ok hxs 0 rfl) (fun C' h1 => .none) (fun C' h1 => EvD.bB h1.ok (B_chr (h1.W hW)) (h1.kg (by with_unfolding_all rfl)) CallD1.chr (EvD.nm h1.ok h1.xs 0 rfl)) (by rw [hE]; rfl) (by decide +kernel) rfl (by decide +kernel) rfl rfl))) (Runs.nil)
theorem C52 {C : Cx} {n : Nat} (hW : C.W = wd w mean mg mb) (hx : false = true → FsOk C) (hd : C.dp + n < 900) (hu : C.un + 4 * n < 2000) (hn : 1 ≤ n) : Callee C "text_of" 52 F52 := callee hW G_text_of (by kernel_rfl!) D52 hx hd hu hn

/-! octets_of -/
noncomputable def g57 : SF := seqF (datF 1 (compF (nameF 0) (bF true) (unF ordO (nameF 0)))) (seqF (forF 2 (nameF 1) (seqF (brF (cmpF gtO (nameF 2) (cstF (.int 255))) (deadF) (doneF')) (doneF'))) (seqF (retF (unF bytesO (nameF 1))) (doneF')))
noncomputable def F57 : FF := runF 1 2 g57
set_option maxHeartbeats 4000000 in
theorem D57 : FnD (wd w mean mg mb) 57 1 false F57 := by
  refine FnD.of_runs 1 ["text", "numbers", "number"] (by with_unfolding_all exact rfl) (by kernel_rfl!) ?_ (by decide +kernel) (by decide +kernel) (by decide) rfl rfl rfl (by decide +kernel) ?_
  · intro vs hv
    obtain ⟨v0, t0, rfl, h0⟩ := lenS hv
    obtain rfl := List.length_eq_zero_iff.mp h0
    rfl
  · intro C ok hW hLN hE hxs hx hdp hun
    exact Runs.cons ok (Run1.comp ok hLN 1 (EvD.nm ok hxs 0 rfl) (fun C' h1 => .none) (fun C' h1 => EvD.bB h1.ok (B_ord (h1.W hW)) (h1.kg (by with_unfolding_all rfl)) CallD1.ord (EvD.nm h1.ok h1.xs 0 rfl)) (xi hxs (i := 1) rfl) (by rw [hE]; rfl) (by decide +kernel) rfl (by decide +kernel) rfl rfl (by rw [hE]; rfl)) (Runs.cons ok (Run1.for ok hLN 2 (EvD.nm ok hxs 1 rfl) (Runs.cons ok (Run1.if ok (TeD.cmp ok (EvD.nm ok hxs 2 rfl) (EvD.cint) CmpD.gt) (Runs.dead) (Runs.nil)) (Runs.nil)) (xi hxs (i := 2) rfl)) (Runs.cons ok (Run1.ret (EvD.tT ok (B_bytes hW) (kg hE (by with_unfolding_all rfl)) (CallD1.bytes ok) (EvD.nm ok hxs 1 rfl))) (Runs.nil)))
theorem C57 {C : Cx} {n : Nat} (hW : C.W = wd w mean mg mb) (hx : false = true → FsOk C) (hd : C.dp + n < 900) (hu : C.un + 4 * n < 2000) (hn : 1 ≤ n) : Callee C "octets_of" 57 F57 := callee hW G_octets_of (by kernel_rfl!) D57 hx hd hu hn

/-! number_by -/
noncomputable def g71 : SF := seqF (brF (cmpF eqO (unF lenO (nameF 0)) (cstF (.int 0))) (seqF (retF (cstF .none)) (doneF')) (doneF')) (seqF (datF 2 (cstF (.int 0))) (seqF (forF 3 (nameF 0) (seqF (datF 4 (binF subO (nameF 3) (cstF (.int 48)))) (seqF (brF (notF (chainF leO ltO (cstF (.int 0)) (nameF 4) (nameF 1))) (seqF (retF (cstF .none)) (doneF')) (doneF')) (seqF (datF 2 (binF addO (binF mulO (nameF 1) (nameF 2)) (nameF 4))) (doneF'))))) (seqF (retF (nameF 2)) (doneF'))))
noncomputable def F71 : FF := runF 2 3 g71
set_option maxHeartbeats 4000000 in
theorem D71 : FnD (wd w mean mg mb) 71 1 false F71 := by
  refine FnD.of_runs 2 ["octets", "base", "number", "octet", "digit"] (by with_unfolding_all exact rfl) (by kernel_rfl!) ?_ (by decide +kernel) (by decide +kernel) (by decide) rfl rfl rfl (by decide +kernel) ?_
  · intro vs hv
    obtain ⟨v0, t0, rfl, h0⟩ := lenS hv
    obtain ⟨v1, t1, rfl, h1⟩ := lenS h0
    obtain rfl := List.length_eq_zero_iff.mp h1
    rfl
  · intro C ok hW hLN hE hxs hx hdp hun
    exact Runs.cons ok (Run1.if ok (TeD.cmp ok (EvD.bB ok (B_len hW) (kg hE (by with_unfolding_all rfl)) CallD1.len (EvD.nm ok hxs 0 rfl)) (EvD.cint) (CmpD.eq ok)) (Runs.cons ok (Run1.ret (EvD.cnone)) (Runs.nil)) (Runs.nil)) (Runs.cons ok (Run1.dat ok hLN 2 (EvD.cint) (xi hxs (i := 2) rfl)) (Runs.cons ok (Run1.for ok hLN 3 (EvD.nm ok hxs 0 rfl) (Runs.cons ok (Run1.dat ok hLN 4 (EvD.bin ok (EvD.nm ok hxs 3 rfl) (EvD.gc ok (G_NOUGHT_SIGN hW) (kg hE (by with_unfolding_all rfl)) fun _ _ _ => .int _ _) OpD.sub) (xi hxs (i := 4) rfl)) (Runs.cons ok (Run1.if ok (TeD.not (TeD.chain ok (EvD.cint) (EvD.nm ok hxs 4 rfl) (EvD.nm ok hxs 1 rfl) CmpD.le CmpD.lt)) (Runs.cons ok (Run1.ret (EvD.cnone)) (Runs.nil)) (Runs.nil)) (Runs.cons ok (Run1.dat ok hLN 2 (EvD.bin ok (EvD.bin ok (EvD.nm ok hxs 1 rfl) (EvD.nm ok hxs 2 rfl) (OpD.mul ok)) (EvD.nm ok hxs 4 rfl) (OpD.add ok)) (xi hxs (i := 2) rfl)) (Runs.nil)))) (xi hxs (i := 3) rfl)) (Runs.cons ok (Run1.ret (EvD.nm ok hxs 2 rfl)) (Runs.nil))))
theorem C71 {C : Cx} {n : Nat} (hW : C.W = wd w mean mg mb) (hx : false = true → FsOk C) (hd : C.dp + n < 900) (hu : C.un + 4 * n < 2000) (hn : 1 ≤ n) : Callee C "number_by" 71 F71 := callee hW G_number_by (by kernel_rfl!) D71 hx hd hu hn

/-! number_of -/
noncomputable def g78 : SF := seqF (brF (andF (cmpF gtO (unF lenO (nameF 0)) (cstF (.int 1))) (andF (cmpF eqO (binF itemO (nameF 0) (cstF (.int 0))) (cstF (.int 48))) (bF true))) (seqF (retF (cstF .none)) (doneF')) (doneF')) (seqF (retF (callF F71 (consA (nameF 0) (consA (cstF (.int 10)) (nilA))))) (doneF'))
noncomputable def F78 : FF := runF 1 0 g78
set_option maxHeartbeats 4000000 in
theorem D78 : FnD (wd w mean mg mb) 78 2 false F78 := by
  refine FnD.of_runs 1 ["octets"] (by with_unfolding_all exact rfl) (by kernel_rfl!) ?_ (by decide +kernel) (by decide +kernel) (by decide) rfl rfl rfl (by decide +kernel) ?_
  · intro vs hv
    obtain ⟨v0, t0, rfl, h0⟩ := lenS hv
    obtain rfl := List.length_eq_zero_iff.mp h0
    rfl
  · intro C ok hW hLN hE hxs hx hdp hun
    exact Runs.cons ok (Run1.if ok (TeD.and (TeD.cmp ok (EvD.bB ok (B_len hW) (kg hE (by with_unfolding_all rfl)) CallD1.len (EvD.nm ok hxs 0 rfl)) (EvD.cint) CmpD.gt) (TeD.and (TeD.cmp ok (EvD.item ok (EvD.nm ok hxs 0 rfl) (EvD.cint)) (EvD.gc ok (G_NOUGHT_SIGN hW) (kg hE (by with_unfolding_all rfl)) fun _ _ _ => .int _ _) (CmpD.eq ok)) (TeD.and0))) (Runs.cons ok (Run1.ret (EvD.cnone)) (Runs.nil)) (Runs.nil)) (Runs.cons ok (Run1.ret (EvD.call ok (ArD.cons ok (EvD.nm ok hxs 0 rfl) (ArD.cons ok (EvD.cint) (ArD.nil))) (C71 hW (fun h => nomatch h) hdp hun (by decide)) (kg hE (by with_unfolding_all rfl)))) (Runs.nil))
theorem C78 {C : Cx} {n : Nat} (hW : C.W = wd w mean mg mb) (hx : false = true → FsOk C) (hd : C.dp + n < 900) (hu : C.un + 4 * n < 2000) (hn : 2 ≤ n) : Callee C "number_of" 78 F78 := callee hW G_number_of (by kernel_rfl!) D78 hx hd hu hn

/-! object_has_sign -/
noncomputable def g85 : SF := seqF (forF 2 (nameF 1) (seqF (brF (cmpF geO (binF findO (nameF 0) (unF bytesO (lstF (consA (nameF 2) (nilA))))) (cstF (.int 0))) (seqF (retF (cstF (.bool true))) (doneF')) (doneF')) (doneF'))) (seqF (retF (cstF (.bool false))) (doneF'))
noncomputable def F85 : FF := runF 2 1 g85
set_option maxHeartbeats 4000000 in
theorem D85 : FnD (wd w mean mg mb) 85 1 false F85 := by
  refine FnD.of_runs 2 ["octets", "signs", "sign"] (by with_unfolding_all exact rfl) (by kernel_rfl!) ?_ (by decide +kernel) (by decide +kernel) (by decide) rfl rfl rfl (by decide +kernel) ?_
  · intro vs hv
    obtain ⟨v0, t0, rfl, h0⟩ := lenS hv
    obtain ⟨v1, t1, rfl, h1⟩ := lenS h0
    obtain rfl := List.length_eq_zero_iff.mp h1
    rfl
  · intro C ok hW hLN hE hxs hx hdp hun
    exact Runs.cons ok (Run1.for ok hLN 2 (EvD.nm ok hxs 1 rfl) (Runs.cons ok (Run1.if ok (TeD.cmp ok (EvD.find ok (EvD.nm ok hxs 0 rfl) (EvD.tT ok (B_bytes hW) (kg hE (by with_unfolding_all rfl)) (CallD1.bytes ok) (EvD.lst ok (ArD.cons ok (EvD.nm ok hxs 2 rfl) (ArD.nil))))) (EvD.cint) CmpD.ge) (Runs.cons ok (Run1.ret (EvD.cbool)) (Runs.nil)) (Runs.nil)) (Runs.nil)) (xi hxs (i := 2) rfl)) (Runs.cons ok (Run1.ret (EvD.cbool)) (Runs.nil))
theorem C85 {C : Cx} {n : Nat} (hW : C.W = wd w mean mg mb) (hx : false = true → FsOk C) (hd : C.dp + n < 900) (hu : C.un + 4 * n < 2000) (hn : 1 ≤ n) : Callee C "object_has_sign" 85 F85 := callee hW G_object_has_sign (by kernel_rfl!) D85 hx hd hu hn

/-! object_are_all -/
noncomputable def g92 : SF := seqF (forF 2 (nameF 0) (seqF (brF (cmpF ninO (nameF 2) (nameF 1)) (seqF (retF (cstF (.bool false))) (doneF')) (doneF')) (doneF'))) (seqF (retF (cstF (.bool true))) (doneF'))
noncomputable def F92 : FF := runF 2 1 g92
set_option maxHeartbeats 4000000 in
theorem D92 : FnD (wd w mean mg mb) 92 1 false F92 := by
  refine FnD.of_runs 2 ["octets", "signs", "sign"] (by with_unfolding_all exact rfl) (by kernel_rfl!) ?_ (by decide +kernel) (by decide +kernel) (by decide) rfl rfl rfl (by decide +kernel) ?_
  · intro vs hv
    obtain ⟨v0, t0, rfl, h0⟩ := lenS hv
    obtain ⟨v1, t1, rfl, h1⟩ := lenS h0
    obtain rfl := List.length_eq_zero_iff.mp h1
    rfl
  · intro C ok hW hLN hE hxs hx hdp hun
    exact Runs.cons ok (Run1.for ok hLN 2 (EvD.nm ok hxs 0 rfl) (Runs.cons ok (Run1.if ok (TeD.cmp ok (EvD.nm ok hxs 2 rfl) (EvD.nm ok hxs 1 rfl) CmpD.nin) (Runs.cons ok (Run1.ret (EvD.cbool)) (Runs.nil)) (Runs.nil)) (Runs.nil)) (xi hxs (i := 2) rfl)) (Runs.cons ok (Run1.ret (EvD.cbool)) (Runs.nil))
theorem C92 {C : Cx} {n : Nat} (hW : C.W = wd w mean mg mb) (hx : false = true → FsOk C) (hd : C.dp + n < 900) (hu : C.un + 4 * n < 2000) (hn : 1 ≤ n) : Callee C "object_are_all" 92 F92 := callee hW G_object_are_all (by kernel_rfl!) D92 hx hd hu hn

/-! object_trimmed -/
noncomputable def g99 : SF := seqF (tupS1 [3, 2] (tupF (consA (cstF (.int 0)) (consA (unF lenO (nameF 0)) (nilA))))) (seqF (whileF (andF (cmpF ltO (nameF 2) (nameF 3)) (andF (cmpF inO (binF itemO (nameF 0) (nameF 2)) (nameF 1)) (bF true))) (seqF (augF 2 addO (cstF (.int 1))) (doneF')) 1000000) (seqF (whileF (andF (cmpF gtO (nameF 3) (nameF 2)) (andF (cmpF inO (binF itemO (nameF 0) (binF subO (nameF 3) (cstF (.int 1)))) (nameF 1)) (bF true))) (seqF (augF 3 subO (cstF (.int 1))) (doneF')) 1000000) (seqF (retF (sliceF (nameF 0) (some (nameF 2)) (some (nameF 3)))) (doneF'))))
noncomputable def F99 : FF := runF 2 2 g99
set_option maxHeartbeats 4000000 in
theorem D99 : FnD (wd w mean mg mb) 99 1 false F99 := by
  refine FnD.of_runs 2 ["octets", "signs", "start", "end"] (by with_unfolding_all exact rfl) (by kernel_rfl!) ?_ (by decide +kernel) (by decide +kernel) (by decide) rfl rfl rfl (by decide +kernel) ?_
  · intro vs hv
    obtain ⟨v0, t0, rfl, h0⟩ := lenS hv
    obtain ⟨v1, t1, rfl, h1⟩ := lenS h0
    obtain rfl := List.length_eq_zero_iff.mp h1
    rfl
  · intro C ok hW hLN hE hxs hx hdp hun
    exact Runs.cons ok (Run1.tupS ok hLN (EvD.tup ok (ArD.cons ok (EvD.cint) (ArD.cons ok (EvD.bB ok (B_len hW) (kg hE (by with_unfolding_all rfl)) CallD1.len (EvD.nm ok hxs 0 rfl)) (ArD.nil)))) (names := ["start", "end"]) (.cons (x := "end") (xi hxs (i := 3) rfl) (.cons (x := "start") (xi hxs (i := 2) rfl) (.nil))) (by rw [hE]; rfl) (by rw [hE]; rfl)) (Runs.cons ok (Run1.while ok 1000000 (TeD.and (TeD.cmp ok (EvD.nm ok hxs 2 rfl) (EvD.nm ok hxs 3 rfl) CmpD.lt) (TeD.and (TeD.cmp ok (EvD.item ok (EvD.nm ok hxs 0 rfl) (EvD.nm ok hxs 2 rfl)) (EvD.nm ok hxs 1 rfl) CmpD.in) (TeD.and0))) (Runs.cons ok (Run1.augAdd ok hLN 2 (EvD.cint) (xi hxs (i := 2) rfl)) (Runs.nil))) (Runs.cons ok (Run1.while ok 1000000 (TeD.and (TeD.cmp ok (EvD.nm ok hxs 3 rfl) (EvD.nm ok hxs 2 rfl) CmpD.gt) (TeD.and (TeD.cmp ok (EvD.item ok (EvD.nm ok hxs 0 rfl) (EvD.bin ok (EvD.nm ok hxs 3 rfl) (EvD.cint) OpD.sub)) (EvD.nm ok hxs 1 rfl) CmpD.in) (TeD.and0))) (Runs.cons ok (Run1.augSub ok hLN 3 (EvD.cint) (xi hxs (i := 3) rfl)) (Runs.nil))) (Runs.cons ok (Run1.ret (EvD.slice ok (EvD.nm ok hxs 0 rfl) (.some (EvD.nm ok hxs 2 rfl)) (.some (EvD.nm ok hxs 3 rfl)))) (Runs.nil))))
theorem C99 {C : Cx} {n : Nat} (hW : C.W = wd w mean mg mb) (hx : false = true → FsOk C) (hd : C.dp + n < 900) (hu : C.un + 4 * n < 2000) (hn : 1 ≤ n) : Callee C "object_trimmed" 99 F99 := callee hW G_object_trimmed (by kernel_rfl!) D99 hx hd hu hn

/-! object_cut_end -/
noncomputable def g106 : SF := seqF (datF 2 (unF lenO (nameF 0))) (seqF (whileF (andF (cmpF gtO (nameF 2) (cstF (.int 0))) (andF (cmpF inO (binF itemO (nameF 0) (binF subO (nameF 2) (cstF (.int 1)))) (nameF 1)) (bF true))) (seqF (augF 2 subO (cstF (.int 1))) (doneF')) 1000000) (seqF (retF (sliceF (nameF 0) none (some (nameF 2)))) (doneF')))
noncomputable def F106 : FF := runF 2 1 g106
set_option maxHeartbeats 4000000 in
theorem D106 : FnD (wd w mean mg mb) 106 1 false F106 := by
  refine FnD.of_runs 2 ["octets", "signs", "end"] (by with_unfolding_all exact rfl) (by kernel_rfl!) ?_ (by decide +kernel) (by decide +kernel) (by decide) rfl rfl rfl (by decide +kernel) ?_
  · intro vs hv
    obtain ⟨v0, t0, rfl, h0⟩ := lenS hv
    obtain ⟨v1, t1, rfl, h1⟩ := lenS h0
    obtain rfl := List.length_eq_zero_iff.mp h1
    rfl
  · intro C ok hW hLN hE hxs hx hdp hun
    exact Runs.cons ok (Run1.dat ok hLN 2 (EvD.bB ok (B_len hW) (kg hE (by with_unfolding_all rfl)) CallD1.len (EvD.nm ok hxs 0 rfl)) (xi hxs (i := 2) rfl)) (Runs.cons ok (Run1.while ok 1000000 (TeD.and (TeD.cmp ok (EvD.nm ok hxs 2 rfl) (EvD.cint) CmpD.gt) (TeD.and (TeD.cmp ok (EvD.item ok (EvD.nm ok hxs 0 rfl) (EvD.bin ok (EvD.nm ok hxs 2 rfl) (EvD.cint) OpD.sub)) (EvD.nm ok hxs 1 rfl) CmpD.in) (TeD.and0))) (Runs.cons ok (Run1.augSub ok hLN 2 (EvD.cint) (xi hxs (i := 2) rfl)) (Runs.nil))) (Runs.cons ok (Run1.ret (EvD.slice ok (EvD.nm ok hxs 0 rfl) .none (.some (EvD.nm ok hxs 2 rfl)))) (Runs.nil)))
theorem C106 {C : Cx} {n : Nat} (hW : C.W = wd w mean mg mb) (hx : false = true → FsOk C) (hd : C.dp + n < 900) (hu : C.un + 4 * n < 2000) (hn : 1 ≤ n) : Callee C "object_cut_end" 106 F106 := callee hW G_object_cut_end (by kernel_rfl!) D106 hx hd hu hn

/-! Person.octets -/
noncomputable def g127 : SF := seqF (retF (binF addO (binF addO (binF addO (binF addO (binF addO (binF addO (attrF 130 0 (nameF 0)) (cstF (.bytes [32, 60]))) (attrF 130 1 (nameF 0))) (cstF (.bytes [62, 32]))) (callF F57 (consA (unF strO (attrF 130 2 (nameF 0))) (nilA)))) (cstF (.bytes [32]))) (attrF 130 3 (nameF 0)))) (doneF')
noncomputable def F127 : FF := runF 1 0 g127
set_option maxHeartbeats 4000000 in
theorem D127 : FnD (wd w mean mg mb) 127 2 false F127 := by
  refine FnD.of_runs 1 ["self"] (by with_unfolding_all exact rfl) (by kernel_rfl!) ?_ (by decide +kernel) (by decide +kernel) (by decide) rfl rfl rfl (by decide +kernel) ?_
  · intro vs hv
    obtain ⟨v0, t0, rfl, h0⟩ := lenS hv
    obtain rfl := List.length_eq_zero_iff.mp h0
    rfl
  · intro C ok hW hLN hE hxs hx hdp hun
    exact Runs.cons ok (Run1.ret (EvD.bin ok (EvD.bin ok (EvD.bin ok (EvD.bin ok (EvD.bin ok (EvD.bin ok (EvD.attr ok (EvD.nm ok hxs 0 rfl) (Fd_130_0 hW) (by decide) (by decide)) (EvD.cbytes) (OpD.add ok)) (EvD.attr ok (EvD.nm ok hxs 0 rfl) (Fd_130_1 hW) (by decide) (by decide)) (OpD.add ok)) (EvD.cbytes) (OpD.add ok)) (EvD.call ok (ArD.cons ok (EvD.tT ok (B_str hW) (kg hE (by with_unfolding_all rfl)) CallD1.str (EvD.attr ok (EvD.nm ok hxs 0 rfl) (Fd_130_2 hW) (by decide) (by decide))) (ArD.nil)) (C57 hW (fun h => nomatch h) hdp hun (by decide)) (kg hE (by with_unfolding_all rfl))) (OpD.add ok)) (EvD.cbytes) (OpD.add ok)) (EvD.attr ok (EvD.nm ok hxs 0 rfl) (Fd_130_3 hW) (by decide) (by decide)) (OpD.add ok))) (Runs.nil)

/-! read_person -/
noncomputable def g141 : SF := seqF (datF 1 (binF findO (nameF 0) (cstF (.bytes [32, 60])))) (seqF (brF (cmpF ltO (nameF 1) (cstF (.int 0))) (seqF (exF) (doneF')) (doneF')) (seqF (tupS1 [3, 2] (tupF (consA (sliceF (nameF 0) none (some (nameF 1))) (consA (sliceF (nameF 0) (some (binF addO (nameF 1) (cstF (.int 2)))) none) (nilA))))) (seqF (datF 4 (binF findO (nameF 3) (cstF (.bytes [62, 32])))) (seqF (brF (cmpF ltO (nameF 4) (cstF (.int 0))) (seqF (exF) (doneF')) (doneF')) (seqF (tupS1 [3, 5] (tupF (consA (sliceF (nameF 3) none (some (nameF 4))) (consA (sliceF (nameF 3) (some (binF addO (nameF 4) (cstF (.int 2)))) none) (nilA))))) (seqF (brF (valF (callF F85 (consA (binF addO (nameF 2) (nameF 5)) (consA (cstF (.bytes [60, 62, 10, 0])) (nilA))))) (seqF (exF) (doneF')) (doneF')) (seqF (datF 6 (binF findO (nameF 3) (cstF (.bytes [32])))) (seqF (brF (cmpF ltO (nameF 6) (cstF (.int 0))) (seqF (exF) (doneF')) (doneF')) (seqF (tupS1 [8, 7] (tupF (consA (callF F78 (consA (sliceF (nameF 3) none (some (nameF 6))) (nilA))) (consA (sliceF (nameF 3) (some (binF addO (nameF 6) (cstF (.int 1)))) none) (nilA))))) (seqF (brF (cmpF isO (nameF 7) (cstF .none)) (seqF (exF) (doneF')) (doneF')) (seqF (brF (orF (cmpF neO (unF lenO (nameF 8)) (cstF (.int 5))) (orF (cmpF ninO (binF itemO (nameF 8) (cstF (.int 0))) (cstF (.bytes [43, 45]))) (orF (notF (valF (callF F92 (consA (sliceF (nameF 8) (some (cstF (.int 1))) none) (consA (cstF (.bytes [48, 49, 50, 51, 52, 53, 54, 55, 56, 57])) (nilA)))))) (bF false)))) (seqF (exF) (doneF')) (doneF')) (seqF (retF (makeF 130 4 (consA (nameF 2) (consA (nameF 5) (consA (nameF 7) (consA (nameF 8) (nilA))))))) (doneF')))))))))))))
noncomputable def F141 : FX := runX 1 8 g141
set_option maxHeartbeats 4000000 in
theorem D141 : FnX (wd w mean mg mb) 141 3 F141 := by
  refine FnX.of_runs 1 ["octets", "start", "name", "rest", "end", "email", "blank", "when", "zone"] (by with_unfolding_all exact rfl) (by kernel_rfl!) ?_ (by decide +kernel) (by decide +kernel) (by decide) rfl rfl rfl (by decide +kernel) ?_
  · intro vs hv
    obtain ⟨v0, t0, rfl, h0⟩ := lenS hv
    obtain rfl := List.length_eq_zero_iff.mp h0
    rfl
  · intro C ok hW hLN hE hxs hx hdp hun
    exact Runs.cons ok (Run1.dat ok hLN 1 (EvD.find ok (EvD.nm ok hxs 0 rfl) (EvD.cbytes)) (xi hxs (i := 1) rfl)) (Runs.cons ok (Run1.if ok (TeD.cmp ok (EvD.nm ok hxs 1 rfl) (EvD.cint) CmpD.lt) (Runs.cons ok (Run1.raise ok (Bad hW) (G_BadObject hW).n (kg hE (by with_unfolding_all rfl)) (Kp_45 hW)) (Runs.nil)) (Runs.nil)) (Runs.cons ok (Run1.tupS ok hLN (EvD.tup ok (ArD.cons ok (EvD.slice ok (EvD.nm ok hxs 0 rfl) .none (.some (EvD.nm ok hxs 1 rfl))) (ArD.cons ok (EvD.slice ok (EvD.nm ok hxs 0 rfl) (.some (EvD.bin ok (EvD.nm ok hxs 1 rfl) (EvD.cint) (OpD.add ok))) .none) (ArD.nil)))) (names := ["name", "rest"]) (.cons (x := "rest") (xi hxs (i := 3) rfl) (.cons (x := "name") (xi hxs (i := 2) rfl) (.nil))) (by rw [hE]; rfl) (by rw [hE]; rfl)) (Runs.cons ok (Run1.dat ok hLN 4 (EvD.find ok (EvD.nm ok hxs 3 rfl) (EvD.cbytes)) (xi hxs (i := 4) rfl)) (Runs.cons ok (Run1.if ok (TeD.cmp ok (EvD.nm ok hxs 4 rfl) (EvD.cint) CmpD.lt) (Runs.cons ok (Run1.raise ok (Bad hW) (G_BadObject hW).n (kg hE (by with_unfolding_all rfl)) (Kp_45 hW)) (Runs.nil)) (Runs.nil)) (Runs.cons ok (Run1.tupS ok hLN (EvD.tup ok (ArD.cons ok (EvD.slice ok (EvD.nm ok hxs 3 rfl) .none (.some (EvD.nm ok hxs 4 rfl))) (ArD.cons ok (EvD.slice ok (EvD.nm ok hxs 3 rfl) (.some (EvD.bin ok (EvD.nm ok hxs 4 rfl) (EvD.cint) (OpD.add ok))) .none) (ArD.nil)))) (names := ["email", "rest"]) (.cons (x := "rest") (xi hxs (i := 3) rfl) (.cons (x := "email") (xi hxs (i := 5) rfl) (.nil))) (by rw [hE]; rfl) (by rw [hE]; rfl)) (Runs.cons ok (Run1.if ok (TeD.tv (EvD.call ok (ArD.cons ok (EvD.bin ok (EvD.nm ok hxs 2 rfl) (EvD.nm ok hxs 5 rfl) (OpD.add ok)) (ArD.cons ok (EvD.cbytes) (ArD.nil))) (C85 hW (fun h => nomatch h) hdp hun (by decide)) (kg hE (by with_unfolding_all rfl)))) (Runs.cons ok (Run1.raise ok (Bad hW) (G_BadObject hW).n (kg hE (by with_unfolding_all rfl)) (Kp_45 hW)) (Runs.nil)) (Runs.nil)) (Runs.cons ok (Run1.dat ok hLN 6 (EvD.find ok (EvD.nm ok hxs 3 rfl) (EvD.cbytes)) (xi hxs (i := 6) rfl)) (Runs.cons ok (Run1.if ok (TeD.cmp ok (EvD.nm ok hxs 6 rfl) (EvD.cint) CmpD.lt) (Runs.cons ok (Run1.raise ok (Bad hW) (G_BadObject hW).n (kg hE (by with_unfolding_all rfl)) (Kp_45 hW)) (Runs.nil)) (Runs.nil)) (Runs.cons ok (Run1.tupS ok hLN (EvD.tup ok (ArD.cons ok (EvD.call ok (ArD.cons ok (EvD.slice ok (EvD.nm ok hxs 3 rfl) .none (.some (EvD.nm ok hxs 6 rfl))) (ArD.nil)) (C78 hW (fun h => nomatch h) hdp hun (by decide)) (kg hE (by with_unfolding_all rfl))) (ArD.cons ok (EvD.slice ok (EvD.nm ok hxs 3 rfl) (.some (EvD.bin ok (EvD.nm ok hxs 6 rfl) (EvD.cint) (OpD.add ok))) .none) (ArD.nil)))) (names := ["when", "zone"]) (.cons (x := "zone") (xi hxs (i := 8) rfl) (.cons (x := "when") (xi hxs (i := 7) rfl) (.nil))) (by rw [hE]; rfl) (by rw [hE]; rfl)) (Runs.cons ok (Run1.if ok (TeD.cmp ok (EvD.nm ok hxs 7 rfl) (EvD.cnone) CmpD.is) (Runs.cons ok (Run1.raise ok (Bad hW) (G_BadObject hW).n (kg hE (by with_unfolding_all rfl)) (Kp_45 hW)) (Runs.nil)) (Runs.nil)) (Runs.cons ok (Run1.if ok (TeD.or (TeD.cmp ok (EvD.bB ok (B_len hW) (kg hE (by with_unfolding_all rfl)) CallD1.len (EvD.nm ok hxs 8 rfl)) (EvD.cint) (CmpD.ne ok)) (TeD.or (TeD.cmp ok (EvD.item ok (EvD.nm ok hxs 8 rfl) (EvD.cint)) (EvD.cbytes) CmpD.nin) (TeD.or (TeD.not (TeD.tv (EvD.call ok (ArD.cons ok (EvD.slice ok (EvD.nm ok hxs 8 rfl) (.some (EvD.cint)) .none) (ArD.cons ok (EvD.gc ok (G_OBJECT_DIGITS hW) (kg hE (by with_unfolding_all rfl)) fun _ _ _ => .bytes _ _) (ArD.nil))) (C92 hW (fun h => nomatch h) hdp hun (by decide)) (kg hE (by with_unfolding_all rfl))))) (TeD.or0)))) (Runs.cons ok (Run1.raise ok (Bad hW) (G_BadObject hW).n (kg hE (by with_unfolding_all rfl)) (Kp_45 hW)) (Runs.nil)) (Runs.nil)) (Runs.cons ok (Run1.ret (EvD.make ok (ArD.cons ok (EvD.nm ok hxs 2 rfl) (ArD.cons ok (EvD.nm ok hxs 5 rfl) (ArD.cons ok (EvD.nm ok hxs 7 rfl) (ArD.cons ok (EvD.nm ok hxs 8 rfl) (ArD.nil))))) (I_130 hW) (G_Person hW).n (G_Person hW).d (kg hE (by with_unfolding_all rfl)) (Kp_130 hW))) (Runs.nil)))))))))))))

/-! person_minutes -/
noncomputable def g148 : SF := seqF (datF 1 (binF addO (binF mulO (cstF (.int 60)) (unF intO (callF F52 (consA (sliceF (attrF 130 3 (nameF 0)) (some (cstF (.int 1))) (some (cstF (.int 3)))) (nilA))))) (unF intO (callF F52 (consA (sliceF (attrF 130 3 (nameF 0)) (some (cstF (.int 3))) (some (cstF (.int 5)))) (nilA)))))) (seqF (retF (ifF (cmpF eqO (sliceF (attrF 130 3 (nameF 0)) none (some (cstF (.int 1)))) (cstF (.bytes [45]))) (unF negO (nameF 1)) (nameF 1))) (doneF'))
noncomputable def F148 : FF := runF 1 1 g148
set_option maxHeartbeats 4000000 in
theorem D148 : FnD (wd w mean mg mb) 148 2 false F148 := by
  refine FnD.of_runs 1 ["person", "many"] (by with_unfolding_all exact rfl) (by kernel_rfl!) ?_ (by decide +kernel) (by decide +kernel) (by decide) rfl rfl rfl (by decide +kernel) ?_
  · intro vs hv
    obtain ⟨v0, t0, rfl, h0⟩ := lenS hv
    obtain rfl := List.length_eq_zero_iff.mp h0
    rfl
  · intro C ok hW hLN hE hxs hx hdp hun
    exact Runs.cons ok (Run1.dat ok hLN 1 (EvD.bin ok (EvD.bin ok (EvD.cint) (EvD.tT ok (B_int hW) (kg hE (by with_unfolding_all rfl)) CallD1.int (EvD.call ok (ArD.cons ok (EvD.slice ok (EvD.attr ok (EvD.nm ok hxs 0 rfl) (Fd_130_3 hW) (by decide) (by decide)) (.some (EvD.cint)) (.some (EvD.cint))) (ArD.nil)) (C52 hW (fun h => nomatch h) hdp hun (by decide)) (kg hE (by with_unfolding_all rfl)))) (OpD.mul ok)) (EvD.tT ok (B_int hW) (kg hE (by with_unfolding_all rfl)) CallD1.int (EvD.call ok (ArD.cons ok (EvD.slice ok (EvD.attr ok (EvD.nm ok hxs 0 rfl) (Fd_130_3 hW) (by decide) (by decide)) (.some (EvD.cint)) (.some (EvD.cint))) (ArD.nil)) (C52 hW (fun h => nomatch h) hdp hun (by decide)) (kg hE (by with_unfolding_all rfl)))) (OpD.add ok)) (xi hxs (i := 1) rfl)) (Runs.cons ok (Run1.ret (EvD.ifE ok (TeD.cmp ok (EvD.slice ok (EvD.attr ok (EvD.nm ok hxs 0 rfl) (Fd_130_3 hW) (by decide) (by decide)) .none (.some (EvD.cint))) (EvD.cbytes) (CmpD.eq ok)) (EvD.neg (EvD.nm ok hxs 1 rfl)) (EvD.nm ok hxs 1 rfl))) (Runs.nil))
theorem C148 {C : Cx} {n : Nat} (hW : C.W = wd w mean mg mb) (hx : false = true → FsOk C) (hd : C.dp + n < 900) (hu : C.un + 4 * n < 2000) (hn : 2 ≤ n) : Callee C "person_minutes" 148 F148 := callee hW G_person_minutes (by kernel_rfl!) D148 hx hd hu hn

/-! object_rows -/
noncomputable def g160 : SF := seqF (retF (compF (binF splitO (nameF 0) (cstF (.bytes [10]))) (bF true) (callF F106 (consA (nameF 0) (consA (cstF (.bytes [32, 9, 13, 11, 12])) (nilA)))))) (doneF')
noncomputable def F160 : FF := runF 1 0 g160
set_option maxHeartbeats 4000000 in
theorem D160 : FnD (wd w mean mg mb) 160 2 false F160 := by
  refine FnD.of_runs 1 ["message"] (by with_unfolding_all exact rfl) (by kernel_rfl!) ?_ (by decide +kernel) (by decide +kernel) (by decide) rfl rfl rfl (by decide +kernel) ?_
  · intro vs hv
    obtain ⟨v0, t0, rfl, h0⟩ := lenS hv
    obtain rfl := List.length_eq_zero_iff.mp h0
    rfl
  · intro C ok hW hLN hE hxs hx hdp hun
    exact Runs.cons ok (Run1.ret (EvD.comp ok hLN (EvD.split ok (EvD.nm ok hxs 0 rfl) (EvD.cbytes)) (fun C' h1 => .none) (fun C' h1 => EvD.call h1.ok (ArD.cons h1.ok (EvD.nm h1.ok h1.xs 0 rfl) (ArD.cons h1.ok (EvD.gc h1.ok (G_OBJECT_BLANKS (h1.W hW)) (h1.kg (by with_unfolding_all rfl)) fun _ _ _ => .bytes _ _) (ArD.nil))) (C106 (h1.W hW) (fun h => nomatch h) (h1.dp hdp) (h1.un hun) (by decide)) (h1.kg (by with_unfolding_all rfl))) (by rw [hE]; rfl) (by decide +kernel) rfl (by decide +kernel) rfl rfl)) (Runs.nil)
theorem C160 {C : Cx} {n : Nat} (hW : C.W = wd w mean mg mb) (hx : false = true → FsOk C) (hd : C.dp + n < 900) (hu : C.un + 4 * n < 2000) (hn : 2 ≤ n) : Callee C "object_rows" 160 F160 := callee hW G_object_rows (by kernel_rfl!) D160 hx hd hu hn

/-! object_subject -/
noncomputable def g167 : SF := seqF (tupS1 [2, 1] (tupF (consA (callF F160 (consA (nameF 0) (nilA))) (consA (cstF (.int 0)) (nilA))))) (seqF (whileF (andF (cmpF ltO (nameF 2) (unF lenO (nameF 1))) (andF (cmpF eqO (binF itemO (nameF 1) (nameF 2)) (cstF (.bytes []))) (bF true))) (seqF (augF 2 addO (cstF (.int 1))) (doneF')) 1000000) (seqF (datF 3 (nameF 2)) (seqF (whileF (andF (cmpF ltO (nameF 2) (unF lenO (nameF 1))) (andF (cmpF neO (binF itemO (nameF 1) (nameF 2)) (cstF (.bytes []))) (bF true))) (seqF (augF 2 addO (cstF (.int 1))) (doneF')) 1000000) (seqF (retF (tupF (consA (binF joinO (cstF (.bytes [32])) (sliceF (nameF 1) (some (nameF 3)) (some (nameF 2)))) (consA (nameF 2) (nilA))))) (doneF')))))
noncomputable def F167 : FF := runF 1 3 g167
set_option maxHeartbeats 4000000 in
theorem D167 : FnD (wd w mean mg mb) 167 3 false F167 := by
  refine FnD.of_runs 1 ["message", "rows", "at", "start"] (by with_unfolding_all exact rfl) (by kernel_rfl!) ?_ (by decide +kernel) (by decide +kernel) (by decide) rfl rfl rfl (by decide +kernel) ?_
  · intro vs hv
    obtain ⟨v0, t0, rfl, h0⟩ := lenS hv
    obtain rfl := List.length_eq_zero_iff.mp h0
    rfl
  · intro C ok hW hLN hE hxs hx hdp hun
    exact Runs.cons ok (Run1.tupS ok hLN (EvD.tup ok (ArD.cons ok (EvD.call ok (ArD.cons ok (EvD.nm ok hxs 0 rfl) (ArD.nil)) (C160 hW (fun h => nomatch h) hdp hun (by decide)) (kg hE (by with_unfolding_all rfl))) (ArD.cons ok (EvD.cint) (ArD.nil)))) (names := ["rows", "at"]) (.cons (x := "at") (xi hxs (i := 2) rfl) (.cons (x := "rows") (xi hxs (i := 1) rfl) (.nil))) (by rw [hE]; rfl) (by rw [hE]; rfl)) (Runs.cons ok (Run1.while ok 1000000 (TeD.and (TeD.cmp ok (EvD.nm ok hxs 2 rfl) (EvD.bB ok (B_len hW) (kg hE (by with_unfolding_all rfl)) CallD1.len (EvD.nm ok hxs 1 rfl)) CmpD.lt) (TeD.and (TeD.cmp ok (EvD.item ok (EvD.nm ok hxs 1 rfl) (EvD.nm ok hxs 2 rfl)) (EvD.cbytes) (CmpD.eq ok)) (TeD.and0))) (Runs.cons ok (Run1.augAdd ok hLN 2 (EvD.cint) (xi hxs (i := 2) rfl)) (Runs.nil))) (Runs.cons ok (Run1.dat ok hLN 3 (EvD.nm ok hxs 2 rfl) (xi hxs (i := 3) rfl)) (Runs.cons ok (Run1.while ok 1000000 (TeD.and (TeD.cmp ok (EvD.nm ok hxs 2 rfl) (EvD.bB ok (B_len hW) (kg hE (by with_unfolding_all rfl)) CallD1.len (EvD.nm ok hxs 1 rfl)) CmpD.lt) (TeD.and (TeD.cmp ok (EvD.item ok (EvD.nm ok hxs 1 rfl) (EvD.nm ok hxs 2 rfl)) (EvD.cbytes) (CmpD.ne ok)) (TeD.and0))) (Runs.cons ok (Run1.augAdd ok hLN 2 (EvD.cint) (xi hxs (i := 2) rfl)) (Runs.nil))) (Runs.cons ok (Run1.ret (EvD.tup ok (ArD.cons ok (EvD.join ok (EvD.cbytes) (EvD.slice ok (EvD.nm ok hxs 1 rfl) (.some (EvD.nm ok hxs 3 rfl)) (.some (EvD.nm ok hxs 2 rfl)))) (ArD.cons ok (EvD.nm ok hxs 2 rfl) (ArD.nil))))) (Runs.nil)))))
theorem C167 {C : Cx} {n : Nat} (hW : C.W = wd w mean mg mb) (hx : false = true → FsOk C) (hd : C.dp + n < 900) (hu : C.un + 4 * n < 2000) (hn : 3 ≤ n) : Callee C "object_subject" 167 F167 := callee hW G_object_subject (by kernel_rfl!) D167 hx hd hu hn

/-! object_trailer_of -/
noncomputable def g174 : SF := seqF (datF 1 (binF findO (nameF 0) (cstF (.bytes [58])))) (seqF (datF 2 (ifF (cmpF gtO (nameF 1) (cstF (.int 0))) (callF F106 (consA (sliceF (nameF 0) none (some (nameF 1))) (consA (cstF (.bytes [32, 9, 13, 11, 12])) (nilA)))) (cstF (.bytes [])))) (seqF (brF (cmpF eqO (nameF 2) (cstF (.bytes []))) (seqF (retF (cstF .none)) (doneF')) (doneF')) (seqF (forF 3 (nameF 2) (seqF (brF (notF (orF (chainF leO leO (cstF (.int 48)) (nameF 3) (cstF (.int 57))) (orF (chainF leO leO (cstF (.int 65)) (nameF 3) (cstF (.int 90))) (orF (chainF leO leO (cstF (.int 97)) (nameF 3) (cstF (.int 122))) (orF (cmpF eqO (nameF 3) (cstF (.int 45))) (bF false)))))) (seqF (retF (cstF .none)) (doneF')) (doneF')) (doneF'))) (seqF (retF (tupF (consA (nameF 2) (consA (callF F99 (consA (sliceF (nameF 0) (some (binF addO (nameF 1) (cstF (.int 1)))) none) (consA (cstF (.bytes [32, 9, 13, 11, 12])) (nilA)))) (nilA))))) (doneF')))))
noncomputable def F174 : FF := runF 1 3 g174
set_option maxHeartbeats 4000000 in
theorem D174 : FnD (wd w mean mg mb) 174 2 false F174 := by
  refine FnD.of_runs 1 ["row", "end", "key", "sign"] (by with_unfolding_all exact rfl) (by kernel_rfl!) ?_ (by decide +kernel) (by decide +kernel) (by decide) rfl rfl rfl (by decide +kernel) ?_
  · intro vs hv
    obtain ⟨v0, t0, rfl, h0⟩ := lenS hv
    obtain rfl := List.length_eq_zero_iff.mp h0
    rfl
  · intro C ok hW hLN hE hxs hx hdp hun
    exact Runs.cons ok (Run1.dat ok hLN 1 (EvD.find ok (EvD.nm ok hxs 0 rfl) (EvD.cbytes)) (xi hxs (i := 1) rfl)) (Runs.cons ok (Run1.dat ok hLN 2 (EvD.ifE ok (TeD.cmp ok (EvD.nm ok hxs 1 rfl) (EvD.cint) CmpD.gt) (EvD.call ok (ArD.cons ok (EvD.slice ok (EvD.nm ok hxs 0 rfl) .none (.some (EvD.nm ok hxs 1 rfl))) (ArD.cons ok (EvD.gc ok (G_OBJECT_BLANKS hW) (kg hE (by with_unfolding_all rfl)) fun _ _ _ => .bytes _ _) (ArD.nil))) (C106 hW (fun h => nomatch h) hdp hun (by decide)) (kg hE (by with_unfolding_all rfl))) (EvD.cbytes)) (xi hxs (i := 2) rfl)) (Runs.cons ok (Run1.if ok (TeD.cmp ok (EvD.nm ok hxs 2 rfl) (EvD.cbytes) (CmpD.eq ok)) (Runs.cons ok (Run1.ret (EvD.cnone)) (Runs.nil)) (Runs.nil)) (Runs.cons ok (Run1.for ok hLN 3 (EvD.nm ok hxs 2 rfl) (Runs.cons ok (Run1.if ok (TeD.not (TeD.or (TeD.chain ok (EvD.cint) (EvD.nm ok hxs 3 rfl) (EvD.cint) CmpD.le CmpD.le) (TeD.or (TeD.chain ok (EvD.cint) (EvD.nm ok hxs 3 rfl) (EvD.cint) CmpD.le CmpD.le) (TeD.or (TeD.chain ok (EvD.cint) (EvD.nm ok hxs 3 rfl) (EvD.cint) CmpD.le CmpD.le) (TeD.or (TeD.cmp ok (EvD.nm ok hxs 3 rfl) (EvD.cint) (CmpD.eq ok)) (TeD.or0)))))) (Runs.cons ok (Run1.ret (EvD.cnone)) (Runs.nil)) (Runs.nil)) (Runs.nil)) (xi hxs (i := 3) rfl)) (Runs.cons ok (Run1.ret (EvD.tup ok (ArD.cons ok (EvD.nm ok hxs 2 rfl) (ArD.cons ok (EvD.call ok (ArD.cons ok (EvD.slice ok (EvD.nm ok hxs 0 rfl) (.some (EvD.bin ok (EvD.nm ok hxs 1 rfl) (EvD.cint) (OpD.add ok))) .none) (ArD.cons ok (EvD.gc ok (G_OBJECT_BLANKS hW) (kg hE (by with_unfolding_all rfl)) fun _ _ _ => .bytes _ _) (ArD.nil))) (C99 hW (fun h => nomatch h) hdp hun (by decide)) (kg hE (by with_unfolding_all rfl))) (ArD.nil))))) (Runs.nil)))))
theorem C174 {C : Cx} {n : Nat} (hW : C.W = wd w mean mg mb) (hx : false = true → FsOk C) (hd : C.dp + n < 900) (hu : C.un + 4 * n < 2000) (hn : 2 ≤ n) : Callee C "object_trailer_of" 174 F174 := callee hW G_object_trailer_of (by kernel_rfl!) D174 hx hd hu hn

/-! object_last_part -/
noncomputable def g181 : SF := seqF (asgF 1 (callF F160 (consA (nameF 0) (nilA)))) (seqF (whileF (andF (cmpF gtO (unF lenO (nameF 1)) (cstF (.int 0))) (andF (cmpF eqO (binF itemO (nameF 1) (unF negO (cstF (.int 1)))) (cstF (.bytes []))) (bF true))) (seqF (popF 1) (doneF')) 1000000) (seqF (datF 2 (unF lenO (nameF 1))) (seqF (whileF (andF (cmpF gtO (nameF 2) (cstF (.int 0))) (andF (cmpF neO (binF itemO (nameF 1) (binF subO (nameF 2) (cstF (.int 1)))) (cstF (.bytes []))) (bF true))) (seqF (augF 2 subO (cstF (.int 1))) (doneF')) 1000000) (seqF (forF 3 (sliceF (nameF 1) none (some (nameF 2))) (seqF (brF (cmpF neO (nameF 3) (cstF (.bytes []))) (seqF (retF (sliceF (nameF 1) (some (nameF 2)) none)) (doneF')) (doneF')) (doneF'))) (seqF (retF (lstF (nilA))) (doneF'))))))
noncomputable def F181 : FF := runF 1 3 g181
set_option maxHeartbeats 4000000 in
theorem D181 : FnD (wd w mean mg mb) 181 3 false F181 := by
  refine FnD.of_runs 1 ["message", "rows", "start", "row"] (by with_unfolding_all exact rfl) (by kernel_rfl!) ?_ (by decide +kernel) (by decide +kernel) (by decide) rfl rfl rfl (by decide +kernel) ?_
  · intro vs hv
    obtain ⟨v0, t0, rfl, h0⟩ := lenS hv
    obtain rfl := List.length_eq_zero_iff.mp h0
    rfl
  · intro C ok hW hLN hE hxs hx hdp hun
    exact Runs.cons ok (Run1.asg ok hLN 1 (EvD.call ok (ArD.cons ok (EvD.nm ok hxs 0 rfl) (ArD.nil)) (C160 hW (fun h => nomatch h) hdp hun (by decide)) (kg hE (by with_unfolding_all rfl))) (xi hxs (i := 1) rfl)) (Runs.cons ok (Run1.while ok 1000000 (TeD.and (TeD.cmp ok (EvD.bB ok (B_len hW) (kg hE (by with_unfolding_all rfl)) CallD1.len (EvD.nm ok hxs 1 rfl)) (EvD.cint) CmpD.gt) (TeD.and (TeD.cmp ok (EvD.item ok (EvD.nm ok hxs 1 rfl) (EvD.neg (EvD.cint))) (EvD.cbytes) (CmpD.eq ok)) (TeD.and0))) (Runs.cons ok (Run1.pop ok 1 (xi hxs (i := 1) rfl) rfl) (Runs.nil))) (Runs.cons ok (Run1.dat ok hLN 2 (EvD.bB ok (B_len hW) (kg hE (by with_unfolding_all rfl)) CallD1.len (EvD.nm ok hxs 1 rfl)) (xi hxs (i := 2) rfl)) (Runs.cons ok (Run1.while ok 1000000 (TeD.and (TeD.cmp ok (EvD.nm ok hxs 2 rfl) (EvD.cint) CmpD.gt) (TeD.and (TeD.cmp ok (EvD.item ok (EvD.nm ok hxs 1 rfl) (EvD.bin ok (EvD.nm ok hxs 2 rfl) (EvD.cint) OpD.sub)) (EvD.cbytes) (CmpD.ne ok)) (TeD.and0))) (Runs.cons ok (Run1.augSub ok hLN 2 (EvD.cint) (xi hxs (i := 2) rfl)) (Runs.nil))) (Runs.cons ok (Run1.for ok hLN 3 (EvD.slice ok (EvD.nm ok hxs 1 rfl) .none (.some (EvD.nm ok hxs 2 rfl))) (Runs.cons ok (Run1.if ok (TeD.cmp ok (EvD.nm ok hxs 3 rfl) (EvD.cbytes) (CmpD.ne ok)) (Runs.cons ok (Run1.ret (EvD.slice ok (EvD.nm ok hxs 1 rfl) (.some (EvD.nm ok hxs 2 rfl)) .none)) (Runs.nil)) (Runs.nil)) (Runs.nil)) (xi hxs (i := 3) rfl)) (Runs.cons ok (Run1.ret (EvD.lst ok (ArD.nil))) (Runs.nil))))))
theorem C181 {C : Cx} {n : Nat} (hW : C.W = wd w mean mg mb) (hx : false = true → FsOk C) (hd : C.dp + n < 900) (hu : C.un + 4 * n < 2000) (hn : 3 ≤ n) : Callee C "object_last_part" 181 F181 := callee hW G_object_last_part (by kernel_rfl!) D181 hx hd hu hn

/-! object_trailers -/
noncomputable def g188 : SF := seqF (Mine.ownFirst 1 [2, 3, 4, 5] (lstF (nilA)) (consA (cstF (.int 0)) (consA (cstF (.int 0)) (consA (cstF (.int 0)) (consA (cstF (.bool false)) (nilA)))))) (seqF (forF 6 (callF F181 (consA (nameF 0) (nilA))) (seqF (datF 7 (ifF (cmpF ninO (sliceF (nameF 6) none (some (cstF (.int 1)))) (tupF (consA (cstF (.bytes [32])) (consA (cstF (.bytes [9])) (nilA))))) (callF F174 (consA (nameF 6) (nilA))) (cstF .none))) (seqF (brF (valF (binF startsO (nameF 6) (cstF (.bytes [40, 99, 104, 101, 114, 114, 121, 32, 112, 105, 99, 107, 101, 100, 32, 102, 114, 111, 109, 32, 99, 111, 109, 109, 105, 116, 32])))) (seqF (tupS1 [5, 4, 3] (tupF (consA (binF addO (nameF 3) (cstF (.int 1))) (consA (binF addO (nameF 4) (cstF (.int 1))) (consA (cstF (.bool false)) (nilA)))))) (doneF')) (seqF (brF (cmpF isnO (nameF 7) (cstF .none)) (seqF (ownF 1 pushO (nameF 7)) (seqF (tupS1 [5, 4] (tupF (consA (binF addO (nameF 4) (unF intO (boolF (cmpF eqO (binF itemO (nameF 7) (cstF (.int 0))) (cstF (.bytes [83, 105, 103, 110, 101, 100, 45, 111, 102, 102, 45, 98, 121])))))) (consA (cstF (.bool true)) (nilA))))) (doneF'))) (seqF (brF (andF (valF (nameF 5)) (andF (cmpF inO (sliceF (nameF 6) none (some (cstF (.int 1)))) (tupF (consA (cstF (.bytes [32])) (consA (cstF (.bytes [9])) (nilA))))) (bF true))) (seqF (tupF1 [8, 9] (binF itemO (nameF 1) (unF negO (cstF (.int 1))))) (seqF (ownF 1 setLastO (tupF (consA (nameF 8) (consA (callF F99 (consA (binF addO (binF addO (nameF 9) (cstF (.bytes [32]))) (callF F99 (consA (nameF 6) (consA (cstF (.bytes [32, 9, 13, 11, 12])) (nilA))))) (consA (cstF (.bytes [32, 9, 13, 11, 12])) (nilA)))) (nilA))))) (doneF'))) (seqF (tupS1 [5, 2] (tupF (consA (binF addO (nameF 2) (cstF (.int 1))) (consA (cstF (.bool false)) (nilA))))) (doneF'))) (doneF'))) (doneF'))) (doneF')))) (seqF (brF (andF (cmpF gtO (nameF 2) (cstF (.int 0))) (andF (orF (cmpF eqO (nameF 4) (cstF (.int 0))) (orF (cmpF ltO (binF mulO (cstF (.int 3)) (binF addO (unF lenO (nameF 1)) (nameF 3))) (nameF 2)) (bF false))) (bF true))) (seqF (retF (lstF (nilA))) (doneF')) (doneF')) (seqF (retF (nameF 1)) (doneF'))))
noncomputable def F188 : FF := runF 1 9 g188
set_option maxHeartbeats 4000000 in
theorem D188 : FnD (wd w mean mg mb) 188 4 false F188 := by
  refine FnD.of_runs 1 ["message", "found", "others", "picked", "made", "is_open", "row", "told", "key", "value"] (by with_unfolding_all exact rfl) (by kernel_rfl!) ?_ (by decide +kernel) (by decide +kernel) (by decide) rfl rfl rfl (by decide +kernel) ?_
  · intro vs hv
    obtain ⟨v0, t0, rfl, h0⟩ := lenS hv
    obtain rfl := List.length_eq_zero_iff.mp h0
    rfl
  · intro C ok hW hLN hE hxs hx hdp hun
    exact Runs.cons ok (Run1.ownFirst ok hLN (EvD.lst ok (ArD.nil)) (ArD.cons ok (EvD.cint) (ArD.cons ok (EvD.cint) (ArD.cons ok (EvD.cint) (ArD.cons ok (EvD.cbool) (ArD.nil))))) rfl (xi hxs (i := 1) rfl) rfl (Stores.nm rfl) (.cons "others" (xi hxs (i := 2) rfl) (Stores.nm rfl) (.cons "picked" (xi hxs (i := 3) rfl) (Stores.nm rfl) (.cons "made" (xi hxs (i := 4) rfl) (Stores.nm rfl) (.cons "is_open" (xi hxs (i := 5) rfl) (Stores.nm rfl) (.nil))))) rfl rfl rfl) (Runs.cons ok (Run1.for ok hLN 6 (EvD.call ok (ArD.cons ok (EvD.nm ok hxs 0 rfl) (ArD.nil)) (C181 hW (fun h => nomatch h) hdp hun (by decide)) (kg hE (by with_unfolding_all rfl))) (Runs.cons ok (Run1.dat ok hLN 7 (EvD.ifE ok (TeD.cmp ok (EvD.slice ok (EvD.nm ok hxs 6 rfl) .none (.some (EvD.cint))) (EvD.tup ok (ArD.cons ok (EvD.cbytes) (ArD.cons ok (EvD.cbytes) (ArD.nil)))) CmpD.nin) (EvD.call ok (ArD.cons ok (EvD.nm ok hxs 6 rfl) (ArD.nil)) (C174 hW (fun h => nomatch h) hdp hun (by decide)) (kg hE (by with_unfolding_all rfl))) (EvD.cnone)) (xi hxs (i := 7) rfl)) (Runs.cons ok (Run1.if ok (TeD.tv (EvD.starts ok (EvD.nm ok hxs 6 rfl) (EvD.gc ok (G_OBJECT_PICKED hW) (kg hE (by with_unfolding_all rfl)) fun _ _ _ => .bytes _ _))) (Runs.cons ok (Run1.tupS ok hLN (EvD.tup ok (ArD.cons ok (EvD.bin ok (EvD.nm ok hxs 3 rfl) (EvD.cint) (OpD.add ok)) (ArD.cons ok (EvD.bin ok (EvD.nm ok hxs 4 rfl) (EvD.cint) (OpD.add ok)) (ArD.cons ok (EvD.cbool) (ArD.nil))))) (names := ["picked", "made", "is_open"]) (.cons (x := "is_open") (xi hxs (i := 5) rfl) (.cons (x := "made") (xi hxs (i := 4) rfl) (.cons (x := "picked") (xi hxs (i := 3) rfl) (.nil)))) (by rw [hE]; rfl) (by rw [hE]; rfl)) (Runs.nil)) (Runs.cons ok (Run1.if ok (TeD.cmp ok (EvD.nm ok hxs 7 rfl) (EvD.cnone) CmpD.isn) (Runs.cons ok (Run1.append ok 1 (EvD.nm ok hxs 7 rfl) (xi hxs (i := 1) rfl) rfl rfl) (Runs.cons ok (Run1.tupS ok hLN (EvD.tup ok (ArD.cons ok (EvD.bin ok (EvD.nm ok hxs 4 rfl) (EvD.tT ok (B_int hW) (kg hE (by with_unfolding_all rfl)) CallD1.int (EvD.cmp ok (EvD.item ok (EvD.nm ok hxs 7 rfl) (EvD.cint)) (EvD.gc ok (G_OBJECT_SIGNED_OFF hW) (kg hE (by with_unfolding_all rfl)) fun _ _ _ => .bytes _ _) (CmpD.eq ok))) (OpD.add ok)) (ArD.cons ok (EvD.cbool) (ArD.nil)))) (names := ["made", "is_open"]) (.cons (x := "is_open") (xi hxs (i := 5) rfl) (.cons (x := "made") (xi hxs (i := 4) rfl) (.nil))) (by rw [hE]; rfl) (by rw [hE]; rfl)) (Runs.nil))) (Runs.cons ok (Run1.if ok (TeD.and (TeD.tv (EvD.nm ok hxs 5 rfl)) (TeD.and (TeD.cmp ok (EvD.slice ok (EvD.nm ok hxs 6 rfl) .none (.some (EvD.cint))) (EvD.tup ok (ArD.cons ok (EvD.cbytes) (ArD.cons ok (EvD.cbytes) (ArD.nil)))) CmpD.in) (TeD.and0))) (Runs.cons ok (Run1.tup1 ok hLN (EvD.item ok (EvD.nm ok hxs 1 rfl) (EvD.neg (EvD.cint))) (.cons "key" (xi hxs (i := 8) rfl) (Stores.nm rfl) (.cons "value" (xi hxs (i := 9) rfl) (Stores.nm rfl) (.nil))) rfl rfl rfl) (Runs.cons ok (Run1.setLast ok 1 (EvD.tup ok (ArD.cons ok (EvD.nm ok hxs 8 rfl) (ArD.cons ok (EvD.call ok (ArD.cons ok (EvD.bin ok (EvD.bin ok (EvD.nm ok hxs 9 rfl) (EvD.cbytes) (OpD.add ok)) (EvD.call ok (ArD.cons ok (EvD.nm ok hxs 6 rfl) (ArD.cons ok (EvD.gc ok (G_OBJECT_BLANKS hW) (kg hE (by with_unfolding_all rfl)) fun _ _ _ => .bytes _ _) (ArD.nil))) (C99 hW (fun h => nomatch h) hdp hun (by decide)) (kg hE (by with_unfolding_all rfl))) (OpD.add ok)) (ArD.cons ok (EvD.gc ok (G_OBJECT_BLANKS hW) (kg hE (by with_unfolding_all rfl)) fun _ _ _ => .bytes _ _) (ArD.nil))) (C99 hW (fun h => nomatch h) hdp hun (by decide)) (kg hE (by with_unfolding_all rfl))) (ArD.nil)))) (xi hxs (i := 1) rfl)) (Runs.nil))) (Runs.cons ok (Run1.tupS ok hLN (EvD.tup ok (ArD.cons ok (EvD.bin ok (EvD.nm ok hxs 2 rfl) (EvD.cint) (OpD.add ok)) (ArD.cons ok (EvD.cbool) (ArD.nil)))) (names := ["others", "is_open"]) (.cons (x := "is_open") (xi hxs (i := 5) rfl) (.cons (x := "others") (xi hxs (i := 2) rfl) (.nil))) (by rw [hE]; rfl) (by rw [hE]; rfl)) (Runs.nil))) (Runs.nil))) (Runs.nil))) (Runs.nil))) (xi hxs (i := 6) rfl)) (Runs.cons ok (Run1.if ok (TeD.and (TeD.cmp ok (EvD.nm ok hxs 2 rfl) (EvD.cint) CmpD.gt) (TeD.and (TeD.or (TeD.cmp ok (EvD.nm ok hxs 4 rfl) (EvD.cint) (CmpD.eq ok)) (TeD.or (TeD.cmp ok (EvD.bin ok (EvD.cint) (EvD.bin ok (EvD.bB ok (B_len hW) (kg hE (by with_unfolding_all rfl)) CallD1.len (EvD.nm ok hxs 1 rfl)) (EvD.nm ok hxs 3 rfl) (OpD.add ok)) (OpD.mul ok)) (EvD.nm ok hxs 2 rfl) CmpD.lt) (TeD.or0))) (TeD.and0))) (Runs.cons ok (Run1.ret (EvD.lst ok (ArD.nil))) (Runs.nil)) (Runs.nil)) (Runs.cons ok (Run1.ret (EvD.nm ok hxs 1 rfl)) (Runs.nil))))
theorem C188 {C : Cx} {n : Nat} (hW : C.W = wd w mean mg mb) (hx : false = true → FsOk C) (hd : C.dp + n < 900) (hu : C.un + 4 * n < 2000) (hn : 4 ≤ n) : Callee C "object_trailers" 188 F188 := callee hW G_object_trailers (by kernel_rfl!) D188 hx hd hu hn

/-! Commit.subject -/
noncomputable def g216 : SF := seqF (retF (binF itemO (callF F167 (consA (attrF 219 5 (nameF 0)) (nilA))) (cstF (.int 0)))) (doneF')
noncomputable def F216 : FF := runF 1 0 g216
set_option maxHeartbeats 4000000 in
theorem D216 : FnD (wd w mean mg mb) 216 4 false F216 := by
  refine FnD.of_runs 1 ["self"] (by with_unfolding_all exact rfl) (by kernel_rfl!) ?_ (by decide +kernel) (by decide +kernel) (by decide) rfl rfl rfl (by decide +kernel) ?_
  · intro vs hv
    obtain ⟨v0, t0, rfl, h0⟩ := lenS hv
    obtain rfl := List.length_eq_zero_iff.mp h0
    rfl
  · intro C ok hW hLN hE hxs hx hdp hun
    exact Runs.cons ok (Run1.ret (EvD.item ok (EvD.call ok (ArD.cons ok (EvD.attr ok (EvD.nm ok hxs 0 rfl) (Fd_219_5 hW) (by decide) (by decide)) (ArD.nil)) (C167 hW (fun h => nomatch h) hdp hun (by decide)) (kg hE (by with_unfolding_all rfl))) (EvD.cint))) (Runs.nil)

/-! _law_draw -/
noncomputable def g235 : SF := seqF (deckTurn 0 (binF addO (deckI 0 true) (cstF (.int 1)))) (seqF (datF 2 (binF addO (deckI 0 false) (binF mulO (binF mulO (cstF (.int 60344)) (deckI 0 true)) (deckI 0 true)))) (seqF (brF (deckHas 0) (seqF (datF 3 (deckPop 0)) (seqF (brF (cmpF geO (nameF 3) (cstF (.int 1000000))) (seqF (deckPush 0 (binF divO (nameF 3) (nameF 1))) (seqF (retF (binF modO (nameF 3) (nameF 1))) (doneF'))) (doneF')) (seqF (datF 2 (binF addO (nameF 2) (binF modO (nameF 3) (cstF (.int 2147483563))))) (doneF')))) (doneF')) (seqF (datF 2 (binF modO (binF mulO (binF modO (nameF 2) (cstF (.int 2147483629))) (cstF (.int 40692))) (cstF (.int 2147483647)))) (seqF (datF 2 (binF modO (binF addO (binF mulO (nameF 2) (nameF 2)) (cstF (.int 344))) (cstF (.int 2147483587)))) (seqF (retF (binF modO (binF divO (binF modO (binF mulO (nameF 2) (cstF (.int 39373))) (cstF (.int 2147483579))) (cstF (.int 64))) (nameF 1))) (doneF'))))))
noncomputable def F235 : FF := runF 2 2 g235
set_option maxHeartbeats 4000000 in
theorem D235 : FnD (wd w mean mg mb) 235 1 false F235 := by
  refine FnD.of_runs 2 ["deck", "below", "figure", "cell"] (by with_unfolding_all exact rfl) (by kernel_rfl!) ?_ (by decide +kernel) (by decide +kernel) (by decide) rfl rfl rfl (by decide +kernel) ?_
  · intro vs hv
    obtain ⟨v0, t0, rfl, h0⟩ := lenS hv
    obtain ⟨v1, t1, rfl, h1⟩ := lenS h0
    obtain rfl := List.length_eq_zero_iff.mp h1
    rfl
  · intro C ok hW hLN hE hxs hx hdp hun
    exact Runs.cons ok (Run1.deckTurn ok 0 (EvD.bin ok (EvD.deckI ok 0 true (xi hxs rfl) rfl) (EvD.cint) (OpD.add ok)) (xi hxs rfl)) (Runs.cons ok (Run1.dat ok hLN 2 (EvD.bin ok (EvD.deckI ok 0 false (xi hxs rfl) rfl) (EvD.bin ok (EvD.bin ok (EvD.cint) (EvD.deckI ok 0 true (xi hxs rfl) rfl) (OpD.mul ok)) (EvD.deckI ok 0 true (xi hxs rfl) rfl) (OpD.mul ok)) (OpD.add ok)) (xi hxs (i := 2) rfl)) (Runs.cons ok (Run1.if ok (TeD.deckHas ok 0 (xi hxs rfl)) (Runs.cons ok (Run1.dat ok hLN 3 (EvD.deckPop ok 0 (xi hxs rfl) rfl) (xi hxs (i := 3) rfl)) (Runs.cons ok (Run1.if ok (TeD.cmp ok (EvD.nm ok hxs 3 rfl) (EvD.cint) CmpD.ge) (Runs.cons ok (Run1.deckPush ok 0 (EvD.bin ok (EvD.nm ok hxs 3 rfl) (EvD.nm ok hxs 1 rfl) OpD.div) (xi hxs rfl) rfl rfl) (Runs.cons ok (Run1.ret (EvD.bin ok (EvD.nm ok hxs 3 rfl) (EvD.nm ok hxs 1 rfl) OpD.mod)) (Runs.nil))) (Runs.nil)) (Runs.cons ok (Run1.dat ok hLN 2 (EvD.bin ok (EvD.nm ok hxs 2 rfl) (EvD.bin ok (EvD.nm ok hxs 3 rfl) (EvD.cint) OpD.mod) (OpD.add ok)) (xi hxs (i := 2) rfl)) (Runs.nil)))) (Runs.nil)) (Runs.cons ok (Run1.dat ok hLN 2 (EvD.bin ok (EvD.bin ok (EvD.bin ok (EvD.nm ok hxs 2 rfl) (EvD.cint) OpD.mod) (EvD.cint) (OpD.mul ok)) (EvD.cint) OpD.mod) (xi hxs (i := 2) rfl)) (Runs.cons ok (Run1.dat ok hLN 2 (EvD.bin ok (EvD.bin ok (EvD.bin ok (EvD.nm ok hxs 2 rfl) (EvD.nm ok hxs 2 rfl) (OpD.mul ok)) (EvD.cint) (OpD.add ok)) (EvD.cint) OpD.mod) (xi hxs (i := 2) rfl)) (Runs.cons ok (Run1.ret (EvD.bin ok (EvD.bin ok (EvD.bin ok (EvD.bin ok (EvD.nm ok hxs 2 rfl) (EvD.cint) (OpD.mul ok)) (EvD.cint) OpD.mod) (EvD.cint) OpD.div) (EvD.nm ok hxs 1 rfl) OpD.mod)) (Runs.nil))))))
theorem C235 {C : Cx} {n : Nat} (hW : C.W = wd w mean mg mb) (hx : false = true → FsOk C) (hd : C.dp + n < 900) (hu : C.un + 4 * n < 2000) (hn : 1 ≤ n) : Callee C "_law_draw" 235 F235 := callee hW G__law_draw (by kernel_rfl!) D235 hx hd hu hn

/-! _law_pick -/
noncomputable def g242 : SF := seqF (retF (binF itemO (nameF 1) (callF F235 (consA (nameF 0) (consA (unF lenO (nameF 1)) (nilA)))))) (doneF')
noncomputable def F242 : FF := runF 2 0 g242
set_option maxHeartbeats 4000000 in
theorem D242 : FnD (wd w mean mg mb) 242 2 false F242 := by
  refine FnD.of_runs 2 ["deck", "some"] (by with_unfolding_all exact rfl) (by kernel_rfl!) ?_ (by decide +kernel) (by decide +kernel) (by decide) rfl rfl rfl (by decide +kernel) ?_
  · intro vs hv
    obtain ⟨v0, t0, rfl, h0⟩ := lenS hv
    obtain ⟨v1, t1, rfl, h1⟩ := lenS h0
    obtain rfl := List.length_eq_zero_iff.mp h1
    rfl
  · intro C ok hW hLN hE hxs hx hdp hun
    exact Runs.cons ok (Run1.ret (EvD.item ok (EvD.nm ok hxs 1 rfl) (EvD.call ok (ArD.cons ok (EvD.nm ok hxs 0 rfl) (ArD.cons ok (EvD.bB ok (B_len hW) (kg hE (by with_unfolding_all rfl)) CallD1.len (EvD.nm ok hxs 1 rfl)) (ArD.nil))) (C235 hW (fun h => nomatch h) hdp hun (by decide)) (kg hE (by with_unfolding_all rfl))))) (Runs.nil)
theorem C242 {C : Cx} {n : Nat} (hW : C.W = wd w mean mg mb) (hx : false = true → FsOk C) (hd : C.dp + n < 900) (hu : C.un + 4 * n < 2000) (hn : 2 ≤ n) : Callee C "_law_pick" 242 F242 := callee hW G__law_pick (by kernel_rfl!) D242 hx hd hu hn

/-! _law_number -/
noncomputable def g249 : SF := seqF (datF 1 (cstF .none)) (seqF (forF 2 (nameF 0) (seqF (brF (orF (notF (chainF leO leO (cstF (.int 48)) (nameF 2) (cstF (.int 57)))) (orF (cmpF eqO (nameF 1) (cstF (.int 0))) (bF false))) (seqF (retF (cstF .none)) (doneF')) (doneF')) (seqF (datF 1 (binF subO (binF addO (ifF (cmpF isO (nameF 1) (cstF .none)) (cstF (.int 0)) (binF mulO (cstF (.int 10)) (nameF 1))) (nameF 2)) (cstF (.int 48)))) (doneF')))) (seqF (retF (nameF 1)) (doneF')))
noncomputable def F249 : FF := runF 1 2 g249
set_option maxHeartbeats 4000000 in
theorem D249 : FnD (wd w mean mg mb) 249 1 false F249 := by
  refine FnD.of_runs 1 ["octets", "found", "sign"] (by with_unfolding_all exact rfl) (by kernel_rfl!) ?_ (by decide +kernel) (by decide +kernel) (by decide) rfl rfl rfl (by decide +kernel) ?_
  · intro vs hv
    obtain ⟨v0, t0, rfl, h0⟩ := lenS hv
    obtain rfl := List.length_eq_zero_iff.mp h0
    rfl
  · intro C ok hW hLN hE hxs hx hdp hun
    exact Runs.cons ok (Run1.dat ok hLN 1 (EvD.cnone) (xi hxs (i := 1) rfl)) (Runs.cons ok (Run1.for ok hLN 2 (EvD.nm ok hxs 0 rfl) (Runs.cons ok (Run1.if ok (TeD.or (TeD.not (TeD.chain ok (EvD.cint) (EvD.nm ok hxs 2 rfl) (EvD.cint) CmpD.le CmpD.le)) (TeD.or (TeD.cmp ok (EvD.nm ok hxs 1 rfl) (EvD.cint) (CmpD.eq ok)) (TeD.or0))) (Runs.cons ok (Run1.ret (EvD.cnone)) (Runs.nil)) (Runs.nil)) (Runs.cons ok (Run1.dat ok hLN 1 (EvD.bin ok (EvD.bin ok (EvD.ifE ok (TeD.cmp ok (EvD.nm ok hxs 1 rfl) (EvD.cnone) CmpD.is) (EvD.cint) (EvD.bin ok (EvD.cint) (EvD.nm ok hxs 1 rfl) (OpD.mul ok))) (EvD.nm ok hxs 2 rfl) (OpD.add ok)) (EvD.cint) OpD.sub) (xi hxs (i := 1) rfl)) (Runs.nil))) (xi hxs (i := 2) rfl)) (Runs.cons ok (Run1.ret (EvD.nm ok hxs 1 rfl)) (Runs.nil)))
theorem C249 {C : Cx} {n : Nat} (hW : C.W = wd w mean mg mb) (hx : false = true → FsOk C) (hd : C.dp + n < 900) (hu : C.un + 4 * n < 2000) (hn : 1 ≤ n) : Callee C "_law_number" 249 F249 := callee hW G__law_number (by kernel_rfl!) D249 hx hd hu hn

/-! _law_parts -/
noncomputable def g254 : SF := seqF (datF 1 (binF findO (nameF 0) (cstF (.bytes [32, 60])))) (seqF (datF 2 (ifF (cmpF geO (nameF 1) (cstF (.int 0))) (find2F (nameF 0) (cstF (.bytes [62, 32])) (binF addO (nameF 1) (cstF (.int 2)))) (unF negO (cstF (.int 1))))) (seqF (brF (cmpF ltO (nameF 2) (cstF (.int 0))) (seqF (retF (cstF .none)) (doneF')) (doneF')) (seqF (tupS1 [5, 4, 3] (tupF (consA (sliceF (nameF 0) none (some (nameF 1))) (consA (sliceF (nameF 0) (some (binF addO (nameF 1) (cstF (.int 2)))) (some (nameF 2))) (consA (binF splitO (sliceF (nameF 0) (some (binF addO (nameF 2) (cstF (.int 2)))) none) (cstF (.bytes [32]))) (nilA)))))) (seqF (brF (orF (cmpF neO (compF (binF addO (nameF 3) (nameF 4)) (cmpF inO (nameF 0) (cstF (.bytes [60, 62, 10, 0]))) (nameF 0)) (lstF (nilA))) (orF (cmpF neO (unF lenO (nameF 5)) (cstF (.int 2))) (orF (cmpF isO (callF F249 (consA (binF itemO (nameF 5) (cstF (.int 0))) (nilA))) (cstF .none)) (bF false)))) (seqF (retF (cstF .none)) (doneF')) (doneF')) (seqF (datF 6 (binF itemO (nameF 5) (cstF (.int 1)))) (seqF (brF (orF (cmpF neO (unF lenO (nameF 6)) (cstF (.int 5))) (orF (cmpF ninO (sliceF (nameF 6) none (some (cstF (.int 1)))) (tupF (consA (cstF (.bytes [43])) (consA (cstF (.bytes [45])) (nilA))))) (orF (cmpF neO (compF (sliceF (nameF 6) (some (cstF (.int 1))) none) (notF (chainF leO leO (cstF (.int 48)) (nameF 0) (cstF (.int 57)))) (nameF 0)) (lstF (nilA))) (bF false)))) (seqF (retF (cstF .none)) (doneF')) (doneF')) (seqF (retF (tupF (consA (nameF 3) (consA (nameF 4) (consA (callF F249 (consA (binF itemO (nameF 5) (cstF (.int 0))) (nilA))) (consA (nameF 6) (nilA))))))) (doneF'))))))))
noncomputable def F254 : FF := runF 1 6 g254
set_option maxHeartbeats 4000000 in
theorem D254 : FnD (wd w mean mg mb) 254 2 false F254 := by
  refine FnD.of_runs 1 ["octets", "begin", "close", "name", "email", "tail", "zone"] (by with_unfolding_all exact rfl) (by kernel_rfl!) ?_ (by decide +kernel) (by decide +kernel) (by decide) rfl rfl rfl (by decide +kernel) ?_
  · intro vs hv
    obtain ⟨v0, t0, rfl, h0⟩ := lenS hv
    obtain rfl := List.length_eq_zero_iff.mp h0
    rfl
  · intro C ok hW hLN hE hxs hx hdp hun
    exact Runs.cons ok (Run1.dat ok hLN 1 (EvD.find ok (EvD.nm ok hxs 0 rfl) (EvD.cbytes)) (xi hxs (i := 1) rfl)) (Runs.cons ok (Run1.dat ok hLN 2 (EvD.ifE ok (TeD.cmp ok (EvD.nm ok hxs 1 rfl) (EvD.cint) CmpD.ge) (EvD.find2 ok (EvD.nm ok hxs 0 rfl) (EvD.cbytes) (EvD.bin ok (EvD.nm ok hxs 1 rfl) (EvD.cint) (OpD.add ok)) rfl rfl rfl rfl rfl) (EvD.neg (EvD.cint))) (xi hxs (i := 2) rfl)) (Runs.cons ok (Run1.if ok (TeD.cmp ok (EvD.nm ok hxs 2 rfl) (EvD.cint) CmpD.lt) (Runs.cons ok (Run1.ret (EvD.cnone)) (Runs.nil)) (Runs.nil)) (Runs.cons ok (Run1.tupS ok hLN (EvD.tup ok (ArD.cons ok (EvD.slice ok (EvD.nm ok hxs 0 rfl) .none (.some (EvD.nm ok hxs 1 rfl))) (ArD.cons ok (EvD.slice ok (EvD.nm ok hxs 0 rfl) (.some (EvD.bin ok (EvD.nm ok hxs 1 rfl) (EvD.cint) (OpD.add ok))) (.some (EvD.nm ok hxs 2 rfl))) (ArD.cons ok (EvD.split ok (EvD.slice ok (EvD.nm ok hxs 0 rfl) (.some (EvD.bin ok (EvD.nm ok hxs 2 rfl) (EvD.cint) (OpD.add ok))) .none) (EvD.cbytes)) (ArD.nil))))) (names := ["name", "email", "tail"]) (.cons (x := "tail") (xi hxs (i := 5) rfl) (.cons (x := "email") (xi hxs (i := 4) rfl) (.cons (x := "name") (xi hxs (i := 3) rfl) (.nil)))) (by rw [hE]; rfl) (by rw [hE]; rfl)) (Runs.cons ok (Run1.if ok (TeD.or (TeD.cmp ok (EvD.comp ok hLN (EvD.bin ok (EvD.nm ok hxs 3 rfl) (EvD.nm ok hxs 4 rfl) (OpD.add ok)) (fun C' h1 => .one (TeD.cmp h1.ok (EvD.nm h1.ok h1.xs 0 rfl) (EvD.cbytes) CmpD.in)) (fun C' h1 => EvD.nm h1.ok h1.xs 0 rfl) (by rw [hE]; rfl) (by decide +kernel) rfl (by decide +kernel) rfl rfl) (EvD.lst ok (ArD.nil)) (CmpD.ne ok)) (TeD.or (TeD.cmp ok (EvD.bB ok (B_len hW) (kg hE (by with_unfolding_all rfl)) CallD1.len (EvD.nm ok hxs 5 rfl)) (EvD.cint) (CmpD.ne ok)) (TeD.or (TeD.cmp ok (EvD.call ok (ArD.cons ok (EvD.item ok (EvD.nm ok hxs 5 rfl) (EvD.cint)) (ArD.nil)) (C249 hW (fun h => nomatch h) hdp hun (by decide)) (kg hE (by with_unfolding_all rfl))) (EvD.cnone) CmpD.is) (TeD.or0)))) (Runs.cons ok (Run1.ret (EvD.cnone)) (Runs.nil)) (Runs.nil)) (Runs.cons ok (Run1.dat ok hLN 6 (EvD.item ok (EvD.nm ok hxs 5 rfl) (EvD.cint)) (xi hxs (i := 6) rfl)) (Runs.cons ok (Run1.if ok (TeD.or (TeD.cmp ok (EvD.bB ok (B_len hW) (kg hE (by with_unfolding_all rfl)) CallD1.len (EvD.nm ok hxs 6 rfl)) (EvD.cint) (CmpD.ne ok)) (TeD.or (TeD.cmp ok (EvD.slice ok (EvD.nm ok hxs 6 rfl) .none (.some (EvD.cint))) (EvD.tup ok (ArD.cons ok (EvD.cbytes) (ArD.cons ok (EvD.cbytes) (ArD.nil)))) CmpD.nin) (TeD.or (TeD.cmp ok (EvD.comp ok hLN (EvD.slice ok (EvD.nm ok hxs 6 rfl) (.some (EvD.cint)) .none) (fun C' h2 => .one (TeD.not (TeD.chain h2.ok (EvD.cint) (EvD.nm h2.ok h2.xs 0 rfl) (EvD.cint) CmpD.le CmpD.le))) (fun C' h2 => EvD.nm h2.ok h2.xs 0 rfl) (by rw [hE]; rfl) (by decide +kernel) rfl (by decide +kernel) rfl rfl) (EvD.lst ok (ArD.nil)) (CmpD.ne ok)) (TeD.or0)))) (Runs.cons ok (Run1.ret (EvD.cnone)) (Runs.nil)) (Runs.nil)) (Runs.cons ok (Run1.ret (EvD.tup ok (ArD.cons ok (EvD.nm ok hxs 3 rfl) (ArD.cons ok (EvD.nm ok hxs 4 rfl) (ArD.cons ok (EvD.call ok (ArD.cons ok (EvD.item ok (EvD.nm ok hxs 5 rfl) (EvD.cint)) (ArD.nil)) (C249 hW (fun h => nomatch h) hdp hun (by decide)) (kg hE (by with_unfolding_all rfl))) (ArD.cons ok (EvD.nm ok hxs 6 rfl) (ArD.nil))))))) (Runs.nil))))))))
theorem C254 {C : Cx} {n : Nat} (hW : C.W = wd w mean mg mb) (hx : false = true → FsOk C) (hd : C.dp + n < 900) (hu : C.un + 4 * n < 2000) (hn : 2 ≤ n) : Callee C "_law_parts" 254 F254 := callee hW G__law_parts (by kernel_rfl!) D254 hx hd hu hn

/-! _law_heard -/
noncomputable def g261 : SF := seqF (datF 1 (cstF .none)) (seqF (tryF 1 F141 (consA (nameF 0) (nilA))) (seqF (retF (nameF 1)) (doneF')))
noncomputable def F261 : FF := runF 1 1 g261
set_option maxHeartbeats 4000000 in
theorem D261 : FnD (wd w mean mg mb) 261 4 true F261 := by
  refine FnD.of_runs 1 ["octets", "found"] (by with_unfolding_all exact rfl) (by kernel_rfl!) ?_ (by decide +kernel) (by decide +kernel) (by decide) rfl rfl rfl (by decide +kernel) ?_
  · intro vs hv
    obtain ⟨v0, t0, rfl, h0⟩ := lenS hv
    obtain rfl := List.length_eq_zero_iff.mp h0
    rfl
  · intro C ok hW hLN hE hxs hx hdp hun
    obtain ⟨hfs, hfe⟩ := hx rfl
    exact Runs.cons ok (Run1.dat ok hLN 1 (EvD.cnone) (xi hxs (i := 1) rfl)) (Runs.cons ok (Run1.try_ ok hfs hLN hfe (Bad hW) 1 (ArD.cons ok (EvD.nm ok hxs 0 rfl) (ArD.nil)) (G_read_person hW).n rfl (Fn_141 hW) (hW ▸ D141) (low hdp (by decide)) (lou hun (by decide)) (kg hE (by with_unfolding_all rfl)) (xi hxs (i := 1) rfl) (G_BadObject hW).n (kg hE (by with_unfolding_all rfl))) (Runs.cons ok (Run1.ret (EvD.nm ok hxs 1 rfl)) (Runs.nil)))
theorem C261 {C : Cx} {n : Nat} (hW : C.W = wd w mean mg mb) (hx : true = true → FsOk C) (hd : C.dp + n < 900) (hu : C.un + 4 * n < 2000) (hn : 4 ≤ n) : Callee C "_law_heard" 261 F261 := callee hW G__law_heard (by kernel_rfl!) D261 hx hd hu hn

/-! _law_person_right -/
noncomputable def g266 : SF := seqF (tupS1 [2, 1] (tupF (consA (callF F254 (consA (nameF 0) (nilA))) (consA (callF F261 (consA (nameF 0) (nilA))) (nilA))))) (seqF (brF (orF (cmpF isO (nameF 1) (cstF .none)) (orF (cmpF isO (nameF 2) (cstF .none)) (bF false))) (seqF (retF (andV (boolF (cmpF isO (nameF 1) (cstF .none))) (boolF (cmpF isO (nameF 2) (cstF .none))))) (doneF')) (doneF')) (seqF (brF (orF (cmpF neO (tupF (consA (attrF 130 0 (nameF 2)) (consA (attrF 130 1 (nameF 2)) (consA (attrF 130 2 (nameF 2)) (consA (attrF 130 3 (nameF 2)) (nilA)))))) (nameF 1)) (orF (cmpF neO (callF F127 (selfF 130 (nameF 2))) (nameF 0)) (bF false))) (seqF (retF (cstF (.bool false))) (doneF')) (doneF')) (seqF (datF 3 (compF (sliceF (binF itemO (nameF 1) (cstF (.int 3))) (some (cstF (.int 1))) none) (bF true) (binF subO (nameF 0) (cstF (.int 48))))) (seqF (datF 4 (binF addO (binF addO (binF addO (binF mulO (cstF (.int 600)) (binF itemO (nameF 3) (cstF (.int 0)))) (binF mulO (cstF (.int 60)) (binF itemO (nameF 3) (cstF (.int 1))))) (binF mulO (cstF (.int 10)) (binF itemO (nameF 3) (cstF (.int 2))))) (binF itemO (nameF 3) (cstF (.int 3))))) (seqF (brF (cmpF neO (callF F148 (consA (nameF 2) (nilA))) (ifF (cmpF eqO (sliceF (binF itemO (nameF 1) (cstF (.int 3))) none (some (cstF (.int 1)))) (cstF (.bytes [43]))) (nameF 4) (binF subO (cstF (.int 0)) (nameF 4)))) (seqF (retF (cstF (.bool false))) (doneF')) (doneF')) (seqF (retF (boolF (cmpF eqO (callF F127 (selfF 130 (makeF 130 4 (consA (binF itemO (nameF 1) (cstF (.int 0))) (consA (binF itemO (nameF 1) (cstF (.int 1))) (consA (binF itemO (nameF 1) (cstF (.int 2))) (consA (binF itemO (nameF 1) (cstF (.int 3))) (nilA)))))))) (nameF 0)))) (doneF')))))))
noncomputable def F266 : FF := runF 1 4 g266
set_option maxHeartbeats 4000000 in
theorem D266 : FnD (wd w mean mg mb) 266 5 true F266 := by
  refine FnD.of_runs 1 ["octets", "due", "it", "numbers", "minutes"] (by with_unfolding_all exact rfl) (by kernel_rfl!) ?_ (by decide +kernel) (by decide +kernel) (by decide) rfl rfl rfl (by decide +kernel) ?_
  · intro vs hv
    obtain ⟨v0, t0, rfl, h0⟩ := lenS hv
    obtain rfl := List.length_eq_zero_iff.mp h0
    rfl
  · intro C ok hW hLN hE hxs hx hdp hun
    obtain ⟨hfs, hfe⟩ := hx rfl
    exact Runs.cons ok (Run1.tupS ok hLN (EvD.tup ok (ArD.cons ok (EvD.call ok (ArD.cons ok (EvD.nm ok hxs 0 rfl) (ArD.nil)) (C254 hW (fun h => nomatch h) hdp hun (by decide)) (kg hE (by with_unfolding_all rfl))) (ArD.cons ok (EvD.call ok (ArD.cons ok (EvD.nm ok hxs 0 rfl) (ArD.nil)) (C261 hW (fun _ => hfs) hdp hun (by decide)) (kg hE (by with_unfolding_all rfl))) (ArD.nil)))) (names := ["due", "it"]) (.cons (x := "it") (xi hxs (i := 2) rfl) (.cons (x := "due") (xi hxs (i := 1) rfl) (.nil))) (by rw [hE]; rfl) (by rw [hE]; rfl)) (Runs.cons ok (Run1.if ok (TeD.or (TeD.cmp ok (EvD.nm ok hxs 1 rfl) (EvD.cnone) CmpD.is) (TeD.or (TeD.cmp ok (EvD.nm ok hxs 2 rfl) (EvD.cnone) CmpD.is) (TeD.or0))) (Runs.cons ok (Run1.ret (EvD.and2 ok (EvD.cmp ok (EvD.nm ok hxs 1 rfl) (EvD.cnone) CmpD.is) (EvD.cmp ok (EvD.nm ok hxs 2 rfl) (EvD.cnone) CmpD.is))) (Runs.nil)) (Runs.nil)) (Runs.cons ok (Run1.if ok (TeD.or (TeD.cmp ok (EvD.tup ok (ArD.cons ok (EvD.attr ok (EvD.nm ok hxs 2 rfl) (Fd_130_0 hW) (by decide) (by decide)) (ArD.cons ok (EvD.attr ok (EvD.nm ok hxs 2 rfl) (Fd_130_1 hW) (by decide) (by decide)) (ArD.cons ok (EvD.attr ok (EvD.nm ok hxs 2 rfl) (Fd_130_2 hW) (by decide) (by decide)) (ArD.cons ok (EvD.attr ok (EvD.nm ok hxs 2 rfl) (Fd_130_3 hW) (by decide) (by decide)) (ArD.nil)))))) (EvD.nm ok hxs 1 rfl) (CmpD.ne ok)) (TeD.or (TeD.cmp ok (EvD.meth0 ok (EvD.nm ok hxs 2 rfl) (M127 hW) (ex := false) (rk := 2) (hW ▸ D127) (fun h => nomatch h) (low hdp (by decide)) (lou hun (by decide)) _ rfl) (EvD.nm ok hxs 0 rfl) (CmpD.ne ok)) (TeD.or0))) (Runs.cons ok (Run1.ret (EvD.cbool)) (Runs.nil)) (Runs.nil)) (Runs.cons ok (Run1.comp ok hLN 3 (EvD.slice ok (EvD.item ok (EvD.nm ok hxs 1 rfl) (EvD.cint)) (.some (EvD.cint)) .none) (fun C' h1 => .none) (fun C' h1 => EvD.bin h1.ok (EvD.nm h1.ok h1.xs 0 rfl) (EvD.cint) OpD.sub) (xi hxs (i := 3) rfl) (by rw [hE]; rfl) (by decide +kernel) rfl (by decide +kernel) rfl rfl (by rw [hE]; rfl)) (Runs.cons ok (Run1.dat ok hLN 4 (EvD.bin ok (EvD.bin ok (EvD.bin ok (EvD.bin ok (EvD.cint) (EvD.item ok (EvD.nm ok hxs 3 rfl) (EvD.cint)) (OpD.mul ok)) (EvD.bin ok (EvD.cint) (EvD.item ok (EvD.nm ok hxs 3 rfl) (EvD.cint)) (OpD.mul ok)) (OpD.add ok)) (EvD.bin ok (EvD.cint) (EvD.item ok (EvD.nm ok hxs 3 rfl) (EvD.cint)) (OpD.mul ok)) (OpD.add ok)) (EvD.item ok (EvD.nm ok hxs 3 rfl) (EvD.cint)) (OpD.add ok)) (xi hxs (i := 4) rfl)) (Runs.cons ok (Run1.if ok (TeD.cmp ok (EvD.call ok (ArD.cons ok (EvD.nm ok hxs 2 rfl) (ArD.nil)) (C148 hW (fun h => nomatch h) hdp hun (by decide)) (kg hE (by with_unfolding_all rfl))) (EvD.ifE ok (TeD.cmp ok (EvD.slice ok (EvD.item ok (EvD.nm ok hxs 1 rfl) (EvD.cint)) .none (.some (EvD.cint))) (EvD.cbytes) (CmpD.eq ok)) (EvD.nm ok hxs 4 rfl) (EvD.bin ok (EvD.cint) (EvD.nm ok hxs 4 rfl) OpD.sub)) (CmpD.ne ok)) (Runs.cons ok (Run1.ret (EvD.cbool)) (Runs.nil)) (Runs.nil)) (Runs.cons ok (Run1.ret (EvD.cmp ok (EvD.meth0 ok (EvD.make ok (ArD.cons ok (EvD.item ok (EvD.nm ok hxs 1 rfl) (EvD.cint)) (ArD.cons ok (EvD.item ok (EvD.nm ok hxs 1 rfl) (EvD.cint)) (ArD.cons ok (EvD.item ok (EvD.nm ok hxs 1 rfl) (EvD.cint)) (ArD.cons ok (EvD.item ok (EvD.nm ok hxs 1 rfl) (EvD.cint)) (ArD.nil))))) (I_130 hW) (G_Person hW).n (G_Person hW).d (kg hE (by with_unfolding_all rfl)) (Kp_130 hW)) (M127 hW) (ex := false) (rk := 2) (hW ▸ D127) (fun h => nomatch h) (low hdp (by decide)) (lou hun (by decide)) _ rfl) (EvD.nm ok hxs 0 rfl) (CmpD.eq ok))) (Runs.nil)))))))
theorem C266 {C : Cx} {n : Nat} (hW : C.W = wd w mean mg mb) (hx : true = true → FsOk C) (hd : C.dp + n < 900) (hu : C.un + 4 * n < 2000) (hn : 5 ≤ n) : Callee C "_law_person_right" 266 F266 := callee hW G__law_person_right (by kernel_rfl!) D266 hx hd hu hn

/-! _law_people_right -/
noncomputable def g271 : SF := seqF (datF 1 (lstF (consA (cstF (.bytes [65, 32, 60, 97, 62, 32, 98, 62, 32, 49, 32, 43, 48, 48, 48, 48])) (consA (cstF (.bytes [65, 32, 32, 60, 62, 32, 48, 32, 45, 48, 48, 48, 48])) (consA (cstF (.bytes [32, 60, 101, 62, 32, 55, 32, 43, 48, 53, 51, 48])) (consA (cstF (.bytes [65, 32, 60, 97, 64, 98, 62, 32, 48, 48, 32, 43, 48, 48, 48, 48])) (consA (cstF (.bytes [65, 32, 60, 97, 64, 98, 62, 32, 49, 32, 43, 48, 48, 48, 48, 32])) (consA (cstF (.bytes [])) (nilA))))))))) (seqF (asgF 2 (lstF (consA (callF F242 (consA (nameF 0) (consA (nameF 1) (nilA)))) (nilA)))) (seqF (rangeF 3 (cstF (.int 2)) (seqF (datF 4 (callF F242 (consA (nameF 0) (consA (lstF (consA (cstF (.bytes [65])) (consA (cstF (.bytes [65, 110, 110, 32, 66])) (consA (cstF (.bytes [])) (consA (cstF (.bytes [195, 169, 32])) (consA (cstF (.bytes [97, 60, 98])) (consA (cstF (.bytes [32, 120])) (consA (cstF (.bytes [97, 46, 98, 44, 99])) (nilA))))))))) (nilA))))) (seqF (datF 5 (callF F242 (consA (nameF 0) (consA (lstF (consA (cstF (.bytes [97, 64, 98])) (consA (cstF (.bytes [])) (consA (cstF (.bytes [120, 32, 121])) (consA (cstF (.bytes [60, 113])) (consA (cstF (.bytes [101, 62])) (consA (cstF (.bytes [97, 110, 110, 64, 99, 46, 100])) (nilA)))))))) (nilA))))) (seqF (datF 6 (unF bytesO (compF (unF strO (callF F242 (consA (nameF 0) (consA (lstF (consA (cstF (.int 0)) (consA (cstF (.int 7)) (consA (cstF (.int 10)) (consA (cstF (.int 1234567890)) (consA (binF powO (cstF (.int 10)) (cstF (.int 12))) (nilA))))))) (nilA))))) (bF true) (unF ordO (nameF 0))))) (seqF (datF 7 (callF F242 (consA (nameF 0) (consA (lstF (consA (cstF (.bytes [43, 48, 48, 48, 48])) (consA (cstF (.bytes [45, 48, 49, 51, 48])) (consA (cstF (.bytes [43, 49, 50, 52, 53])) (consA (cstF (.bytes [45, 48, 48, 48, 48])) (consA (cstF (.bytes [43, 48, 48, 57, 57])) (consA (cstF (.bytes [48, 49, 48, 48])) (consA (cstF (.bytes [43, 49, 48, 48])) (nilA))))))))) (nilA))))) (seqF (datF 8 (binF addO (binF addO (binF addO (binF addO (binF addO (binF addO (nameF 4) (cstF (.bytes [32, 60]))) (nameF 5)) (cstF (.bytes [62, 32]))) (nameF 6)) (cstF (.bytes [32]))) (nameF 7))) (seqF (ownF 2 pushO (nameF 8)) (seqF (rangeF 9 (cstF (.int 2)) (seqF (tupS1 [11, 10] (tupF (consA (callF F235 (consA (nameF 0) (consA (binF addO (unF lenO (nameF 8)) (cstF (.int 1))) (nilA)))) (consA (callF F235 (consA (nameF 0) (consA (cstF (.int 3)) (nilA)))) (nilA))))) (seqF (datF 12 (unF bytesO (lstF (consA (callF F242 (consA (nameF 0) (consA (cstF (.bytes [60, 62, 32, 48, 48, 49, 57, 43, 45, 10, 0, 97, 90, 255])) (nilA)))) (nilA))))) (seqF (ownF 2 pushO (ifF (cmpF eqO (nameF 11) (cstF (.int 0))) (binF addO (sliceF (nameF 8) none (some (nameF 10))) (sliceF (nameF 8) (some (binF addO (nameF 10) (cstF (.int 1)))) none)) (binF addO (binF addO (sliceF (nameF 8) none (some (nameF 10))) (nameF 12)) (sliceF (nameF 8) (some (binF subO (binF addO (nameF 10) (nameF 11)) (cstF (.int 1)))) none)))) (doneF'))))) (doneF'))))))))) (seqF (retF (boolF (cmpF eqO (compF (nameF 2) (notF (valF (callF F266 (consA (nameF 0) (nilA))))) (nameF 0)) (lstF (nilA))))) (doneF'))))
noncomputable def F271 : FF := runF 1 12 g271
set_option maxHeartbeats 4000000 in
theorem D271 : FnD (wd w mean mg mb) 271 6 true F271 := by
  refine FnD.of_runs 1 ["deck", "fixed", "some", "turn", "name", "email", "when", "zone", "octets", "go", "at", "way", "fresh"] (by with_unfolding_all exact rfl) (by kernel_rfl!) ?_ (by decide +kernel) (by decide +kernel) (by decide) rfl rfl rfl (by decide +kernel) ?_
  · intro vs hv
    obtain ⟨v0, t0, rfl, h0⟩ := lenS hv
    obtain rfl := List.length_eq_zero_iff.mp h0
    rfl
  · intro C ok hW hLN hE hxs hx hdp hun
    obtain ⟨hfs, hfe⟩ := hx rfl
    exact Runs.cons ok (Run1.dat ok hLN 1 (EvD.lst ok (ArD.cons ok (EvD.cbytes) (ArD.cons ok (EvD.cbytes) (ArD.cons ok (EvD.cbytes) (ArD.cons ok (EvD.cbytes) (ArD.cons ok (EvD.cbytes) (ArD.cons ok (EvD.cbytes) (ArD.nil)))))))) (xi hxs (i := 1) rfl)) (Runs.cons ok (Run1.asg ok hLN 2 (EvD.lst ok (ArD.cons ok (EvD.call ok (ArD.cons ok (EvD.nm ok hxs 0 rfl) (ArD.cons ok (EvD.nm ok hxs 1 rfl) (ArD.nil))) (C242 hW (fun h => nomatch h) hdp hun (by decide)) (kg hE (by with_unfolding_all rfl))) (ArD.nil))) (xi hxs (i := 2) rfl)) (Runs.cons ok (Run1.forR ok hLN 3 (EvD.cint) (Runs.cons ok (Run1.dat ok hLN 4 (EvD.call ok (ArD.cons ok (EvD.nm ok hxs 0 rfl) (ArD.cons ok (EvD.lst ok (ArD.cons ok (EvD.cbytes) (ArD.cons ok (EvD.cbytes) (ArD.cons ok (EvD.cbytes) (ArD.cons ok (EvD.cbytes) (ArD.cons ok (EvD.cbytes) (ArD.cons ok (EvD.cbytes) (ArD.cons ok (EvD.cbytes) (ArD.nil))))))))) (ArD.nil))) (C242 hW (fun h => nomatch h) hdp hun (by decide)) (kg hE (by with_unfolding_all rfl))) (xi hxs (i := 4) rfl)) (Runs.cons ok (Run1.dat ok hLN 5 (EvD.call ok (ArD.cons ok (EvD.nm ok hxs 0 rfl) (ArD.cons ok (EvD.lst ok (ArD.cons ok (EvD.cbytes) (ArD.cons ok (EvD.cbytes) (ArD.cons ok (EvD.cbytes) (ArD.cons ok (EvD.cbytes) (ArD.cons ok (EvD.cbytes) (ArD.cons ok (EvD.cbytes) (ArD.nil)))))))) (ArD.nil))) (C242 hW (fun h => nomatch h) hdp hun (by decide)) (kg hE (by with_unfolding_all rfl))) (xi hxs (i := 5) rfl)) (Runs.cons ok (Run1.dat ok hLN 6 (EvD.tT ok (B_bytes hW) (kg hE (by with_unfolding_all rfl)) (CallD1.bytes ok) (EvD.comp ok hLN (EvD.tT ok (B_str hW) (kg hE (by with_unfolding_all rfl)) CallD1.str (EvD.call ok (ArD.cons ok (EvD.nm ok hxs 0 rfl) (ArD.cons ok (EvD.lst ok (ArD.cons ok (EvD.cint) (ArD.cons ok (EvD.cint) (ArD.cons ok (EvD.cint) (ArD.cons ok (EvD.cint) (ArD.cons ok (EvD.bin ok (EvD.cint) (EvD.cint) OpD.pow) (ArD.nil))))))) (ArD.nil))) (C242 hW (fun h => nomatch h) hdp hun (by decide)) (kg hE (by with_unfolding_all rfl)))) (fun C' h1 => .none) (fun C' h1 => EvD.bB h1.ok (B_ord (h1.W hW)) (h1.kg (by with_unfolding_all rfl)) CallD1.ord (EvD.nm h1.ok h1.xs 0 rfl)) (by rw [hE]; rfl) (by decide +kernel) rfl (by decide +kernel) rfl rfl)) (xi hxs (i := 6) rfl)) (Runs.cons ok (Run1.dat ok hLN 7 (EvD.call ok (ArD.cons ok (EvD.nm ok hxs 0 rfl) (ArD.cons ok (EvD.lst ok (ArD.cons ok (EvD.cbytes) (ArD.cons ok (EvD.cbytes) (ArD.cons ok (EvD.cbytes) (ArD.cons ok (EvD.cbytes) (ArD.cons ok (EvD.cbytes) (ArD.cons ok (EvD.cbytes) (ArD.cons ok (EvD.cbytes) (ArD.nil))))))))) (ArD.nil))) (C242 hW (fun h => nomatch h) hdp hun (by decide)) (kg hE (by with_unfolding_all rfl))) (xi hxs (i := 7) rfl)) (Runs.cons ok (Run1.dat ok hLN 8 (EvD.bin ok (EvD.bin ok (EvD.bin ok (EvD.bin ok (EvD.bin ok (EvD.bin ok (EvD.nm ok hxs 4 rfl) (EvD.cbytes) (OpD.add ok)) (EvD.nm ok hxs 5 rfl) (OpD.add ok)) (EvD.cbytes) (OpD.add ok)) (EvD.nm ok hxs 6 rfl) (OpD.add ok)) (EvD.cbytes) (OpD.add ok)) (EvD.nm ok hxs 7 rfl) (OpD.add ok)) (xi hxs (i := 8) rfl)) (Runs.cons ok (Run1.append ok 2 (EvD.nm ok hxs 8 rfl) (xi hxs (i := 2) rfl) rfl rfl) (Runs.cons ok (Run1.forR ok hLN 9 (EvD.cint) (Runs.cons ok (Run1.tupS ok hLN (EvD.tup ok (ArD.cons ok (EvD.call ok (ArD.cons ok (EvD.nm ok hxs 0 rfl) (ArD.cons ok (EvD.bin ok (EvD.bB ok (B_len hW) (kg hE (by with_unfolding_all rfl)) CallD1.len (EvD.nm ok hxs 8 rfl)) (EvD.cint) (OpD.add ok)) (ArD.nil))) (C235 hW (fun h => nomatch h) hdp hun (by decide)) (kg hE (by with_unfolding_all rfl))) (ArD.cons ok (EvD.call ok (ArD.cons ok (EvD.nm ok hxs 0 rfl) (ArD.cons ok (EvD.cint) (ArD.nil))) (C235 hW (fun h => nomatch h) hdp hun (by decide)) (kg hE (by with_unfolding_all rfl))) (ArD.nil)))) (names := ["at", "way"]) (.cons (x := "way") (xi hxs (i := 11) rfl) (.cons (x := "at") (xi hxs (i := 10) rfl) (.nil))) (by rw [hE]; rfl) (by rw [hE]; rfl)) (Runs.cons ok (Run1.dat ok hLN 12 (EvD.tT ok (B_bytes hW) (kg hE (by with_unfolding_all rfl)) (CallD1.bytes ok) (EvD.lst ok (ArD.cons ok (EvD.call ok (ArD.cons ok (EvD.nm ok hxs 0 rfl) (ArD.cons ok (EvD.cbytes) (ArD.nil))) (C242 hW (fun h => nomatch h) hdp hun (by decide)) (kg hE (by with_unfolding_all rfl))) (ArD.nil)))) (xi hxs (i := 12) rfl)) (Runs.cons ok (Run1.append ok 2 (EvD.ifE ok (TeD.cmp ok (EvD.nm ok hxs 11 rfl) (EvD.cint) (CmpD.eq ok)) (EvD.bin ok (EvD.slice ok (EvD.nm ok hxs 8 rfl) .none (.some (EvD.nm ok hxs 10 rfl))) (EvD.slice ok (EvD.nm ok hxs 8 rfl) (.some (EvD.bin ok (EvD.nm ok hxs 10 rfl) (EvD.cint) (OpD.add ok))) .none) (OpD.add ok)) (EvD.bin ok (EvD.bin ok (EvD.slice ok (EvD.nm ok hxs 8 rfl) .none (.some (EvD.nm ok hxs 10 rfl))) (EvD.nm ok hxs 12 rfl) (OpD.add ok)) (EvD.slice ok (EvD.nm ok hxs 8 rfl) (.some (EvD.bin ok (EvD.bin ok (EvD.nm ok hxs 10 rfl) (EvD.nm ok hxs 11 rfl) (OpD.add ok)) (EvD.cint) OpD.sub)) .none) (OpD.add ok))) (xi hxs (i := 2) rfl) rfl rfl) (Runs.nil)))) (xi hxs (i := 9) rfl) (B_range hW).n (kg hE (by with_unfolding_all rfl)) rfl) (Runs.nil)))))))) (xi hxs (i := 3) rfl) (B_range hW).n (kg hE (by with_unfolding_all rfl)) rfl) (Runs.cons ok (Run1.ret (EvD.cmp ok (EvD.comp ok hLN (EvD.nm ok hxs 2 rfl) (fun C' h2 => .one (TeD.not (TeD.tv (EvD.call h2.ok (ArD.cons h2.ok (EvD.nm h2.ok h2.xs 0 rfl) (ArD.nil)) (C266 (h2.W hW) (fun _ => (h2.fs hfs)) (h2.dp hdp) (h2.un hun) (by decide)) (h2.kg (by with_unfolding_all rfl)))))) (fun C' h2 => EvD.nm h2.ok h2.xs 0 rfl) (by rw [hE]; rfl) (by decide +kernel) rfl (by decide +kernel) rfl rfl) (EvD.lst ok (ArD.nil)) (CmpD.eq ok))) (Runs.nil))))
theorem C271 {C : Cx} {n : Nat} (hW : C.W = wd w mean mg mb) (hx : true = true → FsOk C) (hd : C.dp + n < 900) (hu : C.un + 4 * n < 2000) (hn : 6 ≤ n) : Callee C "_law_people_right" 271 F271 := callee hW G__law_people_right (by kernel_rfl!) D271 hx hd hu hn

/-! _law_subject -/
noncomputable def g278 : SF := seqF (asgF 1 (lstF (nilA))) (seqF (forF 2 (binF splitO (nameF 0) (cstF (.bytes [10]))) (seqF (datF 3 (nameF 2)) (seqF (whileF (andF (cmpF inO (sliceF (nameF 3) (some (unF negO (cstF (.int 1)))) none) (tupF (consA (cstF (.bytes [32])) (consA (cstF (.bytes [9])) (consA (cstF (.bytes [13])) (consA (cstF (.bytes [11])) (consA (cstF (.bytes [12])) (nilA)))))))) (andF (cmpF neO (nameF 3) (cstF (.bytes []))) (bF true))) (seqF (datF 3 (sliceF (nameF 3) none (some (unF negO (cstF (.int 1)))))) (doneF')) 1000000) (seqF (brF (cmpF eqO (nameF 3) (cstF (.bytes []))) (seqF (brF (cmpF neO (nameF 1) (lstF (nilA))) (seqF (retF (binF joinO (cstF (.bytes [32])) (nameF 1))) (doneF')) (doneF')) (doneF')) (seqF (ownF 1 pushO (nameF 3)) (doneF'))) (doneF'))))) (seqF (retF (binF joinO (cstF (.bytes [32])) (nameF 1))) (doneF')))
noncomputable def F278 : FF := runF 1 3 g278
set_option maxHeartbeats 4000000 in
theorem D278 : FnD (wd w mean mg mb) 278 1 false F278 := by
  refine FnD.of_runs 1 ["message", "found", "row", "bare"] (by with_unfolding_all exact rfl) (by kernel_rfl!) ?_ (by decide +kernel) (by decide +kernel) (by decide) rfl rfl rfl (by decide +kernel) ?_
  · intro vs hv
    obtain ⟨v0, t0, rfl, h0⟩ := lenS hv
    obtain rfl := List.length_eq_zero_iff.mp h0
    rfl
  · intro C ok hW hLN hE hxs hx hdp hun
    exact Runs.cons ok (Run1.asg ok hLN 1 (EvD.lst ok (ArD.nil)) (xi hxs (i := 1) rfl)) (Runs.cons ok (Run1.for ok hLN 2 (EvD.split ok (EvD.nm ok hxs 0 rfl) (EvD.cbytes)) (Runs.cons ok (Run1.dat ok hLN 3 (EvD.nm ok hxs 2 rfl) (xi hxs (i := 3) rfl)) (Runs.cons ok (Run1.while ok 1000000 (TeD.and (TeD.cmp ok (EvD.slice ok (EvD.nm ok hxs 3 rfl) (.some (EvD.neg (EvD.cint))) .none) (EvD.tup ok (ArD.cons ok (EvD.cbytes) (ArD.cons ok (EvD.cbytes) (ArD.cons ok (EvD.cbytes) (ArD.cons ok (EvD.cbytes) (ArD.cons ok (EvD.cbytes) (ArD.nil))))))) CmpD.in) (TeD.and (TeD.cmp ok (EvD.nm ok hxs 3 rfl) (EvD.cbytes) (CmpD.ne ok)) (TeD.and0))) (Runs.cons ok (Run1.dat ok hLN 3 (EvD.slice ok (EvD.nm ok hxs 3 rfl) .none (.some (EvD.neg (EvD.cint)))) (xi hxs (i := 3) rfl)) (Runs.nil))) (Runs.cons ok (Run1.if ok (TeD.cmp ok (EvD.nm ok hxs 3 rfl) (EvD.cbytes) (CmpD.eq ok)) (Runs.cons ok (Run1.if ok (TeD.cmp ok (EvD.nm ok hxs 1 rfl) (EvD.lst ok (ArD.nil)) (CmpD.ne ok)) (Runs.cons ok (Run1.ret (EvD.join ok (EvD.cbytes) (EvD.nm ok hxs 1 rfl))) (Runs.nil)) (Runs.nil)) (Runs.nil)) (Runs.cons ok (Run1.append ok 1 (EvD.nm ok hxs 3 rfl) (xi hxs (i := 1) rfl) rfl rfl) (Runs.nil))) (Runs.nil)))) (xi hxs (i := 2) rfl)) (Runs.cons ok (Run1.ret (EvD.join ok (EvD.cbytes) (EvD.nm ok hxs 1 rfl))) (Runs.nil)))
theorem C278 {C : Cx} {n : Nat} (hW : C.W = wd w mean mg mb) (hx : false = true → FsOk C) (hd : C.dp + n < 900) (hu : C.un + 4 * n < 2000) (hn : 1 ≤ n) : Callee C "_law_subject" 278 F278 := callee hW G__law_subject (by kernel_rfl!) D278 hx hd hu hn

/-! _law_stripped -/
noncomputable def g285 : SF := seqF (whileF (andF (cmpF inO (sliceF (nameF 0) none (some (cstF (.int 1)))) (tupF (consA (cstF (.bytes [32])) (consA (cstF (.bytes [9])) (nilA))))) (andF (cmpF neO (nameF 0) (cstF (.bytes []))) (bF true))) (seqF (datF 0 (sliceF (nameF 0) (some (cstF (.int 1))) none)) (doneF')) 1000000) (seqF (whileF (andF (cmpF inO (sliceF (nameF 0) (some (unF negO (cstF (.int 1)))) none) (tupF (consA (cstF (.bytes [32])) (consA (cstF (.bytes [9])) (nilA))))) (andF (cmpF neO (nameF 0) (cstF (.bytes []))) (bF true))) (seqF (datF 0 (sliceF (nameF 0) none (some (unF negO (cstF (.int 1)))))) (doneF')) 1000000) (seqF (retF (nameF 0)) (doneF')))
noncomputable def F285 : FF := runF 1 0 g285
set_option maxHeartbeats 4000000 in
theorem D285 : FnD (wd w mean mg mb) 285 1 false F285 := by
  refine FnD.of_runs 1 ["octets"] (by with_unfolding_all exact rfl) (by kernel_rfl!) ?_ (by decide +kernel) (by decide +kernel) (by decide) rfl rfl rfl (by decide +kernel) ?_
  · intro vs hv
    obtain ⟨v0, t0, rfl, h0⟩ := lenS hv
    obtain rfl := List.length_eq_zero_iff.mp h0
    rfl
  · intro C ok hW hLN hE hxs hx hdp hun
    exact Runs.cons ok (Run1.while ok 1000000 (TeD.and (TeD.cmp ok (EvD.slice ok (EvD.nm ok hxs 0 rfl) .none (.some (EvD.cint))) (EvD.tup ok (ArD.cons ok (EvD.cbytes) (ArD.cons ok (EvD.cbytes) (ArD.nil)))) CmpD.in) (TeD.and (TeD.cmp ok (EvD.nm ok hxs 0 rfl) (EvD.cbytes) (CmpD.ne ok)) (TeD.and0))) (Runs.cons ok (Run1.dat ok hLN 0 (EvD.slice ok (EvD.nm ok hxs 0 rfl) (.some (EvD.cint)) .none) (xi hxs (i := 0) rfl)) (Runs.nil))) (Runs.cons ok (Run1.while ok 1000000 (TeD.and (TeD.cmp ok (EvD.slice ok (EvD.nm ok hxs 0 rfl) (.some (EvD.neg (EvD.cint))) .none) (EvD.tup ok (ArD.cons ok (EvD.cbytes) (ArD.cons ok (EvD.cbytes) (ArD.nil)))) CmpD.in) (TeD.and (TeD.cmp ok (EvD.nm ok hxs 0 rfl) (EvD.cbytes) (CmpD.ne ok)) (TeD.and0))) (Runs.cons ok (Run1.dat ok hLN 0 (EvD.slice ok (EvD.nm ok hxs 0 rfl) .none (.some (EvD.neg (EvD.cint)))) (xi hxs (i := 0) rfl)) (Runs.nil))) (Runs.cons ok (Run1.ret (EvD.nm ok hxs 0 rfl)) (Runs.nil)))
theorem C285 {C : Cx} {n : Nat} (hW : C.W = wd w mean mg mb) (hx : false = true → FsOk C) (hd : C.dp + n < 900) (hu : C.un + 4 * n < 2000) (hn : 1 ≤ n) : Callee C "_law_stripped" 285 F285 := callee hW G__law_stripped (by kernel_rfl!) D285 hx hd hu hn

/-! _law_pair -/
noncomputable def g290 : SF := seqF (datF 1 (binF findO (nameF 0) (cstF (.bytes [58])))) (seqF (brF (orF (cmpF ltO (nameF 1) (cstF (.int 1))) (orF (cmpF inO (sliceF (nameF 0) none (some (cstF (.int 1)))) (tupF (consA (cstF (.bytes [32])) (consA (cstF (.bytes [9])) (nilA))))) (bF false))) (seqF (retF (cstF .none)) (doneF')) (doneF')) (seqF (datF 2 (callF F285 (consA (sliceF (nameF 0) none (some (nameF 1))) (nilA)))) (seqF (datF 3 (compF (nameF 2) (notF (orF (chainF leO leO (cstF (.int 48)) (nameF 0) (cstF (.int 57))) (orF (chainF leO leO (cstF (.int 65)) (nameF 0) (cstF (.int 90))) (orF (chainF leO leO (cstF (.int 97)) (nameF 0) (cstF (.int 122))) (orF (cmpF eqO (nameF 0) (cstF (.int 45))) (bF false)))))) (nameF 0))) (seqF (retF (ifF (andF (cmpF neO (nameF 2) (cstF (.bytes []))) (andF (cmpF eqO (nameF 3) (lstF (nilA))) (bF true))) (tupF (consA (nameF 2) (consA (callF F285 (consA (sliceF (nameF 0) (some (binF addO (nameF 1) (cstF (.int 1)))) none) (nilA))) (nilA)))) (cstF .none))) (doneF')))))
noncomputable def F290 : FF := runF 1 3 g290
set_option maxHeartbeats 4000000 in
theorem D290 : FnD (wd w mean mg mb) 290 2 false F290 := by
  refine FnD.of_runs 1 ["row", "at", "key", "odd"] (by with_unfolding_all exact rfl) (by kernel_rfl!) ?_ (by decide +kernel) (by decide +kernel) (by decide) rfl rfl rfl (by decide +kernel) ?_
  · intro vs hv
    obtain ⟨v0, t0, rfl, h0⟩ := lenS hv
    obtain rfl := List.length_eq_zero_iff.mp h0
    rfl
  · intro C ok hW hLN hE hxs hx hdp hun
    exact Runs.cons ok (Run1.dat ok hLN 1 (EvD.find ok (EvD.nm ok hxs 0 rfl) (EvD.cbytes)) (xi hxs (i := 1) rfl)) (Runs.cons ok (Run1.if ok (TeD.or (TeD.cmp ok (EvD.nm ok hxs 1 rfl) (EvD.cint) CmpD.lt) (TeD.or (TeD.cmp ok (EvD.slice ok (EvD.nm ok hxs 0 rfl) .none (.some (EvD.cint))) (EvD.tup ok (ArD.cons ok (EvD.cbytes) (ArD.cons ok (EvD.cbytes) (ArD.nil)))) CmpD.in) (TeD.or0))) (Runs.cons ok (Run1.ret (EvD.cnone)) (Runs.nil)) (Runs.nil)) (Runs.cons ok (Run1.dat ok hLN 2 (EvD.call ok (ArD.cons ok (EvD.slice ok (EvD.nm ok hxs 0 rfl) .none (.some (EvD.nm ok hxs 1 rfl))) (ArD.nil)) (C285 hW (fun h => nomatch h) hdp hun (by decide)) (kg hE (by with_unfolding_all rfl))) (xi hxs (i := 2) rfl)) (Runs.cons ok (Run1.comp ok hLN 3 (EvD.nm ok hxs 2 rfl) (fun C' h1 => .one (TeD.not (TeD.or (TeD.chain h1.ok (EvD.cint) (EvD.nm h1.ok h1.xs 0 rfl) (EvD.cint) CmpD.le CmpD.le) (TeD.or (TeD.chain h1.ok (EvD.cint) (EvD.nm h1.ok h1.xs 0 rfl) (EvD.cint) CmpD.le CmpD.le) (TeD.or (TeD.chain h1.ok (EvD.cint) (EvD.nm h1.ok h1.xs 0 rfl) (EvD.cint) CmpD.le CmpD.le) (TeD.or (TeD.cmp h1.ok (EvD.nm h1.ok h1.xs 0 rfl) (EvD.cint) (CmpD.eq h1.ok)) (TeD.or0))))))) (fun C' h1 => EvD.nm h1.ok h1.xs 0 rfl) (xi hxs (i := 3) rfl) (by rw [hE]; rfl) (by decide +kernel) rfl (by decide +kernel) rfl rfl (by rw [hE]; rfl)) (Runs.cons ok (Run1.ret (EvD.ifE ok (TeD.and (TeD.cmp ok (EvD.nm ok hxs 2 rfl) (EvD.cbytes) (CmpD.ne ok)) (TeD.and (TeD.cmp ok (EvD.nm ok hxs 3 rfl) (EvD.lst ok (ArD.nil)) (CmpD.eq ok)) (TeD.and0))) (EvD.tup ok (ArD.cons ok (EvD.nm ok hxs 2 rfl) (ArD.cons ok (EvD.call ok (ArD.cons ok (EvD.slice ok (EvD.nm ok hxs 0 rfl) (.some (EvD.bin ok (EvD.nm ok hxs 1 rfl) (EvD.cint) (OpD.add ok))) .none) (ArD.nil)) (C285 hW (fun h => nomatch h) hdp hun (by decide)) (kg hE (by with_unfolding_all rfl))) (ArD.nil)))) (EvD.cnone))) (Runs.nil)))))
theorem C290 {C : Cx} {n : Nat} (hW : C.W = wd w mean mg mb) (hx : false = true → FsOk C) (hd : C.dp + n < 900) (hu : C.un + 4 * n < 2000) (hn : 2 ≤ n) : Callee C "_law_pair" 290 F290 := callee hW G__law_pair (by kernel_rfl!) D290 hx hd hu hn

/-! _law_trailers -/
noncomputable def g295 : SF := seqF (datF 1 (binF splitO (nameF 0) (cstF (.bytes [10])))) (seqF (whileF (andF (cmpF neO (nameF 1) (lstF (nilA))) (andF (cmpF eqO (binF itemO (nameF 1) (unF negO (cstF (.int 1)))) (cstF (.bytes []))) (bF true))) (seqF (datF 1 (sliceF (nameF 1) none (some (unF negO (cstF (.int 1)))))) (doneF')) 1000000) (seqF (datF 2 (lstF (nilA))) (seqF (whileF (andF (cmpF neO (nameF 1) (lstF (nilA))) (andF (cmpF neO (binF itemO (nameF 1) (unF negO (cstF (.int 1)))) (cstF (.bytes []))) (bF true))) (seqF (tupS1 [1, 2] (tupF (consA (binF addO (lstF (consA (binF itemO (nameF 1) (unF negO (cstF (.int 1)))) (nilA))) (nameF 2)) (consA (sliceF (nameF 1) none (some (unF negO (cstF (.int 1))))) (nilA))))) (doneF')) 1000000) (seqF (brF (cmpF eqO (compF (nameF 1) (cmpF neO (nameF 0) (cstF (.bytes []))) (nameF 0)) (lstF (nilA))) (seqF (retF (lstF (nilA))) (doneF')) (doneF')) (seqF (Mine.ownFirst 3 [4, 5, 6, 7] (lstF (nilA)) (consA (cstF (.int 0)) (consA (cstF (.int 0)) (consA (cstF (.bool false)) (consA (cstF (.bool false)) (nilA)))))) (seqF (forF 8 (nameF 2) (seqF (datF 9 (callF F290 (consA (nameF 8) (nilA)))) (seqF (brF (cmpF eqO (sliceF (nameF 8) none (some (cstF (.int 27)))) (cstF (.bytes [40, 99, 104, 101, 114, 114, 121, 32, 112, 105, 99, 107, 101, 100, 32, 102, 114, 111, 109, 32, 99, 111, 109, 109, 105, 116, 32]))) (seqF (tupS1 [6, 7, 5] (tupF (consA (binF addO (nameF 5) (cstF (.int 1))) (consA (cstF (.bool true)) (consA (cstF (.bool false)) (nilA)))))) (doneF')) (seqF (brF (cmpF isnO (nameF 9) (cstF .none)) (seqF (ownF 3 pushO (nameF 9)) (seqF (tupS1 [7, 6] (tupF (consA (cstF (.bool true)) (consA (orV (nameF 7) (boolF (cmpF eqO (binF itemO (nameF 9) (cstF (.int 0))) (cstF (.bytes [83, 105, 103, 110, 101, 100, 45, 111, 102, 102, 45, 98, 121]))))) (nilA))))) (doneF'))) (seqF (brF (andF (cmpF inO (sliceF (nameF 8) none (some (cstF (.int 1)))) (tupF (consA (cstF (.bytes [32])) (consA (cstF (.bytes [9])) (nilA))))) (andF (valF (nameF 6)) (bF true))) (seqF (ownF 3 setLastO (tupF (consA (binF itemO (binF itemO (nameF 3) (unF negO (cstF (.int 1)))) (cstF (.int 0))) (consA (callF F285 (consA (binF addO (binF addO (binF itemO (binF itemO (nameF 3) (unF negO (cstF (.int 1)))) (cstF (.int 1))) (cstF (.bytes [32]))) (callF F285 (consA (nameF 8) (nilA)))) (nilA))) (nilA))))) (doneF')) (seqF (tupS1 [6, 4] (tupF (consA (binF addO (nameF 4) (cstF (.int 1))) (consA (cstF (.bool false)) (nilA))))) (doneF'))) (doneF'))) (doneF'))) (doneF')))) (seqF (retF (ifF (orF (cmpF eqO (nameF 4) (cstF (.int 0))) (orF (andF (valF (nameF 7)) (andF (cmpF geO (binF mulO (cstF (.int 3)) (binF addO (unF lenO (nameF 3)) (nameF 5))) (nameF 4)) (bF true))) (bF false))) (nameF 3) (lstF (nilA)))) (doneF'))))))))
noncomputable def F295 : FF := runF 1 9 g295
set_option maxHeartbeats 4000000 in
theorem D295 : FnD (wd w mean mg mb) 295 3 false F295 := by
  refine FnD.of_runs 1 ["message", "rows", "part", "found", "others", "picked", "is_open", "is_made", "row", "pair"] (by with_unfolding_all exact rfl) (by kernel_rfl!) ?_ (by decide +kernel) (by decide +kernel) (by decide) rfl rfl rfl (by decide +kernel) ?_
  · intro vs hv
    obtain ⟨v0, t0, rfl, h0⟩ := lenS hv
    obtain rfl := List.length_eq_zero_iff.mp h0
    rfl
  · intro C ok hW hLN hE hxs hx hdp hun
    exact Runs.cons ok (Run1.dat ok hLN 1 (EvD.split ok (EvD.nm ok hxs 0 rfl) (EvD.cbytes)) (xi hxs (i := 1) rfl)) (Runs.cons ok (Run1.while ok 1000000 (TeD.and (TeD.cmp ok (EvD.nm ok hxs 1 rfl) (EvD.lst ok (ArD.nil)) (CmpD.ne ok)) (TeD.and (TeD.cmp ok (EvD.item ok (EvD.nm ok hxs 1 rfl) (EvD.neg (EvD.cint))) (EvD.cbytes) (CmpD.eq ok)) (TeD.and0))) (Runs.cons ok (Run1.dat ok hLN 1 (EvD.slice ok (EvD.nm ok hxs 1 rfl) .none (.some (EvD.neg (EvD.cint)))) (xi hxs (i := 1) rfl)) (Runs.nil))) (Runs.cons ok (Run1.dat ok hLN 2 (EvD.lst ok (ArD.nil)) (xi hxs (i := 2) rfl)) (Runs.cons ok (Run1.while ok 1000000 (TeD.and (TeD.cmp ok (EvD.nm ok hxs 1 rfl) (EvD.lst ok (ArD.nil)) (CmpD.ne ok)) (TeD.and (TeD.cmp ok (EvD.item ok (EvD.nm ok hxs 1 rfl) (EvD.neg (EvD.cint))) (EvD.cbytes) (CmpD.ne ok)) (TeD.and0))) (Runs.cons ok (Run1.tupS ok hLN (EvD.tup ok (ArD.cons ok (EvD.bin ok (EvD.lst ok (ArD.cons ok (EvD.item ok (EvD.nm ok hxs 1 rfl) (EvD.neg (EvD.cint))) (ArD.nil))) (EvD.nm ok hxs 2 rfl) (OpD.add ok)) (ArD.cons ok (EvD.slice ok (EvD.nm ok hxs 1 rfl) .none (.some (EvD.neg (EvD.cint)))) (ArD.nil)))) (names := ["part", "rows"]) (.cons (x := "rows") (xi hxs (i := 1) rfl) (.cons (x := "part") (xi hxs (i := 2) rfl) (.nil))) (by rw [hE]; rfl) (by rw [hE]; rfl)) (Runs.nil))) (Runs.cons ok (Run1.if ok (TeD.cmp ok (EvD.comp ok hLN (EvD.nm ok hxs 1 rfl) (fun C' h1 => .one (TeD.cmp h1.ok (EvD.nm h1.ok h1.xs 0 rfl) (EvD.cbytes) (CmpD.ne h1.ok))) (fun C' h1 => EvD.nm h1.ok h1.xs 0 rfl) (by rw [hE]; rfl) (by decide +kernel) rfl (by decide +kernel) rfl rfl) (EvD.lst ok (ArD.nil)) (CmpD.eq ok)) (Runs.cons ok (Run1.ret (EvD.lst ok (ArD.nil))) (Runs.nil)) (Runs.nil)) (Runs.cons ok (Run1.ownFirst ok hLN (EvD.lst ok (ArD.nil)) (ArD.cons ok (EvD.cint) (ArD.cons ok (EvD.cint) (ArD.cons ok (EvD.cbool) (ArD.cons ok (EvD.cbool) (ArD.nil))))) rfl (xi hxs (i := 3) rfl) rfl (Stores.nm rfl) (.cons "others" (xi hxs (i := 4) rfl) (Stores.nm rfl) (.cons "picked" (xi hxs (i := 5) rfl) (Stores.nm rfl) (.cons "is_open" (xi hxs (i := 6) rfl) (Stores.nm rfl) (.cons "is_made" (xi hxs (i := 7) rfl) (Stores.nm rfl) (.nil))))) rfl rfl rfl) (Runs.cons ok (Run1.for ok hLN 8 (EvD.nm ok hxs 2 rfl) (Runs.cons ok (Run1.dat ok hLN 9 (EvD.call ok (ArD.cons ok (EvD.nm ok hxs 8 rfl) (ArD.nil)) (C290 hW (fun h => nomatch h) hdp hun (by decide)) (kg hE (by with_unfolding_all rfl))) (xi hxs (i := 9) rfl)) (Runs.cons ok (Run1.if ok (TeD.cmp ok (EvD.slice ok (EvD.nm ok hxs 8 rfl) .none (.some (EvD.cint))) (EvD.cbytes) (CmpD.eq ok)) (Runs.cons ok (Run1.tupS ok hLN (EvD.tup ok (ArD.cons ok (EvD.bin ok (EvD.nm ok hxs 5 rfl) (EvD.cint) (OpD.add ok)) (ArD.cons ok (EvD.cbool) (ArD.cons ok (EvD.cbool) (ArD.nil))))) (names := ["picked", "is_made", "is_open"]) (.cons (x := "is_open") (xi hxs (i := 6) rfl) (.cons (x := "is_made") (xi hxs (i := 7) rfl) (.cons (x := "picked") (xi hxs (i := 5) rfl) (.nil)))) (by rw [hE]; rfl) (by rw [hE]; rfl)) (Runs.nil)) (Runs.cons ok (Run1.if ok (TeD.cmp ok (EvD.nm ok hxs 9 rfl) (EvD.cnone) CmpD.isn) (Runs.cons ok (Run1.append ok 3 (EvD.nm ok hxs 9 rfl) (xi hxs (i := 3) rfl) rfl rfl) (Runs.cons ok (Run1.tupS ok hLN (EvD.tup ok (ArD.cons ok (EvD.cbool) (ArD.cons ok (EvD.or2 ok (EvD.nm ok hxs 7 rfl) (EvD.cmp ok (EvD.item ok (EvD.nm ok hxs 9 rfl) (EvD.cint)) (EvD.cbytes) (CmpD.eq ok))) (ArD.nil)))) (names := ["is_open", "is_made"]) (.cons (x := "is_made") (xi hxs (i := 7) rfl) (.cons (x := "is_open") (xi hxs (i := 6) rfl) (.nil))) (by rw [hE]; rfl) (by rw [hE]; rfl)) (Runs.nil))) (Runs.cons ok (Run1.if ok (TeD.and (TeD.cmp ok (EvD.slice ok (EvD.nm ok hxs 8 rfl) .none (.some (EvD.cint))) (EvD.tup ok (ArD.cons ok (EvD.cbytes) (ArD.cons ok (EvD.cbytes) (ArD.nil)))) CmpD.in) (TeD.and (TeD.tv (EvD.nm ok hxs 6 rfl)) (TeD.and0))) (Runs.cons ok (Run1.setLast ok 3 (EvD.tup ok (ArD.cons ok (EvD.item ok (EvD.item ok (EvD.nm ok hxs 3 rfl) (EvD.neg (EvD.cint))) (EvD.cint)) (ArD.cons ok (EvD.call ok (ArD.cons ok (EvD.bin ok (EvD.bin ok (EvD.item ok (EvD.item ok (EvD.nm ok hxs 3 rfl) (EvD.neg (EvD.cint))) (EvD.cint)) (EvD.cbytes) (OpD.add ok)) (EvD.call ok (ArD.cons ok (EvD.nm ok hxs 8 rfl) (ArD.nil)) (C285 hW (fun h => nomatch h) hdp hun (by decide)) (kg hE (by with_unfolding_all rfl))) (OpD.add ok)) (ArD.nil)) (C285 hW (fun h => nomatch h) hdp hun (by decide)) (kg hE (by with_unfolding_all rfl))) (ArD.nil)))) (xi hxs (i := 3) rfl)) (Runs.nil)) (Runs.cons ok (Run1.tupS ok hLN (EvD.tup ok (ArD.cons ok (EvD.bin ok (EvD.nm ok hxs 4 rfl) (EvD.cint) (OpD.add ok)) (ArD.cons ok (EvD.cbool) (ArD.nil)))) (names := ["others", "is_open"]) (.cons (x := "is_open") (xi hxs (i := 6) rfl) (.cons (x := "others") (xi hxs (i := 4) rfl) (.nil))) (by rw [hE]; rfl) (by rw [hE]; rfl)) (Runs.nil))) (Runs.nil))) (Runs.nil))) (Runs.nil))) (xi hxs (i := 8) rfl)) (Runs.cons ok (Run1.ret (EvD.ifE ok (TeD.or (TeD.cmp ok (EvD.nm ok hxs 4 rfl) (EvD.cint) (CmpD.eq ok)) (TeD.or (TeD.and (TeD.tv (EvD.nm ok hxs 7 rfl)) (TeD.and (TeD.cmp ok (EvD.bin ok (EvD.cint) (EvD.bin ok (EvD.bB ok (B_len hW) (kg hE (by with_unfolding_all rfl)) CallD1.len (EvD.nm ok hxs 3 rfl)) (EvD.nm ok hxs 5 rfl) (OpD.add ok)) (OpD.mul ok)) (EvD.nm ok hxs 4 rfl) CmpD.ge) (TeD.and0))) (TeD.or0))) (EvD.nm ok hxs 3 rfl) (EvD.lst ok (ArD.nil)))) (Runs.nil))))))))
theorem C295 {C : Cx} {n : Nat} (hW : C.W = wd w mean mg mb) (hx : false = true → FsOk C) (hd : C.dp + n < 900) (hu : C.un + 4 * n < 2000) (hn : 3 ≤ n) : Callee C "_law_trailers" 295 F295 := callee hW G__law_trailers (by kernel_rfl!) D295 hx hd hu hn

/-! _law_message_right -/
noncomputable def g300 : SF := seqF (datF 1 (makeF 130 4 (consA (cstF (.bytes [65])) (consA (cstF (.bytes [97, 64, 98])) (consA (cstF (.int 1)) (consA (cstF (.bytes [43, 48, 48, 48, 48])) (nilA))))))) (seqF (brF (cmpF neO (callF F216 (selfF 219 (makeF 219 6 (consA (cstF (.bytes [1, 2])) (consA (lstF (nilA)) (consA (nameF 1) (consA (nameF 1) (consA (lstF (nilA)) (consA (nameF 0) (nilA)))))))))) (callF F278 (consA (nameF 0) (nilA)))) (seqF (retF (cstF (.bool false))) (doneF')) (doneF')) (seqF (retF (boolF (cmpF eqO (compF (callF F188 (consA (nameF 0) (nilA))) (bF true) (unF tupleO (nameF 0))) (callF F295 (consA (nameF 0) (nilA)))))) (doneF')))
noncomputable def F300 : FF := runF 1 1 g300
set_option maxHeartbeats 4000000 in
theorem D300 : FnD (wd w mean mg mb) 300 5 false F300 := by
  refine FnD.of_runs 1 ["message", "person"] (by with_unfolding_all exact rfl) (by kernel_rfl!) ?_ (by decide +kernel) (by decide +kernel) (by decide) rfl rfl rfl (by decide +kernel) ?_
  · intro vs hv
    obtain ⟨v0, t0, rfl, h0⟩ := lenS hv
    obtain rfl := List.length_eq_zero_iff.mp h0
    rfl
  · intro C ok hW hLN hE hxs hx hdp hun
    exact Runs.cons ok (Run1.dat ok hLN 1 (EvD.make ok (ArD.cons ok (EvD.cbytes) (ArD.cons ok (EvD.cbytes) (ArD.cons ok (EvD.cint) (ArD.cons ok (EvD.cbytes) (ArD.nil))))) (I_130 hW) (G_Person hW).n (G_Person hW).d (kg hE (by with_unfolding_all rfl)) (Kp_130 hW)) (xi hxs (i := 1) rfl)) (Runs.cons ok (Run1.if ok (TeD.cmp ok (EvD.meth0 ok (EvD.make ok (ArD.cons ok (EvD.cbytes) (ArD.cons ok (EvD.lst ok (ArD.nil)) (ArD.cons ok (EvD.nm ok hxs 1 rfl) (ArD.cons ok (EvD.nm ok hxs 1 rfl) (ArD.cons ok (EvD.lst ok (ArD.nil)) (ArD.cons ok (EvD.nm ok hxs 0 rfl) (ArD.nil))))))) (I_219 hW) (G_Commit hW).n (G_Commit hW).d (kg hE (by with_unfolding_all rfl)) (Kp_219 hW)) (M216 hW) (ex := false) (rk := 4) (hW ▸ D216) (fun h => nomatch h) (low hdp (by decide)) (lou hun (by decide)) _ rfl) (EvD.call ok (ArD.cons ok (EvD.nm ok hxs 0 rfl) (ArD.nil)) (C278 hW (fun h => nomatch h) hdp hun (by decide)) (kg hE (by with_unfolding_all rfl))) (CmpD.ne ok)) (Runs.cons ok (Run1.ret (EvD.cbool)) (Runs.nil)) (Runs.nil)) (Runs.cons ok (Run1.ret (EvD.cmp ok (EvD.comp ok hLN (EvD.call ok (ArD.cons ok (EvD.nm ok hxs 0 rfl) (ArD.nil)) (C188 hW (fun h => nomatch h) hdp hun (by decide)) (kg hE (by with_unfolding_all rfl))) (fun C' h1 => .none) (fun C' h1 => EvD.tT h1.ok (B_tuple (h1.W hW)) (h1.kg (by with_unfolding_all rfl)) CallD1.tuple (EvD.nm h1.ok h1.xs 0 rfl)) (by rw [hE]; rfl) (by decide +kernel) rfl (by decide +kernel) rfl rfl) (EvD.call ok (ArD.cons ok (EvD.nm ok hxs 0 rfl) (ArD.nil)) (C295 hW (fun h => nomatch h) hdp hun (by decide)) (kg hE (by with_unfolding_all rfl))) (CmpD.eq ok))) (Runs.nil)))
theorem C300 {C : Cx} {n : Nat} (hW : C.W = wd w mean mg mb) (hx : false = true → FsOk C) (hd : C.dp + n < 900) (hu : C.un + 4 * n < 2000) (hn : 5 ≤ n) : Callee C "_law_message_right" 300 F300 := callee hW G__law_message_right (by kernel_rfl!) D300 hx hd hu hn

/-! _law_messages_right -/
noncomputable def g307 : SF := seqF (datF 1 (lstF (consA (cstF (.bytes [111, 110, 101])) (consA (cstF (.bytes [116, 119, 111, 32, 119, 111, 114, 100, 115])) (consA (cstF (.bytes [115, 101, 101, 58, 32, 116, 104, 105, 115])) (consA (cstF (.bytes [40, 99, 104, 101, 114, 114, 121, 32, 112, 105, 99, 107, 101, 100, 32, 102, 114, 111, 109, 32, 99, 111, 109, 109, 105, 116, 32, 48, 49, 41])) (consA (cstF (.bytes [120, 32, 121, 58, 32, 122])) (consA (cstF (.bytes [45])) (consA (cstF (.bytes [58])) (consA (cstF (.bytes [97, 45, 49])) (nilA))))))))))) (seqF (datF 2 (lstF (consA (cstF (.bytes [83, 105, 103, 110, 101, 100, 45, 111, 102, 102, 45, 98, 121, 58, 32, 65, 32, 60, 97, 64, 98, 62])) (consA (cstF (.bytes [70, 105, 120, 101, 115, 58, 35, 49])) (consA (cstF (.bytes [75, 101, 121, 45, 50, 32, 58, 32, 32, 118, 32, 32])) (consA (cstF (.bytes [115, 105, 103, 110, 101, 100, 45, 111, 102, 102, 45, 98, 121, 58, 32, 66])) (consA (cstF (.bytes [75, 58])) (consA (cstF (.bytes [65, 99, 107, 101, 100, 45, 98, 121, 58, 32, 67, 58, 32, 100])) (nilA))))))))) (seqF (rangeF 3 (cstF (.int 1)) (seqF (asgF 4 (binF addO (binF mulO (lstF (consA (cstF (.bytes [32, 9])) (consA (cstF (.bytes [111, 110, 101])) (nilA)))) (unF intO (boolF (cmpF eqO (callF F235 (consA (nameF 0) (consA (cstF (.int 5)) (nilA)))) (cstF (.int 0)))))) (binF mulO (lstF (consA (cstF (.bytes [])) (nilA))) (callF F235 (consA (nameF 0) (consA (cstF (.int 2)) (nilA))))))) (seqF (rangeF 5 (callF F235 (consA (nameF 0) (consA (cstF (.int 5)) (nilA)))) (seqF (ownF 4 pushO (callF F242 (consA (nameF 0) (consA (binF addO (nameF 1) (lstF (consA (cstF (.bytes [])) (consA (cstF (.bytes [101, 110, 100, 32, 32])) (consA (cstF (.bytes [101, 110, 100, 13])) (consA (cstF (.bytes [116, 97, 105, 108, 32, 12, 11, 9])) (nilA))))))) (nilA))))) (doneF'))) (seqF (asgF 4 (binF addO (nameF 4) (binF mulO (lstF (consA (cstF (.bytes [])) (nilA))) (unF intO (boolF (cmpF gtO (callF F235 (consA (nameF 0) (consA (cstF (.int 4)) (nilA)))) (cstF (.int 0)))))))) (seqF (rangeF 5 (callF F235 (consA (nameF 0) (consA (cstF (.int 5)) (nilA)))) (seqF (ownF 4 pushO (callF F242 (consA (nameF 0) (consA (binF addO (binF addO (binF addO (nameF 2) (nameF 2)) (lstF (consA (cstF (.bytes [32, 109, 111, 114, 101])) (consA (cstF (.bytes [9, 97, 110, 100, 32, 109, 111, 114, 101, 32])) (nilA))))) (sliceF (nameF 1) none (some (cstF (.int 4))))) (nilA))))) (doneF'))) (seqF (asgF 4 (binF addO (nameF 4) (binF mulO (lstF (consA (cstF (.bytes [])) (nilA))) (callF F235 (consA (nameF 0) (consA (cstF (.int 3)) (nilA))))))) (seqF (brF (notF (valF (callF F300 (consA (binF joinO (cstF (.bytes [10])) (nameF 4)) (nilA))))) (seqF (retF (cstF (.bool false))) (doneF')) (doneF')) (doneF')))))))) (seqF (datF 6 (cstF (.bytes [111, 110, 101, 10, 10, 83, 101, 101, 58, 32, 97, 10, 32, 32, 98, 10, 9, 99, 10, 40, 99, 104, 101, 114, 114, 121, 32, 112, 105, 99, 107, 101, 100, 32, 102, 114, 111, 109, 32, 99, 111, 109, 109, 105, 116, 32, 48, 49, 41, 10, 112, 108, 97, 105, 110, 10]))) (seqF (brF (orF (cmpF neO (callF F295 (consA (nameF 6) (nilA))) (lstF (consA (tupF (consA (cstF (.bytes [83, 101, 101])) (consA (cstF (.bytes [97, 32, 98, 32, 99])) (nilA)))) (nilA)))) (orF (notF (valF (callF F300 (consA (nameF 6) (nilA))))) (bF false))) (seqF (retF (cstF (.bool false))) (doneF')) (doneF')) (seqF (retF (callF F300 (consA (callF F242 (consA (nameF 0) (consA (lstF (consA (cstF (.bytes [])) (consA (cstF (.bytes [75, 101, 121, 58, 32, 118, 10])) (consA (cstF (.bytes [97, 10, 10, 75, 101, 121, 58, 32, 118, 10, 112, 108, 97, 105, 110, 10])) (consA (cstF (.bytes [97, 10, 10, 75, 58, 10, 32, 109, 111, 114, 101, 10])) (nilA)))))) (nilA)))) (nilA)))) (doneF'))))))
noncomputable def F307 : FF := runF 1 6 g307
set_option maxHeartbeats 4000000 in
theorem D307 : FnD (wd w mean mg mb) 307 6 false F307 := by
  refine FnD.of_runs 1 ["deck", "prose", "keys", "turn", "rows", "go", "by_hand"] (by with_unfolding_all exact rfl) (by kernel_rfl!) ?_ (by decide +kernel) (by decide +kernel) (by decide) rfl rfl rfl (by decide +kernel) ?_
  · intro vs hv
    obtain ⟨v0, t0, rfl, h0⟩ := lenS hv
    obtain rfl := List.length_eq_zero_iff.mp h0
    rfl
  · intro C ok hW hLN hE hxs hx hdp hun
    exact Runs.cons ok (Run1.dat ok hLN 1 (EvD.lst ok (ArD.cons ok (EvD.cbytes) (ArD.cons ok (EvD.cbytes) (ArD.cons ok (EvD.cbytes) (ArD.cons ok (EvD.cbytes) (ArD.cons ok (EvD.cbytes) (ArD.cons ok (EvD.cbytes) (ArD.cons ok (EvD.cbytes) (ArD.cons ok (EvD.cbytes) (ArD.nil)))))))))) (xi hxs (i := 1) rfl)) (Runs.cons ok (Run1.dat ok hLN 2 (EvD.lst ok (ArD.cons ok (EvD.cbytes) (ArD.cons ok (EvD.cbytes) (ArD.cons ok (EvD.cbytes) (ArD.cons ok (EvD.cbytes) (ArD.cons ok (EvD.cbytes) (ArD.cons ok (EvD.cbytes) (ArD.nil)))))))) (xi hxs (i := 2) rfl)) (Runs.cons ok (Run1.forR ok hLN 3 (EvD.cint) (Runs.cons ok (Run1.asg ok hLN 4 (EvD.bin ok (EvD.bin ok (EvD.lst ok (ArD.cons ok (EvD.cbytes) (ArD.cons ok (EvD.cbytes) (ArD.nil)))) (EvD.tT ok (B_int hW) (kg hE (by with_unfolding_all rfl)) CallD1.int (EvD.cmp ok (EvD.call ok (ArD.cons ok (EvD.nm ok hxs 0 rfl) (ArD.cons ok (EvD.cint) (ArD.nil))) (C235 hW (fun h => nomatch h) hdp hun (by decide)) (kg hE (by with_unfolding_all rfl))) (EvD.cint) (CmpD.eq ok))) (OpD.mul ok)) (EvD.bin ok (EvD.lst ok (ArD.cons ok (EvD.cbytes) (ArD.nil))) (EvD.call ok (ArD.cons ok (EvD.nm ok hxs 0 rfl) (ArD.cons ok (EvD.cint) (ArD.nil))) (C235 hW (fun h => nomatch h) hdp hun (by decide)) (kg hE (by with_unfolding_all rfl))) (OpD.mul ok)) (OpD.add ok)) (xi hxs (i := 4) rfl)) (Runs.cons ok (Run1.forR ok hLN 5 (EvD.call ok (ArD.cons ok (EvD.nm ok hxs 0 rfl) (ArD.cons ok (EvD.cint) (ArD.nil))) (C235 hW (fun h => nomatch h) hdp hun (by decide)) (kg hE (by with_unfolding_all rfl))) (Runs.cons ok (Run1.append ok 4 (EvD.call ok (ArD.cons ok (EvD.nm ok hxs 0 rfl) (ArD.cons ok (EvD.bin ok (EvD.nm ok hxs 1 rfl) (EvD.lst ok (ArD.cons ok (EvD.cbytes) (ArD.cons ok (EvD.cbytes) (ArD.cons ok (EvD.cbytes) (ArD.cons ok (EvD.cbytes) (ArD.nil)))))) (OpD.add ok)) (ArD.nil))) (C242 hW (fun h => nomatch h) hdp hun (by decide)) (kg hE (by with_unfolding_all rfl))) (xi hxs (i := 4) rfl) rfl rfl) (Runs.nil)) (xi hxs (i := 5) rfl) (B_range hW).n (kg hE (by with_unfolding_all rfl)) rfl) (Runs.cons ok (Run1.asg ok hLN 4 (EvD.bin ok (EvD.nm ok hxs 4 rfl) (EvD.bin ok (EvD.lst ok (ArD.cons ok (EvD.cbytes) (ArD.nil))) (EvD.tT ok (B_int hW) (kg hE (by with_unfolding_all rfl)) CallD1.int (EvD.cmp ok (EvD.call ok (ArD.cons ok (EvD.nm ok hxs 0 rfl) (ArD.cons ok (EvD.cint) (ArD.nil))) (C235 hW (fun h => nomatch h) hdp hun (by decide)) (kg hE (by with_unfolding_all rfl))) (EvD.cint) CmpD.gt)) (OpD.mul ok)) (OpD.add ok)) (xi hxs (i := 4) rfl)) (Runs.cons ok (Run1.forR ok hLN 5 (EvD.call ok (ArD.cons ok (EvD.nm ok hxs 0 rfl) (ArD.cons ok (EvD.cint) (ArD.nil))) (C235 hW (fun h => nomatch h) hdp hun (by decide)) (kg hE (by with_unfolding_all rfl))) (Runs.cons ok (Run1.append ok 4 (EvD.call ok (ArD.cons ok (EvD.nm ok hxs 0 rfl) (ArD.cons ok (EvD.bin ok (EvD.bin ok (EvD.bin ok (EvD.nm ok hxs 2 rfl) (EvD.nm ok hxs 2 rfl) (OpD.add ok)) (EvD.lst ok (ArD.cons ok (EvD.cbytes) (ArD.cons ok (EvD.cbytes) (ArD.nil)))) (OpD.add ok)) (EvD.slice ok (EvD.nm ok hxs 1 rfl) .none (.some (EvD.cint))) (OpD.add ok)) (ArD.nil))) (C242 hW (fun h => nomatch h) hdp hun (by decide)) (kg hE (by with_unfolding_all rfl))) (xi hxs (i := 4) rfl) rfl rfl) (Runs.nil)) (xi hxs (i := 5) rfl) (B_range hW).n (kg hE (by with_unfolding_all rfl)) rfl) (Runs.cons ok (Run1.asg ok hLN 4 (EvD.bin ok (EvD.nm ok hxs 4 rfl) (EvD.bin ok (EvD.lst ok (ArD.cons ok (EvD.cbytes) (ArD.nil))) (EvD.call ok (ArD.cons ok (EvD.nm ok hxs 0 rfl) (ArD.cons ok (EvD.cint) (ArD.nil))) (C235 hW (fun h => nomatch h) hdp hun (by decide)) (kg hE (by with_unfolding_all rfl))) (OpD.mul ok)) (OpD.add ok)) (xi hxs (i := 4) rfl)) (Runs.cons ok (Run1.if ok (TeD.not (TeD.tv (EvD.call ok (ArD.cons ok (EvD.join ok (EvD.cbytes) (EvD.nm ok hxs 4 rfl)) (ArD.nil)) (C300 hW (fun h => nomatch h) hdp hun (by decide)) (kg hE (by with_unfolding_all rfl))))) (Runs.cons ok (Run1.ret (EvD.cbool)) (Runs.nil)) (Runs.nil)) (Runs.nil))))))) (xi hxs (i := 3) rfl) (B_range hW).n (kg hE (by with_unfolding_all rfl)) rfl) (Runs.cons ok (Run1.dat ok hLN 6 (EvD.cbytes) (xi hxs (i := 6) rfl)) (Runs.cons ok (Run1.if ok (TeD.or (TeD.cmp ok (EvD.call ok (ArD.cons ok (EvD.nm ok hxs 6 rfl) (ArD.nil)) (C295 hW (fun h => nomatch h) hdp hun (by decide)) (kg hE (by with_unfolding_all rfl))) (EvD.lst ok (ArD.cons ok (EvD.tup ok (ArD.cons ok (EvD.cbytes) (ArD.cons ok (EvD.cbytes) (ArD.nil)))) (ArD.nil))) (CmpD.ne ok)) (TeD.or (TeD.not (TeD.tv (EvD.call ok (ArD.cons ok (EvD.nm ok hxs 6 rfl) (ArD.nil)) (C300 hW (fun h => nomatch h) hdp hun (by decide)) (kg hE (by with_unfolding_all rfl))))) (TeD.or0))) (Runs.cons ok (Run1.ret (EvD.cbool)) (Runs.nil)) (Runs.nil)) (Runs.cons ok (Run1.ret (EvD.call ok (ArD.cons ok (EvD.call ok (ArD.cons ok (EvD.nm ok hxs 0 rfl) (ArD.cons ok (EvD.lst ok (ArD.cons ok (EvD.cbytes) (ArD.cons ok (EvD.cbytes) (ArD.cons ok (EvD.cbytes) (ArD.cons ok (EvD.cbytes) (ArD.nil)))))) (ArD.nil))) (C242 hW (fun h => nomatch h) hdp hun (by decide)) (kg hE (by with_unfolding_all rfl))) (ArD.nil)) (C300 hW (fun h => nomatch h) hdp hun (by decide)) (kg hE (by with_unfolding_all rfl)))) (Runs.nil))))))
theorem C307 {C : Cx} {n : Nat} (hW : C.W = wd w mean mg mb) (hx : false = true → FsOk C) (hd : C.dp + n < 900) (hu : C.un + 4 * n < 2000) (hn : 6 ≤ n) : Callee C "_law_messages_right" 307 F307 := callee hW G__law_messages_right (by kernel_rfl!) D307 hx hd hu hn
end
end Mine

namespace Mine
section
variable {C : Cx} {σ : St} {oa : List Addr}
noncomputable def revF (f : EF) (k : EF) : EF := fun σ => match f σ with
  | some (a, d) => (match a.pv with
    | .lst l => (match partF (some k) (σ.setD d) with
      | some (some (-1), d') => if l.length ≤ 16777216 then some (.fr l.reverse, d') else none
      | _ => none)
    | _ => none)
  | none => none
theorem EvD.rev (ok : C.Ok) {v e : Expr} {p pos} {f k : EF} (hf : EvD C v f) (hk : EvD C e k) : EvD C (.Subscript v (.Slice none none (some e) p) pos) (revF f k) := fun σ oa s Q E rv d h H hQ => by
  unfold revF at h
  split at h
  · rename_i a d1 q1
    split at h
    · rename_i l e1
      split at h
      · rename_i d2 q2
        by_cases hz : l.length ≤ 16777216
        · rw [if_pos hz] at h; cases h
          refine Subscript_ (hf σ oa s _ _ a d1 q1 H fun va s₁ H₁ k₁ ra => wpAny_Slice ?_)
          rw [evalPart_none]
          refine wpAny_pure (wpAny_pure (part_at (.some hk) q2 H₁ fun vu s₂ H₂ k₂ pu => ?_))
          refine (tail_any (ops := [_, _]) ?_ rfl)
          have ra₂ := (ra.wr.next ok k₂).next ok (KQ.push s₂.heap { cls := .type "slice", data := .fields #[.none, .none, vu] })
          rw [e1] at ra₂
          obtain ⟨a, vs, k, rfl, e1, _, e2⟩ := ra₂.lst
          have H₃ := H₂.push (k := s₂.toks) ok { cls := .type "slice", data := .fields #[.none, .none, vu] }
          refine ⟨"list", _, F.slot_list_getitem.lookup, ⟨_, e1, rfl⟩, wpAny_getItem_list_slice (isList_of e1) (Heap.IsSliceOf.new ..) .none .none pu (by decide) ?_ (by rw [List.size_toArray, e2.length]; exact hz)⟩
          rw [krv_pick]
          have kk := (k₁.trans k₂).trans (KQ.push s₂.heap { cls := .type "slice", data := .fields #[.none, .none, vu] })
          exact hQ _ _ (H₃.push ok _) (kk.trans (KQ.push _ _)) (FreshL.since ok (H₃.freshL e2.rev) kk)
        · rw [if_neg hz] at h; cases h
      · cases h
    · cases h
  · cases h

structure Made (C : Cx) (dk c : Addr) (K : Dk) (s' : Shared) : Prop where
  fr : ∃ m, Fr C.h₀ C.L s'.heap m
  deck : DeckIn C.W dk s'.heap [dk, c] (some K)
  nd : C.h₀.get? dk = none
  nc : C.h₀.get? c = none
  xd : dk ∉ C.X'
  xc : c ∉ C.X'
  gens : s'.gens = C.gens
  drawn : s'.drawn = C.drawn
  os : s'.os = C.os
  fs : ∀ b ∈ C.Fs, b ≠ C.L → ∃ sl, s'.heap.get? b = some { C.fo b with slots := sl }
theorem ret_deck (ok : C.Ok) {vc vm vt : Expr} {k1 k2 k3 : Nat} {p1 p2 p3 pos' pos : Pos} {fc fm ft : EF} (hc : EvD C vc fc) (hm : EvD C vm fm) (ht : EvD C vt ft) {l : List PV} {ns : List Int} {mx tn : Int} (hl : intsOf l = some ns)
    (qc : fc σ = some (.fr l, σ.dk)) (qm : fm σ = some (.st (.int mx), σ.dk)) (qt : ft σ = some (.st (.int tn), σ.dk)) {s : Shared} {Q : Flow → Shared → Prop} {E : Value → Shared → Prop} (H : Here C σ oa s)
    (hQ : ∀ dk c s', Made C dk c ⟨ns, mx, tn⟩ s' → Q (.ret (.ref dk)) s') :
    wpAny C.M C.A (exec (.Return (some (.Dict [some (.Constant (.str "cells") k1 p1), some (.Constant (.str "mixed") k2 p2), some (.Constant (.str "turn") k3 p3)] [vc, vm, vt] pos')) pos) C.env) Q E s := by
  refine wpAny_Return_some (wpAny_Dict_walk (knd := strKind C.W.prog C.W.w) rfl rfl (by simp) (show 3 ≤ 15 by decide) ?_)
  have hD := H.size_out
  have H₀ := H.push (k := s.toks) ok { cls := .type "dict", data := .dict #[] }
  refine pairTrees_cons_walk (EvD.cstr σ oa _ _ _ _ _ rfl H₀ fun v1 s₁ H₁ x₁ r₁ => ?_)
  obtain ⟨_, rfl⟩ := Rep.str_inv r₁
  refine hc σ oa s₁ _ _ _ _ qc H₁ fun v2 s₂ H₂ x₂ r₂ => ?_
  refine pairTrees_cons_walk (EvD.cstr σ oa _ _ _ _ _ rfl H₂ fun v3 s₃ H₃ x₃ r₃ => ?_)
  obtain ⟨_, rfl⟩ := Rep.str_inv r₃
  refine hm σ oa s₃ _ _ _ _ qm H₃ fun v4 s₄ H₄ x₄ r₄ => ?_
  obtain ⟨_, rfl⟩ := Rep.int_inv r₄
  refine pairTrees_cons_walk (EvD.cstr σ oa _ _ _ _ _ rfl H₄ fun v5 s₅ H₅ x₅ r₅ => ?_)
  obtain ⟨_, rfl⟩ := Rep.str_inv r₅
  refine ht σ oa s₅ _ _ _ _ qt H₅ fun v6 s₆ H₆ x₆ r₆ => ?_
  obtain ⟨_, rfl⟩ := Rep.int_inv r₆
  refine pairTrees_nil_walk ?_
  have r₂' : FreshL C oa s₁.heap s₆.heap v2 l := ((((FreshL.next ok r₂ x₃).next ok x₄).next ok x₅).next ok x₆)
  have k₆ : KQ C (s.heap.push { cls := .type "dict", data := .dict #[] }) s₆.heap := ((((x₁.trans x₂).trans x₃).trans x₄).trans x₅).trans x₆
  obtain ⟨a, vs, k, rfl, e2, e3, e4, e5⟩ := r₂'
  obtain ⟨o, es, ep, d1, d2⟩ := Heap.DictOf.new (knd := strKind C.W.prog C.W.w) s.heap
  have hal := x₁.out ok hD d1
  have hne : s.heap.objs.size ≠ a := fun e => by rw [e] at hal; rw [hal] at e3; cases e3
  refine ⟨[("cells", .ref a), ("mixed", .int mx _), ("turn", .int tn _)], ⟨strKind_is .., rfl, strKind_is .., rfl, strKind_is .., rfl, trivial⟩, ⟨o, es, ep, k₆.out ok hD d1, d2⟩, fun h' b1 b2 => ?_⟩
  have hX : s.heap.objs.size ∉ C.X' := fun z => hD (List.mem_append_right _ z)
  have hXa : a ∉ C.X' := fun z => e4 (List.mem_append_right _ z)
  obtain ⟨m, F⟩ := H₆.fr
  obtain ⟨m', Fs⟩ := H.fr
  have nL : C.L ≠ s.heap.objs.size := fun e => hX (e ▸ .head _)
  have new0 : ∀ {b : Addr}, s.heap.get? b = none → C.h₀.get? b = none := fun {b} e => by
    cases q : C.h₀.get? b with
    | none => rfl
    | some o => rw [Fs.keep _ _ q] at e; cases e
  have nD : C.h₀.get? s.heap.objs.size = none := new0 (size_none _)
  have nA : C.h₀.get? a = none := new0 (by
    cases q : s.heap.get? a with
    | none => rfl
    | some o => rw [x₁.out ok e4 (Heap.get?_push_of_some _ q)] at e3; cases e3)
  refine hQ _ a _ ⟨⟨m, ?_, fun b o e => ?_, F.above⟩, ?_, nD, nA, hX, hXa, H₆.gens, H₆.drawn, H₆.os, fun b hb hl => ?_⟩
  · exact Ns.kb F.ns fun o e => (b2.2 _ nL).trans e
  · exact (b2.2 b fun q => by rw [q, nD] at e; cases e).trans (F.keep b o e)
  · exact .yes hne _ _ b1 vs k ((b2.2 a (Ne.symm hne)).trans e2) (intsOf_are hl e5)
  · obtain ⟨sl, e⟩ := H₆.fs b hb hl
    exact ⟨sl, (b2.2 b fun q => hX (q ▸ ok.fsub b hb)).trans e⟩
end
end Mine

namespace Mine
theorem call_open {W : Wd} {f : Addr} {name qual : Str} {params : Arguments} {body : List Stmt} {scope : Scope} {dV kV doc pm cdv ct oc : Value} {an od : Option Addr} {osl : Array (Option Value)} (np : Nat) (xs : List Str)
    (ho : W.K.lookup f = some ⟨oc, od, .func (fnOf name qual params body scope dV kV doc pm an cdv ct), osl⟩) (hcd : codeIn W.K cdv qual = true)
    (hbind : ∀ vs : List Value, vs.length = np → bindArgs (fnOf name qual params body scope dV kV doc pm an cdv ct) ⟨vs, []⟩ = pure (xs.zip vs))
    (hloc : (xs.all fun x => decide (scope.names.lookup x = some .local) && !(x == ("__debug__" : Str))) = true) (hnd : xs.Nodup) (hnp : np ≤ xs.length)
    (hco : scope.isCoroutine = false) (hgen : scope.isGenerator = false) (hk : scope.kind = .function) (hcell : (scope.names.all fun x => decide (x.2 ≠ .cell)) = true)
    {C : Cx} (hW : C.W = W) (ok : C.Ok) (hdp : C.dp + 2 < 900) (hun : C.un + 8 < 2000)
    {X : List Addr} {s : Shared} {vs : List Value} {ps : List PV} {d : DS} {m : Str → Option Value} {Q E : Value → Shared → Prop} (hps : ps.length = np) (F : Fr C.h₀ C.L s.heap m) (hdk : DeckIn C.W C.d s.heap C.D d) (hg : s.gens = C.gens) (hdr : s.drawn = C.drawn) (hos : s.os = C.os)
    (hbl : ∀ a ∈ X, ∃ o, s.heap.get? a = some o) (hDX : ∀ a ∈ C.D, a ∈ X) (hFX : ∀ a ∈ C.Fs, a ∈ X ∧ ∃ o : Obj, (∀ vs, o.data ≠ .fields vs) ∧ s.heap.get? a = some o) (hr : Reps C.d X s.heap vs ps)
    (h : ∀ s', (subCx C s X f qual scope cdv xs).Ok → Here (subCx C s X f qual scope cdv xs) ⟨ps.map some ++ List.replicate (xs.length - np) none, none, d⟩ [] s' → wpAny C.M (subCx C s X f qual scope cdv xs).A (execs body (subCx C s X f qual scope cdv xs).env) (fun fl s' => match fl with | .ret v => Q v s' | _ => False) (fun _ _ => False) s') : wpAny C.M C.A (call (.ref f) vs) Q E s := by
  refine call_enter np xs ho hcd hbind hloc hnd hnp hco hgen hk hcell hW ok (by omega) (by omega) hps F hdk hg hdr hos hbl hDX hFX hr fun s₁ ok' H' => ?_
  refine wpAny_mono (h _ ok' H') (fun fl s' z => ?_) fun _ _ z => z.elim
  cases fl with
  | ret v => exact z
  | _ => exact z.elim
end Mine

namespace Mine
noncomputable abbrev B := List UInt8
/-! slices -/
theorem cmin (a b : Nat) : min (a : Int) (b : Int) = ((min a b : Nat) : Int) := by
  cases Nat.le_total a b with
  | inl h => rw [Nat.min_eq_left h, Int.min_eq_left (Int.ofNat_le.mpr h)]
  | inr h => rw [Nat.min_eq_right h, Int.min_eq_right (Int.ofNat_le.mpr h)]
theorem clip_nat (n i : Nat) : clipAt n (i : Int) = min i n := by
  unfold clipAt
  rw [if_neg (Int.not_lt.mpr (Int.natCast_nonneg i)), cmin, Int.max_eq_right (Int.natCast_nonneg _), Int.toNat_natCast]
theorem clip_m1 (n : Nat) : clipAt n (-1) = n - 1 := by
  unfold clipAt
  cases n with
  | zero => rfl
  | succ n =>
    rw [if_pos (by decide), show (-1 : Int) + ((n + 1 : Nat) : Int) = (n : Int) from by rw [Int.natCast_succ, Int.add_comm, Int.add_neg_cancel_right], cmin, Int.max_eq_right (Int.natCast_nonneg _), Int.toNat_natCast, Nat.min_eq_left (Nat.le_succ n)]
    rfl
theorem clip_nonneg (n : Nat) (i : Int) (h : 0 ≤ i) : clipAt n i = min i.toNat n := by
  rw [← clip_nat, Int.toNat_of_nonneg h]
theorem sl_hi {α : Type} (l : List α) (i : Int) (h : 0 ≤ i) : sliceL l none (some i) = l.take i.toNat := by
  unfold sliceL
  simp only [Option.elim, List.drop_zero, Nat.sub_zero]
  rw [clip_nonneg _ _ h, ← List.take_take, List.take_length]
theorem sl_lo {α : Type} (l : List α) (i : Int) (h : 0 ≤ i) : sliceL l (some i) none = l.drop i.toNat := by
  unfold sliceL
  simp only [Option.elim]
  rw [clip_nonneg _ _ h]
  cases Nat.le_total i.toNat l.length with
  | inl q => rw [Nat.min_eq_left q]; exact List.take_of_length_le (Nat.le_of_eq List.length_drop)
  | inr q => rw [Nat.min_eq_right q, Nat.sub_self, List.take_zero, List.drop_of_length_le q]
theorem sl_mid {α : Type} (l : List α) (i j : Int) (h : 0 ≤ i) (h' : 0 ≤ j) : sliceL l (some i) (some j) = (l.drop i.toNat).take (j.toNat - i.toNat) := by
  unfold sliceL
  simp only [Option.elim]
  rw [clip_nonneg _ _ h, clip_nonneg _ _ h']
  cases Nat.le_total i.toNat l.length with
  | inl q =>
    rw [Nat.min_eq_left q, ← Nat.sub_min_sub_right, ← List.length_drop, ← List.take_take, List.take_length]
  | inr q => rw [Nat.min_eq_right q, List.drop_of_length_le (Nat.le_refl _), List.drop_of_length_le q, List.take_nil, List.take_nil]
theorem sl_last {α : Type} (l : List α) : sliceL l (some (-1)) none = l.drop (l.length - 1) := by
  unfold sliceL
  simp only [Option.elim]
  rw [clip_m1]
  exact List.take_of_length_le (Nat.le_of_eq List.length_drop)
theorem sl_init {α : Type} (l : List α) : sliceL l none (some (-1)) = l.dropLast := by
  unfold sliceL
  simp only [Option.elim, List.drop_zero, Nat.sub_zero]
  rw [clip_m1, List.dropLast_eq_take]
/-! find -/
noncomputable def fnd (c : B) : B → Option Nat
  | [] => none
  | a :: x => if c <+: a :: x then some 0 else (fnd c x).map (· + 1)
theorem fnd_short (c : B) : ∀ x : B, x.length < c.length → fnd c x = none
  | [], _ => rfl
  | a :: x, h => by
    rw [fnd, if_neg fun p => absurd p.length_le (by omega), fnd_short c x (by rw [List.length_cons] at h; omega)]
    rfl
theorem find_ext (x c : B) (i : Nat) : (x.toArray.extract i (i + c.toArray.size) == c.toArray) = true ↔ c <+: x.drop i := by
  rw [beq_iff_eq, List.extract_toArray, List.extract_eq_take_drop, List.size_toArray, Nat.add_sub_cancel_left]
  constructor
  · intro e
    have : List.take c.length (x.drop i) = c := by simpa using e
    rw [← this]
    exact List.take_prefix _ _
  · rintro ⟨t, e⟩
    rw [← e, List.take_left]
theorem find_range (x c : B) (hc : c ≠ []) : ∀ (n lo : Nat), n = x.length + 1 - (lo + c.length) → ((List.range' lo n).find? fun i => x.toArray.extract i (i + c.toArray.size) == c.toArray) = (fnd c (x.drop lo)).map (· + lo)
  | 0, lo, h => by
    have : 0 < c.length := List.length_pos_iff.mpr hc
    rw [fnd_short c _ (by rw [List.length_drop]; omega)]
    rfl
  | n + 1, lo, h => by
    have hp : 0 < c.length := List.length_pos_iff.mpr hc
    have hlo : lo < x.length := by omega
    rw [List.range'_succ, List.find?_cons, List.drop_eq_getElem_cons hlo, fnd, ← List.drop_eq_getElem_cons hlo]
    by_cases p : c <+: x.drop lo
    · rw [(find_ext x c lo).mpr p, if_pos p]; simp
    · have : (x.toArray.extract lo (lo + c.toArray.size) == c.toArray) = false := by
        cases q : (x.toArray.extract lo (lo + c.toArray.size) == c.toArray) with
        | false => rfl
        | true => exact absurd ((find_ext x c lo).mp q) p
      rw [this, if_neg p, find_range x c hc n (lo + 1) (by omega), Option.map_map]
      show Option.map (fun x => x + (lo + 1)) (fnd c (List.drop (lo + 1) x)) = _
      congr 1
      funext k
      show k + (lo + 1) = k + 1 + lo
      omega
theorem findL_eq (x c : B) (lo : Nat) (hc : c ≠ []) : findL x c lo = match fnd c (x.drop lo) with | some i => ((lo + i : Nat) : Int) | none => -1 := by
  unfold findL Builtin.Bytes.find?
  have : (List.range (x.length + 1 - (lo + c.toArray.size))).map (· + lo) = List.range' lo (x.length + 1 - (lo + c.length)) := by
    rw [List.range_eq_range', List.size_toArray, show (fun x => x + lo) = (lo + ·) from funext fun k => Nat.add_comm k lo, List.map_add_range']
    simp
  rw [this, find_range x c hc _ lo rfl]
  cases fnd c (x.drop lo) with
  | none => rfl
  | some i => simp only [Option.map_some]; rw [Nat.add_comm]
theorem fnd_some {c : B} : ∀ {x : B} {i : Nat}, fnd c x = some i → x = x.take i ++ c ++ x.drop (i + c.length) ∧ i + c.length ≤ x.length
  | [], _, h => by cases h
  | a :: x, i, h => by
    rw [fnd] at h
    by_cases p : c <+: a :: x
    · rw [if_pos p] at h
      cases h
      obtain ⟨t, e⟩ := p
      rw [← e]
      simp
    · rw [if_neg p] at h
      cases q : fnd c x with
      | none => rw [q] at h; cases h
      | some j =>
        rw [q] at h
        cases h
        obtain ⟨e1, e2⟩ := fnd_some q
        show a :: x = List.take (j + 1) (a :: x) ++ c ++ List.drop (j + 1 + c.length) (a :: x) ∧ j + 1 + c.length ≤ (a :: x).length
        refine ⟨?_, by rw [List.length_cons]; omega⟩
        have : j + 1 + c.length = (j + c.length) + 1 := by omega
        rw [this, List.take_succ_cons, List.drop_succ_cons, List.cons_append, List.cons_append, ← e1]
theorem fnd_one {s : UInt8} : ∀ {x : B}, fnd [s] x = none ↔ s ∉ x
  | [] => by simp [fnd]
  | a :: x => by
    rw [fnd]
    by_cases h : s = a
    · subst h
      have : [s] <+: s :: x := ⟨x, rfl⟩
      rw [if_pos this]; simp
    · have : ¬ [s] <+: a :: x := by rintro ⟨t, e⟩; cases e; exact h rfl
      rw [if_neg this, Option.map_eq_none_iff, fnd_one]
      simp [h]
theorem fnd_one_some {s : UInt8} : ∀ {x : B} {i : Nat}, fnd [s] x = some i → s ∉ x.take i
  | [], _, h => by cases h
  | a :: x, i, h => by
    rw [fnd] at h
    by_cases p : [s] <+: a :: x
    · rw [if_pos p] at h; cases h; simp
    · rw [if_neg p] at h
      have hsa : s ≠ a := fun e => p ⟨x, by rw [e]; rfl⟩
      cases q : fnd [s] x with
      | none => rw [q] at h; cases h
      | some j =>
        rw [q] at h; cases h
        show s ∉ List.take (j + 1) (a :: x)
        rw [List.take_succ_cons]
        simp only [List.mem_cons, not_or]
        exact ⟨hsa, fnd_one_some q⟩
/-! split -/
theorem splitB_none {c : UInt8} : ∀ {x : B}, fnd [c] x = none → splitB c x = [x]
  | [], _ => rfl
  | a :: x, h => by
    have h' := fnd_one.mp h
    simp only [List.mem_cons, not_or] at h'
    rw [splitB, show (a == c) = false by rw [beq_eq_false_iff_ne]; exact fun e => h'.1 e.symm]
    dsimp only
    rw [splitB_none (fnd_one.mpr h'.2)]
theorem splitB_some {c : UInt8} : ∀ {x : B} {i : Nat}, fnd [c] x = some i → splitB c x = x.take i :: splitB c (x.drop (i + 1))
  | [], _, h => by cases h
  | a :: x, i, h => by
    rw [fnd] at h
    by_cases p : [c] <+: a :: x
    · rw [if_pos p] at h; cases h
      obtain ⟨t, e⟩ := p
      cases e
      rw [splitB, show (c == c) = true by simp]
      rfl
    · rw [if_neg p] at h
      have hsa : (a == c) = false := by rw [beq_eq_false_iff_ne]; exact fun e => p ⟨x, by rw [e]; rfl⟩
      cases q : fnd [c] x with
      | none => rw [q] at h; cases h
      | some j =>
        rw [q] at h; cases h
        rw [splitB, hsa]
        dsimp only
        rw [splitB_some q]
        rfl
end Mine

namespace Mine
section
variable {w : World} {mean : ExcName → Option Value} {mg mb : Str → Option Value}
noncomputable def DBody (C : Cx) (body : List Stmt) (f1 f2 : SF) (fc fm ft : EF) : Prop := ∀ (σ σ1 σ2 : St) (l : List PV) (ns : List Int) (mx tn : Int) (oa : List Addr) (s : Shared) (Q : Flow → Shared → Prop) (E : Value → Shared → Prop), f1 σ = some (.nx σ1) → f2 σ1 = some (.nx σ2) → intsOf l = some ns →
  fc σ2 = some (.fr l, σ2.dk) → fm σ2 = some (.st (.int mx), σ2.dk) → ft σ2 = some (.st (.int tn), σ2.dk) → Here C σ oa s → (∀ dk c s', Made C dk c ⟨ns, mx, tn⟩ s' → Q (.ret (.ref dk)) s') → wpAny C.M C.A (execs body C.env) Q E s
theorem DBody.use {C : Cx} {body : List Stmt} {f1 f2 : SF} {fc fm ft : EF} (D : DBody C body f1 f2 fc fm ft) {σ σ1 σ2 : St} {l : List PV} {ns : List Int} {mx tn : Int} {oa : List Addr} {s : Shared} {Q : Flow → Shared → Prop} {E : Value → Shared → Prop} (q1 : f1 σ = some (.nx σ1)) (q2 : f2 σ1 = some (.nx σ2)) (hl : intsOf l = some ns)
  (qc : fc σ2 = some (.fr l, σ2.dk)) (qm : fm σ2 = some (.st (.int mx), σ2.dk)) (qt : ft σ2 = some (.st (.int tn), σ2.dk)) (H : Here C σ oa s) (hQ : ∀ dk c s', Made C dk c ⟨ns, mx, tn⟩ s' → Q (.ret (.ref dk)) s') : wpAny C.M C.A (execs body C.env) Q E s := D σ σ1 σ2 l ns mx tn oa s Q E q1 q2 hl qc qm qt H hQ
theorem deck_body {C : Cx} (ok : C.Ok) {s1 s2 : Stmt} {vc vm vt : Expr} {k1 k2 k3 : Nat} {p1 p2 p3 pos' pos : Pos} {f1 f2 : SF} {fc fm ft : EF} (h1 : Run1 C s1 f1) (h2 : Run1 C s2 f2) (hc : EvD C vc fc) (hm : EvD C vm fm) (ht : EvD C vt ft) :
    DBody C [s1, s2, .Return (some (.Dict [some (.Constant (.str "cells") k1 p1), some (.Constant (.str "mixed") k2 p2), some (.Constant (.str "turn") k3 p3)] [vc, vm, vt] pos')) pos] f1 f2 fc fm ft := by
  intro σ σ1 σ2 l ns mx tn oa s Q E q1 q2 hl qc qm qt H hQ
  refine wpAny_execs_cons (h1 σ oa s _ _ _ q1 H fun oa1 s1 H1 _ => ?_)
  refine wpAny_execs_cons (h2 σ1 oa1 s1 _ _ _ q2 H1 fun oa2 s2 H2 _ => ?_)
  exact wpAny_execs_cons (ret_deck ok hc hm ht hl qc qm qt H2 fun dk c s' M => hQ dk c s' M)
noncomputable def deckA : SF := tupS1 [2, 1] (tupF (consA (compF (sliceF (nameF 0) none (some (cstF (.int 8)))) (bF true) (unF intO (nameF 0))) (consA (cstF (.int 344)) nilA)))
noncomputable def deckB : SF := forF 3 (nameF 1) (seqF (datF 2 (binF modO (binF addO (binF addO (binF mulO (nameF 2) (cstF (.int 48271))) (binF modO (nameF 3) (cstF (.int 2147483629)))) (cstF (.int 344))) (cstF (.int 2147483587)))) doneF')
noncomputable def mixOf (l : List Int) : Int := l.foldl (fun m c => (m * 48271 + c.fmod 2147483629 + 344).fmod 2147483587) 344
noncomputable def deckOf (ns : List Int) : Dk := ⟨(ns.take 8).reverse, mixOf (ns.take 8), 0⟩
theorem compK_map {t : TF} {e : EF} {α : Type} (u : α → PV) (v : α → PV) : ∀ (l : List α) (d : DS), (∀ x ∈ l, t (cSt (u x) d) = some (true, d)) → (∀ x ∈ l, e (cSt (u x) d) = some (.st (v x), d)) → compK t e (l.map u) d = some (l.map v, d)
  | [], _, _, _ => rfl
  | x :: l, d, h1, h2 => by
    rw [List.map_cons, compK, h1 x (.head _)]
    dsimp only
    rw [h2 x (.head _)]
    dsimp only
    rw [compK_map u v l d (fun y hy => h1 y (.tail _ hy)) fun y hy => h2 y (.tail _ hy)]
    rfl
theorem intsOf_map : ∀ l : List Int, intsOf (l.map .int) = some l
  | [] => rfl
  | a :: l => by rw [List.map_cons, intsOf, intsOf_map l]
theorem deckA_at (ns : List Int) (h : ns.length ≤ 63) : deckA ⟨[some (.lst (ns.map .int)), none, none, none], none, none⟩ = some (.nx ⟨[some (.lst (ns.map .int)), some (.lst ((ns.take 8).map .int)), some (.int 344), none], none, none⟩) := by
  have e : sliceL (ns.map PV.int) none (some 8) = (ns.take 8).map .int := by
    rw [sl_hi _ _ (by decide), List.map_take]
    rfl
  have c : compK (bF true) (unF intO (nameF 0)) ((ns.take 8).map .int) none = some ((ns.take 8).map .int, none) := compK_map _ _ _ _ (fun _ _ => rfl) fun _ _ => rfl
  have z : (ns.map PV.int).length ≤ 16777216 := by rw [List.length_map]; omega
  have z2 : ((ns.take 8).map PV.int).length ≤ 16777216 := by rw [List.length_map, List.length_take]; omega
  simp only [deckA, tupS1, tupF, consA, compF, sliceF, nameF, look, partF, cstF, sliceO, z, if_true, e, RV.pv, itemsK, z2, c, RV.strong, nilA, List.length_cons, List.length_nil]
  rfl
theorem forB : ∀ (l : List Int) (m : Int) (a b : Option PV) (x : Option PV), ∃ x', forGo 3 (seqF (datF 2 (binF modO (binF addO (binF addO (binF mulO (nameF 2) (cstF (.int 48271))) (binF modO (nameF 3) (cstF (.int 2147483629)))) (cstF (.int 344))) (cstF (.int 2147483587)))) doneF') (l.map .int) ⟨[a, b, some (.int m), x], none, none⟩ = some (.nx ⟨[a, b, some (.int (l.foldl (fun m c => (m * 48271 + c.fmod 2147483629 + 344).fmod 2147483587) m)), x'], none, none⟩)
  | [], m, a, b, x => ⟨x, rfl⟩
  | c :: l, m, a, b, x => by
    obtain ⟨x', e⟩ := forB l ((m * 48271 + c.fmod 2147483629 + 344).fmod 2147483587) a b (some (.int c))
    refine ⟨x', ?_⟩
    rw [List.map_cons, forGo]
    simp only [seqF, datF, binF, nameF, St.set, put, look, cstF, RV.pv, mulO, modO, addO]
    simp only [show (48271 : Int).natAbs < 18446744073709551616 by decide, or_true, if_true, show ¬ ((2147483629 : Int) = 0) by decide, show ¬ ((2147483587 : Int) = 0) by decide, if_false]
    exact e
theorem deckB_at (ns : List Int) (h : ns.length ≤ 63) (a : Option PV) : ∃ x', deckB ⟨[a, some (.lst ((ns.take 8).map .int)), some (.int 344), none], none, none⟩ = some (.nx ⟨[a, some (.lst ((ns.take 8).map .int)), some (.int (mixOf (ns.take 8))), x'], none, none⟩) := by
  obtain ⟨x', e⟩ := forB (ns.take 8) 344 a (some (.lst ((ns.take 8).map .int))) none
  refine ⟨x', ?_⟩
  have z : ((ns.take 8).map PV.int).all flatB = true ∧ ((ns.take 8).map PV.int).length ≤ 16777216 := by
    refine ⟨List.all_eq_true.mpr fun p hp => ?_, by rw [List.length_map, List.length_take]; omega⟩
    obtain ⟨i, _, rfl⟩ := List.mem_map.mp hp
    rfl
  simp only [deckB, forF, nameF, look, RV.strong, itemsO]
  rw [if_pos z]
  exact e
theorem revF_at (ns : List Int) (h : ns.length ≤ 63) (a b c : Option PV) : revF (nameF 1) (unF negO (cstF (.int 1))) ⟨[a, some (.lst ((ns.take 8).map .int)), b, c], none, none⟩ = some (.fr (((ns.take 8).map .int).reverse), none) := by
  simp only [revF, nameF, look, RV.pv, partF, unF, cstF, negO]
  rw [if_pos (by rw [List.length_map, List.length_take]; omega)]
theorem deck_call {C : Cx} (hW : C.W = wd w mean mg mb) (ok : C.Ok) (hdp : C.dp + 2 < 900) (hun : C.un + 8 < 2000) (hd0 : C.D = []) {X : List Addr} {s : Shared} {v : Value} {ns : List Int} {m : Str → Option Value} {Q E : Value → Shared → Prop} (F : Fr C.h₀ C.L s.heap m) (hg : s.gens = C.gens) (hdr : s.drawn = C.drawn) (hos : s.os = C.os)
    (hbl : ∀ a ∈ X, ∃ o, s.heap.get? a = some o) (hFX : ∀ a ∈ C.Fs, a ∈ X ∧ ∃ o : Obj, (∀ vs, o.data ≠ .fields vs) ∧ s.heap.get? a = some o) (hr : Reps C.d X s.heap [v] [.lst (ns.map .int)]) (hns : ns.length ≤ 63)
    (hQ : ∀ f qual scope cdv xs dk c s', Made (subCx C s X f qual scope cdv xs) dk c (deckOf ns) s' → Q (.ref dk) s') : wpAny C.M C.A (call (.ref 228) [v]) Q E s := by
  refine call_open (W := wd w mean mg mb) 1 ["script", "cells", "mixed", "cell"] (by with_unfolding_all exact rfl) (by kernel_rfl!) ?_ (by decide +kernel) (by decide +kernel) (by decide) rfl rfl rfl (by decide +kernel) hW ok hdp hun rfl F (by rw [hd0]; exact .no) hg hdr hos hbl (fun a ha => by rw [hd0] at ha; nomatch ha) hFX hr fun s₁ ok' H' => ?_
  · intro vs hv
    obtain ⟨v0, t0, rfl, h0⟩ := lenS hv
    obtain rfl := List.length_eq_zero_iff.mp h0
    rfl
  · obtain ⟨x', e⟩ := deckB_at ns hns (some (.lst (ns.map .int)))
    refine DBody.use (f1 := deckA) (f2 := deckB) (fc := revF (nameF 1) (unF negO (cstF (.int 1)))) (fm := nameF 2) (ft := cstF (.int 0)) ?D (deckA_at ns hns) e (by rw [← List.map_reverse]; exact intsOf_map _) (revF_at ns hns _ _ _) rfl rfl H' fun dk c s' M => hQ _ _ _ _ _ dk c s' M
    have hxs : (subCx C s X 228 (S "_law_deck") (fs (Mine.st 30)) (.ref 227) ["script", "cells", "mixed", "cell"]).xs = (["script", "cells", "mixed", "cell"] : List Str) := rfl
    have hE : (subCx C s X 228 (S "_law_deck") (fs (Mine.st 30)) (.ref 227) ["script", "cells", "mixed", "cell"]).env = envX (S "_law_deck") (fs (Mine.st 30)) s.heap.objs.size 228 (.ref 227) [] := rfl
    have hLN : (subCx C s X 228 (S "_law_deck") (fs (Mine.st 30)) (.ref 227) ["script", "cells", "mixed", "cell"]).N = (subCx C s X 228 (S "_law_deck") (fs (Mine.st 30)) (.ref 227) ["script", "cells", "mixed", "cell"]).L := rfl
    have hW : (subCx C s X 228 (S "_law_deck") (fs (Mine.st 30)) (.ref 227) ["script", "cells", "mixed", "cell"]).W = wd w mean mg mb := hW
    have ok := ok'
    refine deck_body ok (Run1.tupS ok hLN (EvD.tup ok (ArD.cons ok (EvD.comp ok hLN (EvD.slice ok (EvD.nm ok hxs 0 rfl) .none (.some EvD.cint)) (fun C' h1 => .none) (fun C' h1 => EvD.tT h1.ok (B_int (h1.W hW)) (h1.kg (by with_unfolding_all rfl)) CallD1.int (EvD.nm h1.ok h1.xs 0 rfl)) (by rw [hE]; rfl) (by decide +kernel) rfl (by decide +kernel) rfl rfl) (ArD.cons ok EvD.cint ArD.nil))) (names := ["cells", "mixed"]) (.cons (x := "mixed") (xi hxs (i := 2) rfl) (.cons (x := "cells") (xi hxs (i := 1) rfl) .nil)) (by rw [hE]; rfl) (by rw [hE]; rfl)) ?_ (EvD.rev ok (EvD.nm ok hxs 1 rfl) (EvD.neg EvD.cint)) (EvD.nm ok hxs 2 rfl) EvD.cint
    exact Run1.for ok hLN 3 (EvD.nm ok hxs 1 rfl) (Runs.cons ok (Run1.dat ok hLN 2 (EvD.bin ok (EvD.bin ok (EvD.bin ok (EvD.bin ok (EvD.nm ok hxs 2 rfl) EvD.cint (OpD.mul ok)) (EvD.bin ok (EvD.nm ok hxs 3 rfl) EvD.cint OpD.mod) (OpD.add ok)) EvD.cint (OpD.add ok)) EvD.cint OpD.mod) (xi hxs (i := 2) rfl)) Runs.nil) (xi hxs (i := 3) rfl)
end
end Mine

namespace Mine
noncomputable abbrev topCx (W : Wd) (s : Shared) (f : Addr) (qual : Str) (scope : Scope) (cdv : Value) (xs : List Str) (d : Addr) (D : List Addr) : Cx :=
  { W := W, dp := 302, un := 7, gd := some [], cn := qual, cs := scope, ad := f, cd := cdv, outer := [], A₀ := callerA, base := s.heap, h₀ := s.heap, L := s.heap.objs.size, d := d, D := D, Xs := D, gens := s.gens, drawn := s.drawn, os := s.os, env := envX qual scope s.heap.objs.size f cdv [], N := s.heap.objs.size, xs := xs, Fs := [s.heap.objs.size], fo := fun _ => emptyDict }
theorem topCx_fs {W : Wd} {s : Shared} {f : Addr} {qual : Str} {scope : Scope} {cdv : Value} {xs : List Str} {d : Addr} {D : List Addr} (hk : scope.kind = .function) : FsOk (topCx W s f qual scope cdv xs d D) := by
  refine ⟨rfl, fun env he => ?_⟩
  cases he with
  | head => exact ⟨by show scope.kind ≠ .module; rw [hk]; exact fun z => (nomatch z), _, rfl⟩
  | tail _ he => nomatch he
theorem topCx_ok {W : Wd} {s : Shared} {f : Addr} {qual : Str} {scope : Scope} {cdv : Value} {xs : List Str} {d : Addr} {D : List Addr} (hk : scope.kind = .function) (X : W.K.In s.heap) (T : Top W.p W.loose W.mean W.mg W.mb s.heap) (hD : ∀ a ∈ D, a ≠ s.heap.objs.size ∧ s.heap.get? a = none)
    (hloc : (xs.all fun x => decide (scope.names.lookup x = some .local) && !(x == ("__debug__" : Str))) = true) (hnd : xs.Nodup) : (topCx W s f qual scope cdv xs d D).Ok := by
  have hall := List.all_eq_true.mp hloc
  have hl1 : ∀ x ∈ xs, scope.names.lookup x = some .local := fun x hx => by
    have := hall x hx
    rw [Bool.and_eq_true] at this
    exact of_decide_eq_true this.1
  have hl2 : ∀ x ∈ xs, (x == ("__debug__" : Str)) = false := fun x hx => by
    have := hall x hx
    rw [Bool.and_eq_true] at this
    simpa using this.2
  refine ⟨fun a ha => ?_, fun a ha => ?_, fun a ha vs z => (by cases z), X, T, hk, rfl, rfl, rfl, hk, (by show (scope.kind == .module && _) = false; rw [hk]; rfl), fun a ha => ⟨(hD a ha).1, (hD a ha).1, (hD a ha).2⟩, fun a ha => ha, (show 302 < 900 by decide), (show 7 < 2000 by decide), fun i x hx => ⟨hl1 x (List.mem_of_getElem? hx), hl2 x (List.mem_of_getElem? hx)⟩, hnd, .inl rfl, fun a ha hd => ?_⟩
  · cases ha with
    | head => exact .head _
    | tail _ ha => nomatch ha
  · cases ha with
    | head => exact size_none _
    | tail _ ha => nomatch ha
  · cases ha with
    | head => exact (hD _ hd).1 rfl
    | tail _ ha => nomatch ha
theorem top_enter {W : Wd} {f : Addr} {name qual : Str} {params : Arguments} {body : List Stmt} {scope : Scope} {dV kV doc pm cdv ct oc : Value} {an od : Option Addr} {osl : Array (Option Value)} (np : Nat) (xs : List Str)
    (ho : W.K.lookup f = some ⟨oc, od, .func (fnOf name qual params body scope dV kV doc pm an cdv ct), osl⟩) (hcd : codeIn W.K cdv qual = true)
    (hbind : ∀ vs : List Value, vs.length = np → bindArgs (fnOf name qual params body scope dV kV doc pm an cdv ct) ⟨vs, []⟩ = pure (xs.zip vs))
    (hloc : (xs.all fun x => decide (scope.names.lookup x = some .local) && !(x == ("__debug__" : Str))) = true)
    (hco : scope.isCoroutine = false) (hgen : scope.isGenerator = false) (hk : scope.kind = .function) (hcell : (scope.names.all fun x => decide (x.2 ≠ .cell)) = true)
    {s : Shared} {vs : List Value} {Q E : Value → Shared → Prop} (X : W.K.In s.heap) (T : Top W.p W.loose W.mean W.mg W.mb s.heap) (hvl : vs.length = np)
    (h : ∀ h₁ k, h₁.Ns s.heap.objs.size (fun y => (xs.zip vs).reverse.lookup y) → (∀ b o, s.heap.get? b = some o → h₁.get? b = some o) → wpAny (model W.prog W.w) (topCx W s f qual scope cdv xs 0 []).A (execs body (topCx W s f qual scope cdv xs 0 []).env) (fun fl s' => match fl with | .ret v => Q v s' | _ => False) (fun _ _ => False) { s with heap := h₁, toks := k }) :
    wpAny (model W.prog W.w) callerA (call (.ref f) vs) Q E s := by
  refine wpAny_call ?_
  have hall := List.all_eq_true.mp hloc
  have hl1 : ∀ x ∈ xs, scope.names.lookup x = some .local := fun x hx => by
    have := hall x hx
    rw [Bool.and_eq_true] at this
    exact of_decide_eq_true this.1
  refine codeAny_call_def (fd := fnX name qual params body scope [] dV kV doc pm an cdv ct) (body := body) (binds := xs.zip vs) (by decide) (X _ _ ho) rfl T.nolimit (codeRec_of X hcd) rfl (BindsTo.of_eq (hbind vs hvl))
    (fun x hx => of_decide_eq_true (List.all_eq_true.mp hcell x hx)) (fun y hy => hl1 _ (List.of_mem_zip hy).1) (fun h₁ hns hk₁ => ?_) hco hgen hk
  refine wpAny_mono (h h₁ _ hns hk₁) (fun fl s' z => ?_) fun _ _ z => z.elim
  cases fl with
  | ret v => exact z
  | _ => exact z.elim
end Mine

namespace Mine
section
variable {C : Cx} {σ : St} {oa : List Addr}
theorem call_raw (ok : C.Ok) {x : Str} {pp pos : Pos} {f : Addr} {e : Expr} {rest : List Expr} {g : AF} (hg : ArD C (e :: rest) g) (hgl : nsIn C.W.K mainGlobals x = some (some (.ref f))) (hd : (x == ("__debug__" : Str)) = false) (hfn : fnIn' C.W.K f = true) (hk : C.env.kindOf x = some .globalImplicit)
    {s : Shared} {ps : List PV} {d : DS} {Q E : Value → Shared → Prop} (q1 : g σ = some (ps, d)) (H : Here C σ oa s)
    (h : ∀ vs (s₂ : Shared), Here C (σ.setD d) oa s₂ → KQ C s.heap s₂.heap → Reps C.d (oa ++ C.X') s₂.heap vs ps → wpAny C.M C.A (call (.ref f) vs) Q E s₂) (hst : starEach (e :: rest) C.env = (false, eval e C.env) :: starEach rest C.env := by rfl) : wpAny C.M C.A (eval (.Call (.Name x pp) (e :: rest) [] pos) C.env) Q E s := by
  refine Call_Name rfl ?_
  obtain ⟨m, F₀⟩ := H.fr
  refine nameG_K F₀ ok.X (topRead_of ok.T) hgl ?_ ok.eG ok.eK hk hd
  obtain ⟨o, fd, e1, e2⟩ := callee_fn ok.X hfn
  refine callWith_def (o := o) e2 ?_ hst
  refine hg pos σ oa s _ _ ps d q1 H fun vs s₂ H₂ k₂ r₂ => ?_
  obtain ⟨m, F₂⟩ := H₂.fr
  exact ⟨F₂.keep _ _ e1, h vs s₂ H₂ k₂ r₂⟩
theorem reps_ints {d : Addr} {X : List Addr} {h : Heap} {vs : List Value} {ns : List Int} (i : IntsAre vs ns) : Reps d X h vs (ns.map .int) := by
  induction i with
  | nil => exact .nil
  | cons n t _ ih => exact .cons (.int n t) ih
end
section
variable {w : World} {mean : ExcName → Option Value} {mg mb : Str → Option Value}
theorem look_one {q p : PV} {i : Nat} (h : look [some q, none] i = some p) : i = 0 ∧ p = q := by
  cases i with
  | zero => cases h; exact ⟨rfl, rfl⟩
  | succ i => cases i with
    | zero => cases h
    | succ i => cases h
/-- the state behind the deck's making -/
theorem here_deck {W : Wd} {s s₂ s₃ : Shared} {f : Addr} {qual : Str} {scope : Scope} {cdv : Value} {x0 x1 : Str} {ns : List Int} (ok : (topCx W s f qual scope cdv [x0, x1] 0 []).Ok)
    (H : Here (topCx W s f qual scope cdv [x0, x1] 0 []) ⟨[some (.lst (ns.map .int)), none], none, none⟩ [] s₂) {f' : Addr} {qual' : Str} {scope' : Scope} {cdv' : Value} {xs' : List Str} {dk c : Addr} {K : Dk}
    (M : Made (subCx (topCx W s f qual scope cdv [x0, x1] 0 []) s₂ ([] ++ (topCx W s f qual scope cdv [x0, x1] 0 []).X') f' qual' scope' cdv' xs') dk c K s₃) :
    (∀ a ∈ [dk, c], a ≠ s.heap.objs.size ∧ s.heap.get? a = none) ∧ Here (topCx W s f qual scope cdv [x0, x1] dk [dk, c]) ⟨[some (.lst (ns.map .int)), none], none, some K⟩ [] s₃ := by
  refine Classical.byContradiction fun hG => ?_
  obtain ⟨m, F⟩ := H.fr
  obtain ⟨n, n1, n2, _⟩ := H.ns
  have e : n = m := Ns.uniq n1 F.ns
  subst e
  obtain ⟨m', F'⟩ := M.fr
  obtain ⟨kb, fk, F₃⟩ := sub_back (f := f') (qual := qual') (scope := scope') (cdv := cdv') (xs := xs') (σ := ⟨[], none, none⟩) (oa := []) ok F (H.live ok) F' M.fs
  have hne : ∀ {a : Addr}, a ∈ [dk, c] → a ≠ s.heap.objs.size ∧ (hideAll s₂.heap [s.heap.objs.size]).get? a = none := fun {a} ha => by
    cases ha with
    | head => exact ⟨fun z => M.xd (z ▸ .tail _ (.tail _ (.head _))), M.nd⟩
    | tail _ ha => cases ha with
      | head => exact ⟨fun z => M.xc (z ▸ .tail _ (.tail _ (.head _))), M.nc⟩
      | tail _ ha => nomatch ha
  have hlive : ∀ a ∈ [dk, c], ∃ o, s₃.heap.get? a = some o := fun a ha => by
    have D := M.deck
    cases D with
    | yes hne tm tt hd vs n2 hc hi =>
      cases ha with
      | head => obtain ⟨o, _, _, e, _⟩ := hd; exact ⟨o, e⟩
      | tail _ ha => cases ha with
        | head => exact ⟨_, hc⟩
        | tail _ ha => nomatch ha
  refine hG ⟨fun a ha => ⟨(hne ha).1, ?_⟩, M.gens, M.drawn, M.os, M.deck, ⟨_, F₃⟩, fun a ha => ?_, ⟨_, F₃.ns, fun i x p e1 e2 => ?_, fun i l e => nomatch e⟩, fun b hb hl => ?_, fun a ha => nomatch ha⟩
  · cases q : s.heap.get? a with
    | none => rfl
    | some o => 
      have := hide_get (l := [s.heap.objs.size]) (F.keep _ _ q) fun z => by
        cases z with
        | head => exact (hne ha).1 rfl
        | tail _ z => nomatch z
      rw [(hne ha).2] at this; cases this
  · have ha' : a ∈ s.heap.objs.size :: s.heap.objs.size :: [dk, c] := ha
    have hL : ∃ o, s₃.heap.get? s.heap.objs.size = some o := by
      obtain ⟨o, _, _, e, _⟩ := F₃.ns
      exact ⟨o, e⟩
    cases ha' with
    | head => exact hL
    | tail _ ha => cases ha with
      | head => exact hL
      | tail _ ha => exact hlive a ha
  · obtain ⟨rfl, rfl⟩ := look_one e2
    obtain ⟨v, e3, r⟩ := n2 0 x _ e1 rfl
    refine ⟨v, e3, ?_⟩
    cases r with
    | lst ha ho hr =>
      rename_i a vs k
      have hX : a ∉ [s.heap.objs.size] := fun z => by
        cases z with
        | head => exact ha (.head _)
        | tail _ z => nomatch z
      have e4 := kb _ _ hX ho
      refine .lst (fun z => ?_) e4 (reps_ints (intsOf_are (intsOf_map ns) hr))
      have z' : a ∈ s.heap.objs.size :: s.heap.objs.size :: [dk, c] := z
      cases z' with
      | head => exact hX (.head _)
      | tail _ z => cases z with
        | head => exact hX (.head _)
        | tail _ z =>
          have := hide_get ho hX
          rw [(hne z).2] at this; cases this
  · cases hb with
    | head => exact absurd rfl hl
    | tail _ hb => nomatch hb
end
end Mine

namespace Mine
noncomputable def PL : Prop := ∀ ns : List Int, ns.length ≤ 63 → ∃ k1 d2, F271 [.deck] (some (deckOf ns)) = some (.val (.bool true), some k1) ∧ F307 [.deck] (some k1) = some (.val (.bool true), d2)
section
variable {w : World} {mean : ExcName → Option Value} {mg mb : Str → Option Value}
theorem g_deck : GC (wd w mean mg mb) "_law_deck" (.ref 228) := ⟨by kernel_rfl!, by decide⟩
theorem law_walk (pl : PL) {s : Shared} (X : (wd w mean mg mb).K.In s.heap) (T : Top (wd w mean mg mb).p (wd w mean mg mb).loose (wd w mean mg mb).mean (wd w mean mg mb).mg (wd w mean mg mb).mb s.heap) {v : Value} {a : Addr} {vs : List Value} {k : Nat} {ns : List Int} (hv : v = .ref a) (ha : s.heap.get? a = some (lstO vs k)) (hi : IntsAre vs ns) (hns : ns.length ≤ 63) {Q E : Value → Shared → Prop}
    (hQ : ∀ s', (∀ b o, s.heap.get? b = some o → s'.heap.get? b = some o) → s'.gens = s.gens → s'.os = s.os → Q (.bool true) s') : wpAny (model (wd w mean mg mb).prog (wd w mean mg mb).w) callerA (call (.ref 314) [v]) Q E s := by
  refine Classical.byContradiction fun hG => ?_
  obtain ⟨k1, d2, q271, q307⟩ := pl ns hns
  refine hG (top_enter (W := wd w mean mg mb) 1 ["script", "deck"] (by with_unfolding_all exact rfl) (by kernel_rfl!) ?_ (by decide +kernel) rfl rfl rfl (by decide +kernel) X T rfl fun h₁ k n₁ kp => ?_)
  · intro vs hv
    obtain ⟨v0, t0, rfl, h0⟩ := lenS hv
    obtain rfl := List.length_eq_zero_iff.mp h0
    rfl
  · clear hG
    subst hv
    have hL := size_none s.heap
    have okX := topCx_ok (W := wd w mean mg mb) (s := s) (f := 314) (qual := S "law") (scope := fs (Mine.st 44)) (cdv := .ref 313) (xs := ["script", "deck"]) (d := 0) (D := []) rfl X T (fun a ha => nomatch ha) (by decide +kernel) (by decide +kernel)
    have hne : a ≠ s.heap.objs.size := fun e => by rw [e, hL] at ha; cases ha
    have H : Here (topCx (wd w mean mg mb) s 314 (S "law") (fs (Mine.st 44)) (.ref 313) ["script", "deck"] 0 []) ⟨[some (.lst (ns.map .int)), none], none, none⟩ [] { s with heap := h₁, toks := k } := by
      have aL : ∃ o, h₁.get? s.heap.objs.size = some o := by
        obtain ⟨o, _, _, e, _⟩ := n₁
        exact ⟨o, e⟩
      refine ⟨rfl, rfl, rfl, .no, ⟨_, n₁, kp, Nat.le_refl _⟩, fun a ha => ?_, ⟨_, n₁, fun i x p e1 e2 => ?_, fun i l e => nomatch e⟩, fun b hb hl => ?_, fun a ha => nomatch ha⟩
      · have ha' : a ∈ s.heap.objs.size :: s.heap.objs.size :: [] := ha
        cases ha' with
        | head => exact aL
        | tail _ ha => cases ha with
          | head => exact aL
          | tail _ ha => nomatch ha
      · obtain ⟨rfl, rfl⟩ := look_one e2
        cases e1
        refine ⟨.ref a, rfl, .lst (fun z => ?_) (kp _ _ ha) (reps_ints hi)⟩
        have z' : a ∈ s.heap.objs.size :: s.heap.objs.size :: [] := z
        cases z' with
        | head => exact hne rfl
        | tail _ z => cases z with
          | head => exact hne rfl
          | tail _ z => nomatch z
      · cases hb with
        | head => exact absurd rfl hl
        | tail _ hb => nomatch hb
    refine wpAny_execs_cons (wpAny_Assign_Name ?_ (by rfl))
    refine call_raw (C := topCx (wd w mean mg mb) s 314 (S "law") (fs (Mine.st 44)) (.ref 313) ["script", "deck"] 0 []) okX (ArD.cons okX (EvD.nm okX rfl 0 rfl) ArD.nil) (g_deck (w := w) (mean := mean) (mg := mg) (mb := mb)).n (g_deck (w := w) (mean := mean) (mg := mg) (mb := mb)).d (by kernel_rfl!) (by with_unfolding_all rfl) (d := none) (ps := [.lst (ns.map .int)]) rfl H fun vs₂ s₂ H₂ k₂ r₂ => ?_
    obtain ⟨m, F₂⟩ := H₂.fr
    obtain ⟨v₂, t₂, rfl, ht⟩ := lenS r₂.length
    obtain rfl := List.length_eq_zero_iff.mp ht
    refine deck_call (w := w) (mean := mean) (mg := mg) (mb := mb) rfl okX (show 304 < 900 by decide) (show 15 < 2000 by decide) rfl F₂ H₂.gens H₂.drawn H₂.os H₂.alive (H₂.live okX) r₂ hns fun f' q' sc' cd' xs' dk c s₃ M => ?_
    obtain ⟨hD, H₃⟩ := here_deck okX H₂ M
    have ok3 := topCx_ok (W := wd w mean mg mb) (s := s) (f := 314) (qual := S "law") (scope := fs (Mine.st 44)) (cdv := .ref 313) (xs := ["script", "deck"]) (d := dk) (D := [dk, c]) rfl X T hD (by decide +kernel) (by decide +kernel)
    refine store_st (C := topCx (wd w mean mg mb) s 314 (S "law") (fs (Mine.st 44)) (.ref 313) ["script", "deck"] dk [dk, c]) ok3 rfl H₃ (i := 1) (x := "deck") rfl (.deck) fun s₄ H₄ m₄ => ?_
    refine wpAny_execs_cons (Run1.ret (C := topCx (wd w mean mg mb) s 314 (S "law") (fs (Mine.st 44)) (.ref 313) ["script", "deck"] dk [dk, c]) (EvD.and2 ok3 (EvD.call ok3 (ArD.cons ok3 (EvD.nm ok3 rfl 1 rfl) ArD.nil) (C271 (n := 10) rfl (fun _ => topCx_fs rfl) (show 312 < 900 by decide) (show 47 < 2000 by decide) (by decide)) (by with_unfolding_all rfl)) (EvD.call ok3 (ArD.cons ok3 (EvD.nm ok3 rfl 1 rfl) ArD.nil) (C307 (n := 10) rfl (fun h => nomatch h) (show 312 < 900 by decide) (show 47 < 2000 by decide) (by decide)) (by with_unfolding_all rfl))) _ _ s₄ _ _ (.rt (.val (.bool true)) d2) ?_ H₄ fun v s₅ H₅ rf => ?_)
    · simp only [retF, andV, callF, consA, nameF, look, nilA, St.set, put, RV.strong, q271, q307]
    · cases rf
      obtain ⟨m₅, F₅⟩ := H₅.fr
      exact hQ s₅ F₅.keep H₅.gens H₅.os
end
end Mine

namespace Mine
theorem fin (pl : PL) : PySem.Challenge.rw_nt0276_01.Holds := by
  refine top ?_
  intro w s₀ s₁ mg mb G Y fa o pm cd doc dV kV ho hd hcd hD hmg hg args vals as hpre hlay hrd hwl hlo
  have KX : (KK w.params).In s₁.heap := kIn_of Y
  have T : Top QV (looseW QV LS0) (ExcName.means s₀.heap) mg mb s₁.heap := G.T
  have e314 : mg (S "law") = some (.ref 314) := mg_of KX T.g (by kernel_rfl!)
  have el : lawD.name = S "law" := by kernel_rfl
  rw [el, e314] at hmg
  cases hmg
  clear ho hd hcd hD Y G
  refine Classical.byContradiction fun hG => ?_
  wrow_args hpre hlay hrd hwl hlo
  rename_i ns hs hlay0 hL1 hr1 hl2 w4 w3 ad vs0 w0 hL ra w1 r0 hI hr hc1 hc2
  obtain ⟨o1, o2, o3, o4, o5⟩ := hL
  have hex : ∃ k, s₁.heap.get? ad = some (lstO vs0 k) := by
    have : ∀ d, Well w.params s₁.heap (.ref ad) d → d = ofPy (PyData.list (List.map PyData.int ns)) → ∃ vs : List Value, s₁.heap.get? ad = some { cls := .type "list", data := .seq vs.toArray } := by
      intro d W e
      rw [show ofPy (PyData.list (List.map PyData.int ns)) = WData.list _ from rfl] at e
      subst e
      cases W with
      | list h1 h2 => exact ⟨_, h1⟩
    obtain ⟨vs, e⟩ := this _ w1 rfl
    rw [e] at o2
    cases o2
    cases o5
    exact ⟨_, e⟩
  obtain ⟨k, e⟩ := hex
  refine hG (law_walk (w := w) (mean := ExcName.means s₀.heap) (mg := mg) (mb := mb) pl KX T rfl e hI (by omega) fun s' kp gs os => ?_)
  exact GoodW.toG ⟨.inl ⟨.bool true, .bool true, [], rfl, fun _ => rfl, .bool true, by kernel_rfl, fun _ => ⟨.nil, fun _ h => nomatch h⟩⟩, kp, os, gs.trans hg⟩
end Mine

set_option linter.unusedSimpArgs false
namespace Mine
/-! small facts -/
noncomputable def cutE {α : Type} (p : α → Bool) (l : List α) : List α := (l.reverse.dropWhile p).reverse
theorem cutE_nil {α : Type} (p : α → Bool) : cutE p [] = [] := rfl
theorem cutE_snoc {α : Type} (p : α → Bool) (l : List α) (a : α) : cutE p (l ++ [a]) = if p a then cutE p l else l ++ [a] := by
  unfold cutE
  rw [List.reverse_append, List.reverse_singleton, List.singleton_append, List.dropWhile_cons]
  split
  · rfl
  · rw [List.reverse_cons, List.reverse_reverse]
theorem cutE_pre {α : Type} (p : α → Bool) (l : List α) : cutE p l <+: l := by
  have := List.dropWhile_suffix p (l := l.reverse)
  rw [← List.reverse_prefix] at this
  rwa [List.reverse_reverse] at this
theorem cutE_len {α : Type} (p : α → Bool) (l : List α) : (cutE p l).length ≤ l.length := (cutE_pre p l).length_le
theorem cutE_take {α : Type} (p : α → Bool) (l : List α) : l.take (cutE p l).length = cutE p l := List.prefix_iff_eq_take.mp (cutE_pre p l) |>.symm
theorem byte_nat (c : UInt8) : c.toNat.toUInt8 = c := by simp
theorem byte_lt (c : UInt8) : 0 ≤ (c.toNat : Int) ∧ (c.toNat : Int) < 256 := by
  have := c.toNat_lt
  omega
theorem len_b (x : B) (h : x.length ≤ 16777216) : lenO (.bytes x) = some (.st (.int x.length)) := if_pos h
theorem len_l (x : List PV) (h : x.length ≤ 16777216) : lenO (.lst x) = some (.st (.int x.length)) := if_pos h
theorem add_b (x y : B) (h : x.length + y.length ≤ 16777216) : addO (.bytes x) (.bytes y) = some (.st (.bytes (x ++ y))) := if_pos h
theorem add_i (a b : Int) : addO (.int a) (.int b) = some (.st (.int (a + b))) := rfl
theorem add_l (x y : List PV) (h : x.length + y.length ≤ 16777216) : addO (.lst x) (.lst y) = some (.fr (x ++ y)) := if_pos h
theorem mul_i (a b : Int) (h : a.natAbs < 18446744073709551616) : mulO (.int a) (.int b) = some (.st (.int (a * b))) := if_pos (.inl h)
theorem mod_i (a b : Int) (h : b ≠ 0) : modO (.int a) (.int b) = some (.st (.int (a.fmod b))) := if_neg h
theorem slO_hi (x : B) (i : Int) (h : 0 ≤ i) (hx : x.length ≤ 16777216) : sliceO (.bytes x) none (some i) = some (.st (.bytes (x.take i.toNat))) := by rw [sliceO, if_pos hx, sl_hi _ _ h]
theorem slO_lo (x : B) (i : Int) (h : 0 ≤ i) (hx : x.length ≤ 16777216) : sliceO (.bytes x) (some i) none = some (.st (.bytes (x.drop i.toNat))) := by rw [sliceO, if_pos hx, sl_lo _ _ h]
theorem slO_mid (x : B) (i j : Int) (h : 0 ≤ i) (h' : 0 ≤ j) (hx : x.length ≤ 16777216) : sliceO (.bytes x) (some i) (some j) = some (.st (.bytes ((x.drop i.toNat).take (j.toNat - i.toNat)))) := by rw [sliceO, if_pos hx, sl_mid _ _ _ h h']
theorem slO_last (x : B) (hx : x.length ≤ 16777216) : sliceO (.bytes x) (some (-1)) none = some (.st (.bytes (x.drop (x.length - 1)))) := by rw [sliceO, if_pos hx, sl_last]
theorem slO_init (x : B) (hx : x.length ≤ 16777216) : sliceO (.bytes x) none (some (-1)) = some (.st (.bytes x.dropLast)) := by rw [sliceO, if_pos hx, sl_init]
theorem item_b (x : B) (i : Nat) (h : i < x.length) (hx : x.length ≤ 16777216) : itemO (.bytes x) (.int (i : Int)) = some (.st (.int (x[i].toNat : Int))) := by
  have hz : 0 ≤ (i : Int) ∧ (i : Int) < x.length ∧ x.length ≤ 16777216 := by omega
  rw [itemO, if_pos hz, Int.toNat_natCast, List.getD_eq_getElem?_getD, List.getElem?_eq_getElem h]
  rfl
theorem in_b (x : B) (c : UInt8) : inO (.int (c.toNat : Int)) (.bytes x) = some (x.contains c) := by
  rw [inO, if_pos (byte_lt c), Int.toNat_natCast, byte_nat]
theorem split_b (x : B) (c : UInt8) (h : x.length ≤ 100000) : splitO (.bytes x) (.bytes [c]) = some (.fr ((splitB c x).map .bytes)) := if_pos h
theorem starts_b (x c : B) : startsO (.bytes x) (.bytes c) = some (.st (.bool (x.take c.length == c))) := rfl
theorem find_b (x c : B) : findO (.bytes x) (.bytes c) = some (.st (.int (findL x c 0))) := rfl
theorem eq_b (x y : B) : eqO (.bytes x) (.bytes y) = some (x == y) := rfl
theorem eq_i (x y : Int) : eqO (.int x) (.int y) = some (x == y) := rfl
theorem le_i (x y : Int) : leO (.int x) (.int y) = some (decide (x ≤ y)) := rfl
theorem lt_i (x y : Int) : ltO (.int x) (.int y) = some (decide (x < y)) := rfl
theorem ge_i (x y : Int) : geO (.int x) (.int y) = some (decide (y ≤ x)) := rfl
theorem gt_i (x y : Int) : gtO (.int x) (.int y) = some (decide (y < x)) := rfl
theorem sub_i (x y : Int) : subO (.int x) (.int y) = some (.st (.int (x - y))) := rfl
theorem neg_i (x : Int) : negO (.int x) = some (.st (.int (-x))) := rfl
theorem is_n (x : PV) : isO x .none = some (isNone x) := rfl
theorem isn_n (x : PV) : isnO x .none = some (!isNone x) := rfl
theorem isNone_n : isNone .none = true := rfl
theorem isNone_i (i : Int) : isNone (.int i) = false := rfl
theorem isNone_t (l : List PV) : isNone (.tup l) = false := rfl
theorem isNone_p (k : Addr) (l : List PV) : isNone (.inst k l) = false := rfl
theorem isNone_b (l : B) : isNone (.bytes l) = false := rfl
theorem seq_nx {f g : SF} {σ σ' : St} (h : f σ = some (.nx σ')) : seqF f g σ = g σ' := by unfold seqF; rw [h]
theorem seq_ex {f g : SF} {σ : St} {d : DS} (h : f σ = some (.ex d)) : seqF f g σ = some (.ex d) := by unfold seqF; rw [h]
theorem seq_rt {f g : SF} {σ : St} {r : Ret} {d : DS} (h : f σ = some (.rt r d)) : seqF f g σ = some (.rt r d) := by unfold seqF; rw [h]
theorem br_f {t : TF} {f g : SF} {σ : St} {d : DS} (h : t σ = some (false, d)) : brF t f g σ = g (σ.setD d) := by unfold brF; rw [h]
theorem br_t {t : TF} {f g : SF} {σ : St} {d : DS} (h : t σ = some (true, d)) : brF t f g σ = f (σ.setD d) := by unfold brF; rw [h]
theorem le_big {n : Nat} (h : n ≤ 1000) : n ≤ 16777216 := Nat.le_trans h (by decide)
theorem le_drop {x : B} {n : Nat} (k : Nat) (h : x.length ≤ n) : (x.drop k).length ≤ n := Nat.le_trans (List.length_drop ▸ Nat.sub_le _ _) h
theorem le_take {x : B} {n : Nat} (k : Nat) (h : x.length ≤ n) : (x.take k).length ≤ n := Nat.le_trans (List.length_take_le' _ _) h
theorem sN_hi (x : B) (i : Nat) (hx : x.length ≤ 1000) : sliceO (.bytes x) none (some (i : Int)) = some (.st (.bytes (x.take i))) := slO_hi x i (Int.natCast_nonneg i) (le_big hx)
theorem sN_lo (x : B) (i k : Nat) (hx : x.length ≤ 1000) : sliceO (.bytes x) (some ((i : Int) + (k : Int))) none = some (.st (.bytes (x.drop (i + k)))) := slO_lo x ((i + k : Nat) : Int) (Int.natCast_nonneg _) (le_big hx)
theorem sN_lo2 (x : B) (i : Nat) (hx : x.length ≤ 1000) : sliceO (.bytes x) (some ((i : Int) + 2)) none = some (.st (.bytes (x.drop (i + 2)))) := sN_lo x i 2 hx
theorem sN_lo1 (x : B) (i : Nat) (hx : x.length ≤ 1000) : sliceO (.bytes x) (some ((i : Int) + 1)) none = some (.st (.bytes (x.drop (i + 1)))) := sN_lo x i 1 hx
theorem add_s (x y : B) (hx : x.length ≤ 1000) (hy : y.length ≤ 1000) : addO (.bytes x) (.bytes y) = some (.st (.bytes (x ++ y))) := add_b x y (Nat.le_trans (Nat.add_le_add hx hy) (by decide))
/-! object_cut_end -/
theorem while_t {t : TF} {b : SF} {n : Nat} {σ σ' : St} {d : DS} (ht : t σ = some (true, d)) (hb : b (σ.setD d) = some (.nx σ')) : whileF t b (n + 1) σ = whileF t b n σ' := by
  rw [whileF, ht]
  dsimp only
  rw [hb]
theorem while_f {t : TF} {b : SF} {n : Nat} {σ : St} {d : DS} (ht : t σ = some (false, d)) : whileF t b (n + 1) σ = some (.nx (σ.setD d)) := by rw [whileF, ht]
theorem and_f {t u : TF} {σ : St} {d : DS} (h : t σ = some (false, d)) : andF t u σ = some (false, d) := by unfold andF; rw [h]
theorem and_ev {t u : TF} {σ : St} {b1 b2 : Bool} {d : DS} (h1 : t σ = some (b1, d)) (h2 : u (σ.setD d) = some (b2, d)) : andF t u σ = some (b1 && b2, d) := by
  unfold andF
  rw [h1]
  cases b1
  · rfl
  · exact h2
theorem cmp_ev {o : PV → PV → Option Bool} {f g : EF} {σ : St} {a b : RV} {d d' : DS} {r : Bool} (hf : f σ = some (a, d)) (hg : g (σ.setD d) = some (b, d')) (ho : o a.pv b.pv = some r) : cmpF o f g σ = some (r, d') := by
  unfold cmpF
  rw [hf]
  dsimp only
  rw [hg]
  dsimp only
  rw [ho]
theorem or_ev {t u : TF} {σ : St} {b1 b2 : Bool} {d : DS} (h1 : t σ = some (b1, d)) (h2 : u (σ.setD d) = some (b2, d)) : orF t u σ = some (b1 || b2, d) := by
  unfold orF
  rw [h1]
  cases b1
  · exact h2
  · rfl
theorem lt_t {a b : Int} (h : a < b) : ltO (.int a) (.int b) = some true := by rw [lt_i, decide_eq_true h]
theorem lt_f {a b : Int} (h : ¬ a < b) : ltO (.int a) (.int b) = some false := by rw [lt_i, decide_eq_false h]
theorem gt_t {a b : Int} (h : b < a) : gtO (.int a) (.int b) = some true := by rw [gt_i, decide_eq_true h]
theorem gt_f {a b : Int} (h : ¬ b < a) : gtO (.int a) (.int b) = some false := by rw [gt_i, decide_eq_false h]
theorem gt_s (n : Nat) : gtO (.int ((n + 1 : Nat) : Int)) (.int 0) = some true := by
  have h : (0 : Int) < ((n + 1 : Nat) : Int) := Int.ofNat_lt.mpr (Nat.succ_pos n)
  rw [gt_i, decide_eq_true h]
theorem pred_s (n : Nat) : ((n + 1 : Nat) : Int) - 1 = (n : Int) := by rw [Int.natCast_succ, Int.add_sub_cancel]
theorem item_p (x : B) (n : Nat) (h : n < x.length) (hx : x.length ≤ 16777216) : itemO (.bytes x) (.int (((n + 1 : Nat) : Int) - 1)) = some (.st (.int (x[n].toNat : Int))) := by
  rw [pred_s]; exact item_b x n h hx
theorem w106 (x s : B) (d : DS) (hx : x.length ≤ 100000) (n : Nat) : ∀ (fuel : Nat), n ≤ x.length → n < fuel → whileF (andF (cmpF gtO (nameF 2) (cstF (.int 0))) (andF (cmpF inO (binF itemO (nameF 0) (binF subO (nameF 2) (cstF (.int 1)))) (nameF 1)) (bF true))) (seqF (augF 2 subO (cstF (.int 1))) (doneF')) fuel ⟨[some (.bytes x), some (.bytes s), some (.int (n : Nat))], none, d⟩ =
    some (.nx ⟨[some (.bytes x), some (.bytes s), some (.int ((cutE (s.contains ·) (x.take n)).length : Nat))], none, d⟩) := by
  induction n with
  | zero =>
    intro fuel _ h
    match fuel, h with
    | fuel + 1, _ => rw [List.take_zero]; rfl
  | succ n ih =>
    intro fuel h1 h2
    match fuel, h2 with
    | fuel + 1, h2 =>
    have hi := item_p x n h1 (Nat.le_trans hx (by decide))
    have hT : _ = some (true && (s.contains x[n] && true), d) := and_ev (t := cmpF gtO (nameF 2) (cstF (.int 0))) (u := andF (cmpF inO (binF itemO (nameF 0) (binF subO (nameF 2) (cstF (.int 1)))) (nameF 1)) (bF true)) (σ := ⟨[some (.bytes x), some (.bytes s), some (.int ((n + 1 : Nat) : Int))], none, d⟩) (d := d)
      (cmp_ev (d := d) rfl rfl (gt_s n)) (and_ev (d := d) (cmp_ev (d := d) (a := .st (.int (x[n].toNat : Int))) (by simp only [binF, nameF, cstF, look, RV.pv, sub_i, hi]) rfl (in_b s x[n])) rfl)
    rw [Bool.true_and, Bool.and_true] at hT
    rw [List.take_succ_eq_append_getElem h1, cutE_snoc]
    cases q : s.contains x[n] with
    | true =>
      rw [q] at hT
      rw [while_t (σ' := ⟨[some (.bytes x), some (.bytes s), some (.int (n : Nat))], none, d⟩) hT (by simp only [seqF, augF, look, cstF, sub_i, pred_s, St.set, put, doneF'])]
      exact ih fuel (Nat.le_of_succ_le h1) (Nat.lt_of_succ_lt_succ h2)
    | false =>
      rw [q] at hT
      rw [while_f hT, if_neg (by decide), List.length_append, List.length_take, Nat.min_eq_left (Nat.le_of_succ_le h1)]
      rfl
theorem F106_at (x s : B) (d : DS) (hx : x.length ≤ 100000) : F106 [.bytes x, .bytes s] d = some (.val (.bytes (cutE (s.contains ·) x)), d) := by
  have w := w106 x s d hx x.length 1000000 (Nat.le_refl _) (Nat.lt_of_le_of_lt hx (by decide))
  rw [List.take_length] at w
  have e := cutE_take (s.contains ·) x
  simp (disch := omega) only [F106, g106, runF, runX, seqF, brF, retF, datF, asgF, augF, ownF, exF, doneF', tupS1, tupF1, setMany, St.set, St.setOwn, put, look, andF, orF, notF, cmpF, chainF, boolF, valF, bF, nameF, cstF, RV.pv, RV.strong, binF, unF, ifF, andV, orV, sliceF, partF, consA, nilA, tupF, lstF, callF, gt_i, ge_i, lt_i, le_i, eq_i, eq_b, neO, is_n, isn_n, isNone_n, isNone_i, isNone_t, isNone_p, isNone_b, ninO, sub_i, neg_i, forF, rangeF, decide_eq_true_eq, Bool.not_true, Bool.not_false, List.map_cons, List.map_nil, List.length_cons, List.length_nil, List.replicate, List.cons_append, List.nil_append, List.append_nil, Nat.reduceEqDiff, decide_false, decide_true, decide_true, len_b, w, slO_hi, Int.toNat_natCast, e]
end Mine

namespace Mine
/-! object_trimmed -/
noncomputable def trimB {α : Type} (p : α → Bool) (l : List α) : List α := cutE p (l.dropWhile p)
theorem w99a (x s : B) (d : DS) (z : Option PV) (hz : z = some (.int (x.length : Nat))) (hx : x.length ≤ 100000) (k : Nat) : ∀ (n fuel : Nat), n + k = x.length → k < fuel → whileF (andF (cmpF ltO (nameF 2) (nameF 3)) (andF (cmpF inO (binF itemO (nameF 0) (nameF 2)) (nameF 1)) (bF true))) (seqF (augF 2 addO (cstF (.int 1))) (doneF')) fuel ⟨[some (.bytes x), some (.bytes s), some (.int (n : Nat)), z], none, d⟩ =
    some (.nx ⟨[some (.bytes x), some (.bytes s), some (.int ((n + ((x.drop n).takeWhile (s.contains ·)).length : Nat))), z], none, d⟩) := by
  subst hz
  induction k with
  | zero =>
    intro n fuel h1 h
    match fuel, h with
    | fuel + 1, _ =>
    have hl : cmpF ltO (nameF 2) (nameF 3) ⟨[some (.bytes x), some (.bytes s), some (.int (n : Nat)), some (.int (x.length : Nat))], none, d⟩ = some (false, d) := cmp_ev (d := d) rfl rfl (lt_f (Int.not_lt.mpr (Int.ofNat_le.mpr (Nat.le_of_eq h1.symm))))
    rw [while_f (and_f hl), List.drop_of_length_le (show x.length ≤ n from Nat.le_of_eq h1.symm)]
    rfl
  | succ k ih =>
    intro n fuel h1 h2
    match fuel, h2 with
    | fuel + 1, h2 =>
    have hn : n < x.length := by omega
    have hi := item_b x n hn (Nat.le_trans hx (by decide))
    have hT : _ = some (true && (s.contains x[n] && true), d) := and_ev (t := cmpF ltO (nameF 2) (nameF 3)) (u := andF (cmpF inO (binF itemO (nameF 0) (nameF 2)) (nameF 1)) (bF true)) (σ := ⟨[some (.bytes x), some (.bytes s), some (.int (n : Nat)), some (.int (x.length : Nat))], none, d⟩) (d := d)
      (cmp_ev (d := d) rfl rfl (lt_t (Int.ofNat_lt.mpr hn))) (and_ev (d := d) (cmp_ev (d := d) (a := .st (.int (x[n].toNat : Int))) (by simp only [binF, nameF, look, RV.pv, hi]) rfl (in_b s x[n])) rfl)
    rw [Bool.true_and, Bool.and_true] at hT
    rw [List.drop_eq_getElem_cons hn, List.takeWhile_cons]
    cases q : s.contains x[n] with
    | true =>
      rw [q] at hT
      rw [while_t (σ' := ⟨[some (.bytes x), some (.bytes s), some (.int ((n + 1 : Nat) : Int)), some (.int (x.length : Nat))], none, d⟩) hT rfl, ih (n + 1) fuel (by omega) (Nat.lt_of_succ_lt_succ h2), if_pos rfl, List.length_cons, Nat.add_assoc, Nat.add_comm 1]
    | false =>
      rw [q] at hT
      rw [while_f hT]
      rfl
theorem w99b (x s : B) (d : DS) (m : Nat) (hx : x.length ≤ 100000) (k : Nat) : ∀ (fuel : Nat), m + k ≤ x.length → k < fuel → whileF (andF (cmpF gtO (nameF 3) (nameF 2)) (andF (cmpF inO (binF itemO (nameF 0) (binF subO (nameF 3) (cstF (.int 1)))) (nameF 1)) (bF true))) (seqF (augF 3 subO (cstF (.int 1))) (doneF')) fuel ⟨[some (.bytes x), some (.bytes s), some (.int (m : Nat)), some (.int ((m + k : Nat)))], none, d⟩ =
    some (.nx ⟨[some (.bytes x), some (.bytes s), some (.int (m : Nat)), some (.int ((m + (cutE (s.contains ·) ((x.drop m).take k)).length : Nat)))], none, d⟩) := by
  induction k with
  | zero =>
    intro fuel h1 h
    match fuel, h with
    | fuel + 1, _ =>
    have hl : cmpF gtO (nameF 3) (nameF 2) ⟨[some (.bytes x), some (.bytes s), some (.int (m : Nat)), some (.int ((m + 0 : Nat)))], none, d⟩ = some (false, d) := cmp_ev (d := d) rfl rfl (gt_f (Int.not_lt.mpr (Int.le_refl _)))
    rw [while_f (and_f hl), List.take_zero, cutE_nil]
    rfl
  | succ k ih =>
    intro fuel h1 h2
    match fuel, h2 with
    | fuel + 1, h2 =>
    have hi := item_p x (m + k) h1 (Nat.le_trans hx (by decide))
    have g : (x.drop m).take (k + 1) = (x.drop m).take k ++ [x[m + k]] := by
      rw [List.take_succ_eq_append_getElem (by rw [List.length_drop]; omega), List.getElem_drop]
    have hT : _ = some (true && (s.contains x[m + k] && true), d) := and_ev (t := cmpF gtO (nameF 3) (nameF 2)) (u := andF (cmpF inO (binF itemO (nameF 0) (binF subO (nameF 3) (cstF (.int 1)))) (nameF 1)) (bF true)) (σ := ⟨[some (.bytes x), some (.bytes s), some (.int (m : Nat)), some (.int ((m + k + 1 : Nat) : Int))], none, d⟩) (d := d)
      (cmp_ev (d := d) rfl rfl (gt_t (Int.ofNat_lt.mpr (Nat.lt_succ_of_le (Nat.le_add_right m k))))) (and_ev (d := d) (cmp_ev (d := d) (a := .st (.int (x[m + k].toNat : Int))) (by simp only [binF, nameF, cstF, look, RV.pv, sub_i, hi]) rfl (in_b s x[m + k])) rfl)
    rw [Bool.true_and, Bool.and_true] at hT
    rw [g, cutE_snoc]
    cases q : s.contains x[m + k] with
    | true =>
      rw [q] at hT
      rw [show m + (k + 1) = m + k + 1 from rfl, while_t (σ' := ⟨[some (.bytes x), some (.bytes s), some (.int (m : Nat)), some (.int ((m + k : Nat) : Int))], none, d⟩) hT (by simp only [seqF, augF, look, cstF, sub_i, pred_s, St.set, put, doneF'])]
      exact ih fuel (Nat.le_of_succ_le h1) (Nat.lt_of_succ_lt_succ h2)
    | false =>
      rw [q] at hT
      rw [show m + (k + 1) = m + k + 1 from rfl, while_f hT, if_neg (by decide), List.length_append, List.length_take, List.length_drop, Nat.min_eq_left (by omega)]
      rfl
theorem drop_tw {α : Type} (p : α → Bool) (x : List α) : x.drop (x.takeWhile p).length = x.dropWhile p := by
  have h := List.takeWhile_append_dropWhile (p := p) (l := x)
  generalize x.takeWhile p = a at *
  generalize x.dropWhile p = b at *
  rw [← h, List.drop_left]
theorem F99_at (x s : B) (d : DS) (hx : x.length ≤ 100000) : F99 [.bytes x, .bytes s] d = some (.val (.bytes (trimB (s.contains ·) x)), d) := by
  have w1 := w99a x s d _ rfl hx x.length 0 1000000 (Nat.zero_add _) (Nat.lt_of_le_of_lt hx (by decide))
  rw [List.drop_zero, Nat.zero_add] at w1
  have hm : (x.takeWhile (s.contains ·)).length ≤ x.length := (List.takeWhile_prefix _).length_le
  have w2 := w99b x s d (x.takeWhile (s.contains ·)).length hx (x.length - (x.takeWhile (s.contains ·)).length) 1000000 (by omega) (by omega)
  rw [show (x.takeWhile (s.contains ·)).length + (x.length - (x.takeWhile (s.contains ·)).length) = x.length by omega, drop_tw, List.take_of_length_le (by rw [← drop_tw, List.length_drop]; exact Nat.le_refl _)] at w2
  have w1' : whileF (andF (cmpF ltO (nameF 2) (nameF 3)) (andF (cmpF inO (binF itemO (nameF 0) (nameF 2)) (nameF 1)) (bF true))) (seqF (augF 2 addO (cstF (.int 1))) (doneF')) 1000000 ⟨[some (.bytes x), some (.bytes s), some (.int 0), some (.int (x.length : Nat))], none, d⟩ = _ := w1
  have e := cutE_take (s.contains ·) (x.dropWhile (s.contains ·))
  simp (disch := omega) only [F99, g99, runF, runX, seqF, brF, retF, datF, asgF, augF, ownF, exF, doneF', tupS1, tupF1, setMany, St.set, St.setOwn, put, look, andF, orF, notF, cmpF, chainF, boolF, valF, bF, nameF, cstF, RV.pv, RV.strong, binF, unF, ifF, andV, orV, sliceF, partF, consA, nilA, tupF, lstF, callF, gt_i, ge_i, lt_i, le_i, eq_i, eq_b, neO, is_n, isn_n, isNone_n, isNone_i, isNone_t, isNone_p, isNone_b, ninO, sub_i, neg_i, forF, rangeF, decide_eq_true_eq, Bool.not_true, Bool.not_false, List.map_cons, List.map_nil, List.length_cons, List.length_nil, List.replicate, List.cons_append, List.nil_append, List.append_nil, Nat.reduceEqDiff, decide_false, decide_true, decide_true, len_b, show (2 ≤ 1000) = True from eq_true (by decide), show (0 + 1 + 1 ≤ 1000) = True from eq_true (by decide), if_true, List.reverse_cons, List.reverse_nil, w1', w2, slO_mid, Int.toNat_natCast, drop_tw, Nat.add_sub_cancel_left, e, trimB]
/-! object_has_sign, object_are_all -/
theorem bytes_map (l : B) (h : l.length ≤ 1000) : bytesO (.lst (l.map fun c => .int (c.toNat : Int))) = some (.st (.bytes l)) := by
  have e : intsOf (l.map fun c => PV.int (c.toNat : Int)) = some (l.map fun c => (c.toNat : Int)) := by
    clear h
    induction l with
    | nil => rfl
    | cons a l ih => rw [List.map_cons, intsOf, ih]; rfl
  have e2 : (byteArr (l.map fun c => (c.toNat : Int))).toList = l := by
    unfold byteArr
    rw [List.map_map]
    show List.map _ l = l
    have : ((fun n : Int => n.toNat.toUInt8) ∘ fun c : UInt8 => (c.toNat : Int)) = _root_.id := by
      funext c
      show ((c.toNat : Int)).toNat.toUInt8 = c
      rw [Int.toNat_natCast, byte_nat]
    rw [this, List.map_id]
  have hz : (∀ n ∈ l.map fun c => (c.toNat : Int), 0 ≤ n ∧ n < 256) ∧ (l.map fun c => (c.toNat : Int)).length ≤ 1000 := by
    refine ⟨fun n hn => ?_, by rw [List.length_map]; exact h⟩
    obtain ⟨c, _, rfl⟩ := List.mem_map.mp hn
    exact byte_lt c
  unfold bytesO
  dsimp only
  rw [e]
  dsimp only
  rw [if_pos hz, e2]
theorem bytes_one (c : UInt8) : bytesO (.lst [.int (c.toNat : Int)]) = some (.st (.bytes [c])) := bytes_map [c] (show 1 ≤ 1000 by decide)
theorem f85 (x s : B) (d : DS) : ∀ (l : B) (z : Option PV), ∃ z', forGo 2 (seqF (brF (cmpF geO (binF findO (nameF 0) (unF bytesO (lstF (consA (nameF 2) (nilA))))) (cstF (.int 0))) (seqF (retF (cstF (.bool true))) (doneF')) (doneF')) (doneF')) (l.map fun c => .int (c.toNat : Int)) ⟨[some (.bytes x), some (.bytes s), z], none, d⟩ =
    if l.any (x.contains ·) then some (.rt (.val (.bool true)) d) else some (.nx ⟨[some (.bytes x), some (.bytes s), z'], none, d⟩)
  | [], z => ⟨z, rfl⟩
  | c :: l, z => by
    obtain ⟨z', ih⟩ := f85 x s d l (some (.int (c.toNat : Int)))
    refine ⟨z', ?_⟩
    rw [List.map_cons, forGo, List.any_cons]
    simp only [runF, runX, seqF, brF, retF, datF, asgF, augF, ownF, exF, doneF', tupS1, tupF1, setMany, St.set, St.setOwn, put, look, andF, orF, notF, cmpF, chainF, boolF, valF, bF, nameF, cstF, RV.pv, RV.strong, binF, unF, ifF, andV, orV, sliceF, partF, consA, nilA, tupF, lstF, callF, gt_i, ge_i, lt_i, le_i, eq_i, eq_b, neO, is_n, isn_n, isNone_n, isNone_i, isNone_t, isNone_p, isNone_b, ninO, sub_i, neg_i, forF, rangeF, decide_eq_true_eq, Bool.not_true, Bool.not_false, List.map_cons, List.map_nil, List.length_cons, List.length_nil, List.replicate, List.cons_append, List.nil_append, List.append_nil, Nat.reduceEqDiff, decide_false, decide_true, show (0 + 1 ≤ 1000) = True from eq_true (by decide), if_true, bytes_one, find_b]
    rw [findL_eq _ _ _ (by simp), List.drop_zero]
    cases q : fnd [c] x with
    | none =>
      have : c ∉ x := fnd_one.mp q
      have e : x.contains c = false := by simpa using this
      simp only [show ((0 : Int) ≤ -1) = False from eq_false (by decide), decide_false, e, Bool.false_or]
      exact ih
    | some i =>
      have : ¬ c ∉ x := fun h => by rw [fnd_one.mpr h] at q; cases q
      have e : x.contains c = true := by simpa using this
      simp (disch := omega) only [show ((0 : Int) ≤ ((0 + i : Nat) : Int)) = True from eq_true (by omega), decide_true, e, Bool.true_or, if_true]
theorem items_b (x : B) : itemsO (.bytes x) = some (x.map fun c => .int (c.toNat : Int)) := rfl
theorem F85_at (x s : B) (d : DS) : F85 [.bytes x, .bytes s] d = some (.val (.bool (s.any (x.contains ·))), d) := by
  obtain ⟨z', e⟩ := f85 x s d s none
  simp only [F85, g85, runF, runX, seqF, brF, retF, datF, asgF, augF, ownF, exF, doneF', tupS1, tupF1, setMany, St.set, St.setOwn, put, look, andF, orF, notF, cmpF, chainF, boolF, valF, bF, nameF, cstF, RV.pv, RV.strong, binF, unF, ifF, andV, orV, sliceF, partF, consA, nilA, tupF, lstF, callF, gt_i, ge_i, lt_i, le_i, eq_i, eq_b, neO, is_n, isn_n, isNone_n, isNone_i, isNone_t, isNone_p, isNone_b, ninO, sub_i, neg_i, forF, rangeF, decide_eq_true_eq, Bool.not_true, Bool.not_false, List.map_cons, List.map_nil, List.length_cons, List.length_nil, List.replicate, List.cons_append, List.nil_append, List.append_nil, Nat.reduceEqDiff, decide_false, decide_true, decide_true, items_b]
  rw [e]
  cases s.any (x.contains ·) <;> rfl
theorem f92 (x s : B) (d : DS) : ∀ (l : B) (z : Option PV), ∃ z', forGo 2 (seqF (brF (cmpF ninO (nameF 2) (nameF 1)) (seqF (retF (cstF (.bool false))) (doneF')) (doneF')) (doneF')) (l.map fun c => .int (c.toNat : Int)) ⟨[some (.bytes x), some (.bytes s), z], none, d⟩ =
    if l.all (s.contains ·) then some (.nx ⟨[some (.bytes x), some (.bytes s), z'], none, d⟩) else some (.rt (.val (.bool false)) d)
  | [], z => ⟨z, rfl⟩
  | c :: l, z => by
    obtain ⟨z', ih⟩ := f92 x s d l (some (.int (c.toNat : Int)))
    refine ⟨z', ?_⟩
    rw [List.map_cons, forGo, List.all_cons]
    simp only [runF, runX, seqF, brF, retF, datF, asgF, augF, ownF, exF, doneF', tupS1, tupF1, setMany, St.set, St.setOwn, put, look, andF, orF, notF, cmpF, chainF, boolF, valF, bF, nameF, cstF, RV.pv, RV.strong, binF, unF, ifF, andV, orV, sliceF, partF, consA, nilA, tupF, lstF, callF, gt_i, ge_i, lt_i, le_i, eq_i, eq_b, neO, is_n, isn_n, isNone_n, isNone_i, isNone_t, isNone_p, isNone_b, ninO, sub_i, neg_i, forF, rangeF, decide_eq_true_eq, Bool.not_true, Bool.not_false, List.map_cons, List.map_nil, List.length_cons, List.length_nil, List.replicate, List.cons_append, List.nil_append, List.append_nil, Nat.reduceEqDiff, decide_false, decide_true, in_b]
    cases q : s.contains c with
    | true =>
      simp only [Bool.not_true, Bool.true_and]
      exact ih
    | false => rfl
theorem F92_at (x s : B) (d : DS) : F92 [.bytes x, .bytes s] d = some (.val (.bool (x.all (s.contains ·))), d) := by
  obtain ⟨z', e⟩ := f92 x s d x none
  simp only [F92, g92, runF, runX, seqF, brF, retF, datF, asgF, augF, ownF, exF, doneF', tupS1, tupF1, setMany, St.set, St.setOwn, put, look, andF, orF, notF, cmpF, chainF, boolF, valF, bF, nameF, cstF, RV.pv, RV.strong, binF, unF, ifF, andV, orV, sliceF, partF, consA, nilA, tupF, lstF, callF, gt_i, ge_i, lt_i, le_i, eq_i, eq_b, neO, is_n, isn_n, isNone_n, isNone_i, isNone_t, isNone_p, isNone_b, ninO, sub_i, neg_i, forF, rangeF, decide_eq_true_eq, Bool.not_true, Bool.not_false, List.map_cons, List.map_nil, List.length_cons, List.length_nil, List.replicate, List.cons_append, List.nil_append, List.append_nil, Nat.reduceEqDiff, decide_false, decide_true, decide_true, items_b]
  rw [e]
  cases x.all (s.contains ·) <;> rfl
end Mine

namespace Mine
/-! numbers -/
noncomputable def isD (c : UInt8) : Bool := decide (48 ≤ c.toNat) && decide (c.toNat ≤ 57)
noncomputable def dstep (n : Int) (c : UInt8) : Int := 10 * n + ((c.toNat : Int) - 48)
noncomputable def dval (l : B) : Int := l.foldl dstep 0
noncomputable def lead0 : B → Bool
  | c :: _ :: _ => c == 48
  | _ => false
noncomputable def num (l : B) : Option Int := if l ≠ [] ∧ l.all isD = true ∧ lead0 l = false then some (dval l) else none
noncomputable def noneOr : Option Int → PV
  | some v => .int v
  | none => .none
theorem isD_t {c : UInt8} (h : isD c = true) : 48 ≤ c.toNat ∧ c.toNat ≤ 57 := by
  unfold isD at h
  rw [Bool.and_eq_true] at h
  exact ⟨of_decide_eq_true h.1, of_decide_eq_true h.2⟩
theorem isD_f {c : UInt8} (h : isD c = false) : c.toNat < 48 ∨ 57 < c.toNat := by
  unfold isD at h
  rw [Bool.and_eq_false_iff] at h
  rcases h with h | h
  · have := of_decide_eq_false h; omega
  · have := of_decide_eq_false h; omega
theorem f71 (x : PV) (d : DS) : ∀ (l : B) (n : Int) (a b : Option PV), ∃ a' b', forGo 3 (seqF (datF 4 (binF subO (nameF 3) (cstF (.int 48)))) (seqF (brF (notF (chainF leO ltO (cstF (.int 0)) (nameF 4) (nameF 1))) (seqF (retF (cstF .none)) (doneF')) (doneF')) (seqF (datF 2 (binF addO (binF mulO (nameF 1) (nameF 2)) (nameF 4))) (doneF')))) (l.map fun c => .int (c.toNat : Int)) ⟨[some x, some (.int 10), some (.int n), a, b], none, d⟩ =
    if l.all isD then some (.nx ⟨[some x, some (.int 10), some (.int (l.foldl dstep n)), a', b'], none, d⟩) else some (.rt (.val .none) d)
  | [], n, a, b => ⟨a, b, rfl⟩
  | c :: l, n, a, b => by
    obtain ⟨a', b', ih⟩ := f71 x d l (dstep n c) (some (.int (c.toNat : Int))) (some (.int ((c.toNat : Int) - 48)))
    refine ⟨a', b', ?_⟩
    rw [List.map_cons, forGo, List.all_cons, List.foldl_cons]
    cases q : isD c with
    | true =>
      have h := isD_t q
      have h1 : (0 ≤ (c.toNat : Int) - 48) = True := eq_true (by omega)
      have h2 : ((c.toNat : Int) - 48 < 10) = True := eq_true (by omega)
      simp (disch := decide) only [runF, runX, seqF, brF, retF, datF, asgF, augF, ownF, exF, doneF', tupS1, tupF1, setMany, St.set, St.setOwn, put, look, andF, orF, notF, cmpF, chainF, boolF, valF, bF, nameF, cstF, RV.pv, RV.strong, binF, unF, ifF, andV, orV, sliceF, partF, consA, nilA, tupF, lstF, callF, gt_i, ge_i, lt_i, le_i, eq_i, eq_b, neO, is_n, isn_n, isNone_n, isNone_i, isNone_t, isNone_p, isNone_b, ninO, sub_i, neg_i, forF, rangeF, decide_eq_true_eq, Bool.not_true, Bool.not_false, List.map_cons, List.map_nil, List.length_cons, List.length_nil, List.replicate, List.cons_append, List.nil_append, List.append_nil, Nat.reduceEqDiff, decide_false, decide_true, h1, h2, decide_true, Bool.true_and, mul_i, add_i]
      exact ih
    | false =>
      have h := isD_f q
      by_cases h1 : 0 ≤ (c.toNat : Int) - 48
      · have h2 : ((c.toNat : Int) - 48 < 10) = False := eq_false (by omega)
        simp only [runF, runX, seqF, brF, retF, datF, asgF, augF, ownF, exF, doneF', tupS1, tupF1, setMany, St.set, St.setOwn, put, look, andF, orF, notF, cmpF, chainF, boolF, valF, bF, nameF, cstF, RV.pv, RV.strong, binF, unF, ifF, andV, orV, sliceF, partF, consA, nilA, tupF, lstF, callF, gt_i, ge_i, lt_i, le_i, eq_i, eq_b, neO, is_n, isn_n, isNone_n, isNone_i, isNone_t, isNone_p, isNone_b, ninO, sub_i, neg_i, forF, rangeF, decide_eq_true_eq, Bool.not_true, Bool.not_false, List.map_cons, List.map_nil, List.length_cons, List.length_nil, List.replicate, List.cons_append, List.nil_append, List.append_nil, Nat.reduceEqDiff, decide_false, decide_true, eq_true h1, h2, decide_true, decide_false]
        rfl
      · simp only [runF, runX, seqF, brF, retF, datF, asgF, augF, ownF, exF, doneF', tupS1, tupF1, setMany, St.set, St.setOwn, put, look, andF, orF, notF, cmpF, chainF, boolF, valF, bF, nameF, cstF, RV.pv, RV.strong, binF, unF, ifF, andV, orV, sliceF, partF, consA, nilA, tupF, lstF, callF, gt_i, ge_i, lt_i, le_i, eq_i, eq_b, neO, is_n, isn_n, isNone_n, isNone_i, isNone_t, isNone_p, isNone_b, ninO, sub_i, neg_i, forF, rangeF, decide_eq_true_eq, Bool.not_true, Bool.not_false, List.map_cons, List.map_nil, List.length_cons, List.length_nil, List.replicate, List.cons_append, List.nil_append, List.append_nil, Nat.reduceEqDiff, decide_false, decide_true, eq_false h1, decide_false]
        rfl
theorem F71_at (l : B) (d : DS) (h : l.length ≤ 100000) : F71 [.bytes l, .int 10] d = some (.val (if l ≠ [] ∧ l.all isD = true then .int (dval l) else .none), d) := by
  cases l with
  | nil => rfl
  | cons c l =>
    obtain ⟨a', b', e⟩ := f71 (.bytes (c :: l)) d (c :: l) 0 none none
    have h0 : (((l.length + 1 : Nat) : Int) == 0) = false := by rw [beq_eq_false_iff_ne]; omega
    rw [List.length_cons] at h
    have h' : (c :: l).length ≤ 16777216 := by rw [List.length_cons]; omega
    rw [List.map_cons] at e
    simp only [F71, g71, runF, runX, seqF, brF, retF, datF, asgF, augF, ownF, exF, doneF', tupS1, tupF1, setMany, St.set, St.setOwn, put, look, andF, orF, notF, cmpF, chainF, boolF, valF, bF, nameF, cstF, RV.pv, RV.strong, binF, unF, ifF, andV, orV, sliceF, partF, consA, nilA, tupF, lstF, callF, gt_i, ge_i, lt_i, le_i, eq_i, eq_b, neO, is_n, isn_n, isNone_n, isNone_i, isNone_t, isNone_p, isNone_b, ninO, sub_i, neg_i, forF, rangeF, decide_eq_true_eq, Bool.not_true, Bool.not_false, List.map_cons, List.map_nil, List.length_cons, List.length_nil, List.replicate, List.cons_append, List.nil_append, List.append_nil, Nat.reduceEqDiff, decide_false, decide_true, decide_true, len_b _ h', eq_i, h0, items_b, e]
    by_cases q : (c :: l).all isD = true
    · rw [if_pos q, if_pos ⟨by simp, q⟩]; rfl
    · rw [if_neg q, if_neg fun z => q z.2]
theorem F78_at (l : B) (d : DS) (h : l.length ≤ 100000) : F78 [.bytes l] d = some (.val (noneOr (num l)), d) := by
  have e71 := F71_at l d h
  match l, h, e71 with
  | [], h, e71 => rfl
  | [c], h, e71 =>
    have : num [c] = if [c] ≠ [] ∧ [c].all isD = true then some (dval [c]) else none := by unfold num; simp [lead0]
    rw [this]
    simp only [F78, g78, runF, runX, seqF, brF, retF, datF, asgF, augF, ownF, exF, doneF', tupS1, tupF1, setMany, St.set, St.setOwn, put, look, andF, orF, notF, cmpF, chainF, boolF, valF, bF, nameF, cstF, RV.pv, RV.strong, binF, unF, ifF, andV, orV, sliceF, partF, consA, nilA, tupF, lstF, callF, gt_i, ge_i, lt_i, le_i, eq_i, eq_b, neO, is_n, isn_n, isNone_n, isNone_i, isNone_t, isNone_p, isNone_b, ninO, sub_i, neg_i, forF, rangeF, decide_eq_true_eq, Bool.not_true, Bool.not_false, List.map_cons, List.map_nil, List.length_cons, List.length_nil, List.replicate, List.cons_append, List.nil_append, List.append_nil, Nat.reduceEqDiff, decide_false, decide_true, decide_true, len_b [c] (show 1 ≤ 16777216 by decide), show ((1 : Int) < ((0 + 1 : Nat) : Int)) = False from eq_false (by decide), decide_false, e71]
    by_cases q : [c] ≠ [] ∧ [c].all isD = true
    · rw [if_pos q, if_pos q]; rfl
    · rw [if_neg q, if_neg q]; rfl
  | c :: c' :: l, h, e71 =>
    have h' : (c :: c' :: l).length ≤ 16777216 := by omega
    have hi := item_b (c :: c' :: l) 0 (by simp) h'
    have hi' : itemO (.bytes (c :: c' :: l)) (.int 0) = some (.st (.int (c.toNat : Int))) := hi
    have h1 : ((1 : Int) < ((l.length + 1 + 1 : Nat) : Int)) = True := eq_true (by omega)
    by_cases q : c = 48
    · subst q
      have : num (48 :: c' :: l) = none := by unfold num; rw [if_neg]; simp [lead0]
      rw [this]
      simp only [F78, g78, runF, runX, seqF, brF, retF, datF, asgF, augF, ownF, exF, doneF', tupS1, tupF1, setMany, St.set, St.setOwn, put, look, andF, orF, notF, cmpF, chainF, boolF, valF, bF, nameF, cstF, RV.pv, RV.strong, binF, unF, ifF, andV, orV, sliceF, partF, consA, nilA, tupF, lstF, callF, gt_i, ge_i, lt_i, le_i, eq_i, eq_b, neO, is_n, isn_n, isNone_n, isNone_i, isNone_t, isNone_p, isNone_b, ninO, sub_i, neg_i, forF, rangeF, decide_eq_true_eq, Bool.not_true, Bool.not_false, List.map_cons, List.map_nil, List.length_cons, List.length_nil, List.replicate, List.cons_append, List.nil_append, List.append_nil, Nat.reduceEqDiff, decide_false, decide_true, decide_true, len_b _ h', eq_i, hi', h1]
      rfl
    · have e1 : ((c.toNat : Int) == 48) = false := by
        rw [beq_eq_false_iff_ne]
        intro z
        apply q
        have : c.toNat = 48 := by omega
        exact UInt8.toNat_inj.mp this
      have e2 : lead0 (c :: c' :: l) = false := by
        show (c == 48) = false
        rw [beq_eq_false_iff_ne]; exact q
      simp only [F78, g78, runF, runX, seqF, brF, retF, datF, asgF, augF, ownF, exF, doneF', tupS1, tupF1, setMany, St.set, St.setOwn, put, look, andF, orF, notF, cmpF, chainF, boolF, valF, bF, nameF, cstF, RV.pv, RV.strong, binF, unF, ifF, andV, orV, sliceF, partF, consA, nilA, tupF, lstF, callF, gt_i, ge_i, lt_i, le_i, eq_i, eq_b, neO, is_n, isn_n, isNone_n, isNone_i, isNone_t, isNone_p, isNone_b, ninO, sub_i, neg_i, forF, rangeF, decide_eq_true_eq, Bool.not_true, Bool.not_false, List.map_cons, List.map_nil, List.length_cons, List.length_nil, List.replicate, List.cons_append, List.nil_append, List.append_nil, Nat.reduceEqDiff, decide_false, decide_true, decide_true, len_b _ h', eq_i, hi', h1, e1, e71]
      unfold num
      rw [e2]
      by_cases p : (c :: c' :: l) ≠ [] ∧ (c :: c' :: l).all isD = true
      · rw [if_pos p, if_pos ⟨p.1, p.2, rfl⟩]; rfl
      · rw [if_neg p, if_neg fun z => p ⟨z.1, z.2.1⟩]; rfl
end Mine

namespace Mine
/-! _law_number -/
theorem step_pos {n : Int} {c : UInt8} (hn : 1 ≤ n) (h : isD c = true) : 1 ≤ dstep n c := by
  have := isD_t h
  unfold dstep
  omega
theorem f249 (x : PV) (d : DS) : ∀ (l : B) (n : Int) (a : Option PV), 1 ≤ n → ∃ a', forGo 2 (seqF (brF (orF (notF (chainF leO leO (cstF (.int 48)) (nameF 2) (cstF (.int 57)))) (orF (cmpF eqO (nameF 1) (cstF (.int 0))) (bF false))) (seqF (retF (cstF .none)) (doneF')) (doneF')) (seqF (datF 1 (binF subO (binF addO (ifF (cmpF isO (nameF 1) (cstF .none)) (cstF (.int 0)) (binF mulO (cstF (.int 10)) (nameF 1))) (nameF 2)) (cstF (.int 48)))) (doneF'))) (l.map fun c => .int (c.toNat : Int)) ⟨[some x, some (.int n), a], none, d⟩ =
    if l.all isD then some (.nx ⟨[some x, some (.int (l.foldl dstep n)), a'], none, d⟩) else some (.rt (.val .none) d)
  | [], n, a, _ => ⟨a, rfl⟩
  | c :: l, n, a, hn => by
    cases q : isD c with
    | true =>
      obtain ⟨a', ih⟩ := f249 x d l (dstep n c) (some (.int (c.toNat : Int))) (step_pos hn q)
      refine ⟨a', ?_⟩
      rw [List.map_cons, forGo, List.all_cons, List.foldl_cons, q]
      have h := isD_t q
      have h1 : ((48 : Int) ≤ (c.toNat : Int)) = True := eq_true (by omega)
      have h2 : ((c.toNat : Int) ≤ 57) = True := eq_true (by omega)
      have h3 : (n == 0) = false := by rw [beq_eq_false_iff_ne]; omega
      have e : 10 * n + (c.toNat : Int) - 48 = dstep n c := by unfold dstep; omega
      simp (disch := decide) only [runF, runX, seqF, brF, retF, datF, asgF, augF, ownF, exF, doneF', tupS1, tupF1, setMany, St.set, St.setOwn, put, look, andF, orF, notF, cmpF, chainF, boolF, valF, bF, nameF, cstF, RV.pv, RV.strong, binF, unF, ifF, andV, orV, sliceF, partF, consA, nilA, tupF, lstF, callF, gt_i, ge_i, lt_i, le_i, eq_i, eq_b, neO, is_n, isn_n, isNone_n, isNone_i, isNone_t, isNone_p, isNone_b, ninO, sub_i, neg_i, forF, rangeF, decide_eq_true_eq, Bool.not_true, Bool.not_false, List.map_cons, List.map_nil, List.length_cons, List.length_nil, List.replicate, List.cons_append, List.nil_append, List.append_nil, Nat.reduceEqDiff, decide_false, decide_true, h1, h2, decide_true, Bool.true_and, eq_i, h3, mul_i, add_i, e]
      exact ih
    | false =>
      refine ⟨none, ?_⟩
      rw [List.map_cons, forGo, List.all_cons, q]
      have h := isD_f q
      by_cases h1 : (48 : Int) ≤ (c.toNat : Int)
      · have h2 : ((c.toNat : Int) ≤ 57) = False := eq_false (by omega)
        simp only [runF, runX, seqF, brF, retF, datF, asgF, augF, ownF, exF, doneF', tupS1, tupF1, setMany, St.set, St.setOwn, put, look, andF, orF, notF, cmpF, chainF, boolF, valF, bF, nameF, cstF, RV.pv, RV.strong, binF, unF, ifF, andV, orV, sliceF, partF, consA, nilA, tupF, lstF, callF, gt_i, ge_i, lt_i, le_i, eq_i, eq_b, neO, is_n, isn_n, isNone_n, isNone_i, isNone_t, isNone_p, isNone_b, ninO, sub_i, neg_i, forF, rangeF, decide_eq_true_eq, Bool.not_true, Bool.not_false, List.map_cons, List.map_nil, List.length_cons, List.length_nil, List.replicate, List.cons_append, List.nil_append, List.append_nil, Nat.reduceEqDiff, decide_false, decide_true, eq_true h1, h2, decide_true, decide_false]
        rfl
      · simp only [runF, runX, seqF, brF, retF, datF, asgF, augF, ownF, exF, doneF', tupS1, tupF1, setMany, St.set, St.setOwn, put, look, andF, orF, notF, cmpF, chainF, boolF, valF, bF, nameF, cstF, RV.pv, RV.strong, binF, unF, ifF, andV, orV, sliceF, partF, consA, nilA, tupF, lstF, callF, gt_i, ge_i, lt_i, le_i, eq_i, eq_b, neO, is_n, isn_n, isNone_n, isNone_i, isNone_t, isNone_p, isNone_b, ninO, sub_i, neg_i, forF, rangeF, decide_eq_true_eq, Bool.not_true, Bool.not_false, List.map_cons, List.map_nil, List.length_cons, List.length_nil, List.replicate, List.cons_append, List.nil_append, List.append_nil, Nat.reduceEqDiff, decide_false, decide_true, eq_false h1, decide_false]
        rfl
theorem f249_first (x : PV) (d : DS) (c : UInt8) (l : List PV) (a : Option PV) : forGo 2 (seqF (brF (orF (notF (chainF leO leO (cstF (.int 48)) (nameF 2) (cstF (.int 57)))) (orF (cmpF eqO (nameF 1) (cstF (.int 0))) (bF false))) (seqF (retF (cstF .none)) (doneF')) (doneF')) (seqF (datF 1 (binF subO (binF addO (ifF (cmpF isO (nameF 1) (cstF .none)) (cstF (.int 0)) (binF mulO (cstF (.int 10)) (nameF 1))) (nameF 2)) (cstF (.int 48)))) (doneF'))) (.int (c.toNat : Int) :: l) ⟨[some x, some .none, a], none, d⟩ =
    if isD c then forGo 2 (seqF (brF (orF (notF (chainF leO leO (cstF (.int 48)) (nameF 2) (cstF (.int 57)))) (orF (cmpF eqO (nameF 1) (cstF (.int 0))) (bF false))) (seqF (retF (cstF .none)) (doneF')) (doneF')) (seqF (datF 1 (binF subO (binF addO (ifF (cmpF isO (nameF 1) (cstF .none)) (cstF (.int 0)) (binF mulO (cstF (.int 10)) (nameF 1))) (nameF 2)) (cstF (.int 48)))) (doneF'))) l ⟨[some x, some (.int ((c.toNat : Int) - 48)), some (.int (c.toNat : Int))], none, d⟩ else some (.rt (.val .none) d) := by
  cases q : isD c with
  | true =>
    rw [forGo]
    have h := isD_t q
    have h1 : ((48 : Int) ≤ (c.toNat : Int)) = True := eq_true (by omega)
    have h2 : ((c.toNat : Int) ≤ 57) = True := eq_true (by omega)
    have e : (0 : Int) + (c.toNat : Int) - 48 = (c.toNat : Int) - 48 := by omega
    have e0 : eqO PV.none (.int 0) = some false := rfl
    simp (disch := decide) only [runF, runX, seqF, brF, retF, datF, asgF, augF, ownF, exF, doneF', tupS1, tupF1, setMany, St.set, St.setOwn, put, look, andF, orF, notF, cmpF, chainF, boolF, valF, bF, nameF, cstF, RV.pv, RV.strong, binF, unF, ifF, andV, orV, sliceF, partF, consA, nilA, tupF, lstF, callF, gt_i, ge_i, lt_i, le_i, eq_i, eq_b, neO, is_n, isn_n, isNone_n, isNone_i, isNone_t, isNone_p, isNone_b, ninO, sub_i, neg_i, forF, rangeF, decide_eq_true_eq, Bool.not_true, Bool.not_false, List.map_cons, List.map_nil, List.length_cons, List.length_nil, List.replicate, List.cons_append, List.nil_append, List.append_nil, Nat.reduceEqDiff, decide_false, decide_true, h1, h2, decide_true, e0, mul_i, add_i, e, if_true]
  | false =>
    rw [forGo]
    have h := isD_f q
    by_cases h1 : (48 : Int) ≤ (c.toNat : Int)
    · have h2 : ((c.toNat : Int) ≤ 57) = False := eq_false (by omega)
      simp only [runF, runX, seqF, brF, retF, datF, asgF, augF, ownF, exF, doneF', tupS1, tupF1, setMany, St.set, St.setOwn, put, look, andF, orF, notF, cmpF, chainF, boolF, valF, bF, nameF, cstF, RV.pv, RV.strong, binF, unF, ifF, andV, orV, sliceF, partF, consA, nilA, tupF, lstF, callF, gt_i, ge_i, lt_i, le_i, eq_i, eq_b, neO, is_n, isn_n, isNone_n, isNone_i, isNone_t, isNone_p, isNone_b, ninO, sub_i, neg_i, forF, rangeF, decide_eq_true_eq, Bool.not_true, Bool.not_false, List.map_cons, List.map_nil, List.length_cons, List.length_nil, List.replicate, List.cons_append, List.nil_append, List.append_nil, Nat.reduceEqDiff, decide_false, decide_true, eq_true h1, h2, decide_true, decide_false]
      rfl
    · simp only [runF, runX, seqF, brF, retF, datF, asgF, augF, ownF, exF, doneF', tupS1, tupF1, setMany, St.set, St.setOwn, put, look, andF, orF, notF, cmpF, chainF, boolF, valF, bF, nameF, cstF, RV.pv, RV.strong, binF, unF, ifF, andV, orV, sliceF, partF, consA, nilA, tupF, lstF, callF, gt_i, ge_i, lt_i, le_i, eq_i, eq_b, neO, is_n, isn_n, isNone_n, isNone_i, isNone_t, isNone_p, isNone_b, ninO, sub_i, neg_i, forF, rangeF, decide_eq_true_eq, Bool.not_true, Bool.not_false, List.map_cons, List.map_nil, List.length_cons, List.length_nil, List.replicate, List.cons_append, List.nil_append, List.append_nil, Nat.reduceEqDiff, decide_false, decide_true, eq_false h1, decide_false]
      rfl
theorem f249_zero (x : PV) (d : DS) (c : UInt8) (l : List PV) (a : Option PV) : forGo 2 (seqF (brF (orF (notF (chainF leO leO (cstF (.int 48)) (nameF 2) (cstF (.int 57)))) (orF (cmpF eqO (nameF 1) (cstF (.int 0))) (bF false))) (seqF (retF (cstF .none)) (doneF')) (doneF')) (seqF (datF 1 (binF subO (binF addO (ifF (cmpF isO (nameF 1) (cstF .none)) (cstF (.int 0)) (binF mulO (cstF (.int 10)) (nameF 1))) (nameF 2)) (cstF (.int 48)))) (doneF'))) (.int (c.toNat : Int) :: l) ⟨[some x, some (.int 0), a], none, d⟩ = some (.rt (.val .none) d) := by
  rw [forGo]
  by_cases h1 : (48 : Int) ≤ (c.toNat : Int)
  · by_cases h2 : (c.toNat : Int) ≤ 57
    · simp only [runF, runX, seqF, brF, retF, datF, asgF, augF, ownF, exF, doneF', tupS1, tupF1, setMany, St.set, St.setOwn, put, look, andF, orF, notF, cmpF, chainF, boolF, valF, bF, nameF, cstF, RV.pv, RV.strong, binF, unF, ifF, andV, orV, sliceF, partF, consA, nilA, tupF, lstF, callF, gt_i, ge_i, lt_i, le_i, eq_i, eq_b, neO, is_n, isn_n, isNone_n, isNone_i, isNone_t, isNone_p, isNone_b, ninO, sub_i, neg_i, forF, rangeF, decide_eq_true_eq, Bool.not_true, Bool.not_false, List.map_cons, List.map_nil, List.length_cons, List.length_nil, List.replicate, List.cons_append, List.nil_append, List.append_nil, Nat.reduceEqDiff, decide_false, decide_true, eq_true h1, eq_true h2, decide_true, eq_i]
      rfl
    · simp only [runF, runX, seqF, brF, retF, datF, asgF, augF, ownF, exF, doneF', tupS1, tupF1, setMany, St.set, St.setOwn, put, look, andF, orF, notF, cmpF, chainF, boolF, valF, bF, nameF, cstF, RV.pv, RV.strong, binF, unF, ifF, andV, orV, sliceF, partF, consA, nilA, tupF, lstF, callF, gt_i, ge_i, lt_i, le_i, eq_i, eq_b, neO, is_n, isn_n, isNone_n, isNone_i, isNone_t, isNone_p, isNone_b, ninO, sub_i, neg_i, forF, rangeF, decide_eq_true_eq, Bool.not_true, Bool.not_false, List.map_cons, List.map_nil, List.length_cons, List.length_nil, List.replicate, List.cons_append, List.nil_append, List.append_nil, Nat.reduceEqDiff, decide_false, decide_true, eq_true h1, eq_false h2, decide_true, decide_false]
  · simp only [runF, runX, seqF, brF, retF, datF, asgF, augF, ownF, exF, doneF', tupS1, tupF1, setMany, St.set, St.setOwn, put, look, andF, orF, notF, cmpF, chainF, boolF, valF, bF, nameF, cstF, RV.pv, RV.strong, binF, unF, ifF, andV, orV, sliceF, partF, consA, nilA, tupF, lstF, callF, gt_i, ge_i, lt_i, le_i, eq_i, eq_b, neO, is_n, isn_n, isNone_n, isNone_i, isNone_t, isNone_p, isNone_b, ninO, sub_i, neg_i, forF, rangeF, decide_eq_true_eq, Bool.not_true, Bool.not_false, List.map_cons, List.map_nil, List.length_cons, List.length_nil, List.replicate, List.cons_append, List.nil_append, List.append_nil, Nat.reduceEqDiff, decide_false, decide_true, eq_false h1, decide_false]
theorem F249_at (l : B) (d : DS) : F249 [.bytes l] d = some (.val (noneOr (num l)), d) := by
  match l with
  | [] => rfl
  | c :: l =>
    have e1 := f249_first (.bytes (c :: l)) d c (l.map fun c => .int (c.toNat : Int)) none
    simp only [F249, g249, runF, runX, seqF, brF, retF, datF, asgF, augF, ownF, exF, doneF', tupS1, tupF1, setMany, St.set, St.setOwn, put, look, andF, orF, notF, cmpF, chainF, boolF, valF, bF, nameF, cstF, RV.pv, RV.strong, binF, unF, ifF, andV, orV, sliceF, partF, consA, nilA, tupF, lstF, callF, gt_i, ge_i, lt_i, le_i, eq_i, eq_b, neO, is_n, isn_n, isNone_n, isNone_i, isNone_t, isNone_p, isNone_b, ninO, sub_i, neg_i, forF, rangeF, decide_eq_true_eq, Bool.not_true, Bool.not_false, List.map_cons, List.map_nil, List.length_cons, List.length_nil, List.replicate, List.cons_append, List.nil_append, List.append_nil, Nat.reduceEqDiff, decide_false, decide_true, decide_true, items_b, e1]
    cases q : isD c with
    | false =>
      have : num (c :: l) = none := by unfold num; rw [if_neg]; rw [List.all_cons, q]; simp
      rw [this]; rfl
    | true =>
      have hq := isD_t q
      rw [if_pos rfl]
      by_cases h48 : c = 48
      · subst h48
        match l with
        | [] => rfl
        | c' :: l =>
          have : num (48 :: c' :: l) = none := by unfold num; rw [if_neg]; simp [lead0]
          rw [this, List.map_cons]
          have := f249_zero (.bytes (48 :: c' :: l)) d c' (l.map fun c => .int (c.toNat : Int)) (some (.int ((48 : UInt8).toNat : Int)))
          rw [show (((48 : UInt8).toNat : Int) - 48) = 0 from rfl, this]
          rfl
      · have hc : 1 ≤ (c.toNat : Int) - 48 := by
          have : c.toNat ≠ 48 := fun e => h48 (UInt8.toNat_inj.mp e)
          omega
        obtain ⟨a', e2⟩ := f249 (.bytes (c :: l)) d l ((c.toNat : Int) - 48) (some (.int (c.toNat : Int))) hc
        rw [e2]
        have hl : lead0 (c :: l) = false := by
          match l with
          | [] => rfl
          | c' :: l => show (c == 48) = false; rw [beq_eq_false_iff_ne]; exact h48
        have e3 : dval (c :: l) = l.foldl dstep ((c.toNat : Int) - 48) := by
          unfold dval
          rw [List.foldl_cons]
          congr 1
          unfold dstep; omega
        unfold num
        rw [hl, List.all_cons, q, Bool.true_and]
        by_cases p : l.all isD = true
        · rw [if_pos p, if_pos ⟨by simp, p, rfl⟩, e3]; rfl
        · rw [if_neg p, if_neg fun z => p z.2.1]; rfl
/-! text -/
theorem dval_nat : ∀ (l : B) (n : Nat), l.all isD = true → l.foldl dstep (n : Int) = (((l.map (·.toNat)).foldl (fun acc c => acc * 10 + (c - 48)) n : Nat) : Int)
  | [], n, _ => rfl
  | c :: l, n, h => by
    rw [List.all_cons, Bool.and_eq_true] at h
    have hc := isD_t h.1
    rw [List.foldl_cons, List.map_cons, List.foldl_cons, ← dval_nat l _ h.2]
    congr 1
    unfold dstep
    omega
theorem dval_digits {l : B} (h : l.all isD = true) : dval l = ((NumText.digitsVal (l.map (·.toNat)) : Nat) : Int) := dval_nat l 0 h
theorem dig_lt : ∀ (l : List Nat) (n k : Nat), n < 10 ^ k → (∀ c ∈ l, c ≤ 57) → l.foldl (fun acc c => acc * 10 + (c - 48)) n < 10 ^ (k + l.length)
  | [], n, k, h, _ => h
  | c :: l, n, k, h, hl => by
    have hc := hl c (.head _)
    have := dig_lt l (n * 10 + (c - 48)) (k + 1) (by rw [Nat.pow_succ]; omega) fun c hc => hl c (.tail _ hc)
    rw [List.foldl_cons, List.length_cons, show k + (l.length + 1) = k + 1 + l.length by omega]
    exact this
noncomputable def strB (l : B) : Str := ⟨(l.map (·.toNat)).toArray⟩
theorem num_some {l : B} {v : Int} (h : num l = some v) : l ≠ [] ∧ l.all isD = true ∧ lead0 l = false ∧ v = dval l := by
  unfold num at h
  split at h
  · rename_i z; cases h; exact ⟨z.1, z.2.1, z.2.2, rfl⟩
  · cases h
theorem lead_ok : ∀ l : B, l ≠ [] → l.all isD = true → lead0 l = false → l.length - 1 = 0 ∨ ∃ c r, l.map (·.toNat) = c :: r ∧ 49 ≤ c
  | [], h, _, _ => absurd rfl h
  | [c], _, _, _ => .inl rfl
  | c :: c' :: l, _, h, h3 => by
    refine .inr ⟨c.toNat, _, rfl, ?_⟩
    rw [List.all_cons, Bool.and_eq_true] at h
    have h4 : (c == 48) = false := h3
    have h5 : c.toNat ≠ 48 := fun e => by
      rw [beq_eq_false_iff_ne] at h4
      exact h4 (UInt8.toNat_inj.mp e)
    have := isD_t h.1
    omega
set_option exponentiation.threshold 2000 in
theorem pow500 : 10 ^ 500 < 2 ^ 1920 := by decide +kernel
theorem str_num {l : B} {v : Int} (h : num l = some v) (hl : l.length ≤ 500) : strO (.int v) = some (.st (.str (strB l))) := by
  obtain ⟨h1, h2, h3, rfl⟩ := num_some h
  have hd : NumText.AllDigits (l.map (·.toNat)) := fun c hc => by
    obtain ⟨b, hb, rfl⟩ := List.mem_map.mp hc
    exact isD_t (List.all_eq_true.mp h2 b hb)
  rw [dval_digits h2]
  have hlt : NumText.digitsVal (l.map (·.toNat)) < 10 ^ 500 := by
    have := dig_lt (l.map (·.toNat)) 0 0 (by decide) fun c hc => (hd c hc).2
    rw [List.length_map] at this
    exact Nat.lt_of_lt_of_le this (Nat.pow_le_pow_right (by decide) (by omega))
  have hlog : ((NumText.digitsVal (l.map (·.toNat)) : Nat) : Int).natAbs.log2 < 1920 := by
    rw [Int.natAbs_natCast]
    by_cases z : NumText.digitsVal (l.map (·.toNat)) = 0
    · rw [z]; decide
    · rw [Nat.log2_lt z]
      exact Nat.lt_trans hlt pow500
  rw [strO, if_pos hlog]
  have e : Str.ofString (toString (Int.ofNat (NumText.digitsVal (l.map (·.toNat))))) = strB l := by
    rw [text_ofNat]
    have hne : (l.map (·.toNat)).length = (l.length - 1) + 1 := by
      have := List.length_pos_iff.mpr h1
      rw [List.length_map]; omega
    rw [NumText.toDigits_digitsVal (l.length - 1) _ hne hd ?_, List.map_map]
    · unfold strB
      congr 2
      conv => rhs; rw [← List.map_id (l.map (·.toNat))]
      refine List.map_congr_left fun c hc => ?_
      have := hd c hc
      show (Char.ofNat c).toNat = c
      have hv : c.isValidChar := Or.inl (by omega)
      rw [Char.ofNat, dif_pos hv]
      rfl
    · exact lead_ok l h1 h2 h3
  rw [show toString ((NumText.digitsVal (l.map (·.toNat)) : Nat) : Int) = toString (Int.ofNat (NumText.digitsVal (l.map (·.toNat)))) from rfl, e]
end Mine

namespace Mine
theorem compK_filter {t : TF} {e : EF} {α : Type} (u : α → PV) (v : α → PV) (p : α → Bool) : ∀ (l : List α) (d : DS), (∀ x ∈ l, t (cSt (u x) d) = some (p x, d)) → (∀ x ∈ l, e (cSt (u x) d) = some (.st (v x), d)) → compK t e (l.map u) d = some ((l.filter p).map v, d)
  | [], _, _, _ => rfl
  | x :: l, d, h1, h2 => by
    have ih := compK_filter u v p l d (fun y hy => h1 y (.tail _ hy)) fun y hy => h2 y (.tail _ hy)
    rw [List.map_cons, compK, h1 x (.head _), List.filter_cons]
    cases p x with
    | true =>
      dsimp only
      rw [h2 x (.head _)]
      dsimp only
      rw [ih]; rfl
    | false =>
      dsimp only
      rw [ih]; rfl
theorem compK_all {t : TF} {e : EF} {α : Type} (u : α → PV) (v : α → PV) (l : List α) (d : DS) (h1 : ∀ x ∈ l, t (cSt (u x) d) = some (true, d)) (h2 : ∀ x ∈ l, e (cSt (u x) d) = some (.st (v x), d)) : compK t e (l.map u) d = some (l.map v, d) := by
  have := compK_filter u v (fun _ => true) l d h1 h2
  rwa [List.filter_eq_self.mpr fun _ _ => rfl] at this
theorem itemsK_l (l : List PV) (h : l.length ≤ 16777216) : itemsK (.lst l) = some l := if_pos h
theorem itemsK_b (x : B) (h : x.length ≤ 16777216) : itemsK (.bytes x) = some (x.map fun c => .int (c.toNat : Int)) := if_pos h
/-! octets_of, text_of -/
theorem f57 (a b : Option PV) (d : DS) : ∀ (l : B) (z : Option PV), ∃ z', forGo 2 (seqF (brF (cmpF gtO (nameF 2) (cstF (.int 255))) (deadF) (doneF')) (doneF')) (l.map fun c => .int (c.toNat : Int)) ⟨[a, b, z], none, d⟩ = some (.nx ⟨[a, b, z'], none, d⟩)
  | [], z => ⟨z, rfl⟩
  | c :: l, z => by
    obtain ⟨z', ih⟩ := f57 a b d l (some (.int (c.toNat : Int)))
    refine ⟨z', ?_⟩
    have h1 : ((255 : Int) < (c.toNat : Int)) = False := eq_false (by have := byte_lt c; omega)
    rw [List.map_cons, forGo]
    simp only [runF, runX, seqF, brF, retF, datF, asgF, augF, ownF, exF, doneF', tupS1, tupF1, setMany, St.set, St.setOwn, put, look, andF, orF, notF, cmpF, chainF, boolF, valF, bF, nameF, cstF, RV.pv, RV.strong, binF, unF, ifF, andV, orV, sliceF, partF, consA, nilA, tupF, lstF, callF, gt_i, ge_i, lt_i, le_i, eq_i, eq_b, neO, is_n, isn_n, isNone_n, isNone_i, isNone_t, isNone_p, isNone_b, ninO, sub_i, neg_i, forF, rangeF, decide_eq_true_eq, Bool.not_true, Bool.not_false, List.map_cons, List.map_nil, List.length_cons, List.length_nil, List.replicate, List.cons_append, List.nil_append, List.append_nil, Nat.reduceEqDiff, decide_false, decide_true, h1, decide_false]
    exact ih
theorem items_l (x : B) (h : x.length ≤ 16777216) : itemsO (.lst (x.map fun c => .int (c.toNat : Int))) = some (x.map fun c => .int (c.toNat : Int)) := if_pos ⟨List.all_eq_true.mpr fun p hp => by
  obtain ⟨i, _, rfl⟩ := List.mem_map.mp hp
  rfl, by rw [List.length_map]; exact h⟩
theorem F57_at (l : B) (d : DS) (h : l.length ≤ 1000) : F57 [.str (strB l)] d = some (.val (.bytes l), d) := by
  have e1 : itemsK (.str (strB l)) = some (l.map fun c => .str ⟨#[c.toNat]⟩) := by
    have hz : (strB l).cps.size ≤ 16777216 := by unfold strB; simp; omega
    rw [itemsK, if_pos hz]
    unfold strB
    rw [List.map_map]
    rfl
  have e2 : compK (bF true) (unF ordO (nameF 0)) (l.map fun c => .str ⟨#[c.toNat]⟩) d = some (l.map fun c => .int (c.toNat : Int), d) := compK_all (fun c : UInt8 => .str ⟨#[c.toNat]⟩) (fun c => .int (c.toNat : Int)) l d (fun _ _ => rfl) fun _ _ => rfl
  obtain ⟨z', e3⟩ := f57 (some (.str (strB l))) (some (.lst (l.map fun c => .int (c.toNat : Int)))) d l none
  simp (disch := omega) only [F57, g57, runF, runX, seqF, brF, retF, datF, asgF, augF, ownF, exF, doneF', tupS1, tupF1, setMany, St.set, St.setOwn, put, look, andF, orF, notF, cmpF, chainF, boolF, valF, bF, nameF, cstF, RV.pv, RV.strong, binF, unF, ifF, andV, orV, sliceF, partF, consA, nilA, tupF, lstF, callF, gt_i, ge_i, lt_i, le_i, eq_i, eq_b, neO, is_n, isn_n, isNone_n, isNone_i, isNone_t, isNone_p, isNone_b, ninO, sub_i, neg_i, forF, rangeF, decide_eq_true_eq, Bool.not_true, Bool.not_false, List.map_cons, List.map_nil, List.length_cons, List.length_nil, List.replicate, List.cons_append, List.nil_append, List.append_nil, Nat.reduceEqDiff, decide_false, decide_true, decide_true, compF, e1, e2, items_l, e3, bytes_map]
noncomputable def two (a b : Nat) : Str := Txt.join (S "") [⟨#[a]⟩, ⟨#[b]⟩]
theorem chr_b (c : UInt8) : chrO (.int (c.toNat : Int)) = some (.st (.str ⟨#[c.toNat]⟩)) := by
  have := byte_lt c
  rw [chrO, if_pos (by omega), Int.toNat_natCast]
theorem F52_two (a b : UInt8) (d : DS) : F52 [.bytes [a, b]] d = some (.val (.str (two a.toNat b.toNat)), d) := by
  have e1 := itemsK_b [a, b] (show 2 ≤ 16777216 by decide)
  have e2 : compK (bF true) (unF chrO (nameF 0)) ([a, b].map fun c => .int (c.toNat : Int)) d = some ([a, b].map fun c => .str ⟨#[c.toNat]⟩, d) := compK_all (fun c : UInt8 => .int (c.toNat : Int)) (fun c => .str ⟨#[c.toNat]⟩) [a, b] d (fun _ _ => rfl) fun c _ => by simp only [runF, runX, seqF, brF, retF, datF, asgF, augF, ownF, exF, doneF', tupS1, tupF1, setMany, St.set, St.setOwn, put, look, andF, orF, notF, cmpF, chainF, boolF, valF, bF, nameF, cstF, RV.pv, RV.strong, binF, unF, ifF, andV, orV, sliceF, partF, consA, nilA, tupF, lstF, callF, gt_i, ge_i, lt_i, le_i, eq_i, eq_b, neO, is_n, isn_n, isNone_n, isNone_i, isNone_t, isNone_p, isNone_b, ninO, sub_i, neg_i, forF, rangeF, decide_eq_true_eq, Bool.not_true, Bool.not_false, List.map_cons, List.map_nil, List.length_cons, List.length_nil, List.replicate, List.cons_append, List.nil_append, List.append_nil, Nat.reduceEqDiff, decide_false, decide_true, chr_b]
  rw [List.map_cons, List.map_cons, List.map_nil] at e1 e2
  have e3 : joinSO (.str (S "")) (.lst [.str ⟨#[a.toNat]⟩, .str ⟨#[b.toNat]⟩]) = some (.st (.str (two a.toNat b.toNat))) := by
    have hz : ([(⟨#[a.toNat]⟩ : Str), ⟨#[b.toNat]⟩].map (·.length)).sum + [(⟨#[a.toNat]⟩ : Str), ⟨#[b.toNat]⟩].length * (S "").length ≤ 16777216 := by
      show (1 + (1 + 0)) + 2 * 0 ≤ 16777216
      decide
    unfold joinSO
    dsimp only [strsOf]
    rw [if_pos hz]
    rfl
  have e2' : compK (bF true) (unF chrO (nameF 0)) [.int (a.toNat : Int), .int (b.toNat : Int)] d = some ([.str ⟨#[a.toNat]⟩, .str ⟨#[b.toNat]⟩], d) := e2
  simp only [F52, g52, runF, runX, seqF, brF, retF, datF, asgF, augF, ownF, exF, doneF', tupS1, tupF1, setMany, St.set, St.setOwn, put, look, andF, orF, notF, cmpF, chainF, boolF, valF, bF, nameF, cstF, RV.pv, RV.strong, binF, unF, ifF, andV, orV, sliceF, partF, consA, nilA, tupF, lstF, callF, gt_i, ge_i, lt_i, le_i, eq_i, eq_b, neO, is_n, isn_n, isNone_n, isNone_i, isNone_t, isNone_p, isNone_b, ninO, sub_i, neg_i, forF, rangeF, decide_eq_true_eq, Bool.not_true, Bool.not_false, List.map_cons, List.map_nil, List.length_cons, List.length_nil, List.replicate, List.cons_append, List.nil_append, List.append_nil, Nat.reduceEqDiff, decide_false, decide_true, decide_true, compF, e1, e2', e3]
noncomputable def intV (s : Str) : Option Int := match intO (.str s) with
  | some (.st (.int n)) => some n
  | _ => none
theorem intV_some {s : Str} {n : Int} (h : intV s = some n) : intO (.str s) = some (.st (.int n)) := by
  unfold intV at h
  generalize intO (.str s) = r at h
  cases r with
  | none => cases h
  | some v => cases v with
    | st p => cases p with
      | int m => cases h; rfl
      | _ => cases h
    | _ => cases h
noncomputable def chk2 : Bool := (List.range 10).all fun a => (List.range 10).all fun b => intV (two (48 + a) (48 + b)) == some (10 * (a : Int) + (b : Int))
theorem chk2_t : chk2 = true := by kernel_rfl
theorem dig_n {a : UInt8} (h : isD a = true) : ∃ n : Nat, n < 10 ∧ a.toNat = 48 + n ∧ (a.toNat : Int) - 48 = (n : Int) := by
  have h1 := isD_t h
  obtain ⟨n, hn⟩ := Nat.exists_eq_add_of_le h1.1
  refine ⟨n, by omega, hn, ?_⟩
  rw [hn, Int.natCast_add]
  show (48 : Int) + (n : Int) - 48 = n
  rw [Int.add_comm, Int.add_sub_cancel]
theorem int2 {a b : UInt8} (ha : isD a = true) (hb : isD b = true) : intO (.str (two a.toNat b.toNat)) = some (.st (.int (10 * ((a.toNat : Int) - 48) + ((b.toNat : Int) - 48)))) := by
  obtain ⟨n, n1, n2, n3⟩ := dig_n ha
  obtain ⟨k, k1, k2, k3⟩ := dig_n hb
  rw [n3, k3, n2, k2]
  exact intV_some (beq_iff_eq.mp (List.all_eq_true.mp (List.all_eq_true.mp chk2_t n (List.mem_range.mpr n1)) k (List.mem_range.mpr k1)))
/-! Person.octets -/
noncomputable def octs (n e w z : B) : B := n ++ [32, 60] ++ e ++ [62, 32] ++ w ++ [32] ++ z
noncomputable abbrev person (n e : B) (v : Int) (z : B) : PV := .inst 130 [.bytes n, .bytes e, .int v, .bytes z]
theorem F127_at {n e w z : B} {v : Int} (d : DS) (hv : num w = some v) (h : (octs n e w z).length ≤ 500) : F127 [person n e v z] d = some (.val (.bytes (octs n e w z)), d) := by
  have hl : n.length + 2 + e.length + 2 + w.length + 1 + z.length ≤ 500 := by
    have : (octs n e w z).length = n.length + 2 + e.length + 2 + w.length + 1 + z.length := by unfold octs; simp only [List.length_append, List.length_cons, List.length_nil]
    omega
  have e1 := str_num hv (by omega)
  have e2 := F57_at w d (by omega)
  have a1 : addO (.bytes n) (.bytes [32, 60]) = some (.st (.bytes (n ++ [32, 60]))) := add_b _ _ (by simp only [List.length_append, List.length_cons, List.length_nil]; omega)
  have a2 : addO (.bytes (n ++ [32, 60])) (.bytes e) = some (.st (.bytes (n ++ [32, 60] ++ e))) := add_b _ _ (by simp only [List.length_append, List.length_cons, List.length_nil]; omega)
  have a3 : addO (.bytes (n ++ [32, 60] ++ e)) (.bytes [62, 32]) = some (.st (.bytes (n ++ [32, 60] ++ e ++ [62, 32]))) := add_b _ _ (by simp only [List.length_append, List.length_cons, List.length_nil]; omega)
  have a4 : addO (.bytes (n ++ [32, 60] ++ e ++ [62, 32])) (.bytes w) = some (.st (.bytes (n ++ [32, 60] ++ e ++ [62, 32] ++ w))) := add_b _ _ (by simp only [List.length_append, List.length_cons, List.length_nil]; omega)
  have a5 : addO (.bytes (n ++ [32, 60] ++ e ++ [62, 32] ++ w)) (.bytes [32]) = some (.st (.bytes (n ++ [32, 60] ++ e ++ [62, 32] ++ w ++ [32]))) := add_b _ _ (by simp only [List.length_append, List.length_cons, List.length_nil]; omega)
  have a6 : addO (.bytes (n ++ [32, 60] ++ e ++ [62, 32] ++ w ++ [32])) (.bytes z) = some (.st (.bytes (octs n e w z))) := add_b _ _ (by simp only [List.length_append, List.length_cons, List.length_nil]; omega)
  unfold person F127 g127
  simp only [runF, seqF, retF, binF, attrF, nameF, look, cstF, RV.pv, callF, consA, unF, nilA, RV.strong, List.map_cons, List.map_nil, List.length_cons, List.length_nil, decide_true, List.replicate, List.append_nil, List.getElem?_cons_zero, List.getElem?_cons_succ, e1, e2, a1, a2, a3, a4, a5, a6]
/-! person_minutes -/
theorem F148_at {n e : B} {v : Int} {s a b c f : UInt8} (d : DS) (ha : isD a = true) (hb : isD b = true) (hc : isD c = true) (hf : isD f = true) :
    F148 [person n e v [s, a, b, c, f]] d = some (.val (.int (if s == 45 then -(60 * (10 * ((a.toNat : Int) - 48) + ((b.toNat : Int) - 48)) + (10 * ((c.toNat : Int) - 48) + ((f.toNat : Int) - 48))) else 60 * (10 * ((a.toNat : Int) - 48) + ((b.toNat : Int) - 48)) + (10 * ((c.toNat : Int) - 48) + ((f.toNat : Int) - 48)))), d) := by
  have s1 := slO_mid [s, a, b, c, f] 1 3 (by decide) (by decide) (show 5 ≤ 16777216 by decide)
  have s2 := slO_mid [s, a, b, c, f] 3 5 (by decide) (by decide) (show 5 ≤ 16777216 by decide)
  have s3 := slO_hi [s, a, b, c, f] 1 (by decide) (show 5 ≤ 16777216 by decide)
  have s1' : sliceO (.bytes [s, a, b, c, f]) (some 1) (some 3) = some (.st (.bytes [a, b])) := s1
  have s2' : sliceO (.bytes [s, a, b, c, f]) (some 3) (some 5) = some (.st (.bytes [c, f])) := s2
  have s3' : sliceO (.bytes [s, a, b, c, f]) none (some 1) = some (.st (.bytes [s])) := s3
  have i1 := int2 ha hb
  have i2 := int2 hc hf
  have e : ([s] == [45]) = (s == 45) := by simp
  unfold person F148 g148
  cases q : (s == 45) <;> rw [q] at e <;> simp (disch := decide) only [runF, runX, seqF, brF, retF, datF, asgF, augF, ownF, exF, doneF', tupS1, tupF1, setMany, St.set, St.setOwn, put, look, andF, orF, notF, cmpF, chainF, boolF, valF, bF, nameF, cstF, RV.pv, RV.strong, binF, unF, ifF, andV, orV, sliceF, partF, consA, nilA, tupF, lstF, callF, gt_i, ge_i, lt_i, le_i, eq_i, eq_b, neO, is_n, isn_n, isNone_n, isNone_i, isNone_t, isNone_p, isNone_b, ninO, sub_i, neg_i, forF, rangeF, decide_eq_true_eq, Bool.not_true, Bool.not_false, List.map_cons, List.map_nil, List.length_cons, List.length_nil, List.replicate, List.cons_append, List.nil_append, List.append_nil, Nat.reduceEqDiff, decide_false, decide_true, attrF, decide_true, List.getElem?_cons_zero, List.getElem?_cons_succ, s1', s2', s3', F52_two, i1, i2, mul_i, add_i, e] <;> rfl
end Mine

namespace Mine
theorem find0_s {x c : B} {i : Nat} (hc : c ≠ []) (h : fnd c x = some i) : findL x c 0 = (i : Int) := by
  rw [findL_eq x c 0 hc, List.drop_zero, h]; simp
theorem find0_n {x c : B} (hc : c ≠ []) (h : fnd c x = none) : findL x c 0 = -1 := by
  rw [findL_eq x c 0 hc, List.drop_zero, h]
theorem tn2 (i : Nat) : ((i : Int) + 2).toNat = i + 2 := by omega
theorem tn1 (i : Nat) : ((i : Int) + 1).toNat = i + 1 := by omega
noncomputable def zoneOk (z : B) : Bool := decide (z.length = 5) && ([43, 45] : B).contains (z.getD 0 0) && (z.drop 1).all isD
noncomputable def badSigns (x : B) : Bool := ([60, 62, 10, 0] : B).any (x.contains ·)
structure PP where
  name : B
  email : B
  when : B
  zone : B
  v : Int
noncomputable def tailOf (name email r : B) : Option PP := match fnd [32] r with
  | none => none
  | some k => match num (r.take k) with
    | none => none
    | some v => if zoneOk (r.drop (k + 1)) then some ⟨name, email, r.take k, r.drop (k + 1), v⟩ else none
noncomputable def parts (x : B) : Option PP := match fnd [32, 60] x with
  | none => none
  | some i => match fnd [62, 32] (x.drop (i + 2)) with
    | none => none
    | some j => if badSigns (x.take i ++ (x.drop (i + 2)).take j) then none else tailOf (x.take i) ((x.drop (i + 2)).take j) ((x.drop (i + 2)).drop (j + 2))
theorem dig_ok : (List.range 256).all (fun n => ([48, 49, 50, 51, 52, 53, 54, 55, 56, 57] : B).contains n.toUInt8 == isD n.toUInt8) = true := by decide +kernel
theorem dig_c (c : UInt8) : ([48, 49, 50, 51, 52, 53, 54, 55, 56, 57] : B).contains c = isD c := by
  have := List.all_eq_true.mp dig_ok c.toNat (List.mem_range.mpr c.toNat_lt)
  rw [byte_nat] at this
  exact beq_iff_eq.mp this
theorem fun_dig : (fun c : UInt8 => ([48, 49, 50, 51, 52, 53, 54, 55, 56, 57] : B).contains c) = isD := funext dig_c
noncomputable def got : Option PP → Option PV
  | some p => some (person p.name p.email p.v p.zone)
  | none => none
noncomputable def outP (d : DS) : Option PV → Option Out
  | some p => some (.rt (.val p) d)
  | none => some (.ex d)
theorem two_le : (2 ≤ 1000) = True := eq_true (by decide)
theorem lt_m1 : ltO (.int (-1)) (.int 0) = some true := rfl
theorem lt_n0 (i : Nat) : ltO (.int (i : Int)) (.int 0) = some false := by rw [lt_i, decide_eq_false (Int.not_lt.mpr (Int.natCast_nonneg i))]
theorem z141 (z : B) (hz : z.length ≤ 1000) (a : Option PV) (b c e f g h i : Option PV) (d : DS) : (orF (cmpF neO (unF lenO (nameF 8)) (cstF (.int 5))) (orF (cmpF ninO (binF itemO (nameF 8) (cstF (.int 0))) (cstF (.bytes [43, 45]))) (orF (notF (valF (callF F92 (consA (sliceF (nameF 8) (some (cstF (.int 1))) none) (consA (cstF (.bytes [48, 49, 50, 51, 52, 53, 54, 55, 56, 57])) (nilA)))))) (bF false)))) ⟨[a, b, c, e, f, g, h, i, some (.bytes z)], none, d⟩ = some (!zoneOk z, d) := by
  by_cases h5 : z.length = 5
  · have h5' : neO (.int (z.length : Int)) (.int 5) = some false := by rw [h5]; rfl
    have hi' : itemO (.bytes z) (.int 0) = some (.st (.int (z[0].toNat : Int))) := item_b z 0 (h5 ▸ by decide) (le_big hz)
    have hg : z.getD 0 0 = z[0] := by rw [List.getD_eq_getElem?_getD, List.getElem?_eq_getElem (h5 ▸ by decide)]; rfl
    have s1 := sN_lo z 0 1 hz
    rw [Nat.zero_add] at s1
    have s1' : sliceO (.bytes z) (some 1) none = some (.st (.bytes (z.drop 1))) := s1
    unfold zoneOk
    rw [hg, decide_eq_true h5, Bool.true_and]
    refine or_ev (b1 := false) (d := d) (by simp only [cmpF, unF, nameF, look, cstF, RV.pv, len_b _ (le_big hz), h5']) (or_ev (d := d) (b1 := !([43, 45] : B).contains z[0]) (b2 := !(z.drop 1).all isD || false) (by simp only [cmpF, ninO, binF, nameF, look, cstF, RV.pv, hi', in_b]) (or_ev (by simp only [notF, valF, callF, consA, nilA, sliceF, partF, nameF, look, cstF, RV.pv, RV.strong, s1', F92_at, fun_dig]) rfl)) |>.trans ?_
    cases ([43, 45] : B).contains z[0] <;> cases (z.drop 1).all isD <;> rfl
  · have h5' : neO (.int (z.length : Int)) (.int 5) = some true := by
      have : ((z.length : Int) == 5) = false := by rw [beq_eq_false_iff_ne]; omega
      simp only [neO, eq_i, this, Bool.not_false]
    unfold zoneOk
    rw [decide_eq_false h5]
    unfold orF
    simp only [cmpF, unF, nameF, look, cstF, RV.pv, len_b _ (le_big hz), h5']
    rfl
theorem g141_at (x : B) (d : DS) (hx : x.length ≤ 1000) : g141 ⟨[some (.bytes x), none, none, none, none, none, none, none, none], none, d⟩ = outP d (got (parts x)) := by
  unfold parts g141
  cases q1 : fnd [32, 60] x with
  | none =>
    refine (seq_nx (σ' := ⟨[some (.bytes x), some (.int (-1)), none, none, none, none, none, none, none], none, d⟩) (by simp only [datF, binF, nameF, look, cstF, RV.pv, find_b, find0_n (by simp) q1, St.set, put])).trans ?_
    exact seq_ex (br_t (d := d) (by simp only [cmpF, nameF, look, cstF, RV.pv, lt_m1]))
  | some i =>
    refine (seq_nx (σ' := ⟨[some (.bytes x), some (.int (i : Int)), none, none, none, none, none, none, none], none, d⟩) (by simp only [datF, binF, nameF, look, cstF, RV.pv, find_b, find0_s (by simp) q1, St.set, put])).trans ?_
    refine (seq_nx (br_f (d := d) (by simp only [cmpF, nameF, look, cstF, RV.pv, lt_n0]))).trans ?_
    refine (seq_nx (σ' := ⟨[some (.bytes x), some (.int (i : Int)), some (.bytes (x.take i)), some (.bytes (x.drop (i + 2))), none, none, none, none, none], none, d⟩) (by simp only [tupS1, tupF, consA, nilA, sliceF, partF, binF, nameF, look, cstF, RV.pv, RV.strong, sN_hi x i hx, sN_lo2 x i hx, add_i, List.length_cons, List.length_nil, Nat.zero_add, Nat.reduceAdd, two_le, if_true, List.reverse_cons, List.reverse_nil, List.nil_append, List.cons_append, setMany, St.set, put])).trans ?_
    have hr := le_drop (i + 2) hx
    have hn := le_take i hx
    dsimp only
    generalize x.drop (i + 2) = r at *
    generalize x.take i = nm at *
    cases q2 : fnd [62, 32] r with
    | none =>
      refine (seq_nx (σ' := ⟨[some (.bytes x), some (.int (i : Int)), some (.bytes nm), some (.bytes r), some (.int (-1)), none, none, none, none], none, d⟩) (by simp only [datF, binF, nameF, look, cstF, RV.pv, find_b, find0_n (by simp) q2, St.set, put])).trans ?_
      exact seq_ex (br_t (d := d) (by simp only [cmpF, nameF, look, cstF, RV.pv, lt_m1]))
    | some j =>
      refine (seq_nx (σ' := ⟨[some (.bytes x), some (.int (i : Int)), some (.bytes nm), some (.bytes r), some (.int (j : Int)), none, none, none, none], none, d⟩) (by simp only [datF, binF, nameF, look, cstF, RV.pv, find_b, find0_s (by simp) q2, St.set, put])).trans ?_
      refine (seq_nx (br_f (d := d) (by simp only [cmpF, nameF, look, cstF, RV.pv, lt_n0]))).trans ?_
      refine (seq_nx (σ' := ⟨[some (.bytes x), some (.int (i : Int)), some (.bytes nm), some (.bytes (r.drop (j + 2))), some (.int (j : Int)), some (.bytes (r.take j)), none, none, none], none, d⟩) (by simp only [tupS1, tupF, consA, nilA, sliceF, partF, binF, nameF, look, cstF, RV.pv, RV.strong, sN_hi r j hr, sN_lo2 r j hr, add_i, List.length_cons, List.length_nil, Nat.zero_add, Nat.reduceAdd, two_le, if_true, List.reverse_cons, List.reverse_nil, List.nil_append, List.cons_append, setMany, St.set, put])).trans ?_
      have hr2 := le_drop (j + 2) hr
      have he := le_take j hr
      dsimp only
      generalize r.drop (j + 2) = r2 at *
      generalize r.take j = em at *
      have hb : (valF (callF F85 (consA (binF addO (nameF 2) (nameF 5)) (consA (cstF (.bytes [60, 62, 10, 0])) (nilA))))) ⟨[some (.bytes x), some (.int (i : Int)), some (.bytes nm), some (.bytes r2), some (.int (j : Int)), some (.bytes em), none, none, none], none, d⟩ = some (badSigns (nm ++ em), d) := by
        simp only [valF, callF, consA, nilA, binF, nameF, look, cstF, RV.pv, RV.strong, add_s nm em hn he, F85_at, badSigns]
      cases q3 : badSigns (nm ++ em) with
      | true =>
        rw [q3] at hb
        exact seq_ex (br_t hb)
      | false =>
        rw [q3] at hb
        refine (seq_nx (br_f hb)).trans ?_
        rw [if_neg (by decide)]
        unfold tailOf
        cases q4 : fnd [32] r2 with
        | none =>
          refine (seq_nx (σ' := ⟨[some (.bytes x), some (.int (i : Int)), some (.bytes nm), some (.bytes r2), some (.int (j : Int)), some (.bytes em), some (.int (-1)), none, none], none, d⟩) (by simp only [datF, binF, nameF, look, cstF, RV.pv, find_b, find0_n (by simp) q4, St.set, put])).trans ?_
          exact seq_ex (br_t (d := d) (by simp only [cmpF, nameF, look, cstF, RV.pv, lt_m1]))
        | some k =>
          refine (seq_nx (σ' := ⟨[some (.bytes x), some (.int (i : Int)), some (.bytes nm), some (.bytes r2), some (.int (j : Int)), some (.bytes em), some (.int (k : Int)), none, none], none, d⟩) (by simp only [datF, binF, nameF, look, cstF, RV.pv, find_b, find0_s (by simp) q4, St.set, put])).trans ?_
          refine (seq_nx (br_f (d := d) (by simp only [cmpF, nameF, look, cstF, RV.pv, lt_n0]))).trans ?_
          refine (seq_nx (σ' := ⟨[some (.bytes x), some (.int (i : Int)), some (.bytes nm), some (.bytes r2), some (.int (j : Int)), some (.bytes em), some (.int (k : Int)), some (noneOr (num (r2.take k))), some (.bytes (r2.drop (k + 1)))], none, d⟩) (by simp only [tupS1, tupF, consA, nilA, sliceF, partF, binF, callF, nameF, look, cstF, RV.pv, RV.strong, sN_hi r2 k hr2, sN_lo1 r2 k hr2, F78_at _ d (Nat.le_trans (le_take k hr2) (by decide)), add_i, List.length_cons, List.length_nil, Nat.zero_add, Nat.reduceAdd, two_le, if_true, List.reverse_cons, List.reverse_nil, List.nil_append, List.cons_append, setMany, St.set, put])).trans ?_
          have hz := le_drop (k + 1) hr2
          dsimp only
          generalize r2.drop (k + 1) = z at *
          cases q5 : num (r2.take k) with
          | none => exact seq_ex (br_t rfl)
          | some v =>
            refine (seq_nx (br_f rfl)).trans ?_
            have hzz := z141 z hz (some (.bytes x)) (some (.int (i : Int))) (some (.bytes nm)) (some (.bytes r2)) (some (.int (j : Int))) (some (.bytes em)) (some (.int (k : Int))) (some (.int v)) d
            dsimp only
            cases q6 : zoneOk z with
            | false =>
              rw [q6] at hzz
              exact seq_ex (br_t hzz)
            | true =>
              rw [q6] at hzz
              refine (seq_nx (br_f hzz)).trans rfl
theorem F141_at (x : B) (d : DS) (hx : x.length ≤ 1000) : F141 [.bytes x] d = some (got (parts x), d) := by
  have h := g141_at x d hx
  unfold F141 runX
  rw [List.map_cons, List.map_nil, List.length_cons, List.length_nil, decide_eq_true rfl]
  show (match g141 ⟨[some (.bytes x), none, none, none, none, none, none, none, none], none, d⟩ with | some (.rt (.val p) d') => some (some p, d') | some (.ex d') => some (none, d') | _ => none) = _
  rw [h]
  cases parts x <;> rfl
end Mine

namespace Mine
theorem find_at_s {x c : B} {lo j : Nat} (hc : c ≠ []) (h : fnd c (x.drop lo) = some j) : findL x c lo = ((lo + j : Nat) : Int) := by
  rw [findL_eq x c lo hc, h]
theorem find_at_n {x c : B} {lo : Nat} (hc : c ≠ []) (h : fnd c (x.drop lo) = none) : findL x c lo = -1 := by
  rw [findL_eq x c lo hc, h]
theorem ne_nil {α : Type} (f : α → PV) (l : List α) : neO (.lst (l.map f)) (.lst []) = some (!l.isEmpty) := by
  cases l <;> rfl
theorem bad_filter (y : B) : (!(y.filter (([60, 62, 10, 0] : B).contains ·)).isEmpty) = badSigns y := by
  rw [Bool.eq_iff_iff]
  unfold badSigns
  simp only [Bool.not_eq_true', List.isEmpty_eq_false_iff_exists_mem, List.mem_filter, List.any_eq_true, List.contains_iff_mem]
  exact ⟨fun ⟨a, h1, h2⟩ => ⟨a, h2, h1⟩, fun ⟨a, h1, h2⟩ => ⟨a, h2, h1⟩⟩
theorem nd_filter (y : B) : (!(y.filter (!isD ·)).isEmpty) = !y.all isD := by
  congr 1
  rw [Bool.eq_iff_iff, List.isEmpty_iff, List.filter_eq_nil_iff, List.all_eq_true]
  simp
theorem zone_blank {z : B} {k : Nat} (h : fnd [32] z = some k) : zoneOk z = false := by
  have hm : (32 : UInt8) ∈ z := by
    cases q : decide ((32 : UInt8) ∈ z) with
    | true => exact of_decide_eq_true q
    | false => rw [fnd_one.mpr (of_decide_eq_false q)] at h; cases h
  match z, hm with
  | a :: z, hm =>
    cases hm with
    | head => unfold zoneOk; simp
    | tail _ hm =>
      have : ((a :: z).drop 1).all isD = false := by
        cases q : ((a :: z).drop 1).all isD with
        | false => rfl
        | true => exact absurd (List.all_eq_true.mp q 32 hm) (by decide)
      unfold zoneOk
      rw [this, Bool.and_false]
theorem item_l0 (p : PV) (l : List PV) : itemO (.lst (p :: l)) (.int 0) = some (.st p) := rfl
theorem item_l1 (p q : PV) (l : List PV) : itemO (.lst (p :: q :: l)) (.int 1) = some (.st q) := rfl
theorem in_two (z : B) (a b : UInt8) (hz : z.length = 5) : inO (.bytes (z.take 1)) (.tup [.bytes [a], .bytes [b]]) = some (([a, b] : B).contains (z.getD 0 0)) := by
  match z, hz with
  | c :: z, _ =>
    show some (([a] == [c]) || (([b] == [c]) || false)) = _
    congr 1
    rw [Bool.eq_iff_iff]
    simp
    constructor
    · rintro (h | h)
      · exact .inl h.symm
      · exact .inr h.symm
    · rintro (h | h)
      · exact .inl h.symm
      · exact .inr h.symm
noncomputable def due : Option PP → PV
  | some p => .tup [.bytes p.name, .bytes p.email, .int p.v, .bytes p.zone]
  | none => .none
theorem nd_at (c : UInt8) (d : DS) : (notF (chainF leO leO (cstF (.int 48)) (nameF 0) (cstF (.int 57)))) (cSt (.int (c.toNat : Int)) d) = some (!isD c, d) := by
  have n1 : decide ((48 : Int) ≤ (c.toNat : Int)) = decide (48 ≤ c.toNat) := decide_eq_decide.mpr (Int.ofNat_le (m := 48))
  have n2 : decide ((c.toNat : Int) ≤ (57 : Int)) = decide (c.toNat ≤ 57) := decide_eq_decide.mpr (Int.ofNat_le (n := 57))
  unfold isD
  simp only [notF, chainF, cstF, nameF, look, RV.pv, le_i, n1, n2]
  cases decide (48 ≤ c.toNat) <;> rfl
theorem z254 (z : B) (hz : z.length ≤ 1000) (a b c e f g : Option PV) (d : DS) : (orF (cmpF neO (unF lenO (nameF 6)) (cstF (.int 5))) (orF (cmpF ninO (sliceF (nameF 6) none (some (cstF (.int 1)))) (tupF (consA (cstF (.bytes [43])) (consA (cstF (.bytes [45])) (nilA))))) (orF (cmpF neO (compF (sliceF (nameF 6) (some (cstF (.int 1))) none) (notF (chainF leO leO (cstF (.int 48)) (nameF 0) (cstF (.int 57)))) (nameF 0)) (lstF (nilA))) (bF false)))) ⟨[a, b, c, e, f, g, some (.bytes z)], none, d⟩ = some (!zoneOk z, d) := by
  by_cases h5 : z.length = 5
  · have h5' : neO (.int (z.length : Int)) (.int 5) = some false := by rw [h5]; rfl
    have s1 := sN_lo z 0 1 hz
    rw [Nat.zero_add] at s1
    have s1' : sliceO (.bytes z) (some 1) none = some (.st (.bytes (z.drop 1))) := s1
    have s2 : sliceO (.bytes z) none (some 1) = some (.st (.bytes (z.take 1))) := sN_hi z 1 hz
    have i1 := in_two z 43 45 h5
    have e1 := ne_nil (fun c : UInt8 => .int (c.toNat : Int)) ((z.drop 1).filter (!isD ·))
    rw [nd_filter] at e1
    have c1 : compK (notF (chainF leO leO (cstF (.int 48)) (nameF 0) (cstF (.int 57)))) (nameF 0) ((z.drop 1).map fun c => .int (c.toNat : Int)) d = some (((z.drop 1).filter (!isD ·)).map fun c => .int (c.toNat : Int), d) :=
      compK_filter (fun c : UInt8 => .int (c.toNat : Int)) (fun c => .int (c.toNat : Int)) _ _ d (fun c _ => nd_at c d) fun c _ => rfl
    unfold zoneOk
    rw [decide_eq_true h5, Bool.true_and]
    refine or_ev (b1 := false) (d := d) (by simp only [cmpF, unF, nameF, look, cstF, RV.pv, len_b _ (le_big hz), h5']) (or_ev (d := d) (b1 := !([43, 45] : B).contains (z.getD 0 0)) (b2 := !(z.drop 1).all isD || false) (by simp only [cmpF, ninO, sliceF, partF, tupF, consA, nilA, nameF, look, cstF, RV.pv, RV.strong, List.length_cons, List.length_nil, Nat.zero_add, Nat.reduceAdd, two_le, if_true, s2, i1]) (or_ev (d := d) (by simp only [cmpF, compF, lstF, nilA, sliceF, partF, nameF, look, cstF, RV.pv, s1', itemsK_b _ (le_big (le_drop 1 hz)), c1, List.length_nil, Nat.zero_le, if_true, e1]) rfl)) |>.trans ?_
    cases ([43, 45] : B).contains (z.getD 0 0) <;> cases (z.drop 1).all isD <;> rfl
  · have h5' : neO (.int (z.length : Int)) (.int 5) = some true := by
      have : ((z.length : Int) == 5) = false := by rw [beq_eq_false_iff_ne]; omega
      simp only [neO, eq_i, this, Bool.not_false]
    unfold zoneOk
    rw [decide_eq_false h5]
    unfold orF
    simp only [cmpF, unF, nameF, look, cstF, RV.pv, len_b _ (le_big hz), h5']
    rfl
noncomputable def tl : List B → Bool
  | [w, _] => isNone (noneOr (num w))
  | _ => true
/-- the tests of the tail -/
theorem t254 (nm em r : B) (hn : nm.length ≤ 1000) (he : em.length ≤ 1000) (hr : r.length ≤ 1000) (a b c e : Option PV) (d : DS) : (orF (cmpF neO (compF (binF addO (nameF 3) (nameF 4)) (cmpF inO (nameF 0) (cstF (.bytes [60, 62, 10, 0]))) (nameF 0)) (lstF (nilA))) (orF (cmpF neO (unF lenO (nameF 5)) (cstF (.int 2))) (orF (cmpF isO (callF F249 (consA (binF itemO (nameF 5) (cstF (.int 0))) (nilA))) (cstF .none)) (bF false)))) ⟨[a, b, c, some (.bytes nm), some (.bytes em), some (.lst ((splitB 32 r).map .bytes)), e], none, d⟩ =
    some (badSigns (nm ++ em) || tl (splitB 32 r), d) := by
  have hy : (nm ++ em).length ≤ 16777216 := Nat.le_trans (List.length_append ▸ Nat.add_le_add hn he) (by decide)
  have c0 : compK (cmpF inO (nameF 0) (cstF (.bytes [60, 62, 10, 0]))) (nameF 0) ((nm ++ em).map fun c => .int (c.toNat : Int)) d = some (((nm ++ em).filter (([60, 62, 10, 0] : B).contains ·)).map fun c => .int (c.toNat : Int), d) :=
    compK_filter (fun c : UInt8 => .int (c.toNat : Int)) (fun c => .int (c.toNat : Int)) _ _ d (fun c _ => by simp only [cmpF, nameF, look, cstF, RV.pv, in_b]) fun c _ => rfl
  have e0 := ne_nil (fun c : UInt8 => .int (c.toNat : Int)) ((nm ++ em).filter (([60, 62, 10, 0] : B).contains ·))
  rw [bad_filter] at e0
  have hs := splitB_size 32 r
  have hL := len_l ((splitB 32 r).map .bytes) (by rw [List.length_map]; exact Nat.le_trans hs.1 (Nat.le_trans (Nat.add_le_add_right hr 1) (by decide)))
  rw [List.length_map] at hL
  have hlw : ∀ w ∈ splitB 32 r, F249 [.bytes w] d = some (.val (noneOr (num w)), d) := fun w _ => F249_at w d
  generalize splitB 32 r = R at *
  refine or_ev (d := d) (by simp only [cmpF, compF, lstF, nilA, binF, nameF, look, RV.pv, add_s nm em hn he, itemsK_b _ hy, c0, List.length_nil, Nat.zero_le, if_true, e0]) ?_
  match R, hL, hlw with
  | [], hL, _ => simp only [orF, cmpF, unF, nameF, look, cstF, RV.pv, hL]; rfl
  | [w], hL, _ => simp only [orF, cmpF, unF, nameF, look, cstF, RV.pv, hL]; rfl
  | [w, z], hL, hlw =>
    have h2 : neO (.int (([w, z] : List B).length : Int)) (.int 2) = some false := rfl
    have i0 : itemO (.lst (([w, z] : List B).map .bytes)) (.int 0) = some (.st (.bytes w)) := rfl
    simp only [orF, cmpF, unF, nameF, look, cstF, RV.pv, RV.strong, hL, h2, callF, binF, consA, nilA, i0, hlw w (.head _), is_n]
    rw [show tl [w, z] = isNone (noneOr (num w)) from rfl]
    cases isNone (noneOr (num w)) <;> rfl
  | w :: z :: y :: R, hL, _ =>
    have h2 : neO (.int ((w :: z :: y :: R).length : Int)) (.int 2) = some true := by
      have : (((w :: z :: y :: R).length : Int) == 2) = false := by rw [beq_eq_false_iff_ne]; simp only [List.length_cons]; omega
      simp only [neO, eq_i, this, Bool.not_false]
    simp only [orF, cmpF, unF, nameF, look, cstF, RV.pv, hL, h2]
    rfl
theorem ge_m1 : geO (.int (-1)) (.int 0) = some false := rfl
theorem ge_n0 (i : Nat) : geO (.int (i : Int)) (.int 0) = some true := by rw [ge_i, decide_eq_true (Int.natCast_nonneg i)]
theorem g254_at (x : B) (d : DS) (hx : x.length ≤ 1000) : g254 ⟨[some (.bytes x), none, none, none, none, none, none], none, d⟩ = some (.rt (.val (due (parts x))) d) := by
  unfold parts g254
  cases q1 : fnd [32, 60] x with
  | none =>
    refine (seq_nx (σ' := ⟨[some (.bytes x), some (.int (-1)), none, none, none, none, none], none, d⟩) (by simp only [datF, binF, nameF, look, cstF, RV.pv, find_b, find0_n (by simp) q1, St.set, put])).trans ?_
    refine (seq_nx (σ' := ⟨[some (.bytes x), some (.int (-1)), some (.int (-1)), none, none, none, none], none, d⟩) (by simp only [datF, ifF, cmpF, unF, nameF, look, cstF, RV.pv, ge_m1, neg_i, St.set, put])).trans ?_
    exact seq_rt (br_t (d := d) (by simp only [cmpF, nameF, look, cstF, RV.pv, lt_m1]))
  | some i =>
    refine (seq_nx (σ' := ⟨[some (.bytes x), some (.int (i : Int)), none, none, none, none, none], none, d⟩) (by simp only [datF, binF, nameF, look, cstF, RV.pv, find_b, find0_s (by simp) q1, St.set, put])).trans ?_
    have n4 : ((0 : Int) ≤ (i : Int) + 2) = True := eq_true (Int.add_nonneg (Int.natCast_nonneg i) (by decide))
    dsimp only
    cases q2 : fnd [62, 32] (x.drop (i + 2)) with
    | none =>
      have f2 : findL x [62, 32] (i + 2) = -1 := find_at_n (by simp) q2
      refine (seq_nx (σ' := ⟨[some (.bytes x), some (.int (i : Int)), some (.int (-1)), none, none, none, none], none, d⟩) (by simp only [datF, ifF, cmpF, find2F, binF, nameF, look, cstF, RV.pv, ge_n0, add_i, n4, if_true, tn2, f2, St.set, put])).trans ?_
      exact seq_rt (br_t (d := d) (by simp only [cmpF, nameF, look, cstF, RV.pv, lt_m1]))
    | some j =>
      have f2 : findL x [62, 32] (i + 2) = ((i + 2 + j : Nat) : Int) := find_at_s (by simp) q2
      refine (seq_nx (σ' := ⟨[some (.bytes x), some (.int (i : Int)), some (.int ((i + 2 + j : Nat) : Int)), none, none, none, none], none, d⟩) (by simp only [datF, ifF, cmpF, find2F, binF, nameF, look, cstF, RV.pv, ge_n0, add_i, n4, if_true, tn2, f2, St.set, put])).trans ?_
      refine (seq_nx (br_f (d := d) (by simp only [cmpF, nameF, look, cstF, RV.pv, lt_n0]))).trans ?_
      have hd : x.drop (i + 2 + j + 2) = (x.drop (i + 2)).drop (j + 2) := by rw [List.drop_drop, Nat.add_assoc (i + 2)]
      have s2 : sliceO (.bytes x) (some ((i : Int) + 2)) (some ((i + 2 + j : Nat) : Int)) = some (.st (.bytes ((x.drop (i + 2)).take j))) := by
        rw [slO_mid x _ _ (Int.add_nonneg (Int.natCast_nonneg i) (by decide)) (Int.natCast_nonneg _) (le_big hx), tn2, Int.toNat_natCast, Nat.add_sub_cancel_left]
      have s3 := sN_lo2 x (i + 2 + j) hx
      rw [hd] at s3
      have hr := le_drop (j + 2) (le_drop (i + 2) hx)
      have he := le_take j (le_drop (i + 2) hx)
      have hn := le_take i hx
      have s1 := sN_hi x i hx
      dsimp only
      generalize (x.drop (i + 2)).drop (j + 2) = r at *
      generalize (x.drop (i + 2)).take j = em at *
      generalize x.take i = nm at *
      refine (seq_nx (σ' := ⟨[some (.bytes x), some (.int (i : Int)), some (.int ((i + 2 + j : Nat) : Int)), some (.bytes nm), some (.bytes em), some (.lst ((splitB 32 r).map .bytes)), none], none, d⟩) (by simp only [tupS1, tupF, consA, nilA, sliceF, partF, binF, nameF, look, cstF, RV.pv, RV.strong, s1, s2, s3, split_b r 32 (Nat.le_trans hr (by decide)), add_i, List.length_cons, List.length_nil, Nat.reduceAdd, Nat.reduceLeDiff, if_true, List.reverse_cons, List.reverse_nil, List.nil_append, List.cons_append, setMany, St.set, put])).trans ?_
      have ht := t254 nm em r hn he hr (some (.bytes x)) (some (.int (i : Int))) (some (.int ((i + 2 + j : Nat) : Int))) none d
      cases q3 : badSigns (nm ++ em) with
      | true =>
        rw [q3] at ht
        exact seq_rt (br_t ht)
      | false =>
        rw [q3] at ht
        rw [if_neg (by decide)]
        unfold tailOf
        cases q4 : fnd [32] r with
        | none =>
          rw [splitB_none q4] at ht ⊢
          exact seq_rt (br_t ht)
        | some k =>
          rw [splitB_some q4] at ht ⊢
          have hz := le_drop (k + 1) hr
          dsimp only
          generalize r.drop (k + 1) = z at *
          cases q6 : fnd [32] z with
          | some k' =>
            rw [zone_blank q6]
            have e : due (match num (r.take k) with
              | none => none
              | some v => if false = true then some ⟨nm, em, r.take k, z, v⟩ else none) = .none := by cases num (r.take k) <;> rfl
            refine Eq.trans ?_ (congrArg (fun p => some (Out.rt (.val p) d)) e.symm)
            rw [splitB_some q6] at ht ⊢
            obtain ⟨y, Y, hY⟩ : ∃ y Y, splitB 32 (z.drop (k' + 1)) = y :: Y := by
              cases hY : splitB 32 (z.drop (k' + 1)) with
              | nil => exact absurd hY (splitB_ne _ _)
              | cons y Y => exact ⟨y, Y, rfl⟩
            rw [hY] at ht ⊢
            exact seq_rt (br_t ht)
          | none =>
            rw [splitB_none q6] at ht ⊢
            have e5 := F249_at (r.take k) d
            cases q5 : num (r.take k) with
            | none =>
              have ht' : _ = some (isNone (noneOr (num (r.take k))), d) := ht
              rw [q5] at ht'
              exact seq_rt (br_t ht')
            | some v =>
              have ht' : _ = some (isNone (noneOr (num (r.take k))), d) := ht
              rw [q5] at ht' e5
              refine (seq_nx (br_f ht')).trans ?_
              refine (seq_nx (σ' := ⟨[some (.bytes x), some (.int (i : Int)), some (.int ((i + 2 + j : Nat) : Int)), some (.bytes nm), some (.bytes em), some (.lst [.bytes (r.take k), .bytes z]), some (.bytes z)], none, d⟩) rfl).trans ?_
              have hzz := z254 z hz (some (.bytes x)) (some (.int (i : Int))) (some (.int ((i + 2 + j : Nat) : Int))) (some (.bytes nm)) (some (.bytes em)) (some (.lst [.bytes (r.take k), .bytes z])) d
              dsimp only
              cases q7 : zoneOk z with
              | false =>
                rw [q7] at hzz
                exact seq_rt (br_t hzz)
              | true =>
                rw [q7] at hzz
                refine (seq_nx (br_f hzz)).trans ?_
                simp only [seqF, retF, tupF, consA, nilA, callF, binF, nameF, look, cstF, RV.pv, RV.strong, item_l0, e5, noneOr, List.length_cons, List.length_nil, Nat.reduceAdd, Nat.reduceLeDiff, if_true]
                rfl
theorem F254_at (x : B) (d : DS) (hx : x.length ≤ 1000) : F254 [.bytes x] d = some (.val (due (parts x)), d) := by
  have h := g254_at x d hx
  unfold F254 runF
  rw [List.map_cons, List.map_nil, List.length_cons, List.length_nil, decide_eq_true rfl]
  show (match g254 ⟨[some (.bytes x), none, none, none, none, none, none], none, d⟩ with | some (.rt r d') => some (r, d') | some (.nx σ') => some (.val .none, σ'.dk) | _ => none) = _
  rw [h]
end Mine

namespace Mine
noncomputable def heard : Option PP → PV
  | some p => person p.name p.email p.v p.zone
  | none => .none
theorem F261_at (x : B) (d : DS) (hx : x.length ≤ 1000) : F261 [.bytes x] d = some (.val (heard (parts x)), d) := by
  cases q : parts x with
  | none =>
    simp only [F261, g261, runF, runX, seqF, brF, retF, datF, asgF, augF, ownF, exF, doneF', tupS1, tupF1, setMany, St.set, St.setOwn, put, look, andF, orF, notF, cmpF, chainF, boolF, valF, bF, nameF, cstF, RV.pv, RV.strong, binF, unF, ifF, andV, orV, sliceF, partF, consA, nilA, tupF, lstF, callF, gt_i, ge_i, lt_i, le_i, eq_i, eq_b, neO, is_n, isn_n, isNone_n, isNone_i, isNone_t, isNone_p, isNone_b, ninO, sub_i, neg_i, forF, rangeF, decide_eq_true_eq, Bool.not_true, Bool.not_false, List.map_cons, List.map_nil, List.length_cons, List.length_nil, List.replicate, List.cons_append, List.nil_append, List.append_nil, Nat.reduceEqDiff, decide_false, decide_true, decide_true, tryF, F141_at x d hx, q, got]
    rfl
  | some p =>
    simp only [F261, g261, runF, runX, seqF, brF, retF, datF, asgF, augF, ownF, exF, doneF', tupS1, tupF1, setMany, St.set, St.setOwn, put, look, andF, orF, notF, cmpF, chainF, boolF, valF, bF, nameF, cstF, RV.pv, RV.strong, binF, unF, ifF, andV, orV, sliceF, partF, consA, nilA, tupF, lstF, callF, gt_i, ge_i, lt_i, le_i, eq_i, eq_b, neO, is_n, isn_n, isNone_n, isNone_i, isNone_t, isNone_p, isNone_b, ninO, sub_i, neg_i, forF, rangeF, decide_eq_true_eq, Bool.not_true, Bool.not_false, List.map_cons, List.map_nil, List.length_cons, List.length_nil, List.replicate, List.cons_append, List.nil_append, List.append_nil, Nat.reduceEqDiff, decide_false, decide_true, decide_true, tryF, F141_at x d hx, q, got]
    rfl
structure PartsOk (x : B) (p : PP) : Prop where
  eq : x = octs p.name p.email p.when p.zone
  num : num p.when = some p.v
  zone : zoneOk p.zone = true
theorem parts_ok {x : B} {p : PP} (h : parts x = some p) : PartsOk x p := by
  unfold parts at h
  cases q1 : fnd [32, 60] x with
  | none => rw [q1] at h; cases h
  | some i =>
    rw [q1] at h
    dsimp only at h
    cases q2 : fnd [62, 32] (x.drop (i + 2)) with
    | none => rw [q2] at h; cases h
    | some j =>
      rw [q2] at h
      dsimp only at h
      split at h
      · cases h
      · unfold tailOf at h
        cases q4 : fnd [32] ((x.drop (i + 2)).drop (j + 2)) with
        | none => rw [q4] at h; cases h
        | some k =>
          rw [q4] at h
          dsimp only at h
          cases q5 : Mine.num (((x.drop (i + 2)).drop (j + 2)).take k) with
          | none => rw [q5] at h; cases h
          | some v =>
            rw [q5] at h
            dsimp only at h
            split at h
            · rename_i hz
              cases h
              refine ⟨?_, q5, hz⟩
              have e1 := (fnd_some q1).1
              have e2 := (fnd_some q2).1
              have e4 := (fnd_some q4).1
              have e1' : x = x.take i ++ [32, 60] ++ x.drop (i + 2) := e1
              have e2' : x.drop (i + 2) = (x.drop (i + 2)).take j ++ [62, 32] ++ (x.drop (i + 2)).drop (j + 2) := e2
              have e4' : (x.drop (i + 2)).drop (j + 2) = ((x.drop (i + 2)).drop (j + 2)).take k ++ [32] ++ ((x.drop (i + 2)).drop (j + 2)).drop (k + 1) := e4
              unfold octs
              dsimp only
              generalize ((x.drop (i + 2)).drop (j + 2)).take k = w at *
              generalize ((x.drop (i + 2)).drop (j + 2)).drop (k + 1) = z at *
              generalize (x.drop (i + 2)).drop (j + 2) = r at *
              generalize (x.drop (i + 2)).take j = e at *
              generalize x.drop (i + 2) = s at *
              generalize x.take i = n at *
              rw [e1', e2', e4']
              simp only [List.append_assoc]
            · cases h
theorem zone_five {z : B} (h : zoneOk z = true) : ∃ s a b c f, z = [s, a, b, c, f] ∧ (s = 43 ∨ s = 45) ∧ isD a = true ∧ isD b = true ∧ isD c = true ∧ isD f = true := by
  unfold zoneOk at h
  rw [Bool.and_eq_true, Bool.and_eq_true] at h
  obtain ⟨⟨h1, h2⟩, h3⟩ := h
  have h1 := of_decide_eq_true h1
  match z, h1 with
  | [s, a, b, c, f], _ =>
    refine ⟨s, a, b, c, f, rfl, ?_, ?_⟩
    · simpa using h2
    · simpa [and_assoc] using h3
theorem if_int {t : TF} {f g : EF} {σ : St} {b : Bool} {x y : Int} {d : DS} (ht : t σ = some (b, d)) (hf : f (σ.setD d) = some (.st (.int x), d)) (hg : g (σ.setD d) = some (.st (.int y), d)) : ifF t f g σ = some (.st (.int (if b then x else y)), d) := by
  unfold ifF
  rw [ht]
  cases b
  · exact hg
  · exact hf
theorem ne_same (x : Int) : neO (.int x) (.int x) = some false := by simp only [neO, eq_i, beq_self_eq_true, Bool.not_true]
theorem ne_sameB (x : B) : neO (.bytes x) (.bytes x) = some false := by simp only [neO, eq_b, beq_self_eq_true, Bool.not_true]
theorem g266_at (x : B) (d : DS) (hx : x.length ≤ 500) : g266 ⟨[some (.bytes x), none, none, none, none], none, d⟩ = some (.rt (.val (.bool true)) d) := by
  have hx' : x.length ≤ 1000 := Nat.le_trans hx (by decide)
  unfold g266
  rw [seq_nx (σ' := ⟨[some (.bytes x), some (due (parts x)), some (heard (parts x)), none, none], none, d⟩) (by simp only [tupS1, tupF, consA, nilA, callF, nameF, look, RV.strong, F254_at x d hx', F261_at x d hx', List.length_cons, List.length_nil, Nat.reduceAdd, Nat.reduceLeDiff, if_true, List.reverse_cons, List.reverse_nil, List.nil_append, List.cons_append, setMany, St.set, put])]
  cases q : parts x with
  | none => exact seq_rt rfl
  | some p =>
    obtain ⟨e1, e2, e3⟩ := parts_ok q
    obtain ⟨n, e, w, z, v⟩ := p
    dsimp only at e1 e2 e3
    obtain ⟨s, a, b, c, f, rfl, hs, ha, hb, hc, hf⟩ := zone_five e3
    have o1 := F127_at (n := n) (e := e) (z := [s, a, b, c, f]) d e2 (by rw [← e1]; exact hx)
    rw [← e1] at o1
    have m1 := F148_at (n := n) (e := e) (v := v) (s := s) d ha hb hc hf
    have q1 : neO (.tup [.bytes n, .bytes e, .int v, .bytes [s, a, b, c, f]]) (.tup [.bytes n, .bytes e, .int v, .bytes [s, a, b, c, f]]) = some false := by
      simp only [neO, eqO, allEq, flatEq, beq_self_eq_true, Bool.and_self, Bool.not_true]
    refine (seq_nx (σ' := ⟨[some (.bytes x), some (.tup [.bytes n, .bytes e, .int v, .bytes [s, a, b, c, f]]), some (person n e v [s, a, b, c, f]), none, none], none, d⟩) rfl).trans ?_
    rw [seq_nx (br_f (d := d) (by simp only [orF, bF, cmpF, tupF, consA, nilA, attrF, callF, selfF, nameF, look, RV.pv, RV.strong, decide_true, List.getElem?_cons_zero, List.getElem?_cons_succ, List.length_cons, List.length_nil, Nat.reduceAdd, Nat.reduceLeDiff, if_true, q1, o1, ne_sameB]))]
    rw [seq_nx (σ' := ⟨[some (.bytes x), some (.tup [.bytes n, .bytes e, .int v, .bytes [s, a, b, c, f]]), some (person n e v [s, a, b, c, f]), some (.lst [.int ((a.toNat : Int) - 48), .int ((b.toNat : Int) - 48), .int ((c.toNat : Int) - 48), .int ((f.toNat : Int) - 48)]), none], none, d⟩) rfl]
    rw [seq_nx (σ' := ⟨[some (.bytes x), some (.tup [.bytes n, .bytes e, .int v, .bytes [s, a, b, c, f]]), some (person n e v [s, a, b, c, f]), some (.lst [.int ((a.toNat : Int) - 48), .int ((b.toNat : Int) - 48), .int ((c.toNat : Int) - 48), .int ((f.toNat : Int) - 48)]), some (.int (600 * ((a.toNat : Int) - 48) + 60 * ((b.toNat : Int) - 48) + 10 * ((c.toNat : Int) - 48) + ((f.toNat : Int) - 48)))], none, d⟩) rfl]
    have hM : (if s == 45 then -(60 * (10 * ((a.toNat : Int) - 48) + ((b.toNat : Int) - 48)) + (10 * ((c.toNat : Int) - 48) + ((f.toNat : Int) - 48))) else 60 * (10 * ((a.toNat : Int) - 48) + ((b.toNat : Int) - 48)) + (10 * ((c.toNat : Int) - 48) + ((f.toNat : Int) - 48))) =
        (if s == 43 then 600 * ((a.toNat : Int) - 48) + 60 * ((b.toNat : Int) - 48) + 10 * ((c.toNat : Int) - 48) + ((f.toNat : Int) - 48) else 0 - (600 * ((a.toNat : Int) - 48) + 60 * ((b.toNat : Int) - 48) + 10 * ((c.toNat : Int) - 48) + ((f.toNat : Int) - 48))) := by
      generalize (a.toNat : Int) - 48 = a'
      generalize (b.toNat : Int) - 48 = b'
      generalize (c.toNat : Int) - 48 = c'
      generalize (f.toNat : Int) - 48 = f'
      rcases hs with rfl | rfl
      · show 60 * (10 * a' + b') + (10 * c' + f') = 600 * a' + 60 * b' + 10 * c' + f'
        omega
      · show -(60 * (10 * a' + b') + (10 * c' + f')) = 0 - (600 * a' + 60 * b' + 10 * c' + f')
        omega
    rw [hM] at m1
    generalize 600 * ((a.toNat : Int) - 48) + 60 * ((b.toNat : Int) - 48) + 10 * ((c.toNat : Int) - 48) + ((f.toNat : Int) - 48) = M at *
    have s2 : sliceO (.bytes [s, a, b, c, f]) none (some 1) = some (.st (.bytes [s])) := rfl
    have q4 : eqO (.bytes [s]) (.bytes [43]) = some (s == 43) := by
      have : ([s] == ([43] : B)) = (s == 43) := by simp
      rw [eq_b, this]
    have t3 : itemO (.tup [.bytes n, .bytes e, .int v, .bytes [s, a, b, c, f]]) (.int 3) = some (.st (.bytes [s, a, b, c, f])) := rfl
    have hI := if_int (t := cmpF eqO (sliceF (binF itemO (nameF 1) (cstF (.int 3))) none (some (cstF (.int 1)))) (cstF (.bytes [43]))) (f := nameF 4) (g := binF subO (cstF (.int 0)) (nameF 4)) (σ := ⟨[some (.bytes x), some (.tup [.bytes n, .bytes e, .int v, .bytes [s, a, b, c, f]]), some (person n e v [s, a, b, c, f]), some (.lst [.int ((a.toNat : Int) - 48), .int ((b.toNat : Int) - 48), .int ((c.toNat : Int) - 48), .int ((f.toNat : Int) - 48)]), some (.int M)], none, d⟩) (b := s == 43) (x := M) (y := 0 - M) (d := d) (by simp only [cmpF, sliceF, partF, binF, nameF, cstF, look, RV.pv, t3, s2, q4]) rfl rfl
    rw [seq_nx (br_f (d := d) (cmp_ev (d := d) (a := .st (.int (if s == 43 then M else 0 - M))) (by simp only [callF, consA, nilA, nameF, look, RV.strong, m1]) hI (ne_same _)))]
    refine seq_rt ?_
    have e5 : makeF 130 4 (consA (binF itemO (nameF 1) (cstF (.int 0))) (consA (binF itemO (nameF 1) (cstF (.int 1))) (consA (binF itemO (nameF 1) (cstF (.int 2))) (consA (binF itemO (nameF 1) (cstF (.int 3))) (nilA))))) ⟨[some (.bytes x), some (.tup [.bytes n, .bytes e, .int v, .bytes [s, a, b, c, f]]), some (person n e v [s, a, b, c, f]), some (.lst [.int ((a.toNat : Int) - 48), .int ((b.toNat : Int) - 48), .int ((c.toNat : Int) - 48), .int ((f.toNat : Int) - 48)]), some (.int M)], none, d⟩ = some (.st (person n e v [s, a, b, c, f]), d) := rfl
    simp only [retF, boolF, cmpF, callF, selfF, e5, decide_true, o1, nameF, look, RV.pv, eq_b, beq_self_eq_true]
theorem F266_at (x : B) (d : DS) (hx : x.length ≤ 500) : F266 [.bytes x] d = some (.val (.bool true), d) := by
  show (match g266 ⟨[some (.bytes x), none, none, none, none], none, d⟩ with | some (.rt r d') => some (r, d') | some (.nx σ') => some (.val .none, σ'.dk) | _ => none) = _
  rw [g266_at x d hx]
end Mine

namespace Mine
structure Good (n : Nat) (k : Dk) : Prop where
  len : k.cells.length ≤ 8
  t0 : 0 ≤ k.turn
  tn : k.turn ≤ n
theorem fmod_b (a b : Int) (h : 0 < b) : 0 ≤ a.fmod b ∧ a.fmod b < b := ⟨Int.fmod_nonneg_of_pos a h, Int.fmod_lt_of_pos a h⟩
theorem div_i (a b : Int) (h : 0 < b ∧ b < 1073741824) : divO (.int a) (.int b) = some (.st (.int (a.fdiv b))) := if_pos h
theorem mul_i2 (a b : Int) (h : b.natAbs < 18446744073709551616) : mulO (.int a) (.int b) = some (.st (.int (a * b))) := if_pos (.inr h)
noncomputable def tail235 : SF := seqF (datF 2 (binF modO (binF mulO (binF modO (nameF 2) (cstF (.int 2147483629))) (cstF (.int 40692))) (cstF (.int 2147483647)))) (seqF (datF 2 (binF modO (binF addO (binF mulO (nameF 2) (nameF 2)) (cstF (.int 344))) (cstF (.int 2147483587)))) (seqF (retF (binF modO (binF divO (binF modO (binF mulO (nameF 2) (cstF (.int 39373))) (cstF (.int 2147483579))) (cstF (.int 64))) (nameF 1))) (doneF')))
theorem tail235_at (b : Int) (hb : 0 < b) (f : Int) (a c : Option PV) (d : DS) : ∃ r, tail235 ⟨[a, some (.int b), some (.int f), c], none, d⟩ = some (.rt (.val (.int r)) d) ∧ 0 ≤ r ∧ r < b := by
  have h1 := fmod_b (f.fmod 2147483629 * 40692) 2147483647 (by decide)
  refine ⟨_, ?_, fmod_b (Int.fdiv (Int.fmod (Int.fmod ((f.fmod 2147483629 * 40692).fmod 2147483647 * (f.fmod 2147483629 * 40692).fmod 2147483647 + 344) 2147483587 * 39373) 2147483579) 64) b hb⟩
  unfold tail235
  simp (disch := omega) only [runF, runX, seqF, brF, retF, datF, asgF, augF, ownF, exF, doneF', tupS1, tupF1, setMany, St.set, St.setOwn, put, look, andF, orF, notF, cmpF, chainF, boolF, valF, bF, nameF, cstF, RV.pv, RV.strong, binF, unF, ifF, andV, orV, sliceF, partF, consA, nilA, tupF, lstF, callF, gt_i, ge_i, lt_i, le_i, eq_i, eq_b, neO, is_n, isn_n, isNone_n, isNone_i, isNone_t, isNone_p, isNone_b, ninO, sub_i, neg_i, forF, rangeF, decide_eq_true_eq, Bool.not_true, Bool.not_false, List.map_cons, List.map_nil, List.length_cons, List.length_nil, List.replicate, List.cons_append, List.nil_append, List.append_nil, Nat.reduceEqDiff, decide_false, decide_true, mod_i, mul_i, mul_i2, add_i, div_i]
theorem F235_at (n : Nat) (k : Dk) (b : Int) (hb : 0 < b) (hb2 : b < 1073741824) (g : Good n k) (hn : n ≤ 1000) : ∃ r k', F235 [.deck, .int b] (some k) = some (.val (.int r), some k') ∧ 0 ≤ r ∧ r < b ∧ Good (n + 1) k' := by
  obtain ⟨cells, mixed, turn⟩ := k
  obtain ⟨g1, g2, g3⟩ := g
  dsimp only at g1 g2 g3
  have ht : (turn + 1).natAbs < 18446744073709551616 := by omega
  have t0 : 0 ≤ turn + 1 := Int.add_nonneg g2 (by decide)
  have t1 : turn + 1 ≤ ((n + 1 : Nat) : Int) := Int.add_le_add_right g3 1
  have m1 := mul_i 60344 (turn + 1) (by decide)
  have m2 := mul_i2 (60344 * (turn + 1)) (turn + 1) ht
  suffices h : ∃ r k', g235 ⟨[some .deck, some (.int b), none, none], none, some ⟨cells, mixed, turn⟩⟩ = some (.rt (.val (.int r)) (some k')) ∧ 0 ≤ r ∧ r < b ∧ Good (n + 1) k' by
    obtain ⟨r, k', e, h⟩ := h
    refine ⟨r, k', ?_, h⟩
    show (match g235 ⟨[some .deck, some (.int b), none, none], none, some ⟨cells, mixed, turn⟩⟩ with | some (.rt r d') => some (r, d') | some (.nx σ') => some (.val .none, σ'.dk) | _ => none) = _
    rw [e]
  unfold g235
  rw [seq_nx (σ' := ⟨[some .deck, some (.int b), none, none], none, some ⟨cells, mixed, turn + 1⟩⟩) (by simp only [deckTurn, binF, deckI, cstF, look, RV.pv, add_i]),
    seq_nx (σ' := ⟨[some .deck, some (.int b), some (.int (mixed + 60344 * (turn + 1) * (turn + 1))), none], none, some ⟨cells, mixed, turn + 1⟩⟩) (by simp only [datF, binF, deckI, cstF, look, RV.pv, add_i, m1, m2, St.set, put])]
  generalize mixed + 60344 * (turn + 1) * (turn + 1) = fig
  clear m1 m2 ht
  rcases List.eq_nil_or_concat cells with hc | ⟨cs, c, hc⟩
  · subst hc
    obtain ⟨r, e, e0, e1⟩ := tail235_at b hb fig (some .deck) none (some ⟨[], mixed, turn + 1⟩)
    exact ⟨r, ⟨[], mixed, turn + 1⟩, (seq_nx rfl).trans e, e0, e1, Nat.zero_le _, t0, t1⟩
  · rw [List.concat_eq_append] at hc
    subst hc
    rw [List.length_append, List.length_cons, List.length_nil] at g1
    have hl : (cs ++ [c]).length ≤ 1000 := by rw [List.length_append]; exact Nat.le_trans g1 (by decide)
    have hcs : cs.length ≤ 8 := Nat.le_of_succ_le g1
    have hlast : (cs ++ [c]).getLast? = some c := List.getLast?_concat
    have hdl : (cs ++ [c]).dropLast = cs := List.dropLast_concat
    have hem : (cs ++ [c]).isEmpty = false := by cases cs <;> rfl
    have hH : deckHas 0 ⟨[some .deck, some (.int b), some (.int fig), none], none, some ⟨cs ++ [c], mixed, turn + 1⟩⟩ = some (true, some ⟨cs ++ [c], mixed, turn + 1⟩) := by simp only [deckHas, look, hem, Bool.not_false]
    have hP : datF 3 (deckPop 0) ⟨[some .deck, some (.int b), some (.int fig), none], none, some ⟨cs ++ [c], mixed, turn + 1⟩⟩ = some (.nx ⟨[some .deck, some (.int b), some (.int fig), some (.int c)], none, some ⟨cs, mixed, turn + 1⟩⟩) := by
      simp only [datF, deckPop, look, hlast, hl, if_true, hdl, St.set, put]
    by_cases hbig : 1000000 ≤ c
    · have r := fmod_b c b hb
      have hG : cmpF geO (nameF 3) (cstF (.int 1000000)) ⟨[some .deck, some (.int b), some (.int fig), some (.int c)], none, some ⟨cs, mixed, turn + 1⟩⟩ = some (true, some ⟨cs, mixed, turn + 1⟩) := by simp only [cmpF, nameF, cstF, look, RV.pv, ge_i, decide_eq_true hbig]
      refine ⟨_, ⟨cs ++ [c.fdiv b], mixed, turn + 1⟩, seq_rt ((br_t hH).trans ((seq_nx hP).trans (seq_rt ((br_t hG).trans ((seq_nx (σ' := ⟨[some .deck, some (.int b), some (.int fig), some (.int c)], none, some ⟨cs ++ [c.fdiv b], mixed, turn + 1⟩⟩) ?_).trans (seq_rt ?_)))))), r.1, r.2, by dsimp only; rw [List.length_append]; exact g1, t0, t1⟩
      · simp only [deckPush, binF, nameF, look, RV.pv, div_i c b ⟨hb, hb2⟩, show (cs.length ≤ 1000) = True from eq_true (Nat.le_trans hcs (by decide)), if_true]
      · simp only [retF, binF, nameF, look, RV.pv, mod_i c b (Int.ne_of_gt hb)]
    · have hG : cmpF geO (nameF 3) (cstF (.int 1000000)) ⟨[some .deck, some (.int b), some (.int fig), some (.int c)], none, some ⟨cs, mixed, turn + 1⟩⟩ = some (false, some ⟨cs, mixed, turn + 1⟩) := by simp only [cmpF, nameF, cstF, look, RV.pv, ge_i, decide_eq_false hbig]
      obtain ⟨r, e, e0, e1⟩ := tail235_at b hb (fig + c.fmod 2147483563) (some .deck) (some (.int c)) (some ⟨cs, mixed, turn + 1⟩)
      refine ⟨r, ⟨cs, mixed, turn + 1⟩, (seq_nx ((br_t hH).trans ((seq_nx hP).trans ((seq_nx (br_f hG)).trans (seq_nx (σ' := ⟨[some .deck, some (.int b), some (.int (fig + c.fmod 2147483563)), some (.int c)], none, some ⟨cs, mixed, turn + 1⟩⟩) ?_))))).trans e, e0, e1, hcs, t0, t1⟩
      simp only [datF, binF, nameF, cstF, look, RV.pv, mod_i c 2147483563 (by decide), add_i, St.set, put]
theorem Good.mono {n m : Nat} {k : Dk} (g : Good n k) (h : n ≤ m) : Good m k := ⟨g.len, g.t0, Int.le_trans g.tn (Int.ofNat_le.mpr h)⟩
theorem draw (n : Nat) (k : Dk) (b : Nat) (hb : 0 < b) (hb2 : b < 1000) (g : Good n k) (hn : n ≤ 1000) : ∃ (r : Nat) (k' : Dk), r < b ∧ F235 [.deck, .int (b : Int)] (some k) = some (.val (.int (r : Int)), some k') ∧ Good (n + 1) k' := by
  obtain ⟨r, k', e, h0, h1, g'⟩ := F235_at n k b (Int.ofNat_lt.mpr hb) (Int.lt_trans (Int.ofNat_lt.mpr hb2) (by decide)) g hn
  obtain ⟨m, rfl⟩ := Int.eq_ofNat_of_zero_le h0
  exact ⟨m, k', Int.ofNat_lt.mp h1, e, g'⟩
theorem app_le {α : Type} {X Y : List α} {a b : Nat} (hX : X.length ≤ a) (hY : Y.length ≤ b) : (X ++ Y).length ≤ a + b := by
  rw [List.length_append]; exact Nat.add_le_add hX hY
theorem F242_l (n : Nat) (k : Dk) (l : List PV) (h0 : l ≠ []) (hl : l.length ≤ 1000) (g : Good n k) (hn : n ≤ 1000) : ∃ p k', p ∈ l ∧ F242 [.deck, .lst l] (some k) = some (.val p, some k') ∧ Good (n + 1) k' := by
  have hp := List.length_pos_iff.mpr h0
  obtain ⟨r, k', e, r0, r1, g'⟩ := F235_at n k l.length (by omega) (by omega) g hn
  have hr : r.toNat < l.length := by omega
  have hi : itemO (.lst l) (.int r) = some (.st l[r.toNat]) := by
    rw [itemO, if_pos (by omega), List.getElem?_eq_getElem hr]
  refine ⟨l[r.toNat], k', List.getElem_mem hr, ?_, g'⟩
  simp (disch := omega) only [F242, g242, runF, runX, seqF, brF, retF, datF, asgF, augF, ownF, exF, doneF', tupS1, tupF1, setMany, St.set, St.setOwn, put, look, andF, orF, notF, cmpF, chainF, boolF, valF, bF, nameF, cstF, RV.pv, RV.strong, binF, unF, ifF, andV, orV, sliceF, partF, consA, nilA, tupF, lstF, callF, gt_i, ge_i, lt_i, le_i, eq_i, eq_b, neO, is_n, isn_n, isNone_n, isNone_i, isNone_t, isNone_p, isNone_b, ninO, sub_i, neg_i, forF, rangeF, decide_eq_true_eq, Bool.not_true, Bool.not_false, List.map_cons, List.map_nil, List.length_cons, List.length_nil, List.replicate, List.cons_append, List.nil_append, List.append_nil, Nat.reduceEqDiff, decide_false, decide_true, decide_true, len_l, e, hi]
theorem F242_b (n : Nat) (k : Dk) (l : B) (h0 : l ≠ []) (hl : l.length ≤ 1000) (g : Good n k) (hn : n ≤ 1000) : ∃ c k', F242 [.deck, .bytes l] (some k) = some (.val (.int ((c : UInt8).toNat : Int)), some k') ∧ Good (n + 1) k' := by
  have hp := List.length_pos_iff.mpr h0
  obtain ⟨r, k', e, r0, r1, g'⟩ := F235_at n k l.length (by omega) (by omega) g hn
  have hr : r.toNat < l.length := by omega
  have hi := item_b l r.toNat hr (by omega)
  rw [show ((r.toNat : Nat) : Int) = r by omega] at hi
  refine ⟨l[r.toNat], k', ?_, g'⟩
  simp (disch := omega) only [F242, g242, runF, runX, seqF, brF, retF, datF, asgF, augF, ownF, exF, doneF', tupS1, tupF1, setMany, St.set, St.setOwn, put, look, andF, orF, notF, cmpF, chainF, boolF, valF, bF, nameF, cstF, RV.pv, RV.strong, binF, unF, ifF, andV, orV, sliceF, partF, consA, nilA, tupF, lstF, callF, gt_i, ge_i, lt_i, le_i, eq_i, eq_b, neO, is_n, isn_n, isNone_n, isNone_i, isNone_t, isNone_p, isNone_b, ninO, sub_i, neg_i, forF, rangeF, decide_eq_true_eq, Bool.not_true, Bool.not_false, List.map_cons, List.map_nil, List.length_cons, List.length_nil, List.replicate, List.cons_append, List.nil_append, List.append_nil, Nat.reduceEqDiff, decide_false, decide_true, decide_true, len_b, e, hi]
end Mine

namespace Mine
theorem F242_bs (n : Nat) (k : Dk) (l : List B) (m : Nat) (h0 : l ≠ []) (hl : l.length ≤ 1000) (hm : ∀ x ∈ l, x.length ≤ m) (g : Good n k) (hn : n ≤ 1000) : ∃ x k', x ∈ l ∧ x.length ≤ m ∧ F242 [.deck, .lst (l.map .bytes)] (some k) = some (.val (.bytes x), some k') ∧ Good (n + 1) k' := by
  obtain ⟨p, k', hp, e, g'⟩ := F242_l n k (l.map .bytes) (by simpa using h0) (by rw [List.length_map]; exact hl) g hn
  obtain ⟨x, hx, rfl⟩ := List.mem_map.mp hp
  exact ⟨x, k', hx, hm x hx, e, g'⟩
theorem push_at (L : List PV) (p : PV) (h : L.length ≤ 16777216) : pushO L p = some (L ++ [p]) := if_pos h
theorem pushBs (L : List B) (x : B) (h : L.length ≤ 901) : pushO (L.map .bytes) (.bytes x) = some ((L ++ [x]).map .bytes) := by
  rw [push_at _ _ (by rw [List.length_map]; exact Nat.le_trans h (by decide)), List.map_append]; rfl
noncomputable def sp (a1 a3 a4 a5 a6 a7 a8 a9 a10 a11 a12 : Option PV) (L : List B) (k : Dk) : St := ⟨[some .deck, a1, none, a3, a4, a5, a6, a7, a8, a9, a10, a11, a12], some (2, L.map .bytes), some k⟩
theorem in271 (n : Nat) (hn : n ≤ 900) (o : B) (ho : o.length ≤ 60) (a1 a3 a4 a5 a6 a7 a9 a10 a11 a12 : Option PV) (L : List B) (hL : L.length ≤ 100) (k : Dk) (g : Good n k) : ∃ x a10' a11' a12' k', (seqF (tupS1 [11, 10] (tupF (consA (callF F235 (consA (nameF 0) (consA (binF addO (unF lenO (nameF 8)) (cstF (.int 1))) (nilA)))) (consA (callF F235 (consA (nameF 0) (consA (cstF (.int 3)) (nilA)))) (nilA))))) (seqF (datF 12 (unF bytesO (lstF (consA (callF F242 (consA (nameF 0) (consA (cstF (.bytes [60, 62, 32, 48, 48, 49, 57, 43, 45, 10, 0, 97, 90, 255])) (nilA)))) (nilA))))) (seqF (ownF 2 pushO (ifF (cmpF eqO (nameF 11) (cstF (.int 0))) (binF addO (sliceF (nameF 8) none (some (nameF 10))) (sliceF (nameF 8) (some (binF addO (nameF 10) (cstF (.int 1)))) none)) (binF addO (binF addO (sliceF (nameF 8) none (some (nameF 10))) (nameF 12)) (sliceF (nameF 8) (some (binF subO (binF addO (nameF 10) (nameF 11)) (cstF (.int 1)))) none)))) (doneF')))) (sp a1 a3 a4 a5 a6 a7 (some (.bytes o)) a9 a10 a11 a12 L k) =
    some (.nx (sp a1 a3 a4 a5 a6 a7 (some (.bytes o)) a9 a10' a11' a12' (L ++ [x]) k')) ∧ x.length ≤ 200 ∧ Good (n + 3) k' := by
  have ho' : o.length ≤ 1000 := Nat.le_trans ho (by decide)
  refine Classical.byContradiction fun hG => ?_
  obtain ⟨at', k1, b1, e1, g1⟩ := draw n k (o.length + 1) (Nat.succ_pos _) (Nat.lt_of_le_of_lt (Nat.succ_le_succ ho) (by decide)) g (Nat.le_trans hn (by decide))
  obtain ⟨way, k2, b2, e2, g2⟩ := draw (n + 1) k1 3 (by decide) (by decide) g1 (Nat.le_trans (Nat.succ_le_succ hn) (by decide))
  obtain ⟨c, k3, e3, g3⟩ := F242_b (n + 2) k2 [60, 62, 32, 48, 48, 49, 57, 43, 45, 10, 0, 97, 90, 255] (by decide) (by decide) g2 (Nat.le_trans (Nat.add_le_add_right hn 2) (by decide))
  have e1' : F235 [.deck, .int ((o.length : Int) + 1)] (some k) = _ := e1
  have e2' : F235 [.deck, .int 3] (some k1) = _ := e2
  have hP : ∀ p : B, pushO (L.map .bytes) (.bytes p) = some ((L ++ [p]).map .bytes) := fun p => pushBs L p (Nat.le_trans hL (by decide))
  have l1 := le_take at' ho
  have hl := len_b o (le_big ho')
  have s1 := sN_hi o at' ho'
  have st1 : ∀ r, seqF (tupS1 [11, 10] (tupF (consA (callF F235 (consA (nameF 0) (consA (binF addO (unF lenO (nameF 8)) (cstF (.int 1))) (nilA)))) (consA (callF F235 (consA (nameF 0) (consA (cstF (.int 3)) (nilA)))) (nilA))))) r (sp a1 a3 a4 a5 a6 a7 (some (.bytes o)) a9 a10 a11 a12 L k) = r (sp a1 a3 a4 a5 a6 a7 (some (.bytes o)) a9 (some (.int (at' : Int))) (some (.int (way : Int))) a12 L k2) := fun r => seq_nx (by
    simp only [sp, tupS1, tupF, consA, nilA, callF, binF, unF, nameF, cstF, look, RV.pv, RV.strong, hl, add_i, e1', e2', List.length_cons, List.length_nil, Nat.reduceAdd, Nat.reduceLeDiff, if_true, List.reverse_cons, List.reverse_nil, List.nil_append, List.cons_append, setMany, St.set, put, Nat.reduceEqDiff, decide_false])
  have st2 : ∀ r, seqF (datF 12 (unF bytesO (lstF (consA (callF F242 (consA (nameF 0) (consA (cstF (.bytes [60, 62, 32, 48, 48, 49, 57, 43, 45, 10, 0, 97, 90, 255])) (nilA)))) (nilA))))) r (sp a1 a3 a4 a5 a6 a7 (some (.bytes o)) a9 (some (.int (at' : Int))) (some (.int (way : Int))) a12 L k2) = r (sp a1 a3 a4 a5 a6 a7 (some (.bytes o)) a9 (some (.int (at' : Int))) (some (.int (way : Int))) (some (.bytes [c])) L k3) := fun r => seq_nx (by
    simp only [sp, datF, unF, lstF, consA, nilA, callF, nameF, cstF, look, RV.pv, RV.strong, e3, List.length_cons, List.length_nil, Nat.reduceAdd, Nat.reduceLeDiff, if_true, bytes_one, St.set, put, Nat.reduceEqDiff, decide_false])
  cases way with
  | zero =>
    have s2 := sN_lo1 o at' ho'
    have l2 := le_drop (at' + 1) ho
    refine hG ⟨o.take at' ++ o.drop (at' + 1), some (.int at'), some (.int (0 : Nat)), some (.bytes [c]), k3, (st1 _).trans ((st2 _).trans ?_), Nat.le_trans (app_le l1 l2) (by decide), g3⟩
    have q : eqO (.int ((0 : Nat) : Int)) (.int 0) = some true := rfl
    simp only [sp, seqF, ownF, ifF, cmpF, binF, sliceF, partF, nameF, cstF, look, RV.pv, RV.strong, q, s1, add_i, s2, add_s _ _ (Nat.le_trans l1 (by decide)) (Nat.le_trans l2 (by decide)), decide_true, hP, doneF']
  | succ w =>
    have q : eqO (.int ((w + 1 : Nat) : Int)) (.int 0) = some false := rfl
    have l2 := le_drop (at' + w) ho
    have l3 := app_le l1 (show ([c] : B).length ≤ 1 from Nat.le_refl _)
    have s2 : sliceO (.bytes o) (some ((at' : Int) + ((w + 1 : Nat) : Int) - 1)) none = some (.st (.bytes (o.drop (at' + w)))) := by
      rw [Int.natCast_succ, ← Int.add_assoc, Int.add_sub_cancel]
      exact sN_lo o at' w ho'
    refine hG ⟨o.take at' ++ [c] ++ o.drop (at' + w), some (.int at'), some (.int ((w + 1 : Nat) : Int)), some (.bytes [c]), k3, (st1 _).trans ((st2 _).trans ?_), Nat.le_trans (app_le l3 l2) (by decide), g3⟩
    simp only [sp, seqF, ownF, ifF, cmpF, binF, sliceF, partF, nameF, cstF, look, RV.pv, RV.strong, q, s1, add_i, sub_i, s2, add_s _ [c] (Nat.le_trans l1 (by decide)) (show 1 ≤ 1000 from by decide), add_s _ _ (Nat.le_trans l3 (by decide)) (Nat.le_trans l2 (by decide)), decide_true, hP, doneF']
end Mine

namespace Mine
theorem F242_nums (n : Nat) (k : Dk) (g : Good n k) (hn : n ≤ 1000) : ∃ w v k', w.length ≤ 13 ∧ num w = some v ∧ F242 [.deck, .lst [.int 0, .int 7, .int 10, .int 1234567890, .int 1000000000000]] (some k) = some (.val (.int v), some k') ∧ Good (n + 1) k' := by
  obtain ⟨p, k', hp, e, g'⟩ := F242_l n k [.int 0, .int 7, .int 10, .int 1234567890, .int 1000000000000] (by simp) (by simp) g hn
  have : ∃ w v, w.length ≤ 13 ∧ num w = some v ∧ p = .int v := by
    simp only [List.mem_cons, List.not_mem_nil, or_false] at hp
    rcases hp with rfl | rfl | rfl | rfl | rfl
    · exact ⟨[48], _, by decide, by rfl, rfl⟩
    · exact ⟨[55], _, by decide, by rfl, rfl⟩
    · exact ⟨[49, 48], _, by decide, by rfl, rfl⟩
    · exact ⟨[49, 50, 51, 52, 53, 54, 55, 56, 57, 48], _, by decide, by rfl, rfl⟩
    · exact ⟨[49, 48, 48, 48, 48, 48, 48, 48, 48, 48, 48, 48, 48], _, by decide, by rfl, rfl⟩
  obtain ⟨w, v, h1, h2, rfl⟩ := this
  exact ⟨w, v, k', h1, h2, e, g'⟩
theorem pow_at : powO (.int 10) (.int 12) = some (.st (.int 1000000000000)) := rfl
theorem forGo_two {i : Nat} {b : SF} {p q : PV} {σ σ1 σ2 : St} (h1 : b (σ.set i p) = some (.nx σ1)) (h2 : b (σ1.set i q) = some (.nx σ2)) : forGo i b [p, q] σ = some (.nx σ2) := by
  rw [forGo, h1]
  dsimp only
  rw [forGo, h2]
  rfl
theorem two271 (n : Nat) (hn : n ≤ 800) (o : B) (ho : o.length ≤ 60) (a1 a3 a4 a5 a6 a7 a9 a10 a11 a12 : Option PV) (L : List B) (hL : L.length ≤ 90) (k : Dk) (g : Good n k) : ∃ x y a9' a10' a11' a12' k', forGo 9 (seqF (tupS1 [11, 10] (tupF (consA (callF F235 (consA (nameF 0) (consA (binF addO (unF lenO (nameF 8)) (cstF (.int 1))) (nilA)))) (consA (callF F235 (consA (nameF 0) (consA (cstF (.int 3)) (nilA)))) (nilA))))) (seqF (datF 12 (unF bytesO (lstF (consA (callF F242 (consA (nameF 0) (consA (cstF (.bytes [60, 62, 32, 48, 48, 49, 57, 43, 45, 10, 0, 97, 90, 255])) (nilA)))) (nilA))))) (seqF (ownF 2 pushO (ifF (cmpF eqO (nameF 11) (cstF (.int 0))) (binF addO (sliceF (nameF 8) none (some (nameF 10))) (sliceF (nameF 8) (some (binF addO (nameF 10) (cstF (.int 1)))) none)) (binF addO (binF addO (sliceF (nameF 8) none (some (nameF 10))) (nameF 12)) (sliceF (nameF 8) (some (binF subO (binF addO (nameF 10) (nameF 11)) (cstF (.int 1)))) none)))) (doneF')))) [.int 0, .int 1] (sp a1 a3 a4 a5 a6 a7 (some (.bytes o)) a9 a10 a11 a12 L k) =
    some (.nx (sp a1 a3 a4 a5 a6 a7 (some (.bytes o)) a9' a10' a11' a12' (L ++ [x, y]) k')) ∧ x.length ≤ 200 ∧ y.length ≤ 200 ∧ Good (n + 6) k' := by
  refine Classical.byContradiction fun hG => ?_
  obtain ⟨x, p1, p2, p3, k1, e1, l1, g1⟩ := in271 n (Nat.le_trans hn (by decide)) o ho a1 a3 a4 a5 a6 a7 (some (.int 0)) a10 a11 a12 L (Nat.le_trans hL (by decide)) k g
  obtain ⟨y, r1, r2, r3, k2, e2, l2, g2⟩ := in271 (n + 3) (Nat.le_trans (Nat.add_le_add_right hn 3) (by decide)) o ho a1 a3 a4 a5 a6 a7 (some (.int 1)) p1 p2 p3 (L ++ [x]) (Nat.le_trans (app_le hL (show ([x] : List B).length ≤ 1 from Nat.le_refl _)) (by decide)) k1 g1
  refine hG ⟨x, y, some (.int 1), r1, r2, r3, k2, ?_, l1, l2, g2⟩
  rw [List.append_assoc] at e2
  exact forGo_two e1 e2
theorem out271 (n : Nat) (hn : n ≤ 700) (a1 a3 a4 a5 a6 a7 a8 a9 a10 a11 a12 : Option PV) (L : List B) (hL : L.length ≤ 80) (k : Dk) (g : Good n k) : ∃ x y z a4' a5' a6' a7' a8' a9' a10' a11' a12' k', (seqF (datF 4 (callF F242 (consA (nameF 0) (consA (lstF (consA (cstF (.bytes [65])) (consA (cstF (.bytes [65, 110, 110, 32, 66])) (consA (cstF (.bytes [])) (consA (cstF (.bytes [195, 169, 32])) (consA (cstF (.bytes [97, 60, 98])) (consA (cstF (.bytes [32, 120])) (consA (cstF (.bytes [97, 46, 98, 44, 99])) (nilA))))))))) (nilA))))) (seqF (datF 5 (callF F242 (consA (nameF 0) (consA (lstF (consA (cstF (.bytes [97, 64, 98])) (consA (cstF (.bytes [])) (consA (cstF (.bytes [120, 32, 121])) (consA (cstF (.bytes [60, 113])) (consA (cstF (.bytes [101, 62])) (consA (cstF (.bytes [97, 110, 110, 64, 99, 46, 100])) (nilA)))))))) (nilA))))) (seqF (datF 6 (unF bytesO (compF (unF strO (callF F242 (consA (nameF 0) (consA (lstF (consA (cstF (.int 0)) (consA (cstF (.int 7)) (consA (cstF (.int 10)) (consA (cstF (.int 1234567890)) (consA (binF powO (cstF (.int 10)) (cstF (.int 12))) (nilA))))))) (nilA))))) (bF true) (unF ordO (nameF 0))))) (seqF (datF 7 (callF F242 (consA (nameF 0) (consA (lstF (consA (cstF (.bytes [43, 48, 48, 48, 48])) (consA (cstF (.bytes [45, 48, 49, 51, 48])) (consA (cstF (.bytes [43, 49, 50, 52, 53])) (consA (cstF (.bytes [45, 48, 48, 48, 48])) (consA (cstF (.bytes [43, 48, 48, 57, 57])) (consA (cstF (.bytes [48, 49, 48, 48])) (consA (cstF (.bytes [43, 49, 48, 48])) (nilA))))))))) (nilA))))) (seqF (datF 8 (binF addO (binF addO (binF addO (binF addO (binF addO (binF addO (nameF 4) (cstF (.bytes [32, 60]))) (nameF 5)) (cstF (.bytes [62, 32]))) (nameF 6)) (cstF (.bytes [32]))) (nameF 7))) (seqF (ownF 2 pushO (nameF 8)) (seqF (rangeF 9 (cstF (.int 2)) (seqF (tupS1 [11, 10] (tupF (consA (callF F235 (consA (nameF 0) (consA (binF addO (unF lenO (nameF 8)) (cstF (.int 1))) (nilA)))) (consA (callF F235 (consA (nameF 0) (consA (cstF (.int 3)) (nilA)))) (nilA))))) (seqF (datF 12 (unF bytesO (lstF (consA (callF F242 (consA (nameF 0) (consA (cstF (.bytes [60, 62, 32, 48, 48, 49, 57, 43, 45, 10, 0, 97, 90, 255])) (nilA)))) (nilA))))) (seqF (ownF 2 pushO (ifF (cmpF eqO (nameF 11) (cstF (.int 0))) (binF addO (sliceF (nameF 8) none (some (nameF 10))) (sliceF (nameF 8) (some (binF addO (nameF 10) (cstF (.int 1)))) none)) (binF addO (binF addO (sliceF (nameF 8) none (some (nameF 10))) (nameF 12)) (sliceF (nameF 8) (some (binF subO (binF addO (nameF 10) (nameF 11)) (cstF (.int 1)))) none)))) (doneF'))))) (doneF')))))))) (sp a1 a3 a4 a5 a6 a7 a8 a9 a10 a11 a12 L k) =
    some (.nx (sp a1 a3 a4' a5' a6' a7' a8' a9' a10' a11' a12' (L ++ [x, y, z]) k')) ∧ x.length ≤ 200 ∧ y.length ≤ 200 ∧ z.length ≤ 200 ∧ Good (n + 10) k' := by
  refine Classical.byContradiction fun hG => ?_
  obtain ⟨na, k1, _, l1, e1, g1⟩ := F242_bs n k [[65], [65, 110, 110, 32, 66], [], [195, 169, 32], [97, 60, 98], [32, 120], [97, 46, 98, 44, 99]] 5 (by decide) (by decide) (by decide) g (Nat.le_trans hn (by decide))
  obtain ⟨em, k2, _, l2, e2, g2⟩ := F242_bs (n + 1) k1 [[97, 64, 98], [], [120, 32, 121], [60, 113], [101, 62], [97, 110, 110, 64, 99, 46, 100]] 7 (by decide) (by decide) (by decide) g1 (Nat.le_trans (Nat.add_le_add_right hn 1) (by decide))
  obtain ⟨w, v, k3, l3, hw, e3, g3⟩ := F242_nums (n + 2) k2 g2 (Nat.le_trans (Nat.add_le_add_right hn 2) (by decide))
  obtain ⟨zo, k4, _, l4, e4, g4⟩ := F242_bs (n + 3) k3 [[43, 48, 48, 48, 48], [45, 48, 49, 51, 48], [43, 49, 50, 52, 53], [45, 48, 48, 48, 48], [43, 48, 48, 57, 57], [48, 49, 48, 48], [43, 49, 48, 48]] 5 (by decide) (by decide) (by decide) g3 (Nat.le_trans (Nat.add_le_add_right hn 3) (by decide))
  simp only [List.map_cons, List.map_nil] at e1 e2 e4
  have hw13 : w.length ≤ 1000 := Nat.le_trans l3 (by decide)
  have c1 : itemsK (.str (strB w)) = some (w.map fun c => .str ⟨#[c.toNat]⟩) := by
    have hz : (strB w).cps.size ≤ 16777216 := by unfold strB; simp; omega
    rw [itemsK, if_pos hz]
    unfold strB
    rw [List.map_map]
    rfl
  have c2 : compK (bF true) (unF ordO (nameF 0)) (w.map fun c => .str ⟨#[c.toNat]⟩) (some k3) = some (w.map fun c => .int (c.toNat : Int), some k3) := compK_all (fun c : UInt8 => .str ⟨#[c.toNat]⟩) (fun c => .int (c.toNat : Int)) w (some k3) (fun _ _ => rfl) fun _ _ => rfl
  have ho : (octs na em w zo).length ≤ 60 := by unfold octs; simp only [List.length_append, List.length_cons, List.length_nil]; omega
  have h0 : ∀ {x y : B}, (x ++ y).length ≤ 60 → x.length ≤ 1000 ∧ y.length ≤ 1000 := fun {x y} h => by
    rw [List.length_append] at h
    exact ⟨Nat.le_trans (Nat.le_trans (Nat.le_add_right _ _) h) (by decide), Nat.le_trans (Nat.le_trans (Nat.le_add_left _ _) h) (by decide)⟩
  have u6 : (na ++ [32, 60] ++ em ++ [62, 32] ++ w ++ [32] ++ zo).length ≤ 60 := ho
  have dn : ∀ {x y : B}, (x ++ y).length ≤ 60 → x.length ≤ 60 := fun {x y} h => by
    rw [List.length_append] at h
    exact Nat.le_trans (Nat.le_add_right _ _) h
  have u5 := dn u6
  have u4 := dn u5
  have u3 := dn u4
  have u2 := dn u3
  have u1 := dn u2
  rw [seq_nx (σ' := sp a1 a3 (some (.bytes na)) a5 a6 a7 a8 a9 a10 a11 a12 L k1) (by simp only [sp, datF, callF, consA, nilA, lstF, nameF, cstF, look, RV.strong, List.length_cons, List.length_nil, Nat.reduceAdd, Nat.reduceLeDiff, if_true, e1, St.set, put, Nat.reduceEqDiff, decide_false]),
    seq_nx (σ' := sp a1 a3 (some (.bytes na)) (some (.bytes em)) a6 a7 a8 a9 a10 a11 a12 L k2) (by simp only [sp, datF, callF, consA, nilA, lstF, nameF, cstF, look, RV.strong, List.length_cons, List.length_nil, Nat.reduceAdd, Nat.reduceLeDiff, if_true, e2, St.set, put, Nat.reduceEqDiff, decide_false]),
    seq_nx (σ' := sp a1 a3 (some (.bytes na)) (some (.bytes em)) (some (.bytes w)) a7 a8 a9 a10 a11 a12 L k3) (by simp only [sp, datF, unF, compF, callF, consA, nilA, lstF, binF, nameF, cstF, look, RV.pv, RV.strong, pow_at, List.length_cons, List.length_nil, Nat.reduceAdd, Nat.reduceLeDiff, if_true, e3, str_num hw (Nat.le_trans l3 (by decide)), c1, c2, bytes_map w hw13, St.set, put, Nat.reduceEqDiff, decide_false]),
    seq_nx (σ' := sp a1 a3 (some (.bytes na)) (some (.bytes em)) (some (.bytes w)) (some (.bytes zo)) a8 a9 a10 a11 a12 L k4) (by simp only [sp, datF, callF, consA, nilA, lstF, nameF, cstF, look, RV.strong, List.length_cons, List.length_nil, Nat.reduceAdd, Nat.reduceLeDiff, if_true, e4, St.set, put, Nat.reduceEqDiff, decide_false]),
    seq_nx (σ' := sp a1 a3 (some (.bytes na)) (some (.bytes em)) (some (.bytes w)) (some (.bytes zo)) (some (.bytes (octs na em w zo))) a9 a10 a11 a12 L k4) (by
      simp only [sp, datF, binF, nameF, cstF, look, RV.pv, add_s _ _ (h0 u1).1 (h0 u1).2, add_s _ _ (h0 u2).1 (h0 u2).2, add_s _ _ (h0 u3).1 (h0 u3).2, add_s _ _ (h0 u4).1 (h0 u4).2, add_s _ _ (h0 u5).1 (h0 u5).2, add_s _ _ (h0 u6).1 (h0 u6).2, St.set, put, Nat.reduceEqDiff, decide_false]
      rfl)] at hG
  clear e1 e2 e3 e4 c1 c2 u1 u2 u3 u4 u5 u6 h0 dn l1 l2 l3 l4 hw hw13
  generalize octs na em w zo = o at *
  rw [seq_nx (σ' := sp a1 a3 (some (.bytes na)) (some (.bytes em)) (some (.bytes w)) (some (.bytes zo)) (some (.bytes o)) a9 a10 a11 a12 (L ++ [o]) k4) (by
      have hP := pushBs L o (Nat.le_trans hL (by decide))
      simp only [sp, ownF, nameF, look, RV.strong, decide_true, hP])] at hG
  obtain ⟨y, z, a9', a10', a11', a12', k5, e5, l5, l6, g5⟩ := two271 (n + 4) (Nat.le_trans (Nat.add_le_add_right hn 4) (by decide)) o ho a1 a3 (some (.bytes na)) (some (.bytes em)) (some (.bytes w)) (some (.bytes zo)) a9 a10 a11 a12 (L ++ [o]) (Nat.le_trans (app_le hL (show ([o] : List B).length ≤ 1 from Nat.le_refl _)) (by decide)) k4 g4
  rw [List.append_assoc] at e5
  exact hG ⟨o, y, z, some (.bytes na), some (.bytes em), some (.bytes w), some (.bytes zo), some (.bytes o), a9', a10', a11', a12', k5, (seq_nx e5).trans rfl, Nat.le_trans ho (by decide), l5, l6, g5⟩
theorem cmp_true (k : DS) (l : List B) (h : ∀ x ∈ l, x.length ≤ 500) : compK (notF (valF (callF F266 (consA (nameF 0) (nilA))))) (nameF 0) (l.map .bytes) k = some ([], k) := by
  have := compK_filter (t := notF (valF (callF F266 (consA (nameF 0) (nilA))))) (e := nameF 0) (fun x : B => .bytes x) (fun x => .bytes x) (fun _ => false) l k (fun x hx => by
    simp only [runF, runX, seqF, brF, retF, datF, asgF, augF, ownF, exF, doneF', tupS1, tupF1, setMany, St.set, St.setOwn, put, look, andF, orF, notF, cmpF, chainF, boolF, valF, bF, nameF, cstF, RV.pv, RV.strong, binF, unF, ifF, andV, orV, sliceF, partF, consA, nilA, tupF, lstF, callF, gt_i, ge_i, lt_i, le_i, eq_i, eq_b, neO, is_n, isn_n, isNone_n, isNone_i, isNone_t, isNone_p, isNone_b, ninO, sub_i, neg_i, forF, rangeF, decide_eq_true_eq, Bool.not_true, Bool.not_false, List.map_cons, List.map_nil, List.length_cons, List.length_nil, List.replicate, List.cons_append, List.nil_append, List.append_nil, Nat.reduceEqDiff, decide_false, decide_true, F266_at x k (h x hx)]) fun _ _ => rfl
  rw [List.filter_eq_nil_iff.mpr (by simp)] at this
  exact this
noncomputable def fixL : List B := [[65, 32, 60, 97, 62, 32, 98, 62, 32, 49, 32, 43, 48, 48, 48, 48], [65, 32, 32, 60, 62, 32, 48, 32, 45, 48, 48, 48, 48], [32, 60, 101, 62, 32, 55, 32, 43, 48, 53, 51, 48], [65, 32, 60, 97, 64, 98, 62, 32, 48, 48, 32, 43, 48, 48, 48, 48], [65, 32, 60, 97, 64, 98, 62, 32, 49, 32, 43, 48, 48, 48, 48, 32], []]
theorem for271 (a1 : Option PV) (x0 : B) (k : Dk) (g : Good 1 k) : ∃ l σ k', forGo 3 (seqF (datF 4 (callF F242 (consA (nameF 0) (consA (lstF (consA (cstF (.bytes [65])) (consA (cstF (.bytes [65, 110, 110, 32, 66])) (consA (cstF (.bytes [])) (consA (cstF (.bytes [195, 169, 32])) (consA (cstF (.bytes [97, 60, 98])) (consA (cstF (.bytes [32, 120])) (consA (cstF (.bytes [97, 46, 98, 44, 99])) (nilA))))))))) (nilA))))) (seqF (datF 5 (callF F242 (consA (nameF 0) (consA (lstF (consA (cstF (.bytes [97, 64, 98])) (consA (cstF (.bytes [])) (consA (cstF (.bytes [120, 32, 121])) (consA (cstF (.bytes [60, 113])) (consA (cstF (.bytes [101, 62])) (consA (cstF (.bytes [97, 110, 110, 64, 99, 46, 100])) (nilA)))))))) (nilA))))) (seqF (datF 6 (unF bytesO (compF (unF strO (callF F242 (consA (nameF 0) (consA (lstF (consA (cstF (.int 0)) (consA (cstF (.int 7)) (consA (cstF (.int 10)) (consA (cstF (.int 1234567890)) (consA (binF powO (cstF (.int 10)) (cstF (.int 12))) (nilA))))))) (nilA))))) (bF true) (unF ordO (nameF 0))))) (seqF (datF 7 (callF F242 (consA (nameF 0) (consA (lstF (consA (cstF (.bytes [43, 48, 48, 48, 48])) (consA (cstF (.bytes [45, 48, 49, 51, 48])) (consA (cstF (.bytes [43, 49, 50, 52, 53])) (consA (cstF (.bytes [45, 48, 48, 48, 48])) (consA (cstF (.bytes [43, 48, 48, 57, 57])) (consA (cstF (.bytes [48, 49, 48, 48])) (consA (cstF (.bytes [43, 49, 48, 48])) (nilA))))))))) (nilA))))) (seqF (datF 8 (binF addO (binF addO (binF addO (binF addO (binF addO (binF addO (nameF 4) (cstF (.bytes [32, 60]))) (nameF 5)) (cstF (.bytes [62, 32]))) (nameF 6)) (cstF (.bytes [32]))) (nameF 7))) (seqF (ownF 2 pushO (nameF 8)) (seqF (rangeF 9 (cstF (.int 2)) (seqF (tupS1 [11, 10] (tupF (consA (callF F235 (consA (nameF 0) (consA (binF addO (unF lenO (nameF 8)) (cstF (.int 1))) (nilA)))) (consA (callF F235 (consA (nameF 0) (consA (cstF (.int 3)) (nilA)))) (nilA))))) (seqF (datF 12 (unF bytesO (lstF (consA (callF F242 (consA (nameF 0) (consA (cstF (.bytes [60, 62, 32, 48, 48, 49, 57, 43, 45, 10, 0, 97, 90, 255])) (nilA)))) (nilA))))) (seqF (ownF 2 pushO (ifF (cmpF eqO (nameF 11) (cstF (.int 0))) (binF addO (sliceF (nameF 8) none (some (nameF 10))) (sliceF (nameF 8) (some (binF addO (nameF 10) (cstF (.int 1)))) none)) (binF addO (binF addO (sliceF (nameF 8) none (some (nameF 10))) (nameF 12)) (sliceF (nameF 8) (some (binF subO (binF addO (nameF 10) (nameF 11)) (cstF (.int 1)))) none)))) (doneF'))))) (doneF')))))))) [.int 0, .int 1] (sp a1 none none none none none none none none none none [x0] k) = some (.nx ⟨σ, some (2, (x0 :: l).map .bytes), some k'⟩) ∧ look σ 2 = none ∧ l.length = 6 ∧ (∀ x ∈ l, x.length ≤ 200) ∧ Good 30 k' := by
  refine Classical.byContradiction fun hG => ?_
  obtain ⟨x1, x2, x3, a4, a5, a6, a7, a8, a9, a10, a11, a12, k1, e1, l1, l2, l3, g1⟩ := out271 1 (by decide) a1 (some (.int 0)) none none none none none none none none none [x0] (show 1 ≤ 80 by decide) k g
  obtain ⟨x4, x5, x6, b4, b5, b6, b7, b8, b9, b10, b11, b12, k2, e2, l4, l5, l6, g2⟩ := out271 11 (by decide) a1 (some (.int 1)) a4 a5 a6 a7 a8 a9 a10 a11 a12 ([x0] ++ [x1, x2, x3]) (show 4 ≤ 80 by decide) k1 g1
  refine hG ⟨[x1, x2, x3, x4, x5, x6], _, k2, forGo_two e1 e2, rfl, rfl, fun x hx => ?_, g2.mono (by decide)⟩
  simp only [List.mem_cons, List.not_mem_nil, or_false] at hx
  rcases hx with rfl | rfl | rfl | rfl | rfl | rfl <;> assumption
theorem F271_at (k : Dk) (g : Good 0 k) : ∃ k', F271 [.deck] (some k) = some (.val (.bool true), some k') ∧ Good 30 k' := by
  obtain ⟨x0, k0, m0, l0, e0, g0⟩ := F242_bs 0 k fixL 20 (by simp [fixL]) (by simp [fixL]) (by decide) g (by omega)
  obtain ⟨l, σ, k1, e1, hσ, hl, hb, g1⟩ := for271 (some (.lst (fixL.map .bytes))) x0 k0 g0
  have cm := cmp_true (some k1) (x0 :: l) (fun x hx => by
    cases hx with
    | head => omega
    | tail _ hx => have := hb x hx; omega)
  have it := itemsK_l ((x0 :: l).map .bytes) (by rw [List.length_map, List.length_cons]; omega)
  have r2 : (List.range (2 : Int).toNat).map (fun (k : Nat) => PV.int (k : Int)) = [.int 0, .int 1] := rfl
  refine ⟨k1, ?_, g1⟩
  simp only [fixL, sp, List.map_cons, List.map_nil] at e0 e1 cm it
  simp only [F271, g271, runF, runX, seqF, brF, retF, datF, asgF, augF, ownF, exF, doneF', tupS1, tupF1, setMany, St.set, St.setOwn, put, look, andF, orF, notF, cmpF, chainF, boolF, valF, bF, nameF, cstF, RV.pv, RV.strong, binF, unF, ifF, andV, orV, sliceF, partF, consA, nilA, tupF, lstF, callF, gt_i, ge_i, lt_i, le_i, eq_i, eq_b, neO, is_n, isn_n, isNone_n, isNone_i, isNone_t, isNone_p, isNone_b, ninO, sub_i, neg_i, forF, rangeF, decide_eq_true_eq, Bool.not_true, Bool.not_false, List.map_cons, List.map_nil, List.length_cons, List.length_nil, List.replicate, List.cons_append, List.nil_append, List.append_nil, Nat.reduceEqDiff, decide_false, decide_true, Nat.reduceAdd, Nat.reduceLeDiff, if_true, e0, show ((0 : Int) ≤ 2 ∧ (2 : Int) < 1000000) = True from eq_true (by decide), r2, e1, hσ, compF, it, cm]
  rfl
end Mine

namespace Mine
noncomputable def bl (c : UInt8) : Bool := ([32, 9] : B).contains c
noncomputable def ob (c : UInt8) : Bool := ([32, 9, 13, 11, 12] : B).contains c
noncomputable def hb : B → Bool
  | [] => false
  | c :: _ => bl c
theorem any_nil : ∀ S : B, anyB [] (S.map fun s => .bytes [s]) = some false
  | [] => rfl
  | s :: S => by rw [List.map_cons, anyB, any_nil S]; rfl
theorem any_one (c : UInt8) : ∀ S : B, anyB [c] (S.map fun s => .bytes [s]) = some (S.contains c)
  | [] => rfl
  | s :: S => by
    rw [List.map_cons, anyB, any_one c S, List.contains_cons]
    dsimp only
    congr 2
    rw [Bool.eq_iff_iff, beq_iff_eq, beq_iff_eq]
    constructor
    · intro h; cases h; rfl
    · intro h; rw [h]
theorem in_hd (x : B) : inO (.bytes (x.take 1)) (.tup [.bytes [32], .bytes [9]]) = some (hb x) := by
  cases x with
  | nil => exact any_nil [32, 9]
  | cons c x => exact any_one c [32, 9]
theorem in_hd_one (c : UInt8) : inO (.bytes [c]) (.tup [.bytes [32], .bytes [9]]) = some (bl c) := any_one c [32, 9]
theorem in_nil2 : inO (.bytes []) (.tup [.bytes [32], .bytes [9]]) = some false := any_nil [32, 9]
theorem in_one5 (c : UInt8) : inO (.bytes [c]) (.tup [.bytes [32], .bytes [9], .bytes [13], .bytes [11], .bytes [12]]) = some (ob c) := any_one c [32, 9, 13, 11, 12]
theorem in_nil5 : inO (.bytes []) (.tup [.bytes [32], .bytes [9], .bytes [13], .bytes [11], .bytes [12]]) = some false := any_nil [32, 9, 13, 11, 12]
theorem ne_b (x : B) : neO (.bytes x) (.bytes []) = some (!x.isEmpty) := by cases x <;> rfl
/-! _law_stripped -/
theorem w285a (d : DS) : ∀ (x : B) (fuel : Nat), x.length ≤ 100000 → x.length < fuel → whileF (andF (cmpF inO (sliceF (nameF 0) none (some (cstF (.int 1)))) (tupF (consA (cstF (.bytes [32])) (consA (cstF (.bytes [9])) (nilA))))) (andF (cmpF neO (nameF 0) (cstF (.bytes []))) (bF true))) (seqF (datF 0 (sliceF (nameF 0) (some (cstF (.int 1))) none)) (doneF')) fuel ⟨[some (.bytes x)], none, d⟩ = some (.nx ⟨[some (.bytes (x.dropWhile bl))], none, d⟩)
  | _, 0, _, h => absurd h (by omega)
  | [], fuel + 1, hx, _ => by
    rw [whileF]
    simp (disch := first | omega | (simp only [List.length_drop, List.length_take, List.length_append, List.length_cons, List.length_nil]; omega)) only [runF, runX, seqF, brF, retF, datF, asgF, augF, ownF, exF, doneF', tupS1, tupF1, setMany, St.set, St.setOwn, put, look, andF, orF, notF, cmpF, chainF, boolF, valF, bF, nameF, cstF, RV.pv, RV.strong, binF, unF, ifF, andV, orV, sliceF, partF, consA, nilA, tupF, lstF, callF, gt_i, ge_i, lt_i, le_i, eq_i, eq_b, neO, is_n, isn_n, isNone_n, isNone_i, isNone_t, isNone_p, isNone_b, ninO, sub_i, neg_i, forF, rangeF, decide_eq_true_eq, Bool.not_true, Bool.not_false, List.map_cons, List.map_nil, List.length_cons, List.length_nil, List.replicate, List.cons_append, List.nil_append, List.append_nil, Nat.reduceEqDiff, decide_false, decide_true, slO_hi, show (1 : Int).toNat = 1 from rfl, List.take_nil, Nat.reduceAdd, Nat.reduceLeDiff, if_true, in_nil2, List.dropWhile_nil]
  | c :: x, fuel + 1, hx, hf => by
    rw [List.length_cons] at hx hf
    have ih := w285a d x fuel (by omega) (by omega)
    have hl : (c :: x).length ≤ 16777216 := by rw [List.length_cons]; omega
    have s1 : sliceO (.bytes (c :: x)) none (some 1) = some (.st (.bytes [c])) := slO_hi (c :: x) 1 (by decide) hl
    have s2 : sliceO (.bytes (c :: x)) (some 1) none = some (.st (.bytes x)) := slO_lo (c :: x) 1 (by decide) hl
    have hne : neO (.bytes (c :: x)) (.bytes []) = some true := rfl
    rw [whileF, List.dropWhile_cons]
    cases q : bl c with
    | true =>
      simp only [seqF, datF, doneF', andF, cmpF, bF, nameF, cstF, look, sliceF, partF, tupF, consA, nilA, St.set, put, RV.pv, RV.strong, List.length_cons, List.length_nil, s1, s2, Nat.reduceAdd, Nat.reduceLeDiff, if_true, in_hd_one, q, hne]
      exact ih
    | false =>
      simp only [seqF, datF, doneF', andF, cmpF, bF, nameF, cstF, look, sliceF, partF, tupF, consA, nilA, St.set, put, RV.pv, RV.strong, List.length_cons, List.length_nil, s1, s2, Nat.reduceAdd, Nat.reduceLeDiff, if_true, in_hd_one, q, hne]
      rfl
theorem w285b (d : DS) : ∀ (n : Nat) (x : B) (fuel : Nat), x.length = n → n ≤ 100000 → n < fuel → whileF (andF (cmpF inO (sliceF (nameF 0) (some (unF negO (cstF (.int 1)))) none) (tupF (consA (cstF (.bytes [32])) (consA (cstF (.bytes [9])) (nilA))))) (andF (cmpF neO (nameF 0) (cstF (.bytes []))) (bF true))) (seqF (datF 0 (sliceF (nameF 0) none (some (unF negO (cstF (.int 1)))))) (doneF')) fuel ⟨[some (.bytes x)], none, d⟩ = some (.nx ⟨[some (.bytes (cutE bl x))], none, d⟩)
  | _, _, 0, _, _, h => absurd h (by omega)
  | 0, x, fuel + 1, hx, _, _ => by
    rw [List.length_eq_zero_iff.mp hx, whileF]
    have s1 : sliceO (.bytes []) (some (-1)) none = some (.st (.bytes [])) := rfl
    simp only [runF, runX, seqF, brF, retF, datF, asgF, augF, ownF, exF, doneF', tupS1, tupF1, setMany, St.set, St.setOwn, put, look, andF, orF, notF, cmpF, chainF, boolF, valF, bF, nameF, cstF, RV.pv, RV.strong, binF, unF, ifF, andV, orV, sliceF, partF, consA, nilA, tupF, lstF, callF, gt_i, ge_i, lt_i, le_i, eq_i, eq_b, neO, is_n, isn_n, isNone_n, isNone_i, isNone_t, isNone_p, isNone_b, ninO, sub_i, neg_i, forF, rangeF, decide_eq_true_eq, Bool.not_true, Bool.not_false, List.map_cons, List.map_nil, List.length_cons, List.length_nil, List.replicate, List.cons_append, List.nil_append, List.append_nil, Nat.reduceEqDiff, decide_false, decide_true, s1, Nat.reduceAdd, Nat.reduceLeDiff, if_true, in_nil2, cutE_nil]
  | n + 1, x, fuel + 1, hx, hn, hf => by
    rcases List.eq_nil_or_concat x with e | ⟨y, c, e⟩
    · rw [e] at hx; cases hx
    · rw [List.concat_eq_append] at e
      subst e
      rw [List.length_append, List.length_cons, List.length_nil] at hx
      have ih := w285b d n y fuel (by omega) (by omega) (by omega)
      have hl : (y ++ [c]).length ≤ 16777216 := by rw [List.length_append, List.length_cons, List.length_nil]; omega
      have s1 : sliceO (.bytes (y ++ [c])) (some (-1)) none = some (.st (.bytes [c])) := by
        rw [slO_last _ hl, List.length_append, List.length_cons, List.length_nil, Nat.add_sub_cancel, List.drop_left]
      have s2 : sliceO (.bytes (y ++ [c])) none (some (-1)) = some (.st (.bytes y)) := by rw [slO_init _ hl]; simp
      have hne : neO (.bytes (y ++ [c])) (.bytes []) = some true := by rw [ne_b]; simp
      rw [whileF, cutE_snoc]
      cases q : bl c with
      | true =>
        simp only [seqF, datF, doneF', andF, cmpF, bF, nameF, cstF, unF, negO, look, sliceF, partF, tupF, consA, nilA, St.set, put, RV.pv, RV.strong, List.length_cons, List.length_nil, s1, s2, Nat.reduceAdd, Nat.reduceLeDiff, if_true, in_hd_one, q, hne]
        exact ih
      | false =>
        simp only [seqF, datF, doneF', andF, cmpF, bF, nameF, cstF, unF, negO, look, sliceF, partF, tupF, consA, nilA, St.set, put, RV.pv, RV.strong, List.length_cons, List.length_nil, s1, s2, Nat.reduceAdd, Nat.reduceLeDiff, if_true, in_hd_one, q, hne]
        rfl
theorem F285_at (x : B) (d : DS) (hx : x.length ≤ 100000) : F285 [.bytes x] d = some (.val (.bytes (trimB bl x)), d) := by
  have e1 := w285a d x 1000000 hx (by omega)
  have h2 : (x.dropWhile bl).length ≤ x.length := (List.dropWhile_suffix bl).length_le
  have e2 := w285b d _ (x.dropWhile bl) 1000000 rfl (by omega) (by omega)
  simp only [F285, g285, runF, runX, seqF, brF, retF, datF, asgF, augF, ownF, exF, doneF', tupS1, tupF1, setMany, St.set, St.setOwn, put, look, andF, orF, notF, cmpF, chainF, boolF, valF, bF, nameF, cstF, RV.pv, RV.strong, binF, unF, ifF, andV, orV, sliceF, partF, consA, nilA, tupF, lstF, callF, gt_i, ge_i, lt_i, le_i, eq_i, eq_b, neO, is_n, isn_n, isNone_n, isNone_i, isNone_t, isNone_p, isNone_b, ninO, sub_i, neg_i, forF, rangeF, decide_eq_true_eq, Bool.not_true, Bool.not_false, List.map_cons, List.map_nil, List.length_cons, List.length_nil, List.replicate, List.cons_append, List.nil_append, List.append_nil, Nat.reduceEqDiff, decide_false, decide_true, e1, e2, trimB]
/-! the two readings of a row with a colon -/
noncomputable def kc (c : UInt8) : Bool := (decide ((48 : Int) ≤ (c.toNat : Int)) && decide ((c.toNat : Int) ≤ 57)) || ((decide ((65 : Int) ≤ (c.toNat : Int)) && decide ((c.toNat : Int) ≤ 90)) || ((decide ((97 : Int) ≤ (c.toNat : Int)) && decide ((c.toNat : Int) ≤ 122)) || ((c.toNat : Int) == 45 || false)))
noncomputable def tof (r : B) : Option (B × B) := match fnd [58] r with
  | some (i + 1) => if (cutE ob (r.take (i + 1))).isEmpty then none else if (cutE ob (r.take (i + 1))).all kc then some (cutE ob (r.take (i + 1)), trimB ob (r.drop (i + 2))) else none
  | _ => none
noncomputable def pair (r : B) : Option (B × B) := match fnd [58] r with
  | some (i + 1) => if hb r then none else if (trimB bl (r.take (i + 1))).isEmpty then none else if (trimB bl (r.take (i + 1))).all kc then some (trimB bl (r.take (i + 1)), trimB bl (r.drop (i + 2))) else none
  | _ => none
noncomputable def tupOf : B × B → PV := fun p => .tup [.bytes p.1, .bytes p.2]
noncomputable def optP : Option (B × B) → PV
  | some p => tupOf p
  | none => .none
theorem chain_i (lo hi c : Int) (i : Nat) (z : List (Option PV)) (o : Option (Nat × List PV)) (d : DS) (hz : look z i = some (.int c)) : chainF leO leO (cstF (.int lo)) (nameF i) (cstF (.int hi)) ⟨z, o, d⟩ = some (decide (lo ≤ c) && decide (c ≤ hi), d) := by
  simp only [chainF, cstF, nameF, hz, RV.pv, le_i]
  cases decide (lo ≤ c) <;> rfl
theorem kc_at (c : UInt8) (d : DS) (z : List (Option PV)) (i : Nat) (o : Option (Nat × List PV)) (hz : look z i = some (.int (c.toNat : Int))) : (orF (chainF leO leO (cstF (.int 48)) (nameF i) (cstF (.int 57))) (orF (chainF leO leO (cstF (.int 65)) (nameF i) (cstF (.int 90))) (orF (chainF leO leO (cstF (.int 97)) (nameF i) (cstF (.int 122))) (orF (cmpF eqO (nameF i) (cstF (.int 45))) (bF false))))) ⟨z, o, d⟩ = some (kc c, d) :=
  or_ev (chain_i _ _ _ _ _ _ _ hz) (or_ev (chain_i _ _ _ _ _ _ _ hz) (or_ev (chain_i _ _ _ _ _ _ _ hz) (or_ev (by simp only [cmpF, nameF, cstF, hz, RV.pv, eq_i]) rfl)))
theorem f174 (x y : PV) (z : Option PV) (d : DS) : ∀ (l : B) (a : Option PV), ∃ a', forGo 3 (seqF (brF (notF (orF (chainF leO leO (cstF (.int 48)) (nameF 3) (cstF (.int 57))) (orF (chainF leO leO (cstF (.int 65)) (nameF 3) (cstF (.int 90))) (orF (chainF leO leO (cstF (.int 97)) (nameF 3) (cstF (.int 122))) (orF (cmpF eqO (nameF 3) (cstF (.int 45))) (bF false)))))) (seqF (retF (cstF .none)) (doneF')) (doneF')) (doneF')) (l.map fun c => .int (c.toNat : Int)) ⟨[some x, z, some y, a], none, d⟩ =
    if l.all kc then some (.nx ⟨[some x, z, some y, a'], none, d⟩) else some (.rt (.val .none) d)
  | [], a => ⟨a, rfl⟩
  | c :: l, a => by
    obtain ⟨a', ih⟩ := f174 x y z d l (some (.int (c.toNat : Int)))
    refine ⟨a', ?_⟩
    have hk := kc_at c d [some x, z, some y, some (.int (c.toNat : Int))] 3 none rfl
    rw [List.map_cons, forGo, List.all_cons]
    simp only [seqF, brF, notF, St.set, put, hk]
    cases q : kc c with
    | true =>
      simp only [Bool.not_true, doneF', Bool.true_and]
      exact ih
    | false => rfl
end Mine

namespace Mine
theorem F106_ob (x : B) (d : DS) (hx : x.length ≤ 100000) : F106 [.bytes x, .bytes [32, 9, 13, 11, 12]] d = some (.val (.bytes (cutE ob x)), d) := F106_at x _ d hx
theorem F99_ob (x : B) (d : DS) (hx : x.length ≤ 100000) : F99 [.bytes x, .bytes [32, 9, 13, 11, 12]] d = some (.val (.bytes (trimB ob x)), d) := F99_at x _ d hx
theorem eqnil_b (x : B) : eqO (.bytes x) (.bytes []) = some x.isEmpty := by cases x <;> rfl
theorem ge1_f (i : Nat) : gtO (.int ((i + 1 : Nat) : Int)) (.int 0) = some true := by
  have h : (0 : Int) < ((i + 1 : Nat) : Int) := Int.ofNat_lt.mpr (Nat.succ_pos i)
  rw [gt_i, decide_eq_true h]
theorem g174_at (r : B) (d : DS) (hx : r.length ≤ 1000) : g174 ⟨[some (.bytes r), none, none, none], none, d⟩ = some (.rt (.val (optP (tof r))) d) := by
  unfold tof g174
  cases q1 : fnd [58] r with
  | none =>
    rw [seq_nx (σ' := ⟨[some (.bytes r), some (.int (-1)), none, none], none, d⟩) (by simp only [datF, binF, nameF, cstF, look, RV.pv, find_b, find0_n (by simp) q1, St.set, put])]
    rfl
  | some i =>
    rw [seq_nx (σ' := ⟨[some (.bytes r), some (.int (i : Int)), none, none], none, d⟩) (by simp only [datF, binF, nameF, cstF, look, RV.pv, find_b, find0_s (by simp) q1, St.set, put])]
    cases i with
    | zero => rfl
    | succ i =>
      have hs := sN_hi r (i + 1) hx
      have hd := le_drop (i + 2) hx
      have sl : sliceO (.bytes r) (some (((i + 1 : Nat) : Int) + 1)) none = some (.st (.bytes (r.drop (i + 2)))) := sN_lo1 r (i + 1) hx
      have hl := le_take (i + 1) hx
      dsimp only
      generalize r.take (i + 1) = t at *
      generalize r.drop (i + 2) = u at *
      rw [seq_nx (σ' := ⟨[some (.bytes r), some (.int ((i + 1 : Nat) : Int)), some (.bytes (cutE ob t)), none], none, d⟩) (by simp only [datF, ifF, cmpF, callF, consA, nilA, sliceF, partF, nameF, cstF, look, RV.pv, RV.strong, ge1_f, hs, F106_ob t d (Nat.le_trans hl (by decide)), St.set, put])]
      have hE : cmpF eqO (nameF 2) (cstF (.bytes [])) ⟨[some (.bytes r), some (.int ((i + 1 : Nat) : Int)), some (.bytes (cutE ob t)), none], none, d⟩ = some ((cutE ob t).isEmpty, d) := cmp_ev (d := d) rfl rfl (eqnil_b _)
      cases q2 : (cutE ob t).isEmpty with
      | true =>
        rw [q2] at hE
        exact seq_rt (br_t hE)
      | false =>
        rw [q2] at hE
        rw [seq_nx (br_f hE), if_neg (by decide)]
        obtain ⟨a', e⟩ := f174 (.bytes r) (.bytes (cutE ob t)) (some (.int ((i + 1 : Nat) : Int))) d (cutE ob t) none
        cases q3 : (cutE ob t).all kc with
        | false =>
          rw [q3] at e
          exact seq_rt e
        | true =>
          rw [q3] at e
          refine (seq_nx e).trans (seq_rt ?_)
          simp only [retF, tupF, consA, nilA, callF, sliceF, partF, binF, nameF, cstF, look, RV.pv, RV.strong, add_i, sl, F99_ob u d (Nat.le_trans hd (by decide)), List.length_cons, List.length_nil, Nat.reduceAdd, Nat.reduceLeDiff, if_true]
          rfl
theorem F174_at (r : B) (d : DS) (hx : r.length ≤ 1000) : F174 [.bytes r] d = some (.val (optP (tof r)), d) := by
  show (match g174 ⟨[some (.bytes r), none, none, none], none, d⟩ with | some (.rt r d') => some (r, d') | some (.nx σ') => some (.val .none, σ'.dk) | _ => none) = _
  rw [g174_at r d hx]
theorem lt1_f (i : Nat) : ltO (.int ((i + 1 : Nat) : Int)) (.int 1) = some false := by
  have h : ¬ ((i + 1 : Nat) : Int) < (1 : Int) := Int.not_lt.mpr (Int.ofNat_le.mpr (Nat.succ_le_succ (Nat.zero_le i)))
  rw [lt_i, decide_eq_false h]
theorem g290_at (r : B) (d : DS) (hx : r.length ≤ 1000) : g290 ⟨[some (.bytes r), none, none, none], none, d⟩ = some (.rt (.val (optP (pair r))) d) := by
  have s1 : sliceO (.bytes r) none (some 1) = some (.st (.bytes (r.take 1))) := sN_hi r 1 hx
  unfold pair g290
  cases q1 : fnd [58] r with
  | none =>
    rw [seq_nx (σ' := ⟨[some (.bytes r), some (.int (-1)), none, none], none, d⟩) (by simp only [datF, binF, nameF, cstF, look, RV.pv, find_b, find0_n (by simp) q1, St.set, put])]
    rfl
  | some i =>
    rw [seq_nx (σ' := ⟨[some (.bytes r), some (.int (i : Int)), none, none], none, d⟩) (by simp only [datF, binF, nameF, cstF, look, RV.pv, find_b, find0_s (by simp) q1, St.set, put])]
    cases i with
    | zero => rfl
    | succ i =>
      have hs := sN_hi r (i + 1) hx
      have hd := le_drop (i + 2) hx
      have sl : sliceO (.bytes r) (some (((i + 1 : Nat) : Int) + 1)) none = some (.st (.bytes (r.drop (i + 2)))) := sN_lo1 r (i + 1) hx
      have hl := le_take (i + 1) hx
      have hT : (orF (cmpF ltO (nameF 1) (cstF (.int 1))) (orF (cmpF inO (sliceF (nameF 0) none (some (cstF (.int 1)))) (tupF (consA (cstF (.bytes [32])) (consA (cstF (.bytes [9])) (nilA))))) (bF false))) ⟨[some (.bytes r), some (.int ((i + 1 : Nat) : Int)), none, none], none, d⟩ = some (false || (hb r || false), d) :=
        or_ev (d := d) (cmp_ev (d := d) rfl rfl (lt1_f i)) (or_ev (d := d) (by simp only [cmpF, sliceF, partF, tupF, consA, nilA, nameF, cstF, look, RV.pv, RV.strong, s1, in_hd, List.length_cons, List.length_nil, Nat.reduceAdd, Nat.reduceLeDiff, if_true]) rfl)
      dsimp only
      generalize r.take (i + 1) = t at *
      generalize r.drop (i + 2) = u at *
      cases q2 : hb r with
      | true =>
        rw [q2] at hT
        exact seq_rt (br_t hT)
      | false =>
        rw [q2] at hT
        rw [seq_nx (br_f hT), if_neg (by decide)]
        have hk2 : (trimB bl t).length ≤ 1000 := Nat.le_trans (cutE_len _ _) (Nat.le_trans (List.dropWhile_suffix bl).length_le hl)
        rw [seq_nx (σ' := ⟨[some (.bytes r), some (.int ((i + 1 : Nat) : Int)), some (.bytes (trimB bl t)), none], none, d⟩) (by simp only [datF, callF, consA, nilA, sliceF, partF, nameF, look, RV.strong, RV.pv, hs, F285_at t d (Nat.le_trans hl (by decide)), St.set, put])]
        have c0 : compK (notF (orF (chainF leO leO (cstF (.int 48)) (nameF 0) (cstF (.int 57))) (orF (chainF leO leO (cstF (.int 65)) (nameF 0) (cstF (.int 90))) (orF (chainF leO leO (cstF (.int 97)) (nameF 0) (cstF (.int 122))) (orF (cmpF eqO (nameF 0) (cstF (.int 45))) (bF false)))))) (nameF 0) ((trimB bl t).map fun c => .int (c.toNat : Int)) d = some (((trimB bl t).filter (!kc ·)).map fun c => .int (c.toNat : Int), d) :=
          compK_filter (fun c : UInt8 => .int (c.toNat : Int)) (fun c => .int (c.toNat : Int)) _ _ d (fun c _ => by
            have hk := kc_at c d [some (.int (c.toNat : Int))] 0 none rfl
            simp only [notF, hk]) fun c _ => rfl
        have hE : eqO (.lst (((trimB bl t).filter (!kc ·)).map fun c => .int (c.toNat : Int))) (.lst []) = some ((trimB bl t).all kc) := by
          have e : (trimB bl t).all kc = ((trimB bl t).filter (!kc ·)).isEmpty := by
            rw [Bool.eq_iff_iff, List.isEmpty_iff, List.filter_eq_nil_iff, List.all_eq_true]
            simp
          rw [e]
          cases ((trimB bl t).filter (!kc ·)) <;> rfl
        rw [seq_nx (σ' := ⟨[some (.bytes r), some (.int ((i + 1 : Nat) : Int)), some (.bytes (trimB bl t)), some (.lst (((trimB bl t).filter (!kc ·)).map fun c => .int (c.toNat : Int)))], none, d⟩) (by simp only [datF, compF, nameF, look, RV.pv, itemsK_b _ (le_big hk2), c0, St.set, put])]
        have hU : (andF (cmpF neO (nameF 2) (cstF (.bytes []))) (andF (cmpF eqO (nameF 3) (lstF (nilA))) (bF true))) ⟨[some (.bytes r), some (.int ((i + 1 : Nat) : Int)), some (.bytes (trimB bl t)), some (.lst (((trimB bl t).filter (!kc ·)).map fun c => .int (c.toNat : Int)))], none, d⟩ = some (!(trimB bl t).isEmpty && ((trimB bl t).all kc && true), d) :=
          and_ev (d := d) (cmp_ev (d := d) rfl rfl (ne_b _)) (and_ev (d := d) (cmp_ev (d := d) rfl rfl hE) rfl)
        refine seq_rt ?_
        unfold retF ifF
        rw [hU]
        cases (trimB bl t).isEmpty with
        | true => rfl
        | false =>
          cases (trimB bl t).all kc with
          | false => rfl
          | true =>
            simp only [Bool.not_false, Bool.and_self, tupF, consA, nilA, callF, sliceF, partF, binF, nameF, cstF, look, RV.pv, RV.strong, add_i, sl, F285_at u d (Nat.le_trans hd (by decide)), List.length_cons, List.length_nil, Nat.reduceAdd, Nat.reduceLeDiff, if_true]
            rfl
theorem F290_at (r : B) (d : DS) (hx : r.length ≤ 1000) : F290 [.bytes r] d = some (.val (optP (pair r)), d) := by
  show (match g290 ⟨[some (.bytes r), none, none, none], none, d⟩ with | some (.rt r d') => some (r, d') | some (.nx σ') => some (.val .none, σ'.dk) | _ => none) = _
  rw [g290_at r d hx]
/-! rows -/
noncomputable def rowsOf (m : B) : List B := (splitB 10 m).map (cutE ob)
theorem F160_at (m : B) (d : DS) (hm : m.length ≤ 50000) : F160 [.bytes m] d = some (.own ((rowsOf m).map .bytes), d) := by
  have hs := splitB_size 10 m
  have c0 : compK (bF true) (callF F106 (consA (nameF 0) (consA (cstF (.bytes [32, 9, 13, 11, 12])) (nilA)))) ((splitB 10 m).map .bytes) d = some ((splitB 10 m).map fun r => .bytes (cutE ob r), d) :=
    compK_all (fun r : B => .bytes r) (fun r => .bytes (cutE ob r)) (splitB 10 m) d (fun _ _ => rfl) fun r hr => by
      have := hs.2 r hr
      simp (disch := omega) only [runF, runX, seqF, brF, retF, datF, asgF, augF, ownF, exF, doneF', tupS1, tupF1, setMany, St.set, St.setOwn, put, look, andF, orF, notF, cmpF, chainF, boolF, valF, bF, nameF, cstF, RV.pv, RV.strong, binF, unF, ifF, andV, orV, sliceF, partF, consA, nilA, tupF, lstF, callF, gt_i, ge_i, lt_i, le_i, eq_i, eq_b, neO, is_n, isn_n, isNone_n, isNone_i, isNone_t, isNone_p, isNone_b, ninO, sub_i, neg_i, forF, rangeF, decide_eq_true_eq, Bool.not_true, Bool.not_false, List.map_cons, List.map_nil, List.length_cons, List.length_nil, List.replicate, List.cons_append, List.nil_append, List.append_nil, Nat.reduceEqDiff, decide_false, decide_true, F106_ob]
  simp (disch := omega) only [F160, g160, runF, runX, seqF, brF, retF, datF, asgF, augF, ownF, exF, doneF', tupS1, tupF1, setMany, St.set, St.setOwn, put, look, andF, orF, notF, cmpF, chainF, boolF, valF, bF, nameF, cstF, RV.pv, RV.strong, binF, unF, ifF, andV, orV, sliceF, partF, consA, nilA, tupF, lstF, callF, gt_i, ge_i, lt_i, le_i, eq_i, eq_b, neO, is_n, isn_n, isNone_n, isNone_i, isNone_t, isNone_p, isNone_b, ninO, sub_i, neg_i, forF, rangeF, decide_eq_true_eq, Bool.not_true, Bool.not_false, List.map_cons, List.map_nil, List.length_cons, List.length_nil, List.replicate, List.cons_append, List.nil_append, List.append_nil, Nat.reduceEqDiff, decide_false, decide_true, split_b, compF, itemsK_l _ (show ((splitB 10 m).map PV.bytes).length ≤ 16777216 by rw [List.length_map]; omega), c0]
  unfold rowsOf
  rw [List.map_map]
  rfl
end Mine

namespace Mine
theorem bytesOf_map : ∀ l : List B, bytesOf (l.map .bytes) = some l
  | [] => rfl
  | a :: l => by rw [List.map_cons, bytesOf, bytesOf_map l]
theorem sumB_le (b : Nat) : ∀ l : List B, (∀ x ∈ l, x.length ≤ b) → sumB l ≤ l.length * b
  | [], _ => Nat.zero_le _
  | a :: l, h => by
    have h1 := h a (.head _)
    have h2 := sumB_le b l fun x hx => h x (.tail _ hx)
    rw [sumB, List.length_cons, Nat.succ_mul]
    omega
theorem join_b (c : UInt8) (l : List B) (h1 : l.length ≤ 901) (h2 : ∀ x ∈ l, x.length ≤ 900) : joinO (.bytes [c]) (.lst (l.map .bytes)) = some (.st (.bytes (joinB [c] l))) := by
  have h3 := sumB_le 900 l h2
  have h4 : l.length * 900 ≤ 901 * 900 := Nat.mul_le_mul_right _ h1
  have h5 : ([c] : B).length * l.length + sumB l ≤ 1000000 := by rw [List.length_cons, List.length_nil]; omega
  unfold joinO
  dsimp only
  rw [bytesOf_map]
  dsimp only
  rw [if_pos h5]
theorem item_l (l : List PV) (i : Nat) (h : i < l.length) (hx : l.length ≤ 16777216) : itemO (.lst l) (.int (i : Int)) = some (.st l[i]) := by
  rw [itemO, if_pos (by omega), Int.toNat_natCast, List.getElem?_eq_getElem h]
theorem item_bs (R : List B) (i : Nat) (h : i < R.length) (hx : R.length ≤ 16777216) : itemO (.lst (R.map .bytes)) (.int (i : Int)) = some (.st (.bytes R[i])) := by
  rw [item_l _ i (by rw [List.length_map]; exact h) (by rw [List.length_map]; exact hx), List.getElem_map]
theorem item_bi (R : List B) (i : Int) (n : Nat) (hi : i = (n : Int)) (h : n < R.length) (hx : R.length ≤ 16777216) : itemO (.lst (R.map .bytes)) (.int i) = some (.st (.bytes R[n])) := by
  subst hi
  exact item_bs R n h hx
theorem len_bs (R : List B) (h : R.length ≤ 16777216) : lenO (.lst (R.map .bytes)) = some (.st (.int R.length)) := by
  rw [len_l _ (by rw [List.length_map]; exact h), List.length_map]
theorem len1F (m z : Option PV) (R : List B) (i : Int) (d : DS) (hR : R.length ≤ 901) : cmpF ltO (nameF 2) (unF lenO (nameF 1)) ⟨[m, some (.lst (R.map .bytes)), some (.int i), z], none, d⟩ = some (decide (i < (R.length : Int)), d) :=
  cmp_ev (d := d) (a := .st (.int i)) (b := .st (.int (R.length : Int))) rfl (by simp only [unF, nameF, look, RV.pv, len_bs R (Nat.le_trans hR (by decide))]) rfl
theorem w167 (o : PV → PV → Option Bool) (p : B → Bool) (ho : ∀ x, o (.bytes x) (.bytes []) = some (p x)) (m z : Option PV) (R : List B) (d : DS) (hR : R.length ≤ 901) (k : Nat) : ∀ (n fuel : Nat) (i : Int), i = (n : Int) → n + k = R.length → k < fuel →
    whileF (andF (cmpF ltO (nameF 2) (unF lenO (nameF 1))) (andF (cmpF o (binF itemO (nameF 1) (nameF 2)) (cstF (.bytes []))) (bF true))) (seqF (augF 2 addO (cstF (.int 1))) doneF') fuel ⟨[m, some (.lst (R.map .bytes)), some (.int i), z], none, d⟩ =
    some (.nx ⟨[m, some (.lst (R.map .bytes)), some (.int (i + (((R.drop n).takeWhile p).length : Nat))), z], none, d⟩) := by
  induction k with
  | zero =>
    intro n fuel i hi h1 h2
    match fuel, h2 with
    | fuel + 1, h2 =>
    have hl := len1F m z R i d hR
    rw [decide_eq_false (Int.not_lt.mpr (hi ▸ h1 ▸ Int.le_refl _))] at hl
    rw [while_f (and_f hl), List.drop_of_length_le (show R.length ≤ n from Nat.le_of_eq h1.symm), List.takeWhile_nil, List.length_nil]
    show some (Out.nx ⟨[m, some (.lst (R.map .bytes)), some (.int i), z], none, d⟩) = _
    rw [show i + ((0 : Nat) : Int) = i from Int.add_zero i]
  | succ k ihk =>
    intro n fuel i hi h1 h2
    match fuel, h2 with
    | fuel + 1, h2 =>
    have hn : n < R.length := by omega
    have ih := ihk (n + 1) fuel (i + 1) (by rw [hi]; rfl) (by omega) (Nat.lt_of_succ_lt_succ h2)
    have hl := len1F m z R i d hR
    rw [decide_eq_true (hi ▸ Int.ofNat_lt.mpr hn)] at hl
    have hb := item_bi R i n hi hn (Nat.le_trans hR (by decide))
    have hT : (andF (cmpF ltO (nameF 2) (unF lenO (nameF 1))) (andF (cmpF o (binF itemO (nameF 1) (nameF 2)) (cstF (.bytes []))) (bF true))) ⟨[m, some (.lst (R.map .bytes)), some (.int i), z], none, d⟩ = some (true && (p R[n] && true), d) :=
      and_ev hl (and_ev (d := d) (cmp_ev (d := d) (a := .st (.bytes R[n])) (b := .st (.bytes [])) (by simp only [binF, nameF, look, RV.pv, hb]) rfl (ho _)) rfl)
    rw [Bool.true_and, Bool.and_true] at hT
    rw [List.drop_eq_getElem_cons hn, List.takeWhile_cons]
    cases q : p R[n] with
    | true =>
      rw [q] at hT
      rw [while_t (σ' := ⟨[m, some (.lst (R.map .bytes)), some (.int (i + 1)), z], none, d⟩) hT rfl, ih, if_pos rfl, List.length_cons, Int.natCast_succ, Int.add_assoc, Int.add_comm 1]
    | false =>
      rw [q] at hT
      rw [while_f hT, if_neg (by decide), List.length_nil]
      show some (Out.nx ⟨[m, some (.lst (R.map .bytes)), some (.int i), z], none, d⟩) = _
      rw [show i + ((0 : Nat) : Int) = i from Int.add_zero i]
noncomputable def para (R : List B) : List B := (R.dropWhile (·.isEmpty)).takeWhile (!·.isEmpty)
theorem take_tw {α : Type} (p : α → Bool) (x : List α) : x.take (x.takeWhile p).length = x.takeWhile p := (List.prefix_iff_eq_take.mp (List.takeWhile_prefix p)).symm
theorem slO_lmid (R : List B) (i j : Nat) (hx : R.length ≤ 16777216) : sliceO (.lst (R.map .bytes)) (some (i : Int)) (some (j : Int)) = some (.fr (((R.drop i).take (j - i)).map .bytes)) := by
  rw [sliceO, if_pos (by rw [List.length_map]; exact hx), sl_mid _ _ _ (by omega) (by omega), Int.toNat_natCast, Int.toNat_natCast, List.map_take, List.map_drop]
theorem rows_len (m : B) (hm : m.length ≤ 900) : (rowsOf m).length ≤ 901 ∧ ∀ r ∈ rowsOf m, r.length ≤ 900 := by
  have hs := splitB_size 10 m
  unfold rowsOf
  refine ⟨by rw [List.length_map]; omega, fun r hr => ?_⟩
  obtain ⟨p, hp, rfl⟩ := List.mem_map.mp hr
  have := cutE_len ob p
  have := hs.2 p hp
  omega
theorem slO_li (R : List B) (i j : Int) (a b : Nat) (hi : i = a) (hj : j = b) (hx : R.length ≤ 16777216) : sliceO (.lst (R.map .bytes)) (some i) (some j) = some (.fr (((R.drop a).take (b - a)).map .bytes)) := by
  subst hi hj
  exact slO_lmid R a b hx
theorem F167_at (m : B) (d : DS) (hm : m.length ≤ 900) : ∃ n : Int, F167 [.bytes m] d = some (.val (.tup [.bytes (joinB [32] (para (rowsOf m))), .int n]), d) := by
  obtain ⟨h1, h2⟩ := rows_len m hm
  have e160 := F160_at m d (by omega)
  generalize rowsOf m = R at *
  have w1 := w167 eqO (·.isEmpty) eqnil_b (some (.bytes m)) none R d h1 R.length 0 1000000 0 rfl (by omega) (by omega)
  rw [List.drop_zero] at w1
  have hm1 : (R.takeWhile (·.isEmpty)).length ≤ R.length := (List.takeWhile_prefix _).length_le
  obtain ⟨i, hi⟩ : ∃ i : Int, i = 0 + ((R.takeWhile (·.isEmpty)).length : Int) := ⟨_, rfl⟩
  rw [← hi] at w1
  have hi' : i = ((R.takeWhile (·.isEmpty)).length : Int) := by omega
  have w2 := w167 neO (!·.isEmpty) ne_b (some (.bytes m)) (some (.int i)) R d h1 (R.length - (R.takeWhile (·.isEmpty)).length) (R.takeWhile (·.isEmpty)).length 1000000 i hi' (by omega) (by omega)
  rw [drop_tw] at w2
  obtain ⟨j, hj⟩ : ∃ j : Int, j = i + (((R.dropWhile (·.isEmpty)).takeWhile (!·.isEmpty)).length : Int) := ⟨_, rfl⟩
  rw [← hj] at w2
  have hp : ∀ x ∈ para R, x ∈ R := fun x hx => (List.dropWhile_suffix _).subset ((List.takeWhile_prefix _).subset hx)
  have hpl : (para R).length ≤ R.length := Nat.le_trans (List.takeWhile_prefix _).length_le (List.dropWhile_suffix _).length_le
  have hjn := join_b 32 (para R) (by omega) fun x hx => h2 x (hp x hx)
  have hs : sliceO (.lst (R.map .bytes)) (some i) (some j) = some (.fr ((para R).map .bytes)) := by
    rw [slO_li R i j _ ((R.takeWhile (·.isEmpty)).length + ((R.dropWhile (·.isEmpty)).takeWhile (!·.isEmpty)).length) hi' (by omega) (by omega), Nat.add_sub_cancel_left, drop_tw, take_tw]
    rfl
  refine ⟨j, ?_⟩
  simp (disch := omega) only [F167, g167, runF, runX, seqF, brF, retF, datF, asgF, augF, ownF, exF, doneF', tupS1, tupF1, setMany, St.set, St.setOwn, put, look, andF, orF, notF, cmpF, chainF, boolF, valF, bF, nameF, cstF, RV.pv, RV.strong, binF, unF, ifF, andV, orV, sliceF, partF, consA, nilA, tupF, lstF, callF, gt_i, ge_i, lt_i, le_i, eq_i, eq_b, neO, is_n, isn_n, isNone_n, isNone_i, isNone_t, isNone_p, isNone_b, ninO, sub_i, neg_i, forF, rangeF, decide_eq_true_eq, Bool.not_true, Bool.not_false, List.map_cons, List.map_nil, List.length_cons, List.length_nil, List.replicate, List.cons_append, List.nil_append, List.append_nil, Nat.reduceEqDiff, decide_false, decide_true, e160, Nat.reduceAdd, Nat.reduceLeDiff, if_true, List.reverse_cons, List.reverse_nil, w1, w2, hs, hjn]
theorem F216_at (a b c e f : PV) (m : B) (d : DS) (hm : m.length ≤ 900) : F216 [.inst 219 [a, b, c, e, f, .bytes m]] d = some (.val (.bytes (joinB [32] (para (rowsOf m)))), d) := by
  obtain ⟨n, h⟩ := F167_at m d hm
  have t0 : itemO (.tup [.bytes (joinB [32] (para (rowsOf m))), .int n]) (.int 0) = some (.st (.bytes (joinB [32] (para (rowsOf m))))) := rfl
  simp only [F216, g216, runF, runX, seqF, brF, retF, datF, asgF, augF, ownF, exF, doneF', tupS1, tupF1, setMany, St.set, St.setOwn, put, look, andF, orF, notF, cmpF, chainF, boolF, valF, bF, nameF, cstF, RV.pv, RV.strong, binF, unF, ifF, andV, orV, sliceF, partF, consA, nilA, tupF, lstF, callF, gt_i, ge_i, lt_i, le_i, eq_i, eq_b, neO, is_n, isn_n, isNone_n, isNone_i, isNone_t, isNone_p, isNone_b, ninO, sub_i, neg_i, forF, rangeF, decide_eq_true_eq, Bool.not_true, Bool.not_false, List.map_cons, List.map_nil, List.length_cons, List.length_nil, List.replicate, List.cons_append, List.nil_append, List.append_nil, Nat.reduceEqDiff, decide_false, decide_true, attrF, List.getElem?_cons_zero, List.getElem?_cons_succ, h, t0]
end Mine

namespace Mine
theorem w278 (m f : Option PV) (o : Option (Nat × List PV)) (ho : ∀ j l, o = some (j, l) → j = 1) (r : Option PV) (d : DS) (n : Nat) : ∀ (x : B) (fuel : Nat), x.length = n → n ≤ 100000 → n < fuel → whileF (andF (cmpF inO (sliceF (nameF 3) (some (unF negO (cstF (.int 1)))) none) (tupF (consA (cstF (.bytes [32])) (consA (cstF (.bytes [9])) (consA (cstF (.bytes [13])) (consA (cstF (.bytes [11])) (consA (cstF (.bytes [12])) (nilA)))))))) (andF (cmpF neO (nameF 3) (cstF (.bytes []))) (bF true))) (seqF (datF 3 (sliceF (nameF 3) none (some (unF negO (cstF (.int 1)))))) (doneF')) fuel ⟨[m, f, r, some (.bytes x)], o, d⟩ = some (.nx ⟨[m, f, r, some (.bytes (cutE ob x))], o, d⟩) := by
  have hset : ∀ y : B, St.set (St.setD ⟨[m, f, r, some (.bytes y)], o, d⟩ d) 3 (.bytes y) = ⟨[m, f, r, some (.bytes y)], o, d⟩ := fun y => by
    cases o with
    | none => rfl
    | some p => obtain ⟨j, l⟩ := p; rw [ho j l rfl]; rfl
  have hset2 : ∀ y y' : B, St.set (St.setD ⟨[m, f, r, some (.bytes y)], o, d⟩ d) 3 (.bytes y') = ⟨[m, f, r, some (.bytes y')], o, d⟩ := fun y y' => by
    cases o with
    | none => rfl
    | some p => obtain ⟨j, l⟩ := p; rw [ho j l rfl]; rfl
  induction n with
  | zero =>
    intro x fuel hx hn hf
    match fuel, hf with
    | fuel + 1, hf =>
    rw [List.length_eq_zero_iff.mp hx, whileF]
    have s1 : sliceO (.bytes []) (some (-1)) none = some (.st (.bytes [])) := rfl
    simp only [runF, runX, seqF, brF, retF, datF, asgF, augF, ownF, exF, doneF', tupS1, tupF1, setMany, St.set, St.setOwn, put, look, andF, orF, notF, cmpF, chainF, boolF, valF, bF, nameF, cstF, RV.pv, RV.strong, binF, unF, ifF, andV, orV, sliceF, partF, consA, nilA, tupF, lstF, callF, gt_i, ge_i, lt_i, le_i, eq_i, eq_b, neO, is_n, isn_n, isNone_n, isNone_i, isNone_t, isNone_p, isNone_b, ninO, sub_i, neg_i, forF, rangeF, decide_eq_true_eq, Bool.not_true, Bool.not_false, List.map_cons, List.map_nil, List.length_cons, List.length_nil, List.replicate, List.cons_append, List.nil_append, List.append_nil, Nat.reduceEqDiff, decide_false, decide_true, s1, Nat.reduceAdd, Nat.reduceLeDiff, if_true, in_nil5, cutE_nil]
  | succ n ihn =>
    intro x fuel hx hn hf
    match fuel, hf with
    | fuel + 1, hf =>
    rcases List.eq_nil_or_concat x with e | ⟨y, c, e⟩
    · rw [e] at hx; cases hx
    · rw [List.concat_eq_append] at e
      subst e
      rw [List.length_append, List.length_cons, List.length_nil] at hx
      have ih := ihn y fuel (by omega) (by omega) (by omega)
      have hl : (y ++ [c]).length ≤ 16777216 := by rw [List.length_append, List.length_cons, List.length_nil]; omega
      have s1 : sliceO (.bytes (y ++ [c])) (some (-1)) none = some (.st (.bytes [c])) := by
        rw [slO_last _ hl, List.length_append, List.length_cons, List.length_nil, Nat.add_sub_cancel, List.drop_left]
      have s2 : sliceO (.bytes (y ++ [c])) none (some (-1)) = some (.st (.bytes y)) := by rw [slO_init _ hl]; simp
      have hne : neO (.bytes (y ++ [c])) (.bytes []) = some true := by rw [ne_b]; simp
      rw [whileF, cutE_snoc]
      cases q : ob c with
      | true =>
        simp only [seqF, datF, doneF', andF, cmpF, bF, nameF, cstF, unF, negO, look, sliceF, partF, tupF, consA, nilA, RV.pv, RV.strong, List.length_cons, List.length_nil, s1, s2, Nat.reduceAdd, Nat.reduceLeDiff, if_true, in_one5, q, hne, hset2]
        exact ih
      | false =>
        simp only [seqF, datF, doneF', andF, cmpF, bF, nameF, cstF, unF, negO, look, sliceF, partF, tupF, consA, nilA, RV.pv, RV.strong, List.length_cons, List.length_nil, s1, s2, Nat.reduceAdd, Nat.reduceLeDiff, if_true, in_one5, q, hne]
        rfl
noncomputable def resL : List B → List B → List B
  | L, [] => L
  | L, r :: rest => if (cutE ob r).isEmpty then (if L.isEmpty then resL [] rest else L) else resL (L ++ [cutE ob r]) rest
theorem resL_ne : ∀ (rest L : List B), L.isEmpty = false → resL L rest = L ++ (rest.map (cutE ob)).takeWhile (!·.isEmpty)
  | [], L, h => by rw [resL]; simp
  | r :: rest, L, h => by
    rw [resL, List.map_cons, List.takeWhile_cons]
    cases q : (cutE ob r).isEmpty with
    | true => rw [h]; simp
    | false =>
      simp only [Bool.false_eq_true, if_false, Bool.not_false, if_true]
      rw [resL_ne rest (L ++ [cutE ob r]) (by simp), List.append_assoc]
      rfl
theorem resL_nil : ∀ rest : List B, resL [] rest = para (rest.map (cutE ob))
  | [] => rfl
  | r :: rest => by
    unfold para
    rw [resL, List.map_cons, List.dropWhile_cons]
    cases q : (cutE ob r).isEmpty with
    | true =>
      simp only [if_true, List.isEmpty_nil]
      exact resL_nil rest
    | false =>
      simp only [Bool.false_eq_true, if_false, List.nil_append]
      rw [resL_ne rest _ (by simp), List.takeWhile_cons, q]
      rfl
theorem forGo_nx {i : Nat} {b : SF} {p : PV} {l : List PV} {σ σ' : St} (h : b (σ.set i p) = some (.nx σ')) : forGo i b (p :: l) σ = forGo i b l σ' := by rw [forGo, h]
theorem forGo_rt {i : Nat} {b : SF} {p : PV} {l : List PV} {σ : St} {r : Ret} {d : DS} (h : b (σ.set i p) = some (.rt r d)) : forGo i b (p :: l) σ = some (.rt r d) := by rw [forGo, h]
noncomputable def R278 (m : Option PV) (d : DS) (o : Option Out) (res : List B) : Prop := (∃ a b, o = some (.nx ⟨[m, none, a, b], some (1, res.map .bytes), d⟩) ∧ res.length ≤ 901 ∧ ∀ x ∈ res, x.length ≤ 900) ∨ o = some (.rt (.val (.bytes (joinB [32] res))) d)
theorem f278 (m : Option PV) (d : DS) (rest : List B) : ∀ (L : List B) (a b : Option PV), L.length + rest.length ≤ 901 → (∀ x ∈ L, x.length ≤ 900) → (∀ x ∈ rest, x.length ≤ 900) →
    R278 m d (forGo 2 (seqF (datF 3 (nameF 2)) (seqF (whileF (andF (cmpF inO (sliceF (nameF 3) (some (unF negO (cstF (.int 1)))) none) (tupF (consA (cstF (.bytes [32])) (consA (cstF (.bytes [9])) (consA (cstF (.bytes [13])) (consA (cstF (.bytes [11])) (consA (cstF (.bytes [12])) (nilA)))))))) (andF (cmpF neO (nameF 3) (cstF (.bytes []))) (bF true))) (seqF (datF 3 (sliceF (nameF 3) none (some (unF negO (cstF (.int 1)))))) (doneF')) 1000000) (seqF (brF (cmpF eqO (nameF 3) (cstF (.bytes []))) (seqF (brF (cmpF neO (nameF 1) (lstF (nilA))) (seqF (retF (binF joinO (cstF (.bytes [32])) (nameF 1))) (doneF')) (doneF')) (doneF')) (seqF (ownF 1 pushO (nameF 3)) (doneF'))) (doneF')))) (rest.map .bytes) ⟨[m, none, a, b], some (1, L.map .bytes), d⟩) (resL L rest) := by
  induction rest with
  | nil => exact fun L a b h1 h2 _ => .inl ⟨a, b, rfl, h1, h2⟩
  | cons r rest ih =>
    intro L a b h1 h2 h3
    have hr := h3 r (.head _)
    have h3' : ∀ x ∈ rest, x.length ≤ 900 := fun x hx => h3 x (.tail _ hx)
    have hl : L.length ≤ 901 := Nat.le_trans (Nat.le_add_right _ _) h1
    have h1' : L.length + 1 + rest.length ≤ 901 := by rw [Nat.add_assoc, Nat.add_comm 1]; exact h1
    have w := w278 m none (some (1, L.map .bytes)) (fun j l e => by cases e; rfl) (some (.bytes r)) d r.length r 1000000 rfl (Nat.le_trans hr (by decide)) (Nat.lt_of_le_of_lt hr (by decide))
    have hE : cmpF eqO (nameF 3) (cstF (.bytes [])) ⟨[m, none, some (.bytes r), some (.bytes (cutE ob r))], some (1, L.map .bytes), d⟩ = some ((cutE ob r).isEmpty, d) := cmp_ev (d := d) rfl rfl (eqnil_b _)
    rw [List.map_cons, resL]
    cases q : (cutE ob r).isEmpty with
    | true =>
      rw [q] at hE
      have hN : cmpF neO (nameF 1) (lstF nilA) ⟨[m, none, some (.bytes r), some (.bytes (cutE ob r))], some (1, L.map .bytes), d⟩ = some (!L.isEmpty, d) := cmp_ev (d := d) (a := .me (L.map .bytes)) rfl rfl (ne_nil PV.bytes L)
      cases qL : L.isEmpty with
      | true =>
        rw [qL] at hN
        rw [forGo_nx ((seq_nx (σ' := ⟨[m, none, some (.bytes r), some (.bytes r)], some (1, L.map .bytes), d⟩) rfl).trans ((seq_nx w).trans ((seq_nx ((br_t hE).trans ((seq_nx (br_f hN)).trans rfl))).trans rfl)))]
        have e : L = [] := List.isEmpty_iff.mp qL
        rw [e] at h1 ⊢
        exact ih [] _ _ (Nat.le_of_succ_le h1) (fun x hx => nomatch hx) h3'
      | false =>
        rw [qL] at hN
        have hj := join_b 32 L hl h2
        exact .inr (forGo_rt ((seq_nx (σ' := ⟨[m, none, some (.bytes r), some (.bytes r)], some (1, L.map .bytes), d⟩) rfl).trans ((seq_nx w).trans (seq_rt ((br_t hE).trans (seq_rt ((br_t hN).trans (seq_rt (by simp only [retF, binF, nameF, cstF, look, RV.pv, decide_true, hj]; rfl))))))))) 
    | false =>
      rw [q] at hE
      have hP : pushO (L.map .bytes) (.bytes (cutE ob r)) = some ((L ++ [cutE ob r]).map .bytes) := pushBs L _ hl
      rw [forGo_nx ((seq_nx (σ' := ⟨[m, none, some (.bytes r), some (.bytes r)], some (1, L.map .bytes), d⟩) rfl).trans ((seq_nx w).trans ((seq_nx ((br_f hE).trans ((seq_nx (σ' := ⟨[m, none, some (.bytes r), some (.bytes (cutE ob r))], some (1, (L ++ [cutE ob r]).map .bytes), d⟩) (by simp only [ownF, nameF, look, RV.strong, decide_true, hP])).trans rfl))).trans rfl)))]
      refine ih (L ++ [cutE ob r]) _ _ (by rw [List.length_append]; exact h1') (fun x hx => ?_) h3'
      rcases List.mem_append.mp hx with hx | hx
      · exact h2 x hx
      · rw [List.mem_singleton.mp hx]; exact Nat.le_trans (cutE_len ob r) hr
theorem F278_at (m : B) (d : DS) (hm : m.length ≤ 900) : F278 [.bytes m] d = some (.val (.bytes (joinB [32] (para (rowsOf m)))), d) := by
  have hs := splitB_size 10 m
  have hsp := split_b m 10 (by omega)
  have hit : itemsO (.lst ((splitB 10 m).map .bytes)) = some ((splitB 10 m).map .bytes) := if_pos ⟨List.all_eq_true.mpr fun p hp => by
    obtain ⟨i, _, rfl⟩ := List.mem_map.mp hp
    rfl, by rw [List.length_map]; omega⟩
  have hres : resL [] (splitB 10 m) = para (rowsOf m) := resL_nil _
  rcases f278 (some (.bytes m)) d (splitB 10 m) [] none none (by rw [List.length_nil]; omega) (fun x hx => nomatch hx) (fun x hx => by have := hs.2 x hx; omega) with ⟨a', b', e, h1, h2⟩ | e
  · rw [hres] at e h1 h2
    have hj := join_b 32 _ h1 h2
    rw [List.map_nil] at e
    simp only [F278, g278, runF, runX, seqF, brF, retF, datF, asgF, augF, ownF, exF, doneF', tupS1, tupF1, setMany, St.set, St.setOwn, put, look, andF, orF, notF, cmpF, chainF, boolF, valF, bF, nameF, cstF, RV.pv, RV.strong, binF, unF, ifF, andV, orV, sliceF, partF, consA, nilA, tupF, lstF, callF, gt_i, ge_i, lt_i, le_i, eq_i, eq_b, neO, is_n, isn_n, isNone_n, isNone_i, isNone_t, isNone_p, isNone_b, ninO, sub_i, neg_i, forF, rangeF, decide_eq_true_eq, Bool.not_true, Bool.not_false, List.map_cons, List.map_nil, List.length_cons, List.length_nil, List.replicate, List.cons_append, List.nil_append, List.append_nil, Nat.reduceEqDiff, decide_false, decide_true, St.setOwn, Nat.zero_le, if_true, hsp, hit, e, hj]
  · rw [hres, List.map_nil] at e
    simp only [F278, g278, runF, runX, seqF, brF, retF, datF, asgF, augF, ownF, exF, doneF', tupS1, tupF1, setMany, St.set, St.setOwn, put, look, andF, orF, notF, cmpF, chainF, boolF, valF, bF, nameF, cstF, RV.pv, RV.strong, binF, unF, ifF, andV, orV, sliceF, partF, consA, nilA, tupF, lstF, callF, gt_i, ge_i, lt_i, le_i, eq_i, eq_b, neO, is_n, isn_n, isNone_n, isNone_i, isNone_t, isNone_p, isNone_b, ninO, sub_i, neg_i, forF, rangeF, decide_eq_true_eq, Bool.not_true, Bool.not_false, List.map_cons, List.map_nil, List.length_cons, List.length_nil, List.replicate, List.cons_append, List.nil_append, List.append_nil, Nat.reduceEqDiff, decide_false, decide_true, St.setOwn, Nat.zero_le, if_true, hsp, hit, e]
end Mine

namespace Mine
noncomputable def E0 (r : B) : Bool := r.isEmpty
noncomputable def N0 (r : B) : Bool := !r.isEmpty
theorem item_last (Y : List B) (r : B) (h : Y.length ≤ 901) : itemO (.lst ((Y ++ [r]).map .bytes)) (.int (-1)) = some (.st (.bytes r)) := by
  have hl : ((Y ++ [r]).map PV.bytes).length = Y.length + 1 := by rw [List.length_map, List.length_append]; rfl
  rw [itemO, if_neg (by omega), if_pos (by rw [hl]; omega), hl, show ((-1 : Int) + ((Y.length + 1 : Nat) : Int)).toNat = Y.length by omega, List.getElem?_map, List.getElem?_append_right (Nat.le_refl _), Nat.sub_self]
  rfl
theorem pop_at (m a b : Option PV) (Y : List B) (r : B) (d : DS) (h : Y.length ≤ 901) : popF 1 ⟨[m, none, a, b], some (1, (Y ++ [r]).map .bytes), d⟩ = some (.nx ⟨[m, none, a, b], some (1, Y.map .bytes), d⟩) := by
  have hl : ((Y ++ [r]).map PV.bytes).length ≤ 16777216 := by rw [List.length_map, List.length_append, List.length_cons, List.length_nil]; omega
  have h1 : ((Y ++ [r]).map PV.bytes).getLast? = some (.bytes r) := by simp
  have h2 : ((Y ++ [r]).map PV.bytes).dropLast = Y.map .bytes := by simp
  simp only [popF, decide_true, h1, hl, if_true, h2]
theorem snoc_of {α : Type} {R : List α} {n : Nat} (h : R.length = n + 1) : ∃ Y r, R = Y ++ [r] ∧ Y.length = n := by
  rcases List.eq_nil_or_concat R with e | ⟨Y, r, e⟩
  · rw [e] at h; cases h
  · rw [List.concat_eq_append] at e
    rw [e, List.length_append] at h
    exact ⟨Y, r, e, Nat.succ.inj h⟩
theorem w181a (m a b : Option PV) (d : DS) (n : Nat) : ∀ (R : List B) (fuel : Nat), R.length = n → n ≤ 901 → n < fuel → whileF (andF (cmpF gtO (unF lenO (nameF 1)) (cstF (.int 0))) (andF (cmpF eqO (binF itemO (nameF 1) (unF negO (cstF (.int 1)))) (cstF (.bytes []))) (bF true))) (seqF (popF 1) (doneF')) fuel ⟨[m, none, a, b], some (1, R.map .bytes), d⟩ = some (.nx ⟨[m, none, a, b], some (1, (cutE E0 R).map .bytes), d⟩) := by
  induction n with
  | zero =>
    intro R fuel hR hn hf
    match fuel, hf with
    | fuel + 1, hf =>
    rw [List.length_eq_zero_iff.mp hR]
    exact while_f (and_f (cmp_ev (d := d) (a := .st (.int 0)) (b := .st (.int 0)) rfl rfl rfl))
  | succ n ihn =>
    intro R fuel hR hn hf
    match fuel, hf with
    | fuel + 1, hf =>
    obtain ⟨Y, r, rfl, hY⟩ := snoc_of hR
    have hY9 : Y.length ≤ 901 := hY ▸ Nat.le_of_succ_le hn
    have hl := len_bs (Y ++ [r]) (hR ▸ Nat.le_trans hn (by decide))
    rw [hR] at hl
    have hi := item_last Y r hY9
    have hT : _ = some (true && (r.isEmpty && true), d) := and_ev (t := cmpF gtO (unF lenO (nameF 1)) (cstF (.int 0))) (u := andF (cmpF eqO (binF itemO (nameF 1) (unF negO (cstF (.int 1)))) (cstF (.bytes []))) (bF true)) (σ := ⟨[m, none, a, b], some (1, (Y ++ [r]).map .bytes), d⟩) (d := d)
      (cmp_ev (d := d) (a := .st (.int ((n + 1 : Nat) : Int))) (by simp only [unF, nameF, look, RV.pv, decide_true, hl]) rfl (gt_s n)) (and_ev (d := d) (cmp_ev (d := d) (a := .st (.bytes r)) (by simp only [binF, unF, neg_i, nameF, cstF, look, RV.pv, decide_true, hi]) rfl (eqnil_b r)) rfl)
    rw [Bool.true_and, Bool.and_true] at hT
    rw [cutE_snoc]
    cases q : r.isEmpty with
    | true =>
      rw [q] at hT
      rw [while_t hT ((seq_nx (pop_at m a b Y r d hY9)).trans rfl), ihn Y fuel hY (Nat.le_of_succ_le hn) (Nat.lt_of_succ_lt_succ hf), show E0 r = true from q]
      rfl
    | false =>
      rw [q] at hT
      rw [while_f hT, show E0 r = false from q]
      rfl
theorem w181b (m b : Option PV) (R : List B) (d : DS) (hR : R.length ≤ 901) (n : Nat) : ∀ (fuel : Nat) (i j : Int), i = (n : Int) → j = ((cutE N0 (R.take n)).length : Int) → n ≤ R.length → n < fuel → whileF (andF (cmpF gtO (nameF 2) (cstF (.int 0))) (andF (cmpF neO (binF itemO (nameF 1) (binF subO (nameF 2) (cstF (.int 1)))) (cstF (.bytes []))) (bF true))) (seqF (augF 2 subO (cstF (.int 1))) (doneF')) fuel ⟨[m, none, some (.int i), b], some (1, R.map .bytes), d⟩ = some (.nx ⟨[m, none, some (.int j), b], some (1, R.map .bytes), d⟩) := by
  induction n with
  | zero =>
    intro fuel i j hi hj hn hf
    match fuel, hf with
    | fuel + 1, hf =>
    rw [List.take_zero, cutE_nil, List.length_nil] at hj
    rw [hi, hj]
    exact while_f (and_f (cmp_ev (d := d) (a := .st (.int ((0 : Nat) : Int))) (b := .st (.int 0)) rfl rfl rfl))
  | succ n ihn =>
    intro fuel i j hi hj hn hf
    match fuel, hf with
    | fuel + 1, hf =>
    have hp : i - 1 = (n : Int) := by rw [hi, pred_s]
    have hb := item_bi R (i - 1) n hp hn (Nat.le_trans hR (by decide))
    rw [List.take_succ_eq_append_getElem hn, cutE_snoc] at hj
    have hT : _ = some (true && (N0 R[n] && true), d) := and_ev (t := cmpF gtO (nameF 2) (cstF (.int 0))) (u := andF (cmpF neO (binF itemO (nameF 1) (binF subO (nameF 2) (cstF (.int 1)))) (cstF (.bytes []))) (bF true)) (σ := ⟨[m, none, some (.int i), b], some (1, R.map .bytes), d⟩) (d := d)
      (cmp_ev (d := d) (a := .st (.int i)) (b := .st (.int 0)) rfl rfl (by rw [hi]; exact gt_s n)) (and_ev (d := d) (cmp_ev (d := d) (a := .st (.bytes R[n])) (b := .st (.bytes [])) (by simp only [binF, nameF, cstF, look, RV.pv, sub_i, decide_true, hb]) rfl (ne_b R[n])) rfl)
    rw [Bool.true_and, Bool.and_true] at hT
    cases q : N0 R[n] with
    | true =>
      rw [q] at hT hj
      rw [while_t (σ' := ⟨[m, none, some (.int (i - 1)), b], some (1, R.map .bytes), d⟩) hT rfl]
      exact ihn fuel (i - 1) j hp hj (Nat.le_of_succ_le hn) (Nat.lt_of_succ_lt_succ hf)
    | false =>
      rw [q, if_neg (by decide), List.length_append, List.length_take, Nat.min_eq_left (Nat.le_of_succ_le hn)] at hj
      rw [q] at hT
      rw [while_f hT, hi, hj]
      rfl
theorem slO_llo (R : List B) (i : Int) (a : Nat) (hi : i = a) (hx : R.length ≤ 16777216) : sliceO (.lst (R.map .bytes)) (some i) none = some (.fr ((R.drop a).map .bytes)) := by
  subst hi
  rw [sliceO, if_pos (by rw [List.length_map]; exact hx), sl_lo _ _ (by omega), Int.toNat_natCast, List.map_drop]
theorem slO_lhi (R : List B) (i : Int) (a : Nat) (hi : i = a) (hx : R.length ≤ 16777216) : sliceO (.lst (R.map .bytes)) none (some i) = some (.fr ((R.take a).map .bytes)) := by
  subst hi
  rw [sliceO, if_pos (by rw [List.length_map]; exact hx), sl_hi _ _ (by omega), Int.toNat_natCast, List.map_take]
theorem f181 (m : Option PV) (R : List B) (d : DS) (i : Int) (n : Nat) (hi : i = n) (hR : R.length ≤ 901) : ∀ (l : List B) (b : Option PV), ∃ b', forGo 3 (seqF (brF (cmpF neO (nameF 3) (cstF (.bytes []))) (seqF (retF (sliceF (nameF 1) (some (nameF 2)) none)) (doneF')) (doneF')) (doneF')) (l.map .bytes) ⟨[m, none, some (.int i), b], some (1, R.map .bytes), d⟩ =
    if l.any N0 then some (.rt (.own ((R.drop n).map .bytes)) d) else some (.nx ⟨[m, none, some (.int i), b'], some (1, R.map .bytes), d⟩)
  | [], b => ⟨b, rfl⟩
  | r :: l, b => by
    obtain ⟨b', ih⟩ := f181 m R d i n hi hR l (some (.bytes r))
    refine ⟨b', ?_⟩
    have hs := slO_llo R i n hi (by omega)
    rw [List.map_cons, forGo, List.any_cons]
    cases q : N0 r with
    | true =>
      have q' : (!r.isEmpty) = true := q
      simp only [seqF, brF, retF, doneF', cmpF, nameF, cstF, sliceF, partF, look, St.set, put, Nat.reduceEqDiff, RV.pv, decide_true, decide_false, ne_b, q', hs, Bool.true_or, if_true]
    | false =>
      have q' : (!r.isEmpty) = false := q
      simp only [seqF, brF, retF, doneF', cmpF, nameF, cstF, sliceF, partF, look, St.set, put, Nat.reduceEqDiff, RV.pv, decide_true, decide_false, ne_b, q', Bool.false_or]
      exact ih
noncomputable def lastPart (R : List B) : List B := if (cutE N0 (cutE E0 R)).any N0 then (cutE E0 R).drop (cutE N0 (cutE E0 R)).length else []
theorem items_bs (l : List B) (h : l.length ≤ 901) : itemsO (.lst (l.map .bytes)) = some (l.map .bytes) := if_pos ⟨List.all_eq_true.mpr fun p hp => by
    obtain ⟨i, _, rfl⟩ := List.mem_map.mp hp
    rfl, by rw [List.length_map]; omega⟩
theorem F181_at (m : B) (d : DS) (hm : m.length ≤ 900) : F181 [.bytes m] d = some (.own ((lastPart (rowsOf m)).map .bytes), d) := by
  obtain ⟨h1, h2⟩ := rows_len m hm
  have e160 := F160_at m d (by omega)
  generalize rowsOf m = R at *
  have w1 := w181a (some (.bytes m)) none none d R.length R 1000000 rfl h1 (by omega)
  have hl1 := cutE_len E0 R
  unfold lastPart
  generalize hR1 : cutE E0 R = R1 at *
  obtain ⟨i, hi⟩ : ∃ i : Int, i = (R1.length : Int) := ⟨_, rfl⟩
  obtain ⟨j, hj⟩ : ∃ j : Int, j = ((cutE N0 R1).length : Int) := ⟨_, rfl⟩
  have w2 := w181b (some (.bytes m)) none R1 d (by omega) R1.length 1000000 i j hi (by rw [List.take_length]; exact hj) (Nat.le_refl _) (by omega)
  have hln := len_bs R1 (by omega)
  rw [← hi] at hln
  have hs := slO_lhi R1 j _ hj (by omega)
  rw [cutE_take] at hs
  have hl2 := cutE_len N0 R1
  have hit := items_bs (cutE N0 R1) (by omega)
  obtain ⟨b', e⟩ := f181 (some (.bytes m)) R1 d j _ hj (by omega) (cutE N0 R1) none
  cases q : (cutE N0 R1).any N0 with
  | true =>
    rw [q, if_pos rfl] at e
    simp only [F181, g181, runF, runX, seqF, brF, retF, datF, asgF, augF, ownF, exF, doneF', tupS1, tupF1, setMany, St.set, St.setOwn, put, look, andF, orF, notF, cmpF, chainF, boolF, valF, bF, nameF, cstF, RV.pv, RV.strong, binF, unF, ifF, andV, orV, sliceF, partF, consA, nilA, tupF, lstF, callF, gt_i, ge_i, lt_i, le_i, eq_i, eq_b, neO, is_n, isn_n, isNone_n, isNone_i, isNone_t, isNone_p, isNone_b, ninO, sub_i, neg_i, forF, rangeF, decide_eq_true_eq, Bool.not_true, Bool.not_false, List.map_cons, List.map_nil, List.length_cons, List.length_nil, List.replicate, List.cons_append, List.nil_append, List.append_nil, Nat.reduceEqDiff, decide_false, decide_true, e160, w1, hln, w2, hs, hit, e, if_true]
  | false =>
    rw [q, if_neg (by simp)] at e
    simp only [F181, g181, runF, runX, seqF, brF, retF, datF, asgF, augF, ownF, exF, doneF', tupS1, tupF1, setMany, St.set, St.setOwn, put, look, andF, orF, notF, cmpF, chainF, boolF, valF, bF, nameF, cstF, RV.pv, RV.strong, binF, unF, ifF, andV, orV, sliceF, partF, consA, nilA, tupF, lstF, callF, gt_i, ge_i, lt_i, le_i, eq_i, eq_b, neO, is_n, isn_n, isNone_n, isNone_i, isNone_t, isNone_p, isNone_b, ninO, sub_i, neg_i, forF, rangeF, decide_eq_true_eq, Bool.not_true, Bool.not_false, List.map_cons, List.map_nil, List.length_cons, List.length_nil, List.replicate, List.cons_append, List.nil_append, List.append_nil, Nat.reduceEqDiff, decide_false, decide_true, e160, w1, hln, w2, hs, hit, e, Nat.zero_le, if_true, Bool.false_eq_true, if_false]
end Mine

namespace Mine
noncomputable def PK : B := [40, 99, 104, 101, 114, 114, 121, 32, 112, 105, 99, 107, 101, 100, 32, 102, 114, 111, 109, 32, 99, 111, 109, 109, 105, 116, 32]
noncomputable def SO : B := [83, 105, 103, 110, 101, 100, 45, 111, 102, 102, 45, 98, 121]
noncomputable def isP (r : B) : Bool := r.take 27 == PK
theorem starts_p (r : B) : startsO (.bytes r) (.bytes [40, 99, 104, 101, 114, 114, 121, 32, 112, 105, 99, 107, 101, 100, 32, 102, 114, 111, 109, 32, 99, 111, 109, 109, 105, 116, 32]) = some (.st (.bool (isP r))) := rfl
structure OS where
  found : List (B × B)
  others : Nat
  picked : Nat
  made : Nat
  op : Bool
noncomputable def modL (f : B × B → B × B) (l : List (B × B)) : List (B × B) := match l.getLast? with
  | some p => l.dropLast ++ [f p]
  | none => l
theorem modL_snoc (f : B × B → B × B) (Y : List (B × B)) (p : B × B) : modL f (Y ++ [p]) = Y ++ [f p] := by
  unfold modL
  rw [List.getLast?_append, List.getLast?_singleton]
  simp
noncomputable def told (r : B) : Option (B × B) := if hb r then none else tof r
noncomputable def bN (b : Bool) : Nat := match b with | true => 1 | false => 0
noncomputable def trO (s : OS) (r : B) : OS := match isP r with
  | true => ⟨s.found, s.others, s.picked + 1, s.made + 1, false⟩
  | false => match told r with
    | some p => ⟨s.found ++ [p], s.others, s.picked, s.made + bN (p.1 == SO), true⟩
    | none => match s.op && hb r with
      | true => ⟨modL (fun p => (p.1, trimB ob (p.2 ++ [32] ++ trimB ob r))) s.found, s.others, s.picked, s.made, s.op⟩
      | false => ⟨s.found, s.others + 1, s.picked, s.made, false⟩
noncomputable def finO (s : OS) : List (B × B) := if decide (0 < s.others) && (s.made == 0 || decide (3 * (s.found.length + s.picked) < s.others)) then [] else s.found
theorem item_t0 (p : B × B) : itemO (tupOf p) (.int 0) = some (.st (.bytes p.1)) := rfl
theorem item_t1 (p : B × B) : itemO (tupOf p) (.int 1) = some (.st (.bytes p.2)) := rfl
theorem item_lt (Y : List (B × B)) (p : B × B) (h : Y.length ≤ 901) : itemO (.lst ((Y ++ [p]).map tupOf)) (.int (-1)) = some (.st (tupOf p)) := by
  have hl : ((Y ++ [p]).map tupOf).length = Y.length + 1 := by rw [List.length_map, List.length_append]; rfl
  rw [itemO, if_neg (by omega), if_pos (by rw [hl]; omega), hl, show ((-1 : Int) + ((Y.length + 1 : Nat) : Int)).toNat = Y.length by omega, List.getElem?_map, List.getElem?_append_right (Nat.le_refl _), Nat.sub_self]
  rfl
theorem setLast_at (Y : List (B × B)) (p q : B × B) : setLastO ((Y ++ [p]).map tupOf) (tupOf q) = some ((Y ++ [q]).map tupOf) := by
  have h : ∀ l : List PV, l ≠ [] → ∀ x, setLastO l x = some (l.dropLast ++ [x]) := fun l hl x => by
    cases l with
    | nil => exact absurd rfl hl
    | cons _ _ => rfl
  rw [List.map_append, List.map_append, List.map_singleton, List.map_singleton, h _ (by simp), List.dropLast_concat]
theorem last_facts {F : List (B × B)} (hne : F ≠ []) (hl : F.length ≤ 901) : ∃ p, p ∈ F ∧ itemO (.lst (F.map tupOf)) (.int (-1)) = some (.st (tupOf p)) ∧ ∀ f : B × B → B × B, setLastO (F.map tupOf) (tupOf (f p)) = some ((modL f F).map tupOf) := by
  rcases List.eq_nil_or_concat F with e | ⟨Y, p, e⟩
  · exact absurd e hne
  · rw [List.concat_eq_append] at e
    subst e
    rw [List.length_append, List.length_cons, List.length_nil] at hl
    exact ⟨p, by simp, item_lt Y p (Nat.le_of_succ_le hl), fun f => by rw [modL_snoc]; exact setLast_at Y p (f p)⟩
theorem cont_add (v u : B) (hv : v.length ≤ 90600) (hu : u.length ≤ 300) : addO (.bytes v) (.bytes [32]) = some (.st (.bytes (v ++ [32]))) ∧ addO (.bytes (v ++ [32])) (.bytes u) = some (.st (.bytes (v ++ [32] ++ u))) ∧ (v ++ [32] ++ u).length ≤ 100000 := by
  have h1 : (v ++ [32]).length ≤ 90601 := by rw [List.length_append]; exact Nat.succ_le_succ hv
  refine ⟨add_b _ _ (Nat.le_trans (Nat.succ_le_succ hv) (by decide)), add_b _ _ (Nat.le_trans (Nat.add_le_add h1 hu) (by decide)), ?_⟩
  rw [List.length_append]
  exact Nat.le_trans (Nat.add_le_add h1 hu) (by decide)
theorem val_le {k n : Nat} (hk : k ≤ 300) (h : n ≤ k * 302) : n ≤ 90600 := Nat.le_trans h (Nat.mul_le_mul_right 302 hk)
theorem pushT (L : List (B × B)) (p : B × B) (h : L.length ≤ 901) : pushO (L.map tupOf) (tupOf p) = some ((L ++ [p]).map tupOf) := by
  rw [push_at _ _ (by rw [List.length_map]; omega), List.map_append]; rfl
theorem int_b (b : Bool) : intO (.bool b) = some (.st (.int (bN b : Nat))) := by cases b <;> rfl
structure Vk (k : Nat) (F : List (B × B)) : Prop where
  len : F.length ≤ k
  val : ∀ p ∈ F, p.2.length ≤ k * 302
theorem mul_step (k : Nat) : k * 302 ≤ (k + 1) * 302 := Nat.mul_le_mul_right _ (Nat.le_succ k)
theorem Vk.keep {k : Nat} {F : List (B × B)} (h : Vk k F) : Vk (k + 1) F := ⟨Nat.le_succ_of_le h.len, fun p hp => Nat.le_trans (h.val p hp) (mul_step k)⟩
theorem Vk.push {k : Nat} {F : List (B × B)} (h : Vk k F) {p : B × B} (hp : p.2.length ≤ 302) : Vk (k + 1) (F ++ [p]) := by
  refine ⟨by rw [List.length_append]; exact Nat.succ_le_succ h.len, fun q hq => ?_⟩
  rcases List.mem_append.mp hq with hq | hq
  · exact h.keep.val q hq
  · rw [List.mem_singleton.mp hq, Nat.succ_mul]
    exact Nat.le_trans hp (Nat.le_add_left _ _)
theorem Vk.mod {k : Nat} {F : List (B × B)} (h : Vk k F) {f : B × B → B × B} (hf : ∀ p ∈ F, (f p).2.length ≤ p.2.length + 302) : Vk (k + 1) (modL f F) := by
  rcases List.eq_nil_or_concat F with e | ⟨Y, p, e⟩
  · subst e
    exact h.keep
  · rw [List.concat_eq_append] at e
    subst e
    rw [modL_snoc]
    refine ⟨by have := h.keep.len; rw [List.length_append] at this ⊢; exact this, fun q hq => ?_⟩
    rcases List.mem_append.mp hq with hq | hq
    · exact h.keep.val q (List.mem_append_left _ hq)
    · rw [List.mem_singleton.mp hq, Nat.succ_mul]
      have hp : p ∈ Y ++ [p] := by simp
      exact Nat.le_trans (hf p hp) (Nat.add_le_add_right (h.val p hp) _)
theorem modL_ne {f : B × B → B × B} {F : List (B × B)} (h : F ≠ []) : modL f F ≠ [] := by
  rcases List.eq_nil_or_concat F with e | ⟨Y, p, e⟩
  · exact absurd e h
  · rw [e, List.concat_eq_append, modL_snoc]; simp
theorem trim_len (p : UInt8 → Bool) (x : B) : (trimB p x).length ≤ x.length := Nat.le_trans (cutE_len _ _) (List.dropWhile_suffix p).length_le
theorem tof_len {r : B} {p : B × B} (h : tof r = some p) : p.2.length ≤ r.length := by
  unfold tof at h
  split at h
  · split at h
    · cases h
    · split at h
      · cases h
        have := trim_len ob (r.drop (‹Nat› + 2))
        rw [List.length_drop] at this
        dsimp only
        omega
      · cases h
  · cases h
theorem cont_len (q : UInt8 → Bool) {r : B} (hr : r.length ≤ 300) (v : B) : (trimB q (v ++ [32] ++ trimB q r)).length ≤ v.length + 302 := by
  refine Nat.le_trans (trim_len q _) ?_
  rw [List.length_append, List.length_append, Nat.add_assoc]
  exact Nat.add_le_add_left (Nat.le_trans (Nat.add_le_add_left (Nat.le_trans (trim_len q r) hr) _) (by decide)) _
structure OkS (k : Nat) (s : OS) : Prop where
  v : Vk k s.found
  op : s.op = true → s.found ≠ []
theorem OkS.step {k : Nat} {s : OS} {r : B} (h : OkS k s) (hr : r.length ≤ 300) : OkS (k + 1) (trO s r) := by
  unfold trO
  cases isP r with
  | true => exact ⟨h.v.keep, fun e => nomatch e⟩
  | false =>
    cases q : told r with
    | some p =>
      refine ⟨h.v.push ?_, fun _ => by simp⟩
      unfold told at q
      split at q
      · cases q
      · exact Nat.le_trans (tof_len q) (Nat.le_trans hr (by decide))
    | none =>
      cases q2 : s.op && hb r with
      | true =>
        rw [Bool.and_eq_true] at q2
        exact ⟨h.v.mod fun p _ => cont_len ob hr p.2, fun _ => modL_ne (h.op q2.1)⟩
      | false => exact ⟨h.v.keep, fun e => nomatch e⟩
noncomputable def osSt (m : Option PV) (s : OS) (a b c e : Option PV) (d : DS) : St := ⟨[m, none, some (.int (s.others : Nat)), some (.int (s.picked : Nat)), some (.int (s.made : Nat)), some (.bool s.op), a, b, c, e], some (1, s.found.map tupOf), d⟩
theorem told188 (m : Option PV) (d : DS) (s : OS) (r : B) (hr : r.length ≤ 300) (b c e : Option PV) : datF 7 (ifF (cmpF ninO (sliceF (nameF 6) none (some (cstF (.int 1)))) (tupF (consA (cstF (.bytes [32])) (consA (cstF (.bytes [9])) (nilA))))) (callF F174 (consA (nameF 6) (nilA))) (cstF .none)) (osSt m s (some (.bytes r)) b c e d) = some (.nx (osSt m s (some (.bytes r)) (some (optP (told r))) c e d)) := by
  have s1 : sliceO (.bytes r) none (some 1) = some (.st (.bytes (r.take 1))) := sN_hi r 1 (Nat.le_trans hr (by decide))
  have e174 := F174_at r d (Nat.le_trans hr (by decide))
  have hc : cmpF ninO (sliceF (nameF 6) none (some (cstF (.int 1)))) (tupF (consA (cstF (.bytes [32])) (consA (cstF (.bytes [9])) (nilA)))) (osSt m s (some (.bytes r)) b c e d) = some (!hb r, d) := by
    simp only [cmpF, ninO, sliceF, partF, tupF, consA, nilA, nameF, cstF, osSt, look, RV.pv, RV.strong, s1, in_hd, List.length_cons, List.length_nil, Nat.reduceAdd, Nat.reduceLeDiff, if_true]
  have ht : ∀ x, x = hb r → (ifF (cmpF ninO (sliceF (nameF 6) none (some (cstF (.int 1)))) (tupF (consA (cstF (.bytes [32])) (consA (cstF (.bytes [9])) (nilA))))) (callF F174 (consA (nameF 6) (nilA))) (cstF .none)) (osSt m s (some (.bytes r)) b c e d) = some (.st (optP (told r)), d) := fun x hx => by
    unfold told ifF
    rw [hc, ← hx]
    cases x with
    | true => rfl
    | false =>
      show callF F174 (consA (nameF 6) (nilA)) (osSt m s (some (.bytes r)) b c e d) = _
      simp only [callF, consA, nilA, nameF, osSt, look, RV.strong, e174, Bool.false_eq_true, if_false]
  unfold datF
  rw [ht _ rfl]
  rfl
theorem b188 (m : Option PV) (d : DS) (k : Nat) (hk : k ≤ 300) (s : OS) (hs : OkS k s) (r : B) (hr : r.length ≤ 300) (a b c e : Option PV) : ∃ b' c' e', (seqF (datF 7 (ifF (cmpF ninO (sliceF (nameF 6) none (some (cstF (.int 1)))) (tupF (consA (cstF (.bytes [32])) (consA (cstF (.bytes [9])) (nilA))))) (callF F174 (consA (nameF 6) (nilA))) (cstF .none))) (seqF (brF (valF (binF startsO (nameF 6) (cstF (.bytes [40, 99, 104, 101, 114, 114, 121, 32, 112, 105, 99, 107, 101, 100, 32, 102, 114, 111, 109, 32, 99, 111, 109, 109, 105, 116, 32])))) (seqF (tupS1 [5, 4, 3] (tupF (consA (binF addO (nameF 3) (cstF (.int 1))) (consA (binF addO (nameF 4) (cstF (.int 1))) (consA (cstF (.bool false)) (nilA)))))) (doneF')) (seqF (brF (cmpF isnO (nameF 7) (cstF .none)) (seqF (ownF 1 pushO (nameF 7)) (seqF (tupS1 [5, 4] (tupF (consA (binF addO (nameF 4) (unF intO (boolF (cmpF eqO (binF itemO (nameF 7) (cstF (.int 0))) (cstF (.bytes [83, 105, 103, 110, 101, 100, 45, 111, 102, 102, 45, 98, 121])))))) (consA (cstF (.bool true)) (nilA))))) (doneF'))) (seqF (brF (andF (valF (nameF 5)) (andF (cmpF inO (sliceF (nameF 6) none (some (cstF (.int 1)))) (tupF (consA (cstF (.bytes [32])) (consA (cstF (.bytes [9])) (nilA))))) (bF true))) (seqF (tupF1 [8, 9] (binF itemO (nameF 1) (unF negO (cstF (.int 1))))) (seqF (ownF 1 setLastO (tupF (consA (nameF 8) (consA (callF F99 (consA (binF addO (binF addO (nameF 9) (cstF (.bytes [32]))) (callF F99 (consA (nameF 6) (consA (cstF (.bytes [32, 9, 13, 11, 12])) (nilA))))) (consA (cstF (.bytes [32, 9, 13, 11, 12])) (nilA)))) (nilA))))) (doneF'))) (seqF (tupS1 [5, 2] (tupF (consA (binF addO (nameF 2) (cstF (.int 1))) (consA (cstF (.bool false)) (nilA))))) (doneF'))) (doneF'))) (doneF'))) (doneF'))) (osSt m s (some (.bytes r)) b c e d) = some (.nx (osSt m (trO s r) (some (.bytes r)) b' c' e' d)) := by
  have hP : (valF (binF startsO (nameF 6) (cstF (.bytes [40, 99, 104, 101, 114, 114, 121, 32, 112, 105, 99, 107, 101, 100, 32, 102, 114, 111, 109, 32, 99, 111, 109, 109, 105, 116, 32])))) (osSt m s (some (.bytes r)) (some (optP (told r))) c e d) = some (isP r, d) := rfl
  rw [seq_nx (told188 m d s r hr b c e)]
  have hT : trO s r = match isP r with
    | true => ⟨s.found, s.others, s.picked + 1, s.made + 1, false⟩
    | false => match told r with
      | some p => ⟨s.found ++ [p], s.others, s.picked, s.made + bN (p.1 == SO), true⟩
      | none => match s.op && hb r with
        | true => ⟨modL (fun p => (p.1, trimB ob (p.2 ++ [32] ++ trimB ob r))) s.found, s.others, s.picked, s.made, s.op⟩
        | false => ⟨s.found, s.others + 1, s.picked, s.made, false⟩ := rfl
  generalize isP r = qp at hP hT
  cases qp with
  | true => exact ⟨some (optP (told r)), c, e, (seq_nx (br_t hP)).trans (congrArg (fun s => some (Out.nx (osSt m s (some (.bytes r)) (some (optP (told r))) c e d))) hT.symm)⟩
  | false =>
    cases qT : told r with
    | some p =>
      rw [qT] at hP hT
      have hPu := pushT s.found p (Nat.le_trans hs.v.len (Nat.le_trans hk (by decide)))
      have hE : eqO (.bytes p.1) (.bytes [83, 105, 103, 110, 101, 100, 45, 111, 102, 102, 45, 98, 121]) = some (p.1 == SO) := rfl
      have x1 : ownF 1 pushO (nameF 7) (osSt m s (some (.bytes r)) (some (tupOf p)) c e d) = some (.nx (osSt m ⟨s.found ++ [p], s.others, s.picked, s.made, s.op⟩ (some (.bytes r)) (some (tupOf p)) c e d)) := by
        simp only [ownF, nameF, osSt, look, RV.strong, decide_true, hPu]
      refine ⟨some (tupOf p), c, e, (seq_nx ((br_f hP).trans ((seq_nx ((br_t (d := d) rfl).trans ((seq_nx x1).trans (seq_nx (σ' := osSt m ⟨s.found ++ [p], s.others, s.picked, s.made + bN (p.1 == SO), true⟩ (some (.bytes r)) (some (tupOf p)) c e d) ?_)))).trans rfl))).trans (congrArg (fun s => some (Out.nx (osSt m s (some (.bytes r)) (some (tupOf p)) c e d))) hT.symm)⟩
      simp only [tupS1, tupF, consA, nilA, binF, unF, boolF, cmpF, nameF, cstF, osSt, look, RV.pv, RV.strong, item_t0, hE, int_b, add_i, ← Int.natCast_add, List.length_cons, List.length_nil, Nat.reduceAdd, Nat.reduceLeDiff, if_true, List.reverse_cons, List.reverse_nil, List.nil_append, List.cons_append, setMany, St.set, put, Nat.reduceEqDiff, decide_false]
    | none =>
      rw [qT] at hP hT
      have s1 : sliceO (.bytes r) none (some 1) = some (.st (.bytes (r.take 1))) := sN_hi r 1 (Nat.le_trans hr (by decide))
      have hA : (andF (valF (nameF 5)) (andF (cmpF inO (sliceF (nameF 6) none (some (cstF (.int 1)))) (tupF (consA (cstF (.bytes [32])) (consA (cstF (.bytes [9])) (nilA))))) (bF true))) (osSt m s (some (.bytes r)) (some .none) c e d) = some (s.op && (hb r && true), d) :=
        and_ev (d := d) rfl (and_ev (d := d) (by simp only [cmpF, sliceF, partF, tupF, consA, nilA, nameF, cstF, osSt, look, RV.pv, RV.strong, s1, in_hd, List.length_cons, List.length_nil, Nat.reduceAdd, Nat.reduceLeDiff, if_true]) rfl)
      rw [Bool.and_true] at hA
      cases qO : s.op && hb r with
      | false =>
        rw [qO] at hA hT
        exact ⟨some .none, c, e, (seq_nx ((br_f hP).trans (seq_nx ((br_f (d := d) rfl).trans (seq_nx (br_f hA)))))).trans (congrArg (fun s => some (Out.nx (osSt m s (some (.bytes r)) (some .none) c e d))) hT.symm)⟩
      | true =>
        rw [qO] at hA hT
        rw [Bool.and_eq_true] at qO
        obtain ⟨p, hp, hi, hsl⟩ := last_facts (hs.op qO.1) (Nat.le_trans hs.v.len (Nat.le_trans hk (by decide)))
        have h99 := F99_ob r d (Nat.le_trans hr (by decide))
        obtain ⟨a1, a2, a3⟩ := cont_add p.2 (trimB ob r) (val_le hk (hs.v.val p hp)) (Nat.le_trans (trim_len ob r) hr)
        have h99b := F99_ob (p.2 ++ [32] ++ trimB ob r) d a3
        have hi' : itemO (.lst (s.found.map tupOf)) (.int (-1)) = some (.st (.tup [.bytes p.1, .bytes p.2])) := hi
        have hsl' : setLastO (s.found.map tupOf) (.tup [.bytes p.1, .bytes (trimB ob (p.2 ++ [32] ++ trimB ob r))]) = _ := hsl fun p => (p.1, trimB ob (p.2 ++ [32] ++ trimB ob r))
        have x1 : tupF1 [8, 9] (binF itemO (nameF 1) (unF negO (cstF (.int 1)))) (osSt m s (some (.bytes r)) (some .none) c e d) = some (.nx (osSt m s (some (.bytes r)) (some .none) (some (.bytes p.1)) (some (.bytes p.2)) d)) := by
          simp only [tupF1, binF, unF, neg_i, nameF, cstF, osSt, look, RV.pv, decide_true, hi', setMany, St.set, put, Nat.reduceEqDiff, decide_false]
        refine ⟨some .none, some (.bytes p.1), some (.bytes p.2), (seq_nx ((br_f hP).trans ((seq_nx ((br_f (d := d) rfl).trans ((seq_nx ((br_t hA).trans ((seq_nx x1).trans (seq_nx (σ' := osSt m ⟨modL (fun p => (p.1, trimB ob (p.2 ++ [32] ++ trimB ob r))) s.found, s.others, s.picked, s.made, s.op⟩ (some (.bytes r)) (some .none) (some (.bytes p.1)) (some (.bytes p.2)) d) ?_)))).trans rfl))).trans rfl))).trans (congrArg (fun s => some (Out.nx (osSt m s (some (.bytes r)) (some .none) (some (.bytes p.1)) (some (.bytes p.2)) d))) hT.symm)⟩
        simp only [ownF, tupF, consA, nilA, binF, callF, nameF, cstF, osSt, look, RV.pv, RV.strong, a1, h99, a2, h99b, List.length_cons, List.length_nil, Nat.reduceAdd, Nat.reduceLeDiff, if_true, decide_true, hsl']
end Mine

namespace Mine
theorem f188 (m : Option PV) (d : DS) : ∀ (l : List B) (k : Nat) (s : OS) (a b c e : Option PV), OkS k s → l.length + k ≤ 301 → (∀ r ∈ l, r.length ≤ 300) → ∃ a' b' c' e', forGo 6 (seqF (datF 7 (ifF (cmpF ninO (sliceF (nameF 6) none (some (cstF (.int 1)))) (tupF (consA (cstF (.bytes [32])) (consA (cstF (.bytes [9])) (nilA))))) (callF F174 (consA (nameF 6) (nilA))) (cstF .none))) (seqF (brF (valF (binF startsO (nameF 6) (cstF (.bytes [40, 99, 104, 101, 114, 114, 121, 32, 112, 105, 99, 107, 101, 100, 32, 102, 114, 111, 109, 32, 99, 111, 109, 109, 105, 116, 32])))) (seqF (tupS1 [5, 4, 3] (tupF (consA (binF addO (nameF 3) (cstF (.int 1))) (consA (binF addO (nameF 4) (cstF (.int 1))) (consA (cstF (.bool false)) (nilA)))))) (doneF')) (seqF (brF (cmpF isnO (nameF 7) (cstF .none)) (seqF (ownF 1 pushO (nameF 7)) (seqF (tupS1 [5, 4] (tupF (consA (binF addO (nameF 4) (unF intO (boolF (cmpF eqO (binF itemO (nameF 7) (cstF (.int 0))) (cstF (.bytes [83, 105, 103, 110, 101, 100, 45, 111, 102, 102, 45, 98, 121])))))) (consA (cstF (.bool true)) (nilA))))) (doneF'))) (seqF (brF (andF (valF (nameF 5)) (andF (cmpF inO (sliceF (nameF 6) none (some (cstF (.int 1)))) (tupF (consA (cstF (.bytes [32])) (consA (cstF (.bytes [9])) (nilA))))) (bF true))) (seqF (tupF1 [8, 9] (binF itemO (nameF 1) (unF negO (cstF (.int 1))))) (seqF (ownF 1 setLastO (tupF (consA (nameF 8) (consA (callF F99 (consA (binF addO (binF addO (nameF 9) (cstF (.bytes [32]))) (callF F99 (consA (nameF 6) (consA (cstF (.bytes [32, 9, 13, 11, 12])) (nilA))))) (consA (cstF (.bytes [32, 9, 13, 11, 12])) (nilA)))) (nilA))))) (doneF'))) (seqF (tupS1 [5, 2] (tupF (consA (binF addO (nameF 2) (cstF (.int 1))) (consA (cstF (.bool false)) (nilA))))) (doneF'))) (doneF'))) (doneF'))) (doneF'))) (l.map .bytes) (osSt m s a b c e d) = some (.nx (osSt m (l.foldl trO s) a' b' c' e' d)) ∧ OkS (k + l.length) (l.foldl trO s)
  | [], k, s, a, b, c, e, hs, _, _ => ⟨a, b, c, e, rfl, hs⟩
  | r :: l, k, s, a, b, c, e, hs, hl, hr => by
    rw [List.length_cons] at hl
    have h1 := hr r (.head _)
    obtain ⟨b1, c1, e1, q1⟩ := b188 m d k (by omega) s hs r h1 a b c e
    obtain ⟨a', b', c', e', q2, q3⟩ := f188 m d l (k + 1) (trO s r) (some (.bytes r)) b1 c1 e1 (hs.step h1) (by omega) fun r hr' => hr r (.tail _ hr')
    refine ⟨a', b', c', e', ?_, ?_⟩
    · rw [List.map_cons, forGo, show (osSt m s a b c e d).set 6 (.bytes r) = osSt m s (some (.bytes r)) b c e d from rfl, q1]
      exact q2
    · rw [List.length_cons, List.foldl_cons, show k + (l.length + 1) = k + 1 + l.length by omega]
      exact q3
theorem rows_len3 (m : B) : (rowsOf m).length ≤ m.length + 1 ∧ ∀ r ∈ rowsOf m, r.length ≤ m.length := by
  have hs := splitB_size 10 m
  unfold rowsOf
  refine ⟨by rw [List.length_map]; exact hs.1, fun r hr => ?_⟩
  obtain ⟨p, hp, rfl⟩ := List.mem_map.mp hr
  have := cutE_len ob p
  have := hs.2 p hp
  omega
theorem lastPart_sub (R : List B) : (lastPart R).length ≤ R.length ∧ ∀ r ∈ lastPart R, r ∈ R := by
  unfold lastPart
  split
  · refine ⟨by rw [List.length_drop]; have := cutE_len E0 R; omega, fun r hr => (cutE_pre E0 R).subset (List.drop_subset _ _ hr)⟩
  · exact ⟨Nat.zero_le _, fun r hr => nomatch hr⟩
noncomputable def objT (m : B) : List (B × B) := finO ((lastPart (rowsOf m)).foldl trO ⟨[], 0, 0, 0, false⟩)
theorem F188_at (m : B) (d : DS) (hm : m.length ≤ 300) : F188 [.bytes m] d = some (.own ((objT m).map tupOf), d) := by
  have e181 := F181_at m d (Nat.le_trans hm (by decide))
  obtain ⟨h1, h2⟩ := rows_len3 m
  obtain ⟨h3, h4⟩ := lastPart_sub (rowsOf m)
  unfold objT
  generalize lastPart (rowsOf m) = P at *
  have hP : P.length ≤ 301 := Nat.le_trans h3 (Nat.le_trans h1 (Nat.succ_le_succ hm))
  have hit := items_bs P (Nat.le_trans hP (by decide))
  obtain ⟨a, b, c, e, q, hk⟩ := f188 (some (.bytes m)) d P 0 ⟨[], 0, 0, 0, false⟩ none none none none ⟨⟨Nat.le_refl _, fun p hp => (nomatch hp)⟩, fun h => (nomatch h)⟩ hP fun r hr => Nat.le_trans (h2 r (h4 r hr)) hm
  have hlen := hk.v.len
  generalize P.foldl trO ⟨[], 0, 0, 0, false⟩ = s at *
  obtain ⟨found, others, picked, made, op⟩ := s
  dsimp only at hlen
  have hl := len_l (found.map tupOf) (by rw [List.length_map]; omega)
  rw [List.length_map] at hl
  have c1 : decide ((0 : Int) < (others : Int)) = decide (0 < others) := decide_eq_decide.mpr (Int.ofNat_lt (n := 0))
  have c2 : ((made : Int) == 0) = (made == 0) := by rw [Bool.eq_iff_iff, beq_iff_eq, beq_iff_eq]; exact Int.ofNat_inj (n := 0)
  have c3 : decide ((3 : Int) * ((found.length : Int) + (picked : Int)) < (others : Int)) = decide (3 * (found.length + picked) < others) := decide_eq_decide.mpr (by omega)
  have hg : g188 ⟨[some (.bytes m), none, none, none, none, none, none, none, none, none], none, d⟩ = some (.rt (.own ((finO ⟨found, others, picked, made, op⟩).map tupOf)) d) := by
    unfold g188
    rw [seq_nx (σ' := osSt (some (.bytes m)) ⟨[], 0, 0, 0, false⟩ none none none none d) rfl, seq_nx (σ' := osSt (some (.bytes m)) ⟨found, others, picked, made, op⟩ a b c e d) (by
      have hf : callF F181 (consA (nameF 0) (nilA)) (osSt (some (.bytes m)) ⟨[], 0, 0, 0, false⟩ none none none none d) = some (.fr (P.map .bytes), d) := by
        simp only [callF, consA, nilA, nameF, osSt, look, RV.strong, e181]
      unfold forF
      rw [hf]
      dsimp only [RV.strong]
      rw [hit]
      exact q)]
    have t1 : (andF (cmpF gtO (nameF 2) (cstF (.int 0))) (andF (orF (cmpF eqO (nameF 4) (cstF (.int 0))) (orF (cmpF ltO (binF mulO (cstF (.int 3)) (binF addO (unF lenO (nameF 1)) (nameF 3))) (nameF 2)) (bF false))) (bF true))) (osSt (some (.bytes m)) ⟨found, others, picked, made, op⟩ a b c e d) = some (decide (0 < others) && (((made == 0) || (decide (3 * (found.length + picked) < others) || false)) && true), d) :=
      and_ev (d := d) (by simp only [osSt, cmpF, nameF, cstF, look, RV.pv, gt_i, c1]) (and_ev (d := d) (or_ev (d := d) (by simp only [osSt, cmpF, nameF, cstF, look, RV.pv, eq_i, c2]) (or_ev (d := d) (by simp only [osSt, cmpF, binF, unF, nameF, cstF, look, RV.pv, decide_true, hl, add_i, mul_i 3 _ (by decide), lt_i, c3]) rfl)) rfl)
    rw [Bool.and_true, Bool.or_false] at t1
    unfold finO
    dsimp only
    cases b1 : (decide (0 < others) && ((made == 0) || decide (3 * (found.length + picked) < others))) with
    | true =>
      rw [b1] at t1
      exact seq_rt ((br_t t1).trans rfl)
    | false =>
      rw [b1] at t1
      rw [seq_nx (br_f t1)]
      rfl
  show (match g188 ⟨[some (.bytes m), none, none, none, none, none, none, none, none, none], none, d⟩ with | some (.rt r d') => some (r, d') | some (.nx σ') => some (.val .none, σ'.dk) | _ => none) = _
  rw [hg]
end Mine

namespace Mine
structure LS where
  found : List (B × B)
  others : Nat
  picked : Nat
  op : Bool
  made : Bool
noncomputable def trL (s : LS) (r : B) : LS := match isP r with
  | true => ⟨s.found, s.others, s.picked + 1, false, true⟩
  | false => match pair r with
    | some p => ⟨s.found ++ [p], s.others, s.picked, true, s.made || p.1 == SO⟩
    | none => match hb r && s.op with
      | true => ⟨modL (fun p => (p.1, trimB bl (p.2 ++ [32] ++ trimB bl r))) s.found, s.others, s.picked, s.op, s.made⟩
      | false => ⟨s.found, s.others + 1, s.picked, false, s.made⟩
noncomputable def finL (s : LS) : List (B × B) := if s.others == 0 || (s.made && decide (s.others ≤ 3 * (s.found.length + s.picked))) then s.found else []
structure OkL (k : Nat) (s : LS) : Prop where
  v : Vk k s.found
  op : s.op = true → s.found ≠ []
theorem pair_len {r : B} {p : B × B} (h : pair r = some p) : p.2.length ≤ r.length := by
  unfold pair at h
  split at h
  · split at h
    · cases h
    · split at h
      · cases h
      · split at h
        · cases h
          have := trim_len bl (r.drop (‹Nat› + 2))
          rw [List.length_drop] at this
          dsimp only
          omega
        · cases h
  · cases h
theorem OkL.step {k : Nat} {s : LS} {r : B} (h : OkL k s) (hr : r.length ≤ 300) : OkL (k + 1) (trL s r) := by
  unfold trL
  cases isP r with
  | true => exact ⟨h.v.keep, fun e => nomatch e⟩
  | false =>
    cases q : pair r with
    | some p => exact ⟨h.v.push (Nat.le_trans (pair_len q) (Nat.le_trans hr (by decide))), fun _ => by simp⟩
    | none =>
      cases q2 : hb r && s.op with
      | true =>
        rw [Bool.and_eq_true] at q2
        exact ⟨h.v.mod fun p _ => cont_len bl hr p.2, fun _ => modL_ne (h.op q2.2)⟩
      | false => exact ⟨h.v.keep, fun e => nomatch e⟩
noncomputable def lsSt (m p1 p2 : Option PV) (s : LS) (a b : Option PV) (d : DS) : St := ⟨[m, p1, p2, none, some (.int (s.others : Nat)), some (.int (s.picked : Nat)), some (.bool s.op), some (.bool s.made), a, b], some (3, s.found.map tupOf), d⟩
theorem orV_ev {f g : EF} {σ : St} {b1 b2 : Bool} {d : DS} (hf : f σ = some (.st (.bool b1), d)) (hg : g (σ.setD d) = some (.st (.bool b2), d)) : orV f g σ = some (.st (.bool (b1 || b2)), d) := by
  unfold orV
  rw [hf]
  cases b1
  · exact hg
  · rfl
theorem b295 (m p1 p2 : Option PV) (d : DS) (k : Nat) (hk : k ≤ 300) (s : LS) (hs : OkL k s) (r : B) (hr : r.length ≤ 300) (b : Option PV) : ∃ b', (seqF (datF 9 (callF F290 (consA (nameF 8) (nilA)))) (seqF (brF (cmpF eqO (sliceF (nameF 8) none (some (cstF (.int 27)))) (cstF (.bytes [40, 99, 104, 101, 114, 114, 121, 32, 112, 105, 99, 107, 101, 100, 32, 102, 114, 111, 109, 32, 99, 111, 109, 109, 105, 116, 32]))) (seqF (tupS1 [6, 7, 5] (tupF (consA (binF addO (nameF 5) (cstF (.int 1))) (consA (cstF (.bool true)) (consA (cstF (.bool false)) (nilA)))))) (doneF')) (seqF (brF (cmpF isnO (nameF 9) (cstF .none)) (seqF (ownF 3 pushO (nameF 9)) (seqF (tupS1 [7, 6] (tupF (consA (cstF (.bool true)) (consA (orV (nameF 7) (boolF (cmpF eqO (binF itemO (nameF 9) (cstF (.int 0))) (cstF (.bytes [83, 105, 103, 110, 101, 100, 45, 111, 102, 102, 45, 98, 121]))))) (nilA))))) (doneF'))) (seqF (brF (andF (cmpF inO (sliceF (nameF 8) none (some (cstF (.int 1)))) (tupF (consA (cstF (.bytes [32])) (consA (cstF (.bytes [9])) (nilA))))) (andF (valF (nameF 6)) (bF true))) (seqF (ownF 3 setLastO (tupF (consA (binF itemO (binF itemO (nameF 3) (unF negO (cstF (.int 1)))) (cstF (.int 0))) (consA (callF F285 (consA (binF addO (binF addO (binF itemO (binF itemO (nameF 3) (unF negO (cstF (.int 1)))) (cstF (.int 1))) (cstF (.bytes [32]))) (callF F285 (consA (nameF 8) (nilA)))) (nilA))) (nilA))))) (doneF')) (seqF (tupS1 [6, 4] (tupF (consA (binF addO (nameF 4) (cstF (.int 1))) (consA (cstF (.bool false)) (nilA))))) (doneF'))) (doneF'))) (doneF'))) (doneF'))) (lsSt m p1 p2 s (some (.bytes r)) b d) = some (.nx (lsSt m p1 p2 (trL s r) (some (.bytes r)) b' d)) := by
  have s27 : sliceO (.bytes r) none (some 27) = some (.st (.bytes (r.take 27))) := sN_hi r 27 (Nat.le_trans hr (by decide))
  have e290 := F290_at r d (Nat.le_trans hr (by decide))
  rw [seq_nx (σ' := lsSt m p1 p2 s (some (.bytes r)) (some (optP (pair r))) d) (by simp only [datF, callF, consA, nilA, nameF, lsSt, look, RV.strong, e290, St.set, put, Nat.reduceEqDiff, decide_false])]
  have hP : (cmpF eqO (sliceF (nameF 8) none (some (cstF (.int 27)))) (cstF (.bytes [40, 99, 104, 101, 114, 114, 121, 32, 112, 105, 99, 107, 101, 100, 32, 102, 114, 111, 109, 32, 99, 111, 109, 109, 105, 116, 32]))) (lsSt m p1 p2 s (some (.bytes r)) (some (optP (pair r))) d) = some (isP r, d) :=
    cmp_ev (d := d) (a := .st (.bytes (r.take 27))) (by simp only [sliceF, partF, nameF, cstF, lsSt, look, RV.pv, s27]) rfl rfl
  have hT : trL s r = match isP r with
    | true => ⟨s.found, s.others, s.picked + 1, false, true⟩
    | false => match pair r with
      | some p => ⟨s.found ++ [p], s.others, s.picked, true, s.made || p.1 == SO⟩
      | none => match hb r && s.op with
        | true => ⟨modL (fun p => (p.1, trimB bl (p.2 ++ [32] ++ trimB bl r))) s.found, s.others, s.picked, s.op, s.made⟩
        | false => ⟨s.found, s.others + 1, s.picked, false, s.made⟩ := rfl
  generalize isP r = qp at hP hT
  cases qp with
  | true => exact ⟨some (optP (pair r)), (seq_nx (br_t hP)).trans (congrArg (fun s => some (Out.nx (lsSt m p1 p2 s (some (.bytes r)) (some (optP (pair r))) d))) hT.symm)⟩
  | false =>
    cases qT : pair r with
    | some p =>
      rw [qT] at hP hT
      have hPu := pushT s.found p (Nat.le_trans hs.v.len (Nat.le_trans hk (by decide)))
      have hE : eqO (.bytes p.1) (.bytes [83, 105, 103, 110, 101, 100, 45, 111, 102, 102, 45, 98, 121]) = some (p.1 == SO) := rfl
      have x1 : ownF 3 pushO (nameF 9) (lsSt m p1 p2 s (some (.bytes r)) (some (tupOf p)) d) = some (.nx (lsSt m p1 p2 ⟨s.found ++ [p], s.others, s.picked, s.op, s.made⟩ (some (.bytes r)) (some (tupOf p)) d)) := by
        simp only [ownF, nameF, lsSt, look, RV.strong, decide_true, hPu]
      have x2 : orV (nameF 7) (boolF (cmpF eqO (binF itemO (nameF 9) (cstF (.int 0))) (cstF (.bytes [83, 105, 103, 110, 101, 100, 45, 111, 102, 102, 45, 98, 121])))) (lsSt m p1 p2 ⟨s.found ++ [p], s.others, s.picked, s.op, s.made⟩ (some (.bytes r)) (some (tupOf p)) d) = some (.st (.bool (s.made || p.1 == SO)), d) :=
        orV_ev (d := d) rfl (by simp only [boolF, cmpF, binF, nameF, cstF, lsSt, look, RV.pv, item_t0, hE])
      refine ⟨some (tupOf p), (seq_nx ((br_f hP).trans ((seq_nx ((br_t (d := d) rfl).trans ((seq_nx x1).trans (seq_nx (σ' := lsSt m p1 p2 ⟨s.found ++ [p], s.others, s.picked, true, s.made || p.1 == SO⟩ (some (.bytes r)) (some (tupOf p)) d) ?_)))).trans rfl))).trans (congrArg (fun s => some (Out.nx (lsSt m p1 p2 s (some (.bytes r)) (some (tupOf p)) d))) hT.symm)⟩
      simp only [tupS1, tupF, consA, nilA, cstF, x2, RV.strong, List.length_cons, List.length_nil, Nat.reduceAdd, Nat.reduceLeDiff, if_true]
      rfl
    | none =>
      rw [qT] at hP hT
      have s1 : sliceO (.bytes r) none (some 1) = some (.st (.bytes (r.take 1))) := sN_hi r 1 (Nat.le_trans hr (by decide))
      have hA : (andF (cmpF inO (sliceF (nameF 8) none (some (cstF (.int 1)))) (tupF (consA (cstF (.bytes [32])) (consA (cstF (.bytes [9])) (nilA))))) (andF (valF (nameF 6)) (bF true))) (lsSt m p1 p2 s (some (.bytes r)) (some .none) d) = some (hb r && (s.op && true), d) :=
        and_ev (d := d) (by simp only [cmpF, sliceF, partF, tupF, consA, nilA, nameF, cstF, lsSt, look, RV.pv, RV.strong, s1, in_hd, List.length_cons, List.length_nil, Nat.reduceAdd, Nat.reduceLeDiff, if_true]) (and_ev (d := d) rfl rfl)
      rw [Bool.and_true] at hA
      cases qO : hb r && s.op with
      | false =>
        rw [qO] at hA hT
        exact ⟨some .none, (seq_nx ((br_f hP).trans (seq_nx ((br_f (d := d) rfl).trans (seq_nx (br_f hA)))))).trans (congrArg (fun s => some (Out.nx (lsSt m p1 p2 s (some (.bytes r)) (some .none) d))) hT.symm)⟩
      | true =>
        rw [qO] at hA hT
        rw [Bool.and_eq_true] at qO
        obtain ⟨p, hp, hi, hsl⟩ := last_facts (hs.op qO.2) (Nat.le_trans hs.v.len (Nat.le_trans hk (by decide)))
        have h99 := F285_at r d (Nat.le_trans hr (by decide))
        obtain ⟨a1, a2, a3⟩ := cont_add p.2 (trimB bl r) (val_le hk (hs.v.val p hp)) (Nat.le_trans (trim_len bl r) hr)
        have h99b := F285_at (p.2 ++ [32] ++ trimB bl r) d a3
        have hsl' : setLastO (s.found.map tupOf) (.tup [.bytes p.1, .bytes (trimB bl (p.2 ++ [32] ++ trimB bl r))]) = _ := hsl fun p => (p.1, trimB bl (p.2 ++ [32] ++ trimB bl r))
        refine ⟨some .none, (seq_nx ((br_f hP).trans ((seq_nx ((br_f (d := d) rfl).trans ((seq_nx ((br_t hA).trans (seq_nx (σ' := lsSt m p1 p2 ⟨modL (fun p => (p.1, trimB bl (p.2 ++ [32] ++ trimB bl r))) s.found, s.others, s.picked, s.op, s.made⟩ (some (.bytes r)) (some .none) d) ?_))).trans rfl))).trans rfl))).trans (congrArg (fun s => some (Out.nx (lsSt m p1 p2 s (some (.bytes r)) (some .none) d))) hT.symm)⟩
        simp only [ownF, tupF, consA, nilA, binF, unF, neg_i, callF, nameF, cstF, lsSt, look, RV.pv, RV.strong, decide_true, hi, item_t0, item_t1, a1, h99, a2, h99b, List.length_cons, List.length_nil, Nat.reduceAdd, Nat.reduceLeDiff, if_true, hsl']
theorem f295 (m p1 p2 : Option PV) (d : DS) : ∀ (l : List B) (k : Nat) (s : LS) (a b : Option PV), OkL k s → l.length + k ≤ 301 → (∀ r ∈ l, r.length ≤ 300) → ∃ a' b', forGo 8 (seqF (datF 9 (callF F290 (consA (nameF 8) (nilA)))) (seqF (brF (cmpF eqO (sliceF (nameF 8) none (some (cstF (.int 27)))) (cstF (.bytes [40, 99, 104, 101, 114, 114, 121, 32, 112, 105, 99, 107, 101, 100, 32, 102, 114, 111, 109, 32, 99, 111, 109, 109, 105, 116, 32]))) (seqF (tupS1 [6, 7, 5] (tupF (consA (binF addO (nameF 5) (cstF (.int 1))) (consA (cstF (.bool true)) (consA (cstF (.bool false)) (nilA)))))) (doneF')) (seqF (brF (cmpF isnO (nameF 9) (cstF .none)) (seqF (ownF 3 pushO (nameF 9)) (seqF (tupS1 [7, 6] (tupF (consA (cstF (.bool true)) (consA (orV (nameF 7) (boolF (cmpF eqO (binF itemO (nameF 9) (cstF (.int 0))) (cstF (.bytes [83, 105, 103, 110, 101, 100, 45, 111, 102, 102, 45, 98, 121]))))) (nilA))))) (doneF'))) (seqF (brF (andF (cmpF inO (sliceF (nameF 8) none (some (cstF (.int 1)))) (tupF (consA (cstF (.bytes [32])) (consA (cstF (.bytes [9])) (nilA))))) (andF (valF (nameF 6)) (bF true))) (seqF (ownF 3 setLastO (tupF (consA (binF itemO (binF itemO (nameF 3) (unF negO (cstF (.int 1)))) (cstF (.int 0))) (consA (callF F285 (consA (binF addO (binF addO (binF itemO (binF itemO (nameF 3) (unF negO (cstF (.int 1)))) (cstF (.int 1))) (cstF (.bytes [32]))) (callF F285 (consA (nameF 8) (nilA)))) (nilA))) (nilA))))) (doneF')) (seqF (tupS1 [6, 4] (tupF (consA (binF addO (nameF 4) (cstF (.int 1))) (consA (cstF (.bool false)) (nilA))))) (doneF'))) (doneF'))) (doneF'))) (doneF'))) (l.map .bytes) (lsSt m p1 p2 s a b d) = some (.nx (lsSt m p1 p2 (l.foldl trL s) a' b' d)) ∧ OkL (k + l.length) (l.foldl trL s)
  | [], k, s, a, b, hs, _, _ => ⟨a, b, rfl, hs⟩
  | r :: l, k, s, a, b, hs, hl, hr => by
    rw [List.length_cons] at hl
    have h1 := hr r (.head _)
    obtain ⟨b1, q1⟩ := b295 m p1 p2 d k (by omega) s hs r h1 b
    obtain ⟨a', b', q2, q3⟩ := f295 m p1 p2 d l (k + 1) (trL s r) (some (.bytes r)) b1 (hs.step h1) (by omega) fun r hr' => hr r (.tail _ hr')
    refine ⟨a', b', ?_, ?_⟩
    · rw [List.map_cons, forGo, show (lsSt m p1 p2 s a b d).set 8 (.bytes r) = lsSt m p1 p2 s (some (.bytes r)) b d from rfl, q1]
      exact q2
    · rw [List.length_cons, List.foldl_cons, show k + (l.length + 1) = k + 1 + l.length by omega]
      exact q3
end Mine

namespace Mine
theorem ne_nilL (R : List B) : neO (.lst (R.map .bytes)) (.lst []) = some (!R.isEmpty) := ne_nil PV.bytes R
theorem slO_linit (Y : List B) (r : B) (h : Y.length ≤ 901) : sliceO (.lst ((Y ++ [r]).map .bytes)) none (some (-1)) = some (.fr (Y.map .bytes)) := by
  rw [sliceO, if_pos (by rw [List.length_map, List.length_append, List.length_cons, List.length_nil]; omega), sl_init, List.map_append, List.map_singleton, List.dropLast_concat]
theorem ne0 (R : List B) {n : Nat} (m a : Option PV) (T : List (Option PV)) (d : DS) (h : R.length = n + 1) : cmpF neO (nameF 1) (lstF nilA) ⟨m :: some (.lst (R.map .bytes)) :: a :: T, none, d⟩ = some (true, d) := by
  refine cmp_ev (d := d) (a := .st (.lst (R.map .bytes))) (b := .fr []) rfl rfl ((ne_nilL R).trans ?_)
  cases R with
  | nil => cases h
  | cons _ _ => rfl
theorem last1 (Y : List B) (r : B) (o : PV → PV → Option Bool) (p : Bool) (m a : Option PV) (T : List (Option PV)) (d : DS) (hY : Y.length ≤ 901) (ho : o (.bytes r) (.bytes []) = some p) : andF (cmpF o (binF itemO (nameF 1) (unF negO (cstF (.int 1)))) (cstF (.bytes []))) (bF true) ⟨m :: some (.lst ((Y ++ [r]).map .bytes)) :: a :: T, none, d⟩ = some (p && true, d) := by
  have hi := item_last Y r hY
  exact and_ev (d := d) (cmp_ev (d := d) (a := .st (.bytes r)) (b := .st (.bytes [])) (by simp only [binF, unF, neg_i, nameF, cstF, look, RV.pv, hi]) rfl ho) rfl
theorem w295a (m : Option PV) (d : DS) (n : Nat) : ∀ (R : List B) (fuel : Nat), R.length = n → n ≤ 901 → n < fuel → whileF (andF (cmpF neO (nameF 1) (lstF (nilA))) (andF (cmpF eqO (binF itemO (nameF 1) (unF negO (cstF (.int 1)))) (cstF (.bytes []))) (bF true))) (seqF (datF 1 (sliceF (nameF 1) none (some (unF negO (cstF (.int 1)))))) (doneF')) fuel ⟨[m, some (.lst (R.map .bytes)), none, none, none, none, none, none, none, none], none, d⟩ = some (.nx ⟨[m, some (.lst ((cutE E0 R).map .bytes)), none, none, none, none, none, none, none, none], none, d⟩) := by
  induction n with
  | zero =>
    intro R fuel hR hn hf
    match fuel, hf with
    | fuel + 1, hf =>
    rw [List.length_eq_zero_iff.mp hR]
    exact while_f (and_f rfl)
  | succ n ihn =>
    intro R fuel hR hn hf
    match fuel, hf with
    | fuel + 1, hf =>
    have h1 := ne0 R m none [none, none, none, none, none, none, none] d hR
    obtain ⟨Y, r, rfl, hY⟩ := snoc_of hR
    have hY9 : Y.length ≤ 901 := hY ▸ Nat.le_of_succ_le hn
    have hT := and_ev h1 (last1 Y r eqO r.isEmpty m none [none, none, none, none, none, none, none] d hY9 (eqnil_b r))
    rw [Bool.true_and, Bool.and_true] at hT
    rw [cutE_snoc]
    cases q : r.isEmpty with
    | true =>
      rw [q] at hT
      have hs := slO_linit Y r hY9
      rw [while_t (σ' := ⟨[m, some (.lst (Y.map .bytes)), none, none, none, none, none, none, none, none], none, d⟩) hT (by simp only [seqF, datF, sliceF, partF, unF, neg_i, nameF, cstF, look, RV.pv, hs, St.set, put, doneF']), ihn Y fuel hY (Nat.le_of_succ_le hn) (Nat.lt_of_succ_lt_succ hf), show E0 r = true from q]
      rfl
    | false =>
      rw [q] at hT
      rw [while_f hT, show E0 r = false from q]
      rfl
theorem w295b (m : Option PV) (d : DS) (n : Nat) : ∀ (R P : List B) (fuel : Nat), R.length = n → n + P.length ≤ 901 → n < fuel → whileF (andF (cmpF neO (nameF 1) (lstF (nilA))) (andF (cmpF neO (binF itemO (nameF 1) (unF negO (cstF (.int 1)))) (cstF (.bytes []))) (bF true))) (seqF (tupS1 [1, 2] (tupF (consA (binF addO (lstF (consA (binF itemO (nameF 1) (unF negO (cstF (.int 1)))) (nilA))) (nameF 2)) (consA (sliceF (nameF 1) none (some (unF negO (cstF (.int 1))))) (nilA))))) (doneF')) fuel ⟨[m, some (.lst (R.map .bytes)), some (.lst (P.map .bytes)), none, none, none, none, none, none, none], none, d⟩ = some (.nx ⟨[m, some (.lst ((cutE N0 R).map .bytes)), some (.lst ((R.drop (cutE N0 R).length ++ P).map .bytes)), none, none, none, none, none, none, none], none, d⟩) := by
  induction n with
  | zero =>
    intro R P fuel hR hn hf
    match fuel, hf with
    | fuel + 1, hf =>
    rw [List.length_eq_zero_iff.mp hR]
    exact while_f (and_f rfl)
  | succ n ihn =>
    intro R P fuel hR hn hf
    match fuel, hf with
    | fuel + 1, hf =>
    have h1 := ne0 R m (some (.lst (P.map .bytes))) [none, none, none, none, none, none, none] d hR
    obtain ⟨Y, r, rfl, hY⟩ := snoc_of hR
    have hn1 : n + (P.length + 1) ≤ 901 := by rw [← Nat.add_assoc, Nat.add_right_comm]; exact hn
    have hY9 : Y.length ≤ 901 := hY ▸ Nat.le_trans (Nat.le_add_right _ _) hn1
    have hT := and_ev h1 (last1 Y r neO (N0 r) m (some (.lst (P.map .bytes))) [none, none, none, none, none, none, none] d hY9 (ne_b r))
    rw [Bool.true_and, Bool.and_true] at hT
    rw [cutE_snoc]
    cases q : N0 r with
    | true =>
      rw [q] at hT
      have hi := item_last Y r hY9
      have hs := slO_linit Y r hY9
      have ha : addO (.lst [.bytes r]) (.lst (P.map .bytes)) = some (.fr ((r :: P).map .bytes)) := add_l [.bytes r] (P.map .bytes) (by rw [List.length_map]; exact Nat.le_trans (Nat.le_trans (Nat.le_of_eq (Nat.add_comm 1 _)) (Nat.le_trans (Nat.le_add_left _ n) hn1)) (by decide))
      rw [while_t (σ' := ⟨[m, some (.lst (Y.map .bytes)), some (.lst ((r :: P).map .bytes)), none, none, none, none, none, none, none], none, d⟩) hT (by simp only [seqF, tupS1, unF, neg_i, binF, lstF, tupF, consA, nilA, sliceF, partF, nameF, cstF, look, setMany, St.set, put, RV.pv, RV.strong, List.length_nil, List.length_cons, Nat.reduceAdd, Nat.reduceLeDiff, List.reverse_cons, List.reverse_nil, List.nil_append, List.cons_append, if_true, hi, hs, ha, doneF']),
        ihn Y (r :: P) fuel hY hn1 (Nat.lt_of_succ_lt_succ hf), if_pos rfl, List.drop_append_of_le_length (cutE_len N0 Y), List.append_assoc]
      rfl
    | false =>
      rw [q] at hT
      rw [while_f hT, if_neg (by decide), List.drop_length]
      rfl
noncomputable def lawT (m : B) : List (B × B) := if (cutE N0 (cutE E0 (splitB 10 m))).any N0 then finL (((cutE E0 (splitB 10 m)).drop (cutE N0 (cutE E0 (splitB 10 m))).length).foldl trL ⟨[], 0, 0, false, false⟩) else []
theorem F295_at (m : B) (d : DS) (hm : m.length ≤ 300) : F295 [.bytes m] d = some (.own ((lawT m).map tupOf), d) := by
  have hs := splitB_size 10 m
  have hsp := split_b m 10 (by omega)
  unfold lawT
  generalize splitB 10 m = R at *
  have w1 := w295a (some (.bytes m)) d R.length R 1000000 rfl (by omega) (by omega)
  have hl1 := cutE_len E0 R
  have hsub : ∀ r ∈ cutE E0 R, r ∈ R := fun r hr => (cutE_pre E0 R).subset hr
  generalize cutE E0 R = R1 at *
  have w2 := w295b (some (.bytes m)) d R1.length R1 [] 1000000 rfl (by rw [List.length_nil]; omega) (by omega)
  have hl2 := cutE_len N0 R1
  have hP : (R1.drop (cutE N0 R1).length).length ≤ 301 := by rw [List.length_drop]; omega
  have hPs : ∀ r ∈ R1.drop (cutE N0 R1).length, r.length ≤ 300 := fun r hr => by have := hs.2 r (hsub r (List.drop_subset _ _ hr)); omega
  rw [List.append_nil, List.map_nil] at w2
  generalize R1.drop (cutE N0 R1).length = P at *
  have it := itemsK_l ((cutE N0 R1).map .bytes) (by rw [List.length_map]; omega)
  have cK : compK (cmpF neO (nameF 0) (cstF (.bytes []))) (nameF 0) ((cutE N0 R1).map .bytes) d = some (((cutE N0 R1).filter N0).map .bytes, d) :=
    compK_filter (fun r : B => .bytes r) (fun r => .bytes r) N0 _ d (fun r _ => by simp only [cmpF, nameF, cstF, look, RV.pv, ne_b, N0]) fun _ _ => rfl
  have hE : eqO (.lst (((cutE N0 R1).filter N0).map .bytes)) (.lst []) = some (!(cutE N0 R1).any N0) := by
    have e : (!(cutE N0 R1).any N0) = ((cutE N0 R1).filter N0).isEmpty := by
      rw [Bool.eq_iff_iff, List.isEmpty_iff, List.filter_eq_nil_iff, Bool.not_eq_true', List.any_eq_false]
    rw [e]
    cases (cutE N0 R1).filter N0 <;> rfl
  show (match g295 ⟨[some (.bytes m), none, none, none, none, none, none, none, none, none], none, d⟩ with | some (.rt r d') => some (r, d') | some (.nx σ') => some (.val .none, σ'.dk) | _ => none) = _
  have hg : g295 ⟨[some (.bytes m), none, none, none, none, none, none, none, none, none], none, d⟩ = some (.rt (.own ((if (cutE N0 R1).any N0 = true then finL (P.foldl trL ⟨[], 0, 0, false, false⟩) else []).map tupOf)) d) := by
    unfold g295
    rw [seq_nx (σ' := ⟨[some (.bytes m), some (.lst (R.map .bytes)), none, none, none, none, none, none, none, none], none, d⟩) (by simp only [datF, binF, nameF, cstF, look, RV.pv, hsp, St.set, put]), seq_nx w1,
      seq_nx (σ' := ⟨[some (.bytes m), some (.lst (R1.map .bytes)), some (.lst []), none, none, none, none, none, none, none], none, d⟩) rfl, seq_nx w2]
    have hT : cmpF eqO (compF (nameF 1) (cmpF neO (nameF 0) (cstF (.bytes []))) (nameF 0)) (lstF nilA) ⟨[some (.bytes m), some (.lst ((cutE N0 R1).map .bytes)), some (.lst (P.map .bytes)), none, none, none, none, none, none, none], none, d⟩ = some (!(cutE N0 R1).any N0, d) := by
      simp only [cmpF, compF, lstF, nilA, nameF, look, RV.pv, it, cK, List.length_nil, Nat.zero_le, if_true, hE]
    cases qa : (cutE N0 R1).any N0 with
    | false =>
      rw [qa] at hT
      exact seq_rt ((br_t hT).trans rfl)
    | true =>
      rw [qa] at hT
      rw [seq_nx (br_f hT), if_pos rfl]
      have hit := items_bs P (Nat.le_trans hP (by decide))
      obtain ⟨a, b, q, hk⟩ := f295 (some (.bytes m)) (some (.lst ((cutE N0 R1).map .bytes))) (some (.lst (P.map .bytes))) d P 0 ⟨[], 0, 0, false, false⟩ none none ⟨⟨Nat.le_refl _, fun p hp => (nomatch hp)⟩, fun h => (nomatch h)⟩ hP hPs
      have hlen := hk.v.len
      generalize P.foldl trL ⟨[], 0, 0, false, false⟩ = s at *
      obtain ⟨found, others, picked, op, made⟩ := s
      dsimp only at hlen
      have hl := len_l (found.map tupOf) (by rw [List.length_map]; omega)
      rw [List.length_map] at hl
      have c2 : ((others : Int) == 0) = (others == 0) := by rw [Bool.eq_iff_iff, beq_iff_eq, beq_iff_eq]; exact Int.ofNat_inj (n := 0)
      have c3 : decide ((others : Int) ≤ (3 : Int) * ((found.length : Int) + (picked : Int))) = decide (others ≤ 3 * (found.length + picked)) := decide_eq_decide.mpr (by omega)
      rw [seq_nx (σ' := lsSt (some (.bytes m)) (some (.lst ((cutE N0 R1).map .bytes))) (some (.lst (P.map .bytes))) ⟨[], 0, 0, false, false⟩ none none d) rfl, seq_nx (σ' := lsSt (some (.bytes m)) (some (.lst ((cutE N0 R1).map .bytes))) (some (.lst (P.map .bytes))) ⟨found, others, picked, op, made⟩ a b d) (by
        show (match itemsO (.lst (P.map .bytes)) with | some l => forGo 8 (seqF (datF 9 (callF F290 (consA (nameF 8) (nilA)))) (seqF (brF (cmpF eqO (sliceF (nameF 8) none (some (cstF (.int 27)))) (cstF (.bytes [40, 99, 104, 101, 114, 114, 121, 32, 112, 105, 99, 107, 101, 100, 32, 102, 114, 111, 109, 32, 99, 111, 109, 109, 105, 116, 32]))) (seqF (tupS1 [6, 7, 5] (tupF (consA (binF addO (nameF 5) (cstF (.int 1))) (consA (cstF (.bool true)) (consA (cstF (.bool false)) (nilA)))))) (doneF')) (seqF (brF (cmpF isnO (nameF 9) (cstF .none)) (seqF (ownF 3 pushO (nameF 9)) (seqF (tupS1 [7, 6] (tupF (consA (cstF (.bool true)) (consA (orV (nameF 7) (boolF (cmpF eqO (binF itemO (nameF 9) (cstF (.int 0))) (cstF (.bytes [83, 105, 103, 110, 101, 100, 45, 111, 102, 102, 45, 98, 121]))))) (nilA))))) (doneF'))) (seqF (brF (andF (cmpF inO (sliceF (nameF 8) none (some (cstF (.int 1)))) (tupF (consA (cstF (.bytes [32])) (consA (cstF (.bytes [9])) (nilA))))) (andF (valF (nameF 6)) (bF true))) (seqF (ownF 3 setLastO (tupF (consA (binF itemO (binF itemO (nameF 3) (unF negO (cstF (.int 1)))) (cstF (.int 0))) (consA (callF F285 (consA (binF addO (binF addO (binF itemO (binF itemO (nameF 3) (unF negO (cstF (.int 1)))) (cstF (.int 1))) (cstF (.bytes [32]))) (callF F285 (consA (nameF 8) (nilA)))) (nilA))) (nilA))))) (doneF')) (seqF (tupS1 [6, 4] (tupF (consA (binF addO (nameF 4) (cstF (.int 1))) (consA (cstF (.bool false)) (nilA))))) (doneF'))) (doneF'))) (doneF'))) (doneF'))) l (lsSt _ _ _ _ none none d) | none => none) = _
        rw [hit]
        exact q)]
      refine seq_rt ?_
      unfold finL lsSt
      have t1 : (orF (cmpF eqO (nameF 4) (cstF (.int 0))) (orF (andF (valF (nameF 7)) (andF (cmpF geO (binF mulO (cstF (.int 3)) (binF addO (unF lenO (nameF 3)) (nameF 5))) (nameF 4)) (bF true))) (bF false))) ⟨[some (.bytes m), some (.lst ((cutE N0 R1).map .bytes)), some (.lst (P.map .bytes)), none, some (.int (others : Nat)), some (.int (picked : Nat)), some (.bool op), some (.bool made), a, b], some (3, found.map tupOf), d⟩ = some ((others == 0) || ((made && (decide (others ≤ 3 * (found.length + picked)) && true)) || false), d) :=
        or_ev (by simp only [cmpF, nameF, cstF, look, RV.pv, eq_i, c2]) (or_ev (and_ev (d := d) (by rfl) (and_ev (d := d) (by simp only [cmpF, binF, unF, nameF, cstF, look, RV.pv, decide_true, hl, add_i, mul_i 3 _ (by decide), ge_i, c3]) rfl)) rfl)
      show retF (ifF _ (nameF 3) (lstF nilA)) _ = _
      unfold retF ifF
      rw [t1, Bool.and_true, Bool.or_false]
      dsimp only
      cases ((others == 0) || (made && decide (others ≤ 3 * (found.length + picked)))) <;> rfl
  rw [hg]
end Mine

namespace Mine
noncomputable def clean (x : B) : Bool := x.all fun c => !(c == 13 || c == 11 || c == 12)
noncomputable def rok (r : B) : Bool := ((cutE ob r).isEmpty == r.isEmpty) && (isP (cutE ob r) == isP r) && (hb (cutE ob r) == hb r) && decide (told (cutE ob r) = pair r) && (match pair r with | some p => clean p.2 | none => true) && (!hb r || (clean (trimB bl r) && trimB ob (cutE ob r) == trimB bl r))
structure Rok (r : B) : Prop where
  e : E0 (cutE ob r) = E0 r
  p : isP (cutE ob r) = isP r
  h : hb (cutE ob r) = hb r
  t : told (cutE ob r) = pair r
  v : ∀ p, pair r = some p → clean p.2 = true
  c : hb r = true → clean (trimB bl r) = true ∧ trimB ob (cutE ob r) = trimB bl r
theorem rok_of {r : B} (h : rok r = true) : Rok r := by
  unfold rok at h
  simp only [Bool.and_eq_true] at h
  obtain ⟨⟨⟨⟨⟨h1, h2⟩, h3⟩, h4⟩, h5⟩, h6⟩ := h
  refine ⟨beq_iff_eq.mp h1, beq_iff_eq.mp h2, beq_iff_eq.mp h3, of_decide_eq_true h4, fun p hp => ?_, fun hr => ?_⟩
  · rw [hp] at h5; exact h5
  · rw [hr, Bool.not_true, Bool.false_or, Bool.and_eq_true] at h6
    exact ⟨h6.1, beq_iff_eq.mp h6.2⟩
theorem clean_eq {x : B} (h : clean x = true) : ∀ c ∈ x, ob c = bl c := fun c hc => by
  have := List.all_eq_true.mp h c hc
  simp only [Bool.not_eq_true', Bool.or_eq_false_iff, beq_eq_false_iff_ne] at this
  obtain ⟨⟨h1, h2⟩, h3⟩ := this
  unfold ob bl
  rw [Bool.eq_iff_iff]
  simp [h1, h2, h3]
theorem dropWhile_congr {α : Type} {p q : α → Bool} : ∀ {l : List α}, (∀ x ∈ l, p x = q x) → l.dropWhile p = l.dropWhile q
  | [], _ => rfl
  | a :: l, h => by
    rw [List.dropWhile_cons, List.dropWhile_cons, h a (.head _), dropWhile_congr fun x hx => h x (.tail _ hx)]
theorem cutE_congr {α : Type} {p q : α → Bool} {l : List α} (h : ∀ x ∈ l, p x = q x) : cutE p l = cutE q l := by
  unfold cutE
  rw [dropWhile_congr fun x hx => h x (List.mem_reverse.mp hx)]
theorem trim_congr {x : B} (h : clean x = true) : trimB ob x = trimB bl x := by
  have e := clean_eq h
  unfold trimB
  rw [dropWhile_congr e]
  exact cutE_congr fun c hc => e c ((List.dropWhile_suffix bl).subset hc)
theorem clean_trim {p : UInt8 → Bool} {x : B} (h : clean x = true) : clean (trimB p x) = true := by
  rw [clean, List.all_eq_true] at h ⊢
  exact fun c hc => h c ((List.dropWhile_suffix p).subset ((cutE_pre _ _).subset hc))
theorem clean_app {x y : B} (hx : clean x = true) (hy : clean y = true) : clean (x ++ y) = true := by
  unfold clean at *
  rw [List.all_append, hx, hy]; rfl
/-- the two readings hold the same -/
structure Sim (s : OS) (t : LS) : Prop where
  f : s.found = t.found
  o : s.others = t.others
  p : s.picked = t.picked
  op : s.op = t.op
  m : (s.made == 0) = !t.made
  cl : ∀ p ∈ t.found, clean p.2 = true
theorem Sim.step {s : OS} {t : LS} {r : B} (h : Sim s t) (k : Rok r) : Sim (trO s (cutE ob r)) (trL t r) := by
  obtain ⟨f, o, p, op, m, cl⟩ := h
  unfold trO trL
  rw [k.p, k.h, k.t, op, o, p, f]
  cases isP r with
  | true =>
    refine ⟨rfl, rfl, rfl, rfl, ?_, cl⟩
    show (s.made + 1 == 0) = false
    rw [beq_eq_false_iff_ne]; omega
  | false =>
    cases q : pair r with
    | some p =>
      refine ⟨rfl, rfl, rfl, rfl, ?_, fun x hx => ?_⟩
      · dsimp only
        cases hs : (p.1 == SO) with
        | true =>
          rw [Bool.or_true]
          show (s.made + 1 == 0) = false
          rw [beq_eq_false_iff_ne]; omega
        | false => rw [Bool.or_false]; exact m
      · rcases List.mem_append.mp hx with hx | hx
        · exact cl x hx
        · rw [List.mem_singleton.mp hx]; exact k.v p q
    | none =>
      dsimp only
      rw [Bool.and_comm]
      cases q2 : hb r && t.op with
      | false => exact ⟨rfl, rfl, rfl, rfl, m, cl⟩
      | true =>
        rw [Bool.and_eq_true] at q2
        obtain ⟨c1, c2⟩ := k.c q2.1
        rw [c2]
        have hX : ∀ p ∈ t.found, trimB ob (p.2 ++ [32] ++ trimB bl r) = trimB bl (p.2 ++ [32] ++ trimB bl r) ∧ clean (trimB bl (p.2 ++ [32] ++ trimB bl r)) = true := fun p hp => by
          have hc := clean_app (clean_app (cl p hp) (show clean [32] = true by decide)) c1
          exact ⟨trim_congr hc, clean_trim hc⟩
        rcases List.eq_nil_or_concat t.found with e | ⟨Y, p, e⟩
        · rw [e]; rw [e] at cl; exact ⟨rfl, rfl, rfl, rfl, m, cl⟩
        · rw [List.concat_eq_append] at e
          rw [e] at cl hX ⊢
          have hp := hX p (by simp)
          rw [modL_snoc, modL_snoc, hp.1]
          refine ⟨rfl, rfl, rfl, rfl, m, fun x hx => ?_⟩
          rcases List.mem_append.mp hx with hx | hx
          · exact cl x (List.mem_append_left _ hx)
          · rw [List.mem_singleton.mp hx]; exact hp.2
theorem Sim.fold : ∀ (l : List B) {s : OS} {t : LS}, Sim s t → (∀ r ∈ l, Rok r) → Sim ((l.map (cutE ob)).foldl trO s) (l.foldl trL t)
  | [], _, _, h, _ => h
  | r :: l, _, _, h, k => Sim.fold l (h.step (k r (.head _))) fun x hx => k x (.tail _ hx)
theorem Sim.fin {s : OS} {t : LS} (h : Sim s t) : finO s = finL t := by
  obtain ⟨f, o, p, op, m, cl⟩ := h
  unfold finO finL
  rw [f, o, p, m]
  by_cases h1 : t.others = 0
  · rw [h1]; rfl
  · have e1 : decide (0 < t.others) = true := decide_eq_true (by omega)
    have e2 : (t.others == 0) = false := by rw [beq_eq_false_iff_ne]; exact h1
    rw [e1, e2, Bool.true_and, Bool.false_or]
    cases t.made with
    | false => rfl
    | true =>
      rw [Bool.not_true, Bool.false_or, Bool.true_and]
      by_cases h2 : 3 * (t.found.length + t.picked) < t.others
      · rw [decide_eq_true h2, decide_eq_false (by omega)]; rfl
      · rw [decide_eq_false h2, decide_eq_true (by omega)]; rfl
/-! the last part -/
theorem cutE_map {α β : Type} (f : α → β) (p : β → Bool) (l : List α) : cutE p (l.map f) = (cutE (fun x => p (f x)) l).map f := by
  unfold cutE
  rw [← List.map_reverse, List.dropWhile_map, List.map_reverse]
  rfl
theorem cutE_cons_n {α : Type} (p : α → Bool) (a : α) (n : Nat) : ∀ l : List α, l.length = n → cutE p (a :: l) = if (cutE p l).isEmpty then (if p a then [] else [a]) else a :: cutE p l := by
  induction n with
  | zero =>
    intro l hl
    rw [List.length_eq_zero_iff.mp hl]
    show cutE p ([] ++ [a]) = _
    rw [cutE_snoc]
    rfl
  | succ n ih =>
    intro l hl
    rcases List.eq_nil_or_concat l with e | ⟨Y, r, e⟩
    · rw [e] at hl; cases hl
    · rw [List.concat_eq_append] at e
      subst e
      rw [List.length_append, List.length_cons, List.length_nil] at hl
      show cutE p ((a :: Y) ++ [r]) = _
      rw [cutE_snoc, cutE_snoc]
      cases p r with
      | true => exact ih Y (by omega)
      | false => simp
theorem cutE_cons {α : Type} (p : α → Bool) (a : α) (l : List α) : cutE p (a :: l) = if (cutE p l).isEmpty then (if p a then [] else [a]) else a :: cutE p l := cutE_cons_n p a _ l rfl
theorem lp_map {R : List B} (h : ∀ r ∈ R, E0 (cutE ob r) = E0 r) : lastPart (R.map (cutE ob)) = (lastPart R).map (cutE ob) := by
  have hn : ∀ r ∈ R, N0 (cutE ob r) = N0 r := fun r hr => by
    have := h r hr
    unfold E0 at this
    unfold N0
    rw [this]
  have e1 : cutE E0 (R.map (cutE ob)) = (cutE E0 R).map (cutE ob) := by rw [cutE_map, cutE_congr h]
  have hs : ∀ r ∈ cutE E0 R, r ∈ R := fun r hr => (cutE_pre _ _).subset hr
  have e2 : cutE N0 ((cutE E0 R).map (cutE ob)) = (cutE N0 (cutE E0 R)).map (cutE ob) := by rw [cutE_map, cutE_congr fun r hr => hn r (hs r hr)]
  have e3 : ((cutE N0 (cutE E0 R)).map (cutE ob)).any N0 = (cutE N0 (cutE E0 R)).any N0 := by
    rw [List.any_map]
    rw [Bool.eq_iff_iff, List.any_eq_true, List.any_eq_true]
    have hs2 : ∀ r ∈ cutE N0 (cutE E0 R), r ∈ R := fun r hr => hs r ((cutE_pre _ _).subset hr)
    constructor
    · rintro ⟨x, hx, hy⟩; exact ⟨x, hx, by rw [← hn x (hs2 x hx)]; exact hy⟩
    · rintro ⟨x, hx, hy⟩; exact ⟨x, hx, by show N0 (cutE ob x) = true; rw [hn x (hs2 x hx)]; exact hy⟩
  unfold lastPart
  rw [e1, e2, e3, List.length_map]
  split
  · rw [List.map_drop]
  · rfl
theorem lp_blank {o : B} {X : List B} (x0 : B) (h0 : N0 x0 = true) (ho : N0 o = true) (h : ∀ r ∈ o :: X, E0 (cutE ob r) = E0 r) : lastPart ([] :: (o :: X).map (cutE ob)) = (lastPart (x0 :: o :: X)).map (cutE ob) := by
  have hn : ∀ r ∈ o :: X, N0 (cutE ob r) = N0 r := fun r hr => by
    have := h r hr
    unfold E0 at this
    unfold N0
    rw [this]
  have e1 : cutE E0 ((o :: X).map (cutE ob)) = (cutE E0 (o :: X)).map (cutE ob) := by rw [cutE_map, cutE_congr h]
  have hs : ∀ r ∈ cutE E0 (o :: X), r ∈ o :: X := fun r hr => (cutE_pre _ _).subset hr
  have e2 : cutE N0 ((cutE E0 (o :: X)).map (cutE ob)) = (cutE N0 (cutE E0 (o :: X))).map (cutE ob) := by rw [cutE_map, cutE_congr fun r hr => hn r (hs r hr)]
  have hE : E0 o = false := by
    unfold N0 at ho
    unfold E0
    simpa using ho
  -- the rows without the empty ones at their end begin with o
  obtain ⟨X1, hX1⟩ : ∃ X1, cutE E0 (o :: X) = o :: X1 := by
    rw [cutE_cons, hE]
    split
    · exact ⟨[], rfl⟩
    · exact ⟨_, rfl⟩
  have hne : (cutE E0 (o :: X)).isEmpty = false := by rw [hX1]; rfl
  have f1 : cutE E0 (x0 :: o :: X) = x0 :: cutE E0 (o :: X) := by rw [cutE_cons E0 x0, hne]; rfl
  have f2 : cutE E0 ([] :: (o :: X).map (cutE ob)) = [] :: (cutE E0 (o :: X)).map (cutE ob) := by
    rw [cutE_cons E0 [], e1, List.isEmpty_map, hne]; rfl
  unfold lastPart
  rw [f1, f2, cutE_cons N0 x0, cutE_cons N0 [], e2, List.isEmpty_map]
  have hpre := cutE_pre N0 (cutE E0 (o :: X))
  cases q : (cutE N0 (cutE E0 (o :: X))).isEmpty with
  | true =>
    rw [h0]
    rfl
  | false =>
    obtain ⟨Y1, hY1⟩ : ∃ Y1, cutE N0 (cutE E0 (o :: X)) = o :: Y1 := by
      rw [hX1] at hpre q ⊢
      cases hc : cutE N0 (o :: X1) with
      | nil => rw [hc] at q; cases q
      | cons y Y1 =>
        rw [hc] at hpre
        obtain ⟨t, ht⟩ := hpre
        cases ht
        exact ⟨Y1, rfl⟩
    simp only [Bool.false_eq_true, if_false]
    rw [hY1]
    have a1 : ([] :: (o :: Y1).map (cutE ob)).any N0 = true := by
      rw [List.any_eq_true]
      exact ⟨cutE ob o, by simp, by rw [hn o (.head _)]; exact ho⟩
    have a2 : (x0 :: o :: Y1).any N0 = true := by
      rw [List.any_eq_true]
      exact ⟨o, by simp, ho⟩
    rw [a1, a2, if_pos rfl, if_pos rfl]
    simp only [List.length_cons, List.length_map, List.drop_succ_cons, List.map_drop]
theorem lp_blank_sub {o : B} {X : List B} (x0 : B) (h0 : N0 x0 = true) (ho : N0 o = true) : ∀ r ∈ lastPart (x0 :: o :: X), r ∈ o :: X := by
  have hE : E0 o = false := by
    unfold N0 at ho
    unfold E0
    simpa using ho
  have hne : (cutE E0 (o :: X)).isEmpty = false := by
    rw [cutE_cons, hE]
    split <;> rfl
  have f1 : cutE E0 (x0 :: o :: X) = x0 :: cutE E0 (o :: X) := by rw [cutE_cons E0 x0, hne]; rfl
  unfold lastPart
  rw [f1, cutE_cons N0 x0, h0]
  cases q : (cutE N0 (cutE E0 (o :: X))).isEmpty with
  | true =>
    intro r hr
    exact absurd hr (by simp)
  | false =>
    intro r hr
    simp only [Bool.false_eq_true, if_false, List.length_cons, List.drop_succ_cons] at hr
    split at hr
    · exact (cutE_pre _ _).subset (List.drop_subset _ _ hr)
    · nomatch hr
noncomputable def OkR (R : List B) : Prop := (∀ r ∈ R, Rok r) ∨ ∃ o X, R = [32, 9] :: o :: X ∧ N0 o = true ∧ ∀ r ∈ o :: X, Rok r
theorem sim0 : Sim ⟨[], 0, 0, 0, false⟩ ⟨[], 0, 0, false, false⟩ := ⟨rfl, rfl, rfl, rfl, rfl, fun _ h => nomatch h⟩
theorem law_fold (R : List B) : (if (cutE N0 (cutE E0 R)).any N0 then finL (((cutE E0 R).drop (cutE N0 (cutE E0 R)).length).foldl trL ⟨[], 0, 0, false, false⟩) else []) = finL ((lastPart R).foldl trL ⟨[], 0, 0, false, false⟩) := by
  unfold lastPart
  split
  · rfl
  · rfl
theorem tr_eq {m : B} (h : OkR (splitB 10 m)) : objT m = lawT m := by
  unfold objT lawT rowsOf
  rw [law_fold]
  rcases h with h | ⟨o, X, e, ho, h⟩
  · rw [lp_map fun r hr => (h r hr).e]
    exact (Sim.fold _ sim0 fun r hr => h r ((lastPart_sub _).2 r hr)).fin
  · rw [e, List.map_cons, show cutE ob [32, 9] = [] by decide, lp_blank [32, 9] (by decide) ho fun r hr => (h r hr).e]
    refine (Sim.fold _ sim0 fun r hr => ?_).fin
    -- the part holds no blank row
    exact h r (lp_blank_sub [32, 9] (by decide) ho r hr)
end Mine

namespace Mine
theorem OkS.fold : ∀ (l : List B) {k : Nat} {s : OS}, OkS k s → (∀ r ∈ l, r.length ≤ 300) → OkS (k + l.length) (l.foldl trO s)
  | [], _, _, h, _ => h
  | r :: l, k, s, h, hr => by
    rw [List.length_cons, List.foldl_cons, show k + (l.length + 1) = k + 1 + l.length by omega]
    exact OkS.fold l (h.step (hr r (.head _))) fun x hx => hr x (.tail _ hx)
theorem objT_len (m : B) (hm : m.length ≤ 300) : (objT m).length ≤ 301 := by
  obtain ⟨h1, h2⟩ := rows_len3 m
  obtain ⟨h3, h4⟩ := lastPart_sub (rowsOf m)
  have := (OkS.fold (lastPart (rowsOf m)) (k := 0) (s := ⟨[], 0, 0, 0, false⟩) ⟨⟨Nat.le_refl _, fun p hp => (nomatch hp)⟩, fun h => (nomatch h)⟩ fun r hr => by have := h2 r (h4 r hr); omega).v.len
  unfold objT finO
  split
  · exact Nat.zero_le _
  · omega
theorem flat_refl (p : B × B) : allEq flatEq [.bytes p.1, .bytes p.2] [.bytes p.1, .bytes p.2] = some true := by
  simp only [allEq, flatEq, beq_self_eq_true, Bool.and_self]
theorem el_refl : ∀ L : List (B × B), allEq elEq (L.map tupOf) (L.map tupOf) = some true
  | [] => rfl
  | p :: L => by
    rw [List.map_cons, allEq, el_refl L]
    show (match allEq flatEq [.bytes p.1, .bytes p.2] [.bytes p.1, .bytes p.2] with | some r => some (r && true) | none => none) = _
    rw [flat_refl]
    rfl
theorem eqT_refl (L : List (B × B)) : eqO (.lst (L.map tupOf)) (.lst (L.map tupOf)) = some true := by
  rw [eqO, lstEq, decide_eq_true rfl]
  exact el_refl L
theorem F300_at (m : B) (d : DS) (hm : m.length ≤ 300) (h : OkR (splitB 10 m)) : F300 [.bytes m] d = some (.val (.bool true), d) := by
  have e216 := F216_at (.bytes [1, 2]) (.lst []) (.inst 130 [.bytes [65], .bytes [97, 64, 98], .int 1, .bytes [43, 48, 48, 48, 48]]) (.inst 130 [.bytes [65], .bytes [97, 64, 98], .int 1, .bytes [43, 48, 48, 48, 48]]) (.lst []) m d (by omega)
  have e278 := F278_at m d (by omega)
  have e188 := F188_at m d hm
  have e295 := F295_at m d hm
  rw [← tr_eq h] at e295
  have hlen := objT_len m hm
  have it := itemsK_l ((objT m).map tupOf) (by rw [List.length_map]; omega)
  have cK : compK (bF true) (unF tupleO (nameF 0)) ((objT m).map tupOf) d = some ((objT m).map tupOf, d) := compK_all tupOf tupOf (objT m) d (fun _ _ => rfl) fun _ _ => rfl
  have hne : neO (.bytes (joinB [32] (para (rowsOf m)))) (.bytes (joinB [32] (para (rowsOf m)))) = some false := by simp only [neO, eqO, beq_self_eq_true, Bool.not_true]
  have hq := eqT_refl (objT m)
  simp only [F300, g300, runF, seqF, brF, retF, datF, doneF', boolF, cmpF, callF, selfF, makeF, compF, nameF, cstF, lstF, consA, nilA, RV.pv, RV.strong, look, St.set, put, List.map_cons, List.map_nil, List.length_cons, List.length_nil, List.replicate, List.cons_append, List.nil_append, decide_true, Nat.zero_le, Nat.reduceAdd, if_true, e216, e278, hne, e188, it, cK, e295, hq]
/-! joined rows come apart again -/
theorem split_join : ∀ (R : List B), (∀ r ∈ R, (10 : UInt8) ∉ r) → R ≠ [] → splitB 10 (joinB [10] R) = R
  | [], _, h => absurd rfl h
  | [r], h, _ => splitB_none (fnd_one.mpr (h r (.head _)))
  | r :: r' :: R, h, _ => by
    have ih := split_join (r' :: R) (fun x hx => h x (.tail _ hx)) (by simp)
    have hr := h r (.head _)
    rw [joinB]
    · generalize joinB [10] (r' :: R) = t at *
      have : ∀ (x : B), (10 : UInt8) ∉ x → splitB 10 (x ++ [10] ++ t) = x :: splitB 10 t := by
        intro x
        induction x with
        | nil => intro _; rfl
        | cons a x ih =>
          intro hx
          simp only [List.mem_cons, not_or] at hx
          rw [List.cons_append, List.cons_append, splitB, show (a == 10) = false by rw [beq_eq_false_iff_ne]; exact fun e => hx.1 e.symm]
          dsimp only
          rw [ih hx.2]
      rw [this r hr, ih]
    · simp
theorem joinB_len : ∀ R : List B, (joinB [10] R).length ≤ sumB R + R.length
  | [] => Nat.zero_le _
  | [r] => by rw [joinB, sumB]; omega
  | r :: r' :: R => by
    have := joinB_len (r' :: R)
    rw [joinB]
    · rw [sumB, List.length_append, List.length_append, List.length_cons, List.length_nil, List.length_cons]
      omega
    · simp
theorem sumB_app : ∀ a b : List B, sumB (a ++ b) = sumB a + sumB b
  | [], b => by rw [List.nil_append, sumB, Nat.zero_add]
  | x :: a, b => by rw [List.cons_append, sumB, sumB, sumB_app a b]; omega
theorem sumB_rep (n : Nat) : sumB (List.replicate n []) = 0 := by
  induction n with
  | zero => rfl
  | succ n ih => rw [List.replicate_succ, sumB, ih]; rfl
noncomputable def prose : List B := [[111, 110, 101], [116, 119, 111, 32, 119, 111, 114, 100, 115], [115, 101, 101, 58, 32, 116, 104, 105, 115], [40, 99, 104, 101, 114, 114, 121, 32, 112, 105, 99, 107, 101, 100, 32, 102, 114, 111, 109, 32, 99, 111, 109, 109, 105, 116, 32, 48, 49, 41], [120, 32, 121, 58, 32, 122], [45], [58], [97, 45, 49]]
noncomputable def keys : List B := [[83, 105, 103, 110, 101, 100, 45, 111, 102, 102, 45, 98, 121, 58, 32, 65, 32, 60, 97, 64, 98, 62], [70, 105, 120, 101, 115, 58, 35, 49], [75, 101, 121, 45, 50, 32, 58, 32, 32, 118, 32, 32], [115, 105, 103, 110, 101, 100, 45, 111, 102, 102, 45, 98, 121, 58, 32, 66], [75, 58], [65, 99, 107, 101, 100, 45, 98, 121, 58, 32, 67, 58, 32, 100]]
noncomputable def SA : List B := prose ++ [[], [101, 110, 100, 32, 32], [101, 110, 100, 13], [116, 97, 105, 108, 32, 12, 11, 9]]
noncomputable def SB : List B := keys ++ keys ++ [[32, 109, 111, 114, 101], [9, 97, 110, 100, 32, 109, 111, 114, 101, 32]] ++ prose.take 4
noncomputable def fine (r : B) : Bool := rok r && decide (r.length ≤ 30) && !r.contains 10
theorem fine_all : ([] :: [111, 110, 101] :: (SA ++ SB)).all fine = true := by decide +kernel
theorem fine_of {r : B} (h : r = [] ∨ r = [111, 110, 101] ∨ r ∈ SA ∨ r ∈ SB) : Rok r ∧ r.length ≤ 30 ∧ (10 : UInt8) ∉ r := by
  have hf : fine r = true := by
    refine List.all_eq_true.mp fine_all r ?_
    rcases h with rfl | rfl | h | h
    · exact .head _
    · exact .tail _ (.head _)
    · exact .tail _ (.tail _ (List.mem_append_left _ h))
    · exact .tail _ (.tail _ (List.mem_append_right _ h))
  unfold fine at hf
  simp only [Bool.and_eq_true] at hf
  refine ⟨rok_of hf.1.1, of_decide_eq_true hf.1.2, ?_⟩
  have := hf.2
  simpa using this
/-- the rows that the law draws -/
theorem rows_ok (c : Bool) (e s t : Nat) (A B' : List B) (he : e ≤ 1) (hs : s ≤ 1) (ht : t ≤ 2) (hA : A.length ≤ 4) (hB : B'.length ≤ 4) (hA' : ∀ x ∈ A, x ∈ SA) (hB' : ∀ x ∈ B', x ∈ SB) (R : List B)
    (hR : R = (if c then [[32, 9], [111, 110, 101]] else []) ++ List.replicate e [] ++ A ++ List.replicate s [] ++ B' ++ List.replicate t []) :
    R.length ≤ 901 ∧ (∀ x ∈ R, x.length ≤ 900) ∧ (joinB [10] R).length ≤ 300 ∧ OkR (splitB 10 (joinB [10] R)) := by
  have hm : ∀ x ∈ List.replicate e ([] : B) ++ A ++ List.replicate s [] ++ B' ++ List.replicate t [], Rok x ∧ x.length ≤ 30 ∧ (10 : UInt8) ∉ x := fun x hx => by
    simp only [List.mem_append, List.mem_replicate] at hx
    rcases hx with (((⟨_, h⟩ | h) | ⟨_, h⟩) | h) | ⟨_, h⟩
    · exact fine_of (.inl h)
    · exact fine_of (.inr (.inr (.inl (hA' x h))))
    · exact fine_of (.inl h)
    · exact fine_of (.inr (.inr (.inr (hB' x h))))
    · exact fine_of (.inl h)
  have hlA := sumB_le 30 A fun x hx => (fine_of (.inr (.inr (.inl (hA' x hx))))).2.1
  have hlB := sumB_le 30 B' fun x hx => (fine_of (.inr (.inr (.inr (hB' x hx))))).2.1
  have hsum : sumB (List.replicate e ([] : B) ++ A ++ List.replicate s [] ++ B' ++ List.replicate t []) ≤ 240 := by
    simp only [sumB_app, sumB_rep]
    omega
  have hlen : (List.replicate e ([] : B) ++ A ++ List.replicate s [] ++ B' ++ List.replicate t []).length ≤ 12 := by
    simp only [List.length_append, List.length_replicate]
    omega
  have hone := fine_of (r := [111, 110, 101]) (.inr (.inl rfl))
  have hj := joinB_len R
  have eR : R = (if c then [[32, 9], [111, 110, 101]] else []) ++ (List.replicate e [] ++ A ++ List.replicate s [] ++ B' ++ List.replicate t []) := by rw [hR]; simp only [List.append_assoc]
  generalize (List.replicate e ([] : B) ++ A ++ List.replicate s [] ++ B' ++ List.replicate t []) = T at *
  cases c with
  | true =>
    have e2 : R = [32, 9] :: [111, 110, 101] :: T := eR
    subst e2
    have h10 : ∀ r ∈ ([32, 9] :: [111, 110, 101] :: T : List B), (10 : UInt8) ∉ r := fun r hr => by
      cases hr with
      | head => decide
      | tail _ hr => cases hr with
        | head => decide
        | tail _ hr => exact (hm r hr).2.2
    refine ⟨by simp only [List.length_cons]; omega, fun x hx => ?_, ?_, ?_⟩
    · cases hx with
      | head => decide
      | tail _ hx => cases hx with
        | head => decide
        | tail _ hx => have := (hm x hx).2.1; omega
    · rw [sumB, sumB] at hj
      simp only [List.length_cons, List.length_nil] at hj
      omega
    · rw [split_join _ h10 (by simp)]
      refine .inr ⟨_, T, rfl, by decide, fun r hr => ?_⟩
      cases hr with
      | head => exact hone.1
      | tail _ hr => exact (hm r hr).1
  | false =>
    have e2 : R = T := eR
    subst e2
    refine ⟨by omega, fun x hx => by have := (hm x hx).2.1; omega, by omega, ?_⟩
    by_cases hn : R = []
    · subst hn
      refine .inl fun r hr => ?_
      have hr' : r ∈ [([] : B)] := hr
      rw [List.mem_singleton.mp hr']
      exact (fine_of (.inl rfl)).1
    · rw [split_join _ (fun r hr => (hm r hr).2.2) hn]
      exact .inl fun r hr => (hm r hr).1
end Mine

namespace Mine
noncomputable abbrev st7 (v3 v5 v6 : Option PV) (L : List B) (k : Dk) : St := ⟨[some .deck, some (.lst (prose.map .bytes)), some (.lst (keys.map .bytes)), v3, none, v5, v6], some (4, L.map .bytes), some k⟩
theorem pushB (L : List B) (x : B) (h : L.length ≤ 901) : pushO (L.map .bytes) (.bytes x) = some ((L ++ [x]).map .bytes) := by
  rw [push_at _ _ (by rw [List.length_map]; omega), List.map_append]; rfl
theorem bA (v3 v5 v6 : Option PV) (L : List B) (hL : L.length ≤ 100) (n : Nat) (hn : n ≤ 900) (k : Dk) (g : Good n k) : ∃ x k', x ∈ SA ∧ (seqF (ownF 4 pushO (callF F242 (consA (nameF 0) (consA (binF addO (nameF 1) (lstF (consA (cstF (.bytes [])) (consA (cstF (.bytes [101, 110, 100, 32, 32])) (consA (cstF (.bytes [101, 110, 100, 13])) (consA (cstF (.bytes [116, 97, 105, 108, 32, 12, 11, 9])) (nilA))))))) (nilA))))) (doneF')) (st7 v3 v5 v6 L k) = some (.nx (st7 v3 v5 v6 (L ++ [x]) k')) ∧ Good (n + 1) k' := by
  obtain ⟨x, k', hx, _, e, g'⟩ := F242_bs n k SA 30 (by simp [SA]) (by decide) (fun x hx => (fine_of (.inr (.inr (.inl hx)))).2.1) g (by omega)
  refine ⟨x, k', hx, ?_, g'⟩
  have hP := pushB L x (by omega)
  have ha : addO (.lst (prose.map .bytes)) (.lst [.bytes [], .bytes [101, 110, 100, 32, 32], .bytes [101, 110, 100, 13], .bytes [116, 97, 105, 108, 32, 12, 11, 9]]) = some (.fr (SA.map .bytes)) := by
    rw [add_l _ _ (by decide)]
    rfl
  simp only [seqF, ownF, doneF', callF, binF, nameF, cstF, lstF, consA, nilA, RV.pv, RV.strong, look, List.length_cons, List.length_nil, Nat.reduceAdd, Nat.reduceLeDiff, if_true, ha, e, decide_true, hP]
theorem bB (v3 v5 v6 : Option PV) (L : List B) (hL : L.length ≤ 100) (n : Nat) (hn : n ≤ 900) (k : Dk) (g : Good n k) : ∃ x k', x ∈ SB ∧ (seqF (ownF 4 pushO (callF F242 (consA (nameF 0) (consA (binF addO (binF addO (binF addO (nameF 2) (nameF 2)) (lstF (consA (cstF (.bytes [32, 109, 111, 114, 101])) (consA (cstF (.bytes [9, 97, 110, 100, 32, 109, 111, 114, 101, 32])) (nilA))))) (sliceF (nameF 1) none (some (cstF (.int 4))))) (nilA))))) (doneF')) (st7 v3 v5 v6 L k) = some (.nx (st7 v3 v5 v6 (L ++ [x]) k')) ∧ Good (n + 1) k' := by
  obtain ⟨x, k', hx, _, e, g'⟩ := F242_bs n k SB 30 (by simp [SB]) (by decide) (fun x hx => (fine_of (.inr (.inr (.inr hx)))).2.1) g (by omega)
  refine ⟨x, k', hx, ?_, g'⟩
  have hP := pushB L x (by omega)
  have a1 : addO (.lst (keys.map .bytes)) (.lst (keys.map .bytes)) = some (.fr ((keys ++ keys).map .bytes)) := by
    rw [add_l _ _ (by decide), List.map_append]
  have a2 : addO (.lst ((keys ++ keys).map .bytes)) (.lst [.bytes [32, 109, 111, 114, 101], .bytes [9, 97, 110, 100, 32, 109, 111, 114, 101, 32]]) = some (.fr ((keys ++ keys ++ [[32, 109, 111, 114, 101], [9, 97, 110, 100, 32, 109, 111, 114, 101, 32]]).map .bytes)) := by
    rw [add_l _ _ (by decide)]
    rfl
  have a3 : addO (.lst ((keys ++ keys ++ [[32, 109, 111, 114, 101], [9, 97, 110, 100, 32, 109, 111, 114, 101, 32]]).map .bytes)) (.lst ((prose.take 4).map .bytes)) = some (.fr (SB.map .bytes)) := by
    rw [add_l _ _ (by decide), ← List.map_append]
    rfl
  have s1 : sliceO (.lst (prose.map .bytes)) none (some 4) = some (.fr ((prose.take 4).map .bytes)) := slO_lhi prose 4 4 rfl (by decide)
  simp only [seqF, ownF, doneF', callF, binF, nameF, cstF, lstF, consA, nilA, sliceF, partF, RV.pv, RV.strong, look, List.length_cons, List.length_nil, Nat.reduceAdd, Nat.reduceLeDiff, if_true, a1, a2, a3, s1, e, decide_true, hP]
theorem pushes (b : SF) (S : List B) (v3 v6 : Option PV) (hb : ∀ (v5 : Option PV) (L : List B), L.length ≤ 100 → ∀ (n : Nat), n ≤ 900 → ∀ (k : Dk), Good n k → ∃ x k', x ∈ S ∧ b (st7 v3 v5 v6 L k) = some (.nx (st7 v3 v5 v6 (L ++ [x]) k')) ∧ Good (n + 1) k') :
    ∀ (l : List PV) (v5 : Option PV) (L : List B) (n : Nat) (k : Dk), L.length + l.length ≤ 100 → n + l.length ≤ 900 → Good n k → ∃ xs v5' k', xs.length = l.length ∧ (∀ x ∈ xs, x ∈ S) ∧ forGo 5 b l (st7 v3 v5 v6 L k) = some (.nx (st7 v3 v5' v6 (L ++ xs) k')) ∧ Good (n + l.length) k'
  | [], v5, L, n, k, _, _, g => ⟨[], v5, k, rfl, fun _ h => (nomatch h), by rw [List.append_nil]; rfl, g⟩
  | p :: l, v5, L, n, k, h1, h2, g => by
    rw [List.length_cons] at h1 h2
    refine Classical.byContradiction fun hG => ?_
    obtain ⟨x, k1, hx, e1, g1⟩ := hb (some p) L (by omega) n (by omega) k g
    obtain ⟨xs, v5', k2, hl, hxs, e2, g2⟩ := pushes b S v3 v6 hb l (some p) (L ++ [x]) (n + 1) k1 (by rw [List.length_append, List.length_cons, List.length_nil]; omega) (by omega) g1
    refine hG ⟨x :: xs, v5', k2, by rw [List.length_cons, List.length_cons, hl], fun y hy => ?_, ?_, by rw [List.length_cons, show n + (l.length + 1) = n + 1 + l.length by omega]; exact g2⟩
    · cases hy with
      | head => exact hx
      | tail _ hy => exact hxs y hy
    · rw [forGo, show (st7 v3 v5 v6 L k).set 5 p = st7 v3 (some p) v6 L k from rfl, e1]
      dsimp only
      rw [e2, List.append_assoc]
      rfl
theorem mul_bs (l : List B) (hl : l.length ≤ 1000) (b : Int) (n : Nat) (hb : b = n) (hn : n ≤ 100) : mulO (.lst (l.map .bytes)) (.int b) = some (.fr ((List.replicate n l).flatten.map .bytes)) := by
  have hz : b.toNat ≤ 100 ∧ b ≤ 100 ∧ -100 ≤ b ∧ (l.map PV.bytes).length ≤ 1000 := by rw [List.length_map]; omega
  rw [mulO, if_pos hz, show b.toNat = n by omega, List.map_flatten, List.map_replicate]
theorem rep_one (n : Nat) : (List.replicate n [([] : B)]).flatten = List.replicate n [] := by
  induction n with
  | zero => rfl
  | succ n ih => rw [List.replicate_succ, List.flatten_cons, ih, List.replicate_succ]; rfl
theorem rep_bool (c : Bool) (l : List B) : (List.replicate (bN c) l).flatten = if c then l else [] := by
  cases c with
  | true => simp [bN]
  | false => rfl
theorem rng (n : Int) (h0 : 0 ≤ n) (h1 : n < 5) : (0 ≤ n ∧ n < 1000000) = True := eq_true (by omega)
end Mine

namespace Mine
theorem add_ms (X Y : List B) {a b : Nat} (hX : X.length ≤ a) (hY : Y.length ≤ b) (h : a + b ≤ 16777216 := by decide) : addO (.lst (X.map .bytes)) (.lst (Y.map .bytes)) = some (.fr ((X ++ Y).map .bytes)) := by
  rw [add_l _ _ (by rw [List.length_map, List.length_map]; exact Nat.le_trans (Nat.add_le_add hX hY) h), List.map_append]
theorem mul_e (n : Nat) (hn : n ≤ 100) : mulO (.lst [.bytes []]) (.int (n : Int)) = some (.fr ((List.replicate n [] : List B).map .bytes)) := by
  have := mul_bs [[]] (by decide) (n : Int) n rfl hn
  rw [rep_one] at this
  exact this
theorem bN_le (c : Bool) : bN c ≤ 1 := by cases c <;> decide
theorem mul_c (c : Bool) : mulO (.lst [.bytes [32, 9], .bytes [111, 110, 101]]) (.int ((bN c : Nat) : Int)) = some (.fr ((if c then [[32, 9], [111, 110, 101]] else [] : List B).map .bytes)) := by
  have := mul_bs [[32, 9], [111, 110, 101]] (by decide) ((bN c : Nat) : Int) (bN c) rfl (Nat.le_trans (bN_le c) (by decide))
  rw [rep_bool] at this
  exact this
theorem rep_le (n m : Nat) (h : n ≤ m) : (List.replicate n ([] : B)).length ≤ m := by rw [List.length_replicate]; exact h
theorem rangeN (r : Nat) (h : r < 5) : ((0 : Int) ≤ (r : Int) ∧ (r : Int) < 1000000) = True := eq_true ⟨Int.natCast_nonneg r, Int.lt_trans (Int.ofNat_lt.mpr h) (by decide)⟩
noncomputable abbrev rgI (r : Nat) : List PV := (List.range r).map fun (k : Nat) => PV.int (k : Int)
theorem rgI_len (r : Nat) : (rgI r).length = r := by rw [List.length_map, List.length_range]
theorem exists_imp_ {f g : Option Out} {v3 v6 : Option PV} (h : f = g) : (∃ v5' L k', g = some (.nx (st7 v3 v5' v6 L k')) ∧ Good 50 k') → ∃ v5' L k', f = some (.nx (st7 v3 v5' v6 L k')) ∧ Good 50 k' := fun ⟨a, b, c, e, g⟩ => ⟨a, b, c, h.trans e, g⟩
theorem round307 (v3 v5 v6 : Option PV) (k : Dk) (g : Good 30 k) : ∃ v5' L k', (seqF (asgF 4 (binF addO (binF mulO (lstF (consA (cstF (.bytes [32, 9])) (consA (cstF (.bytes [111, 110, 101])) (nilA)))) (unF intO (boolF (cmpF eqO (callF F235 (consA (nameF 0) (consA (cstF (.int 5)) (nilA)))) (cstF (.int 0)))))) (binF mulO (lstF (consA (cstF (.bytes [])) (nilA))) (callF F235 (consA (nameF 0) (consA (cstF (.int 2)) (nilA))))))) (seqF (rangeF 5 (callF F235 (consA (nameF 0) (consA (cstF (.int 5)) (nilA)))) (seqF (ownF 4 pushO (callF F242 (consA (nameF 0) (consA (binF addO (nameF 1) (lstF (consA (cstF (.bytes [])) (consA (cstF (.bytes [101, 110, 100, 32, 32])) (consA (cstF (.bytes [101, 110, 100, 13])) (consA (cstF (.bytes [116, 97, 105, 108, 32, 12, 11, 9])) (nilA))))))) (nilA))))) (doneF'))) (seqF (asgF 4 (binF addO (nameF 4) (binF mulO (lstF (consA (cstF (.bytes [])) (nilA))) (unF intO (boolF (cmpF gtO (callF F235 (consA (nameF 0) (consA (cstF (.int 4)) (nilA)))) (cstF (.int 0)))))))) (seqF (rangeF 5 (callF F235 (consA (nameF 0) (consA (cstF (.int 5)) (nilA)))) (seqF (ownF 4 pushO (callF F242 (consA (nameF 0) (consA (binF addO (binF addO (binF addO (nameF 2) (nameF 2)) (lstF (consA (cstF (.bytes [32, 109, 111, 114, 101])) (consA (cstF (.bytes [9, 97, 110, 100, 32, 109, 111, 114, 101, 32])) (nilA))))) (sliceF (nameF 1) none (some (cstF (.int 4))))) (nilA))))) (doneF'))) (seqF (asgF 4 (binF addO (nameF 4) (binF mulO (lstF (consA (cstF (.bytes [])) (nilA))) (callF F235 (consA (nameF 0) (consA (cstF (.int 3)) (nilA))))))) (seqF (brF (notF (valF (callF F300 (consA (binF joinO (cstF (.bytes [10])) (nameF 4)) (nilA))))) (seqF (retF (cstF (.bool false))) (doneF')) (doneF')) (doneF'))))))) ⟨[some .deck, some (.lst (prose.map .bytes)), some (.lst (keys.map .bytes)), v3, none, v5, v6], none, some k⟩ = some (.nx (st7 v3 v5' v6 L k')) ∧ Good 50 k' := by
  obtain ⟨r1, k1, y1, e1, g1⟩ := draw 30 k 5 (by decide) (by decide) g (by decide)
  obtain ⟨r2, k2, y2, e2, g2⟩ := draw 31 k1 2 (by decide) (by decide) g1 (by decide)
  obtain ⟨r3, k3, y3, e3, g3⟩ := draw 32 k2 5 (by decide) (by decide) g2 (by decide)
  have e1' : F235 [.deck, .int 5] (some k) = _ := e1
  have e2' : F235 [.deck, .int 2] (some k1) = _ := e2
  have e3' : F235 [.deck, .int 5] (some k2) = _ := e3
  have hc : ((if ((r1 : Int) == 0) then [[32, 9], [111, 110, 101]] else [] : List B)).length ≤ 2 := by cases ((r1 : Int) == 0) <;> decide
  have hr2 := rep_le r2 1 (Nat.le_of_lt_succ y2)
  have hL0 := app_le hc hr2
  have a1 := add_ms _ _ hc hr2
  have m1 := mul_c ((r1 : Int) == 0)
  have m2 := mul_e r2 (Nat.le_trans (Nat.le_of_lt y2) (by decide))
  refine exists_imp_ (seq_nx (σ' := st7 v3 v5 v6 ((if ((r1 : Int) == 0) then [[32, 9], [111, 110, 101]] else []) ++ List.replicate r2 []) k2) (by
    simp only [asgF, binF, unF, boolF, cmpF, callF, lstF, consA, nilA, nameF, cstF, look, RV.pv, RV.strong, List.length_cons, List.length_nil, Nat.reduceAdd, Nat.reduceLeDiff, if_true, e1', eq_i, int_b, e2', m1, m2, a1, St.setOwn, put])) ?_
  have hfin := fun A s B' t hs ht hA hB mA mB => rows_ok ((r1 : Int) == 0) r2 s t A B' (Nat.le_of_lt_succ y2) hs ht hA hB mA mB _ rfl
  clear a1 m1 m2 hc hr2
  generalize ((if ((r1 : Int) == 0) then [[32, 9], [111, 110, 101]] else []) ++ List.replicate r2 [] : List B) = L0 at *
  -- the first rows
  have l3 : (rgI r3).length ≤ 4 := Nat.le_trans (Nat.le_of_eq (rgI_len r3)) (Nat.le_of_lt_succ y3)
  obtain ⟨A, v5a, k4, lA, mA, eA, g4⟩ := pushes _ SA v3 v6 (fun v5 L hL n hn k g => bA v3 v5 v6 L hL n hn k g) (rgI r3) v5 L0 33 k3 (Nat.le_trans (Nat.add_le_add hL0 l3) (by decide)) (Nat.le_trans (Nat.add_le_add_left l3 33) (by decide)) g3
  rw [← lA] at l3
  refine exists_imp_ (seq_nx (σ' := st7 v3 v5a v6 (L0 ++ A) k4) (by
    simp only [rangeF, callF, consA, nilA, nameF, cstF, look, RV.strong, e3', rangeN r3 y3, if_true, Int.toNat_natCast]
    exact eA)) ?_
  have g4 := g4.mono (m := 37) (Nat.add_le_add_left (lA ▸ l3) 33)
  -- a blank row between
  obtain ⟨r4, k5, y4, e4, g5⟩ := draw 37 k4 4 (by decide) (by decide) g4 (by decide)
  have e4' : F235 [.deck, .int 4] (some k4) = _ := e4
  have hA1 := app_le hL0 l3
  have hb := rep_le _ 1 (bN_le (decide ((0 : Int) < (r4 : Int))))
  have a2 := add_ms _ _ hA1 hb
  have m3 := mul_e _ (Nat.le_trans (bN_le (decide ((0 : Int) < (r4 : Int)))) (by decide))
  refine exists_imp_ (seq_nx (σ' := st7 v3 v5a v6 (L0 ++ A ++ List.replicate (bN (decide ((0 : Int) < (r4 : Int)))) []) k5) (by
    simp only [asgF, binF, unF, boolF, cmpF, gt_i, callF, lstF, consA, nilA, nameF, cstF, look, RV.pv, RV.strong, List.length_cons, List.length_nil, Nat.reduceAdd, Nat.reduceLeDiff, if_true, decide_true, e4', int_b, m3, a2, St.setOwn, put])) ?_
  have hL1 := app_le hA1 hb
  have hs := bN_le (decide ((0 : Int) < (r4 : Int)))
  clear a2 m3 hb hA1
  generalize bN (decide ((0 : Int) < (r4 : Int))) = s4 at *
  -- the rows behind
  obtain ⟨r5, k6, y5, e5, g6⟩ := draw 38 k5 5 (by decide) (by decide) g5 (by decide)
  have e5' : F235 [.deck, .int 5] (some k5) = _ := e5
  have l5 : (rgI r5).length ≤ 4 := Nat.le_trans (Nat.le_of_eq (rgI_len r5)) (Nat.le_of_lt_succ y5)
  obtain ⟨B', v5b, k7, lB, mB, eB, g7⟩ := pushes _ SB v3 v6 (fun v5 L hL n hn k g => bB v3 v5 v6 L hL n hn k g) (rgI r5) v5a (L0 ++ A ++ List.replicate s4 []) 39 k6 (Nat.le_trans (Nat.add_le_add hL1 l5) (by decide)) (Nat.le_trans (Nat.add_le_add_left l5 39) (by decide)) g6
  rw [← lB] at l5
  refine exists_imp_ (seq_nx (σ' := st7 v3 v5b v6 (L0 ++ A ++ List.replicate s4 [] ++ B') k7) (by
    simp only [rangeF, callF, consA, nilA, nameF, cstF, look, RV.strong, e5', rangeN r5 y5, if_true, Int.toNat_natCast]
    exact eB)) ?_
  have g7 := g7.mono (m := 43) (Nat.add_le_add_left (lB ▸ l5) 39)
  -- blank rows at the end
  obtain ⟨r6, k8, y6, e6, g8⟩ := draw 43 k7 3 (by decide) (by decide) g7 (by decide)
  have e6' : F235 [.deck, .int 3] (some k7) = _ := e6
  have hL2 := app_le hL1 l5
  have a3 := add_ms _ _ hL2 (rep_le r6 2 (Nat.le_of_lt_succ y6))
  have m4 := mul_e r6 (Nat.le_trans (Nat.le_of_lt y6) (by decide))
  refine exists_imp_ (seq_nx (σ' := st7 v3 v5b v6 (L0 ++ A ++ List.replicate s4 [] ++ B' ++ List.replicate r6 []) k8) (by
    simp only [asgF, binF, callF, lstF, consA, nilA, nameF, cstF, look, RV.pv, RV.strong, List.length_cons, List.length_nil, Nat.reduceAdd, Nat.reduceLeDiff, if_true, decide_true, e6', m4, a3, St.setOwn, put])) ?_
  obtain ⟨z1, z2, z3, z4⟩ := hfin A s4 B' r6 hs (Nat.le_of_lt_succ y6) l3 l5 mA mB
  clear hfin a3 m4 hL2
  generalize L0 ++ A ++ List.replicate s4 [] ++ B' ++ List.replicate r6 [] = R at *
  have hj := join_b 10 R z1 z2
  have e300 := F300_at (joinB [10] R) (some k8) z3 z4
  refine ⟨v5b, R, k8, ?_, g8.mono (by decide)⟩
  simp only [seqF, brF, notF, valF, callF, binF, nameF, cstF, consA, nilA, look, RV.pv, RV.strong, decide_true, hj, e300, Bool.not_true, doneF']
noncomputable def handB : B := [111, 110, 101, 10, 10, 83, 101, 101, 58, 32, 97, 10, 32, 32, 98, 10, 9, 99, 10, 40, 99, 104, 101, 114, 114, 121, 32, 112, 105, 99, 107, 101, 100, 32, 102, 114, 111, 109, 32, 99, 111, 109, 109, 105, 116, 32, 48, 49, 41, 10, 112, 108, 97, 105, 110, 10]
noncomputable def lastMs : List B := [[], [75, 101, 121, 58, 32, 118, 10], [97, 10, 10, 75, 101, 121, 58, 32, 118, 10, 112, 108, 97, 105, 110, 10], [97, 10, 10, 75, 58, 10, 32, 109, 111, 114, 101, 10]]
theorem ok_all : (handB :: lastMs).all (fun m => (splitB 10 m).all rok && decide (m.length ≤ 300)) = true := by decide +kernel
theorem ok_of {m : B} (h : m ∈ handB :: lastMs) : m.length ≤ 300 ∧ OkR (splitB 10 m) := by
  have := List.all_eq_true.mp ok_all m h
  rw [Bool.and_eq_true] at this
  exact ⟨of_decide_eq_true this.2, .inl fun r hr => rok_of (List.all_eq_true.mp this.1 r hr)⟩
theorem hand_law : lawT handB = [([83, 101, 101], [97, 32, 98, 32, 99])] := by decide +kernel
theorem F307_at (k : Dk) (g : Good 30 k) : ∃ k', F307 [.deck] (some k) = some (.val (.bool true), some k') := by
  obtain ⟨v5, L, k1, e1, g1⟩ := round307 (some (.int 0)) none none k g
  have hh := ok_of (m := handB) (.head _)
  have e295 := F295_at handB (some k1) hh.1
  rw [hand_law] at e295
  have e300 := F300_at handB (some k1) hh.1 hh.2
  obtain ⟨x, k2, hx, _, e242, g2⟩ := F242_bs 50 k1 lastMs 300 (by simp [lastMs]) (by decide) (fun x hx => (ok_of (.tail _ hx)).1) g1 (by omega)
  have hm := ok_of (m := x) (.tail _ hx)
  have e300b := F300_at x (some k2) hm.1 hm.2
  have hf : forGo 3 (seqF (asgF 4 (binF addO (binF mulO (lstF (consA (cstF (.bytes [32, 9])) (consA (cstF (.bytes [111, 110, 101])) (nilA)))) (unF intO (boolF (cmpF eqO (callF F235 (consA (nameF 0) (consA (cstF (.int 5)) (nilA)))) (cstF (.int 0)))))) (binF mulO (lstF (consA (cstF (.bytes [])) (nilA))) (callF F235 (consA (nameF 0) (consA (cstF (.int 2)) (nilA))))))) (seqF (rangeF 5 (callF F235 (consA (nameF 0) (consA (cstF (.int 5)) (nilA)))) (seqF (ownF 4 pushO (callF F242 (consA (nameF 0) (consA (binF addO (nameF 1) (lstF (consA (cstF (.bytes [])) (consA (cstF (.bytes [101, 110, 100, 32, 32])) (consA (cstF (.bytes [101, 110, 100, 13])) (consA (cstF (.bytes [116, 97, 105, 108, 32, 12, 11, 9])) (nilA))))))) (nilA))))) (doneF'))) (seqF (asgF 4 (binF addO (nameF 4) (binF mulO (lstF (consA (cstF (.bytes [])) (nilA))) (unF intO (boolF (cmpF gtO (callF F235 (consA (nameF 0) (consA (cstF (.int 4)) (nilA)))) (cstF (.int 0)))))))) (seqF (rangeF 5 (callF F235 (consA (nameF 0) (consA (cstF (.int 5)) (nilA)))) (seqF (ownF 4 pushO (callF F242 (consA (nameF 0) (consA (binF addO (binF addO (binF addO (nameF 2) (nameF 2)) (lstF (consA (cstF (.bytes [32, 109, 111, 114, 101])) (consA (cstF (.bytes [9, 97, 110, 100, 32, 109, 111, 114, 101, 32])) (nilA))))) (sliceF (nameF 1) none (some (cstF (.int 4))))) (nilA))))) (doneF'))) (seqF (asgF 4 (binF addO (nameF 4) (binF mulO (lstF (consA (cstF (.bytes [])) (nilA))) (callF F235 (consA (nameF 0) (consA (cstF (.int 3)) (nilA))))))) (seqF (brF (notF (valF (callF F300 (consA (binF joinO (cstF (.bytes [10])) (nameF 4)) (nilA))))) (seqF (retF (cstF (.bool false))) (doneF')) (doneF')) (doneF'))))))) [.int 0] ⟨[some .deck, some (.lst (prose.map .bytes)), some (.lst (keys.map .bytes)), none, none, none, none], none, some k⟩ = some (.nx (st7 (some (.int 0)) v5 none L k1)) := by
    rw [forGo]
    show (match (seqF (asgF 4 (binF addO (binF mulO (lstF (consA (cstF (.bytes [32, 9])) (consA (cstF (.bytes [111, 110, 101])) (nilA)))) (unF intO (boolF (cmpF eqO (callF F235 (consA (nameF 0) (consA (cstF (.int 5)) (nilA)))) (cstF (.int 0)))))) (binF mulO (lstF (consA (cstF (.bytes [])) (nilA))) (callF F235 (consA (nameF 0) (consA (cstF (.int 2)) (nilA))))))) (seqF (rangeF 5 (callF F235 (consA (nameF 0) (consA (cstF (.int 5)) (nilA)))) (seqF (ownF 4 pushO (callF F242 (consA (nameF 0) (consA (binF addO (nameF 1) (lstF (consA (cstF (.bytes [])) (consA (cstF (.bytes [101, 110, 100, 32, 32])) (consA (cstF (.bytes [101, 110, 100, 13])) (consA (cstF (.bytes [116, 97, 105, 108, 32, 12, 11, 9])) (nilA))))))) (nilA))))) (doneF'))) (seqF (asgF 4 (binF addO (nameF 4) (binF mulO (lstF (consA (cstF (.bytes [])) (nilA))) (unF intO (boolF (cmpF gtO (callF F235 (consA (nameF 0) (consA (cstF (.int 4)) (nilA)))) (cstF (.int 0)))))))) (seqF (rangeF 5 (callF F235 (consA (nameF 0) (consA (cstF (.int 5)) (nilA)))) (seqF (ownF 4 pushO (callF F242 (consA (nameF 0) (consA (binF addO (binF addO (binF addO (nameF 2) (nameF 2)) (lstF (consA (cstF (.bytes [32, 109, 111, 114, 101])) (consA (cstF (.bytes [9, 97, 110, 100, 32, 109, 111, 114, 101, 32])) (nilA))))) (sliceF (nameF 1) none (some (cstF (.int 4))))) (nilA))))) (doneF'))) (seqF (asgF 4 (binF addO (nameF 4) (binF mulO (lstF (consA (cstF (.bytes [])) (nilA))) (callF F235 (consA (nameF 0) (consA (cstF (.int 3)) (nilA))))))) (seqF (brF (notF (valF (callF F300 (consA (binF joinO (cstF (.bytes [10])) (nameF 4)) (nilA))))) (seqF (retF (cstF (.bool false))) (doneF')) (doneF')) (doneF'))))))) ⟨[some .deck, some (.lst (prose.map .bytes)), some (.lst (keys.map .bytes)), some (.int 0), none, none, none], none, some k⟩ with | some (.nx σ') => forGo 3 (seqF (asgF 4 (binF addO (binF mulO (lstF (consA (cstF (.bytes [32, 9])) (consA (cstF (.bytes [111, 110, 101])) (nilA)))) (unF intO (boolF (cmpF eqO (callF F235 (consA (nameF 0) (consA (cstF (.int 5)) (nilA)))) (cstF (.int 0)))))) (binF mulO (lstF (consA (cstF (.bytes [])) (nilA))) (callF F235 (consA (nameF 0) (consA (cstF (.int 2)) (nilA))))))) (seqF (rangeF 5 (callF F235 (consA (nameF 0) (consA (cstF (.int 5)) (nilA)))) (seqF (ownF 4 pushO (callF F242 (consA (nameF 0) (consA (binF addO (nameF 1) (lstF (consA (cstF (.bytes [])) (consA (cstF (.bytes [101, 110, 100, 32, 32])) (consA (cstF (.bytes [101, 110, 100, 13])) (consA (cstF (.bytes [116, 97, 105, 108, 32, 12, 11, 9])) (nilA))))))) (nilA))))) (doneF'))) (seqF (asgF 4 (binF addO (nameF 4) (binF mulO (lstF (consA (cstF (.bytes [])) (nilA))) (unF intO (boolF (cmpF gtO (callF F235 (consA (nameF 0) (consA (cstF (.int 4)) (nilA)))) (cstF (.int 0)))))))) (seqF (rangeF 5 (callF F235 (consA (nameF 0) (consA (cstF (.int 5)) (nilA)))) (seqF (ownF 4 pushO (callF F242 (consA (nameF 0) (consA (binF addO (binF addO (binF addO (nameF 2) (nameF 2)) (lstF (consA (cstF (.bytes [32, 109, 111, 114, 101])) (consA (cstF (.bytes [9, 97, 110, 100, 32, 109, 111, 114, 101, 32])) (nilA))))) (sliceF (nameF 1) none (some (cstF (.int 4))))) (nilA))))) (doneF'))) (seqF (asgF 4 (binF addO (nameF 4) (binF mulO (lstF (consA (cstF (.bytes [])) (nilA))) (callF F235 (consA (nameF 0) (consA (cstF (.int 3)) (nilA))))))) (seqF (brF (notF (valF (callF F300 (consA (binF joinO (cstF (.bytes [10])) (nameF 4)) (nilA))))) (seqF (retF (cstF (.bool false))) (doneF')) (doneF')) (doneF'))))))) [] σ' | some (.rt r d) => some (.rt r d) | _ => none) = _
    rw [e1]
    rfl
  have hneT : neO (.lst ([(([83, 101, 101] : B), ([97, 32, 98, 32, 99] : B))].map tupOf)) (.lst [.tup [.bytes [83, 101, 101], .bytes [97, 32, 98, 32, 99]]]) = some false := rfl
  have r1 : (List.range (1 : Int).toNat).map (fun (k : Nat) => PV.int (k : Int)) = [.int 0] := rfl
  have h01 : ((0 : Int) ≤ 1 ∧ (1 : Int) < 1000000) = True := eq_true (by decide)
  unfold handB at e295 e300
  simp only [lastMs, List.map_cons, List.map_nil] at e242
  rw [List.map_cons, List.map_nil] at e295 hneT
  simp only [st7, prose, keys, List.map_cons, List.map_nil] at hf
  refine ⟨k2, ?_⟩
  simp only [F307, g307, runF, seqF, datF, brF, retF, doneF', orF, notF, valF, bF, cmpF, rangeF, callF, nameF, cstF, lstF, tupF, consA, nilA, RV.pv, RV.strong, look, St.set, put, List.map_cons, List.map_nil, List.length_cons, List.length_nil, List.replicate, List.cons_append, List.nil_append, decide_true, decide_false, Nat.reduceEqDiff, Nat.reduceAdd, Nat.reduceLeDiff, if_true, h01, r1, hf, e295, hneT, e300, e242, e300b, Bool.not_true]
end Mine

namespace Mine
theorem pl : PL := fun ns hns => by
  have g : Good 0 (deckOf ns) := ⟨by show ((ns.take 8).reverse).length ≤ 8; rw [List.length_reverse, List.length_take]; omega, Int.le_refl _, Int.le_refl _⟩
  obtain ⟨k1, e1, g1⟩ := F271_at (deckOf ns) g
  obtain ⟨k2, e2⟩ := F307_at k1 g1
  exact ⟨k1, _, e1, e2⟩
theorem law_holds : PySem.Challenge.rw_nt0276_01.Holds := fin pl
end Mine


theorem PySem.Challenge.cw_nt0276_01_holds : PySem.Challenge.rw_nt0276_01.Holds :=
  Mine.law_holds
