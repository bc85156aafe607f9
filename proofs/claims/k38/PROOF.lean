import PyProof.Rows.All
import Wide.All
import OpenK.AllK
import Wide.FinOn
import HandS.ForMost
import HandS.Iter
import HandS.More
import HandS.Conv
import HandS.Codes
import HandS.OwnEq
import HandS.Defaults
import HandS.DictComp
import HandS.TupAny
import HandS.TupLe
import HandS.SortInts
import HandS.SortRule
import HandS.Style
import HandS.Flow
import HandS.Evl
import HandS.Steps
import HandS.Text
import KE.BitLaws
import HandS.WideBits
import HandS.Head0
import HandS.Head1
import HandS.Head2
import HandS.HeadEnd
import HandS.HeadHook1
import HandS.HeadHook2
import HandS.HeadHook3
import HandS.HeadHook4
import PySem.Challenge.RW_offing_k38_whole_witnesses_find_out
import KE.KTupSum
import KE.DatumOrd
import KE.SortData
import PyProof.DictUpdate
import HandS.TupSets
import HandS.WordsDict
set_option Elab.async false
set_option linter.all false
set_option maxRecDepth 100000
set_option maxHeartbeats 4000000
namespace K38
open PySem PySem.Spec PyProof.Rows L2
def top (i : Nat) : Stmt := PySem.Challenge.pw_offing_k38_whole_witnesses_find_out.main.body.getD i (.Pass ⟨0, 0, 0, 0⟩)
abbrev s_BadBlock_init : Stmt := inClass (top 3) 0
abbrev s_limbs_of : Stmt := top 12
abbrev s_Hasher_init : Stmt := inClass (top 13) 0
abbrev s_Hasher_digest : Stmt := inClass (top 13) 1
abbrev s_Hasher_is_digest : Stmt := inClass (top 13) 2
abbrev s_collision : Stmt := top 14
abbrev s_is_input : Stmt := top 15
abbrev s_is_collision : Stmt := top 16
abbrev s_digit_counts : Stmt := top 24
abbrev s_digits_of : Stmt := top 25
abbrev s_stepped : Stmt := top 26
abbrev s_key_digest : Stmt := top 27
abbrev s_Signer_init : Stmt := inClass (top 28) 0
abbrev s_Signer_chains : Stmt := inClass (top 28) 1
abbrev s_Signer_key_words : Stmt := inClass (top 28) 2
abbrev s_Signer_word : Stmt := inClass (top 28) 3
abbrev s_Signer_tops : Stmt := inClass (top 28) 4
abbrev s_Signer_path : Stmt := inClass (top 28) 5
abbrev s_Signer_sign : Stmt := inClass (top 28) 6
abbrev s_levels_of : Stmt := top 29
abbrev s_inputs_of : Stmt := top 30
abbrev s_verify : Stmt := top 31
abbrev s_members_fault : Stmt := top 36
abbrev s_members_numbers : Stmt := top 37
abbrev s_members_root : Stmt := top 38
abbrev s_total : Stmt := top 39
abbrev s_weight_of : Stmt := top 40
abbrev s_more_than : Stmt := top 41
abbrev s_signers : Stmt := top 42
abbrev s_Header_init : Stmt := inClass (top 46) 0
abbrev s_Header_fields : Stmt := inClass (top 46) 1
abbrev s_Header_eq : Stmt := inClass (top 46) 2
abbrev s_Block_init : Stmt := inClass (top 47) 0
abbrev s_Block_eq : Stmt := inClass (top 47) 1
abbrev s_header_digest : Stmt := top 48
abbrev s_vote_message : Stmt := top 49
abbrev s_block_signers : Stmt := top 50
abbrev s_lists_fault : Stmt := top 51
abbrev s_block_fault : Stmt := top 52
abbrev s_Policy_init : Stmt := inClass (top 55) 0
abbrev s_Policy_eq : Stmt := inClass (top 55) 1
abbrev s_is_expired : Stmt := top 56
abbrev s_order_fault : Stmt := top 57
abbrev s_link_fault : Stmt := top 58
abbrev s_step_fault : Stmt := top 59
abbrev s_Client_init : Stmt := inClass (top 61) 0
abbrev s_Client_heights : Stmt := inClass (top 61) 1
abbrev s_Client_block : Stmt := inClass (top 61) 2
abbrev s_Client_base : Stmt := inClass (top 61) 3
abbrev s_Client_fault : Stmt := inClass (top 61) 4
abbrev s_Client_start_fault : Stmt := inClass (top 61) 5
abbrev s_Client_step : Stmt := inClass (top 61) 6
abbrev s_Client_reach : Stmt := inClass (top 61) 7
abbrev s_Client_follow : Stmt := inClass (top 61) 8
abbrev s_second_client : Stmt := top 63
abbrev s_ask_witness : Stmt := top 64
abbrev s_members_collision : Stmt := top 66
abbrev s_is_own : Stmt := top 67
abbrev s_lists_collision : Stmt := top 68
abbrev s_vote_collision : Stmt := top 69
abbrev s_culprits : Stmt := top 70
abbrev s_judge_step : Stmt := top 71
abbrev s_judge_steps : Stmt := top 72
abbrev s_verdict_holds : Stmt := top 73
abbrev s_bit_of : Stmt := top 78
abbrev s_parted : Stmt := top 79
abbrev s_node_input : Stmt := top 80
abbrev s_node_digest : Stmt := top 81
abbrev s_map_root : Stmt := top 82
abbrev s_Node_init : Stmt := inClass (top 84) 0
abbrev s_Node_add : Stmt := inClass (top 84) 1
abbrev s_Node_height : Stmt := inClass (top 84) 2
abbrev s_Node_block : Stmt := inClass (top 84) 3
abbrev s_Node_pairs_at : Stmt := inClass (top 84) 4
abbrev s_Node_grow : Stmt := inClass (top 84) 5
abbrev s_Node_answers : Stmt := inClass (top 84) 6
abbrev s_law_number : Stmt := top 86
abbrev s_law_cells : Stmt := top 87
abbrev s_law_signers : Stmt := top 88
abbrev s_law_members : Stmt := top 89
abbrev s_law_node : Stmt := top 90
abbrev s_law_votes : Stmt := top 91
abbrev s_law_forged : Stmt := top 92
abbrev s_law_corrupt : Stmt := top 93
abbrev s_law_row : Stmt := top 94
abbrev s_law_server : Stmt := top 95
abbrev s_law_seen : Stmt := top 96
abbrev s_law_lying : Stmt := top 97
abbrev s_law_stays : Stmt := top 98
abbrev s_law : Stmt := top 99
end K38

set_option Elab.async false
set_option linter.all false
set_option maxRecDepth 100000
set_option maxHeartbeats 4000000
namespace K38
open PySem PySem.Spec PyProof.Rows L2

/-! ### data: what a value stands for -/
inductive D where
  | any | non | bl (b : Bool) | int (i : Int) | str (x : Str) | adr (a : Addr)
  | at (p : Addr) (d : D)
  | tup (ds : List D) | lst (ds : List D) | ins (c : Str) (fs : List Str) (ds : List D) | dct (ks : List Int) (ds : List D)
section
variable (K : PySem.W.Frag) (H : Hp)
mutual
def Rp : D → V → Prop
  | .any, _ => True
  | .non, v => v = .non
  | .bl b, v => v = .bl b
  | .int i, v => v = .int i
  | .str x, v => v = .str x
  | .adr a, v => v = .ref a
  | .at a d, v => v = .ref a ∧ Rp d v
  | .tup ds, v => ∃ (a : Addr) (xs : List V), v = .ref a ∧ H a = some (.tup xs) ∧ Rps ds xs
  | .lst ds, v => ∃ (a : Addr) (xs : List V), v = .ref a ∧ H a = some (.lst xs) ∧ Rps ds xs
  | .ins c fs ds, v => ∃ (a dx : Addr) (xs : List V), v = .ref a ∧ H a = some (.ins (He.ga K c) dx (fs.zip xs)) ∧ Rps ds xs
  | .dct ks ds, v => ∃ (a : Addr) (xs : List V), v = .ref a ∧ H a = some (.dK ((ks.map Sum.inl).zip xs)) ∧ Rps ds xs
def Rps : List D → List V → Prop
  | [], xs => xs = []
  | d :: ds, xs => ∃ (x : V) (r : List V), xs = x :: r ∧ Rp d x ∧ Rps ds r
end
end

section
variable {K : PySem.W.Frag} {H H' : Hp}
mutual
theorem Rp.ext (e : Ext H H') : ∀ (d : D) {v : V}, Rp K H d v → Rp K H' d v
  | .any, _, _ => trivial
  | .non, _, h => h
  | .bl _, _, h => h
  | .int _, _, h => h
  | .str _, _, h => h
  | .adr _, _, h => h
  | .at _ d, _, h => ⟨h.1, Rp.ext e d h.2⟩
  | .tup ds, _, ⟨a, xs, h1, h2, h3⟩ => ⟨a, xs, h1, e _ _ h2, Rps.ext e ds h3⟩
  | .lst ds, _, ⟨a, xs, h1, h2, h3⟩ => ⟨a, xs, h1, e _ _ h2, Rps.ext e ds h3⟩
  | .ins _ _ ds, _, ⟨a, dx, xs, h1, h2, h3⟩ => ⟨a, dx, xs, h1, e _ _ h2, Rps.ext e ds h3⟩
  | .dct _ ds, _, ⟨a, xs, h1, h2, h3⟩ => ⟨a, xs, h1, e _ _ h2, Rps.ext e ds h3⟩
theorem Rps.ext (e : Ext H H') : ∀ (ds : List D) {xs : List V}, Rps K H ds xs → Rps K H' ds xs
  | [], _, h => h
  | d :: ds, _, ⟨x, r, h1, h2, h3⟩ => ⟨x, r, h1, Rp.ext e d h2, Rps.ext e ds h3⟩
end
theorem Rps.len : ∀ {ds : List D} {xs : List V}, Rps K H ds xs → xs.length = ds.length
  | [], _, h => by
    cases h
    rfl
  | d :: ds, _, h => by
    obtain ⟨x, r, rfl, _, h3⟩ := h
    rw [List.length_cons, List.length_cons, Rps.len h3]
theorem Rps.get : ∀ {ds : List D} {xs : List V} {i : Nat} {d : D}, Rps K H ds xs → ds[i]? = some d → ∃ x, xs[i]? = some x ∧ Rp K H d x
  | [], _, i, d, _, e => by simp at e
  | c :: ds, _, 0, d, h, e => by
    obtain ⟨x, r, rfl, h2, _⟩ := h
    have e2 : c = d := by simpa using e
    exact ⟨x, rfl, e2 ▸ h2⟩
  | c :: ds, _, i + 1, d, h, e => by
    obtain ⟨x, r, rfl, _, h3⟩ := h
    obtain ⟨y, h4, h5⟩ := Rps.get (i := i) h3 (by simpa using e)
    exact ⟨y, by simpa using h4, h5⟩
theorem Rps.got {ds : List D} {xs : List V} {i : Nat} {x : V} (h : Rps K H ds xs) (e : xs[i]? = some x) : ∃ d, ds[i]? = some d ∧ Rp K H d x := by
  have hl : i < ds.length := by
    rw [← h.len]
    exact (List.getElem?_eq_some_iff.mp e).1
  obtain ⟨y, h1, h2⟩ := h.get (List.getElem?_eq_getElem hl)
  rw [e] at h1
  cases h1
  exact ⟨_, List.getElem?_eq_getElem hl, h2⟩
theorem Rps.nil : Rps K H [] [] := rfl
theorem Rps.cons {d : D} {ds : List D} {x : V} {xs : List V} (h : Rp K H d x) (hs : Rps K H ds xs) : Rps K H (d :: ds) (x :: xs) := ⟨x, xs, rfl, h, hs⟩
theorem Rps.append : ∀ {ds es : List D} {xs ys : List V}, Rps K H ds xs → Rps K H es ys → Rps K H (ds ++ es) (xs ++ ys)
  | [], _, _, _, h, h2 => by
    cases h
    exact h2
  | d :: ds, _, _, _, h, h2 => by
    obtain ⟨x, r, rfl, h3, h4⟩ := h
    exact ⟨x, r ++ _, rfl, h3, Rps.append h4 h2⟩
theorem Rps.snoc {ds : List D} {xs : List V} {d : D} {x : V} (h : Rps K H ds xs) (h2 : Rp K H d x) : Rps K H (ds ++ [d]) (xs ++ [x]) := h.append (.cons h2 .nil)
theorem Rps.take : ∀ {ds : List D} {xs : List V} (n : Nat), Rps K H ds xs → Rps K H (ds.take n) (xs.take n)
  | [], _, n, h => by
    cases h
    rw [List.take_nil, List.take_nil]
    exact .nil
  | d :: ds, _, 0, h => .nil
  | d :: ds, _, n + 1, h => by
    obtain ⟨x, r, rfl, h3, h4⟩ := h
    exact ⟨x, r.take n, rfl, h3, Rps.take n h4⟩
theorem Rps.drop : ∀ {ds : List D} {xs : List V} (n : Nat), Rps K H ds xs → Rps K H (ds.drop n) (xs.drop n)
  | [], _, n, h => by
    cases h
    rw [List.drop_nil, List.drop_nil]
    exact .nil
  | d :: ds, _, 0, h => h
  | d :: ds, _, n + 1, h => by
    obtain ⟨x, r, rfl, h3, h4⟩ := h
    exact Rps.drop n h4
/-- pointwise -/
theorem Rps.of : ∀ {ds : List D} {xs : List V}, xs.length = ds.length → (∀ (i : Nat) (d : D) (x : V), ds[i]? = some d → xs[i]? = some x → Rp K H d x) → Rps K H ds xs
  | [], xs, hl, _ => List.length_eq_zero_iff.mp hl
  | d :: ds, [], hl, _ => by simp at hl
  | d :: ds, x :: xs, hl, h => ⟨x, xs, rfl, h 0 d x rfl rfl, Rps.of (by simpa using hl) fun i e y h1 h2 => h (i + 1) e y (by simpa using h1) (by simpa using h2)⟩
theorem Rps.ints {ns : List Int} : Rps K H (ns.map D.int) (ns.map V.int) := by
  induction ns with
  | nil => exact .nil
  | cons n r ih => exact .cons rfl ih
theorem Rps.ints_eq : ∀ {ns : List Int} {xs : List V}, Rps K H (ns.map D.int) xs → xs = ns.map V.int
  | [], _, h => h
  | n :: r, _, h => by
    obtain ⟨x, q, rfl, h1, h2⟩ := h
    rw [Rps.ints_eq h2]
    cases h1
    rfl
theorem Rps.flat_eq {α : Type} {f : α → D} {g : α → V} (hf : ∀ a v, Rp K H (f a) v → v = g a) : ∀ {ns : List α} {xs : List V}, Rps K H (ns.map f) xs → xs = ns.map g
  | [], _, h => h
  | n :: r, _, h => by
    obtain ⟨x, q, rfl, h1, h2⟩ := h
    rw [Rps.flat_eq hf h2, hf _ _ h1, List.map_cons]
end

/-! ### what no change of lists, dicts and such touches -/
def frozen : List Str := ["Hasher", "Header", "Block", "Policy"]
mutual
def D.pu : D → Prop
  | .any | .non | .bl _ | .int _ | .str _ | .adr _ => True
  | .at _ d => D.pu d
  | .tup ds => D.pus ds
  | .lst _ | .dct _ _ => False
  | .ins c _ ds => c ∈ frozen ∧ D.pus ds
def D.pus : List D → Prop
  | [] => True
  | d :: ds => D.pu d ∧ D.pus ds
end
theorem pus_iff : ∀ {ds : List D}, D.pus ds ↔ ∀ d ∈ ds, D.pu d
  | [] => Iff.intro (fun _ d h => nomatch h) fun _ => trivial
  | d :: ds => by
    show D.pu d ∧ D.pus ds ↔ _
    rw [pus_iff (ds := ds)]
    simp
structure Gr (K : PySem.W.Frag) (H H' : Hp) : Prop where
  tup : ∀ a xs, H a = some (.tup xs) → H' a = some (.tup xs)
  ins : ∀ c ∈ frozen, ∀ a dx fs, H a = some (.ins (He.ga K c) dx fs) → H' a = some (.ins (He.ga K c) dx fs)
section
variable {K : PySem.W.Frag} {H H' : Hp}
theorem Gr.of (e : Ext H H') : Gr K H H' := ⟨fun a xs h => e _ _ h, fun c _ a dx fs h => e _ _ h⟩
theorem Gr.refl : Gr K H H := Gr.of Ext.rfl'
theorem Gr.trans {H2 : Hp} (a : Gr K H H') (b : Gr K H' H2) : Gr K H H2 := ⟨fun c xs h => b.tup _ _ (a.tup _ _ h), fun c hc x dx fs h => b.ins c hc _ _ _ (a.ins c hc _ _ _ h)⟩
theorem Gr.upd {p : Addr} {o u : HO} (h : H p = some o) (h1 : ∀ xs, o ≠ .tup xs) (h2 : ∀ c ∈ frozen, ∀ dx fs, o ≠ .ins (He.ga K c) dx fs) : Gr K H (L2.upd H p u) := by
  refine ⟨fun a xs e => ?_, fun c hc a dx fs e => ?_⟩
  · rw [upd_ne fun q => h1 xs (by rw [q, h] at e; exact Option.some.inj e)]
    exact e
  · rw [upd_ne fun q => h2 c hc dx fs (by rw [q, h] at e; exact Option.some.inj e)]
    exact e
theorem Gr.updL {p : Addr} {xs : List V} {u : HO} (h : H p = some (.lst xs)) : Gr K H (L2.upd H p u) := Gr.upd h (fun _ q => by cases q) fun _ _ _ _ q => by cases q
theorem Gr.updD {p : Addr} {xs : List (Key × V)} {u : HO} (h : H p = some (.dK xs)) : Gr K H (L2.upd H p u) := Gr.upd h (fun _ q => by cases q) fun _ _ _ _ q => by cases q
theorem Gr.updF {p : Addr} {ob : Obj} {v u : HO} (h : H p = some (.frz ob v)) : Gr K H (L2.upd H p u) := Gr.upd h (fun _ q => by cases q) fun _ _ _ _ q => by cases q
mutual
theorem Rp.gr (e : Gr K H H') : ∀ (d : D) {v : V}, D.pu d → Rp K H d v → Rp K H' d v
  | .any, _, _, _ => trivial
  | .non, _, _, h => h
  | .bl _, _, _, h => h
  | .int _, _, _, h => h
  | .str _, _, _, h => h
  | .adr _, _, _, h => h
  | .at _ d, _, p, h => ⟨h.1, Rp.gr e d p h.2⟩
  | .tup ds, _, p, ⟨a, xs, h1, h2, h3⟩ => ⟨a, xs, h1, e.tup _ _ h2, Rps.gr e ds p h3⟩
  | .lst ds, _, p, _ => p.elim
  | .ins c _ ds, _, p, ⟨a, dx, xs, h1, h2, h3⟩ => ⟨a, dx, xs, h1, e.ins c p.1 _ _ _ h2, Rps.gr e ds p.2 h3⟩
  | .dct _ ds, _, p, _ => p.elim
theorem Rps.gr (e : Gr K H H') : ∀ (ds : List D) {xs : List V}, D.pus ds → Rps K H ds xs → Rps K H' ds xs
  | [], _, _, h => h
  | d :: ds, _, p, ⟨x, r, h1, h2, h3⟩ => ⟨x, r, h1, Rp.gr e d p.1 h2, Rps.gr e ds p.2 h3⟩
end
end
class Pu (d : D) : Prop where
  pu : D.pu d
class Pus (ds : List D) : Prop where
  pus : D.pus ds
instance : Pu .any := ⟨trivial⟩
instance : Pu .non := ⟨trivial⟩
instance {b} : Pu (.bl b) := ⟨trivial⟩
instance {i} : Pu (.int i) := ⟨trivial⟩
instance {x} : Pu (.str x) := ⟨trivial⟩
instance {a} : Pu (.adr a) := ⟨trivial⟩
instance {v d} [h : Pu d] : Pu (.at v d) := ⟨h.pu⟩
instance {ds} [h : Pus ds] : Pu (.tup ds) := ⟨h.pus⟩
instance : Pus [] := ⟨trivial⟩
instance {d ds} [h : Pu d] [hs : Pus ds] : Pus (d :: ds) := ⟨⟨h.pu, hs.pus⟩⟩
instance {α : Type} {f : α → D} {l : List α} [h : ∀ a, Pu (f a)] : Pus (l.map f) := ⟨pus_iff.mpr fun d hd => by
  obtain ⟨a, _, rfl⟩ := List.mem_map.mp hd
  exact (h a).pu⟩
instance {ds es} [h : Pus ds] [h2 : Pus es] : Pus (ds ++ es) := ⟨pus_iff.mpr fun d hd => by
  rcases List.mem_append.mp hd with q | q
  · exact pus_iff.mp h.pus d q
  · exact pus_iff.mp h2.pus d q⟩
instance {fs ds} [h : Pus ds] : Pu (.ins "Hasher" fs ds) := ⟨⟨by simp [frozen], h.pus⟩⟩
instance {fs ds} [h : Pus ds] : Pu (.ins "Header" fs ds) := ⟨⟨by simp [frozen], h.pus⟩⟩
instance {fs ds} [h : Pus ds] : Pu (.ins "Block" fs ds) := ⟨⟨by simp [frozen], h.pus⟩⟩
instance {fs ds} [h : Pus ds] : Pu (.ins "Policy" fs ds) := ⟨⟨by simp [frozen], h.pus⟩⟩

/-! ### the slots -/
abbrev Sg := List (Option D)
def Sl (K : PySem.W.Frag) (H : Hp) (G : Sg) (σ : L2.St) : Prop := σ.length = G.length ∧ ∀ (i : Nat) (d : D), G[i]? = some (some d) → ∃ v, σ[i]? = some (some v) ∧ Rp K H d v
class PuG (G : Sg) : Prop where
  pu : ∀ (i : Nat) (d : D), G[i]? = some (some d) → D.pu d
instance : PuG [] := ⟨fun i d h => by simp at h⟩
instance {G} [h : PuG G] : PuG (none :: G) := ⟨fun i d e => by
  cases i with
  | zero => simp at e
  | succ i => exact h.pu i d (by simpa using e)⟩
instance {d G} [hd : Pu d] [h : PuG G] : PuG (some d :: G) := ⟨fun i c e => by
  cases i with
  | zero =>
    have e2 : d = c := by simpa using e
    exact e2 ▸ hd.pu
  | succ i => exact h.pu i c (by simpa using e)⟩
section
variable {K : PySem.W.Frag} {H H' : Hp} {G : Sg} {σ : L2.St}
theorem Sl.ext (e : Ext H H') (E : Sl K H G σ) : Sl K H' G σ := ⟨E.1, fun i d h => by
  obtain ⟨v, h1, h2⟩ := E.2 i d h
  exact ⟨v, h1, h2.ext e⟩⟩
theorem Sl.gr [p : PuG G] (e : Gr K H H') (E : Sl K H G σ) : Sl K H' G σ := ⟨E.1, fun i d h => by
  obtain ⟨v, h1, h2⟩ := E.2 i d h
  exact ⟨v, h1, h2.gr e d (p.pu i d h)⟩⟩
theorem Sl.set {i : Nat} {d : D} {v : V} (E : Sl K H G σ) (h : Rp K H d v) : Sl K H (G.set i (some d)) (σ.set i (some v)) := by
  refine ⟨by rw [List.length_set, List.length_set, E.1], fun j c e => ?_⟩
  rw [List.getElem?_set] at e
  by_cases q : i = j
  · rw [if_pos q] at e
    by_cases l : i < G.length
    · rw [if_pos (q ▸ l)] at e
      have e2 : d = c := by simpa using e
      subst e2
      subst q
      exact ⟨v, by rw [List.getElem?_set_self (by rw [E.1]; exact l)], h⟩
    · rw [if_neg (q ▸ l)] at e
      cases e
  · rw [if_neg q] at e
    obtain ⟨w, h1, h2⟩ := E.2 j c e
    exact ⟨w, by rw [List.getElem?_set_ne q]; exact h1, h2⟩
/-- fewer facts -/
theorem Sl.weak {G' : Sg} (E : Sl K H G σ) (hl : G'.length = G.length) (h : ∀ (i : Nat) (d : D), G'[i]? = some (some d) → G[i]? = some (some d)) : Sl K H G' σ := ⟨by rw [E.1, hl], fun i d e => E.2 i d (h i d e)⟩
def Wk : Sg → Sg → Prop
  | [], [] => True
  | g' :: G', g :: G => (g' = none ∨ g' = g) ∧ Wk G' G
  | _, _ => False
theorem Wk.len : ∀ {G' G : Sg}, Wk G' G → G'.length = G.length
  | [], [], _ => rfl
  | _ :: _, _ :: _, h => by rw [List.length_cons, List.length_cons, Wk.len h.2]
  | [], _ :: _, h => h.elim
  | _ :: _, [], h => h.elim
theorem Wk.get : ∀ {G' G : Sg} {i : Nat} {d : D}, Wk G' G → G'[i]? = some (some d) → G[i]? = some (some d)
  | [], [], i, d, _, e => by simp at e
  | g' :: _, g :: _, 0, d, h, e => by
    have e2 : g' = some d := by simpa using e
    rcases h.1 with q | q
    · rw [q] at e2
      cases e2
    · rw [q] at e2
      simpa using e2
  | _ :: G', _ :: G, i + 1, d, h, e => by
    have := Wk.get (i := i) h.2 (by simpa using e)
    simpa using this
  | [], _ :: _, _, _, h, _ => h.elim
  | _ :: _, [], _, _, h, _ => h.elim
theorem Sl.wk {G' : Sg} (E : Sl K H G σ) (h : Wk G' G) : Sl K H G' σ := E.weak h.len fun _ _ e => h.get e
theorem Sl.start {ds : List D} {vs : List V} {N : List Str} (h : Rps K H ds vs) : Sl K H (ds.map some ++ List.replicate (N.length - ds.length) none) (L2.start N vs) := by
  unfold L2.start
  refine ⟨by rw [List.length_append, List.length_append, List.length_map, List.length_map, List.length_replicate, List.length_replicate, h.len], fun i d e => ?_⟩
  rw [List.getElem?_append] at e
  by_cases l : i < (ds.map some).length
  · rw [if_pos l, List.getElem?_map] at e
    cases q : ds[i]? with
    | none =>
      rw [q] at e
      cases e
    | some c =>
      rw [q] at e
      have e2 : c = d := by simpa using e
      subst e2
      obtain ⟨x, h1, h2⟩ := h.get q
      refine ⟨x, ?_, h2⟩
      rw [List.getElem?_append_left (by rw [List.length_map, h.len]; simpa using l), List.getElem?_map, h1]
      rfl
  · rw [if_neg l, List.getElem?_replicate] at e
    split at e <;> simp at e
/-- the slots of a block's own names forgotten -/
def wipeG (G : Sg) : List Nat → Sg
  | [] => G
  | v :: vs => (wipeG G vs).set v none
theorem Sl.unset {i : Nat} (E : Sl K H G σ) : Sl K H (G.set i none) (σ.set i none) := by
  refine ⟨by rw [List.length_set, List.length_set, E.1], fun j c e => ?_⟩
  rw [List.getElem?_set] at e
  by_cases q : i = j
  · rw [if_pos q] at e
    split at e <;> simp at e
  · rw [if_neg q] at e
    obtain ⟨w, h1, h2⟩ := E.2 j c e
    exact ⟨w, by rw [List.getElem?_set_ne q]; exact h1, h2⟩
theorem Sl.wipe (E : Sl K H G σ) : ∀ vs : List Nat, Sl K H (wipeG G vs) (L2.wipe σ vs)
  | [] => E
  | v :: vs => (E.wipe vs).unset
end

/-! ### what evaluates to what -/
def Gv (K : PySem.W.Frag) (te : TE) (σ : L2.St) (H : Hp) (d : D) : Prop := ∀ H1, Ext H H1 → ∀ Q : VK, (∀ v H2, Ext H1 H2 → Rp K H2 d v → Q v H2) → te σ H1 Q
def GvA (K : PySem.W.Frag) (ta : TA) (σ : L2.St) (H : Hp) (ds : List D) : Prop := ∀ H1, Ext H H1 → ∀ Q : List V → Hp → Prop, (∀ vs H2, Ext H1 H2 → Rps K H2 ds vs → Q vs H2) → ta σ H1 Q
/-- a new list -/
def GvN (K : PySem.W.Frag) (te : TE) (σ : L2.St) (H : Hp) (ds : List D) : Prop := ∀ H1, Ext H H1 → ∀ Q : VK, (∀ p xs H2, H1 p = none → Ext H1 H2 → H2 p = some (.lst xs) → Rps K H2 ds xs → Q (.ref p) H2) → te σ H1 Q
def Gt (tt : TT) (σ : L2.St) (H : Hp) (b : Bool) : Prop := ∀ H1, Ext H H1 → ∀ Q : Bool → Hp → Prop, (∀ H2, Ext H1 H2 → Q b H2) → tt σ H1 Q
def GvO (to : TO) (σ : L2.St) (H : Hp) (o : Option Int) : Prop := ∀ H1, Ext H H1 → ∀ Q : Option Int → Hp → Prop, (∀ H2, Ext H1 H2 → Q o H2) → to σ H1 Q
/-- a promise at data -/
def SpOk (K : PySem.W.Frag) (sp : Sp) (ds : List D) (H : Hp) (d : D) : Prop := ∀ H1, Ext H H1 → ∀ vs, Rps K H1 ds vs → ∀ (Q : VK) (E : XK), (∀ v H2, Ext H1 H2 → Rp K H2 d v → Q v H2) → sp vs H1 Q E
def SpN (K : PySem.W.Frag) (sp : Sp) (ds : List D) (H : Hp) (es : List D) : Prop := ∀ H1, Ext H H1 → ∀ vs, Rps K H1 ds vs → ∀ (Q : VK) (E : XK), (∀ p xs H2, H1 p = none → Ext H1 H2 → H2 p = some (.lst xs) → Rps K H2 es xs → Q (.ref p) H2) → sp vs H1 Q E
/-- a def from data to data -/
def spD (K : PySem.W.Frag) {α : Type} (pre : α → Prop) (ins : α → List D) (out : α → D) : Sp := fun vs H Q _ => ∃ z, pre z ∧ Rps K H (ins z) vs ∧ ∀ v H', Ext H H' → Rp K H' (out z) v → Q v H'
/-- .. to a new list -/
def spN (K : PySem.W.Frag) {α : Type} (pre : α → Prop) (ins : α → List D) (out : α → List D) : Sp := fun vs H Q _ => ∃ z, pre z ∧ Rps K H (ins z) vs ∧ ∀ p xs H', H p = none → Ext H H' → H' p = some (.lst xs) → Rps K H' (out z) xs → Q (.ref p) H'
section
variable {K : PySem.W.Frag} {H H' : Hp} {G : Sg} {σ : L2.St} {ta tb te tx : TE} {t u : TT} {d : D} {ds es : List D} {i j : Int} {a b : Bool} {tA tB' : TA}
theorem spD_ok {α : Type} {pre : α → Prop} {ins : α → List D} {out : α → D} (z : α) (h : pre z) : SpOk K (spD K pre ins out) (ins z) H (out z) := fun H1 _ vs r Q E k => ⟨z, h, r, k⟩
theorem spN_ok {α : Type} {pre : α → Prop} {ins : α → List D} {out : α → List D} (z : α) (h : pre z) : SpN K (spN K pre ins out) (ins z) H (out z) := fun H1 _ vs r Q E k => ⟨z, h, r, k⟩
theorem Gv.mono (h : Gv K te σ H d) (e : Ext H H') : Gv K te σ H' d := fun H1 a Q q => h H1 (e.trans a) Q q
theorem GvA.mono (h : GvA K tA σ H ds) (e : Ext H H') : GvA K tA σ H' ds := fun H1 a Q q => h H1 (e.trans a) Q q
theorem GvN.mono (h : GvN K te σ H ds) (e : Ext H H') : GvN K te σ H' ds := fun H1 a Q q => h H1 (e.trans a) Q q
theorem Gt.mono (h : Gt t σ H a) (e : Ext H H') : Gt t σ H' a := fun H1 f Q q => h H1 (e.trans f) Q q
theorem Gv.is {d' : D} (h : Gv K te σ H d) (e : d = d') : Gv K te σ H d' := e ▸ h
theorem Gt.is (h : Gt t σ H a) (e : a = b) : Gt t σ H b := e ▸ h
theorem GvN.is (h : GvN K te σ H ds) (e : ds = es) : GvN K te σ H es := e ▸ h
theorem GvN.gv (h : GvN K te σ H ds) : Gv K te σ H (.lst ds) := fun H1 e Q q => h H1 e Q fun p xs H2 _ e2 h2 r => q _ H2 e2 ⟨p, xs, rfl, h2, r⟩
theorem gv_var {i : Nat} (E : Sl K H G σ) (h : G[i]? = some (some d)) : Gv K (tVar i) σ H d := fun H1 e Q q => by
  obtain ⟨v, h1, h2⟩ := E.2 i d h
  exact ⟨v, h1, q v H1 Ext.rfl' (h2.ext e)⟩
theorem gv_int : Gv K (tC (.int i)) σ H (.int i) := fun H1 e Q q => q _ H1 Ext.rfl' rfl
theorem gv_str {x : Str} : Gv K (tC (.str x)) σ H (.str x) := fun H1 e Q q => q _ H1 Ext.rfl' rfl
theorem gv_bl : Gv K (tC (.bl a)) σ H (.bl a) := fun H1 e Q q => q _ H1 Ext.rfl' rfl
theorem gv_non : Gv K (tC .non) σ H .non := fun H1 e Q q => q _ H1 Ext.rfl' rfl
/-- a value whose address is known stands for data -/
theorem gv_view {p : Addr} (h : Gv K te σ H (.adr p)) (r : Rp K H d (.ref p)) : Gv K te σ H d := fun H1 e Q q => h H1 e _ fun v H2 e2 rv => by
  have ev : v = .ref p := rv
  subst ev
  exact q _ H2 e2 ((r.ext e).ext e2)
theorem gv_op {r : R2} {x y : D} (ha : Gv K ta σ H x) (hb : Gv K tb σ H y) (hr : ∀ H1, Ext H H1 → ∀ v w, Rp K H1 x v → Rp K H1 y w → ∀ Q : VK, (∀ z H2, Ext H1 H2 → Rp K H2 d z → Q z H2) → r v w H1 Q) : Gv K (tOp r ta tb) σ H d := fun H1 e Q q =>
  ha H1 e _ fun v H2 e2 rv => hb H2 (e.trans e2) _ fun w H3 e3 rw => hr H3 ((e.trans e2).trans e3) v w (rv.ext e3) rw Q fun z H4 e4 rz => q z H4 ((e2.trans e3).trans e4) rz
theorem gv_I0 {f : Int → Int → Int} (ha : Gv K ta σ H (.int i)) (hb : Gv K tb σ H (.int j)) : Gv K (tOp (rI0 fun i j => .int (f i j)) ta tb) σ H (.int (f i j)) :=
  gv_op ha hb fun H1 e v w rv rw Q q => ⟨i, j, rv, rw, q _ H1 Ext.rfl' rfl⟩
theorem gv_I {C : Int → Int → Prop} {f : Int → Int → Int} (ha : Gv K ta σ H (.int i)) (hb : Gv K tb σ H (.int j)) (hc : C i j) : Gv K (tOp (rI C fun i j => .int (f i j)) ta tb) σ H (.int (f i j)) :=
  gv_op ha hb fun H1 e v w rv rw Q q => ⟨i, j, rv, rw, hc, q _ H1 Ext.rfl' rfl⟩
theorem gv_Ib {f : Int → Int → Bool} (ha : Gv K ta σ H (.int i)) (hb : Gv K tb σ H (.int j)) : Gv K (tOp (rI0 fun i j => .bl (f i j)) ta tb) σ H (.bl (f i j)) :=
  gv_op ha hb fun H1 e v w rv rw Q q => ⟨i, j, rv, rw, q _ H1 Ext.rfl' rfl⟩
/-- flat data and its value -/
def D.fl : D → Option V
  | .non => some .non
  | .bl b => some (.bl b)
  | .int i => some (.int i)
  | .str x => some (.str x)
  | _ => none
theorem fl_rp {x : V} (h : d.fl = some x) {v : V} (r : Rp K H d v) : v = x := by
  cases d <;> simp [D.fl] at h <;> (subst h; exact r)
theorem gv_eq {x y : D} {v w : V} (ha : Gv K ta σ H x) (hb : Gv K tb σ H y) (hx : x.fl = some v) (hy : y.fl = some w) (hs : scal v w = true) : Gv K (tOp rEq ta tb) σ H (.bl (decide (v = w))) :=
  gv_op ha hb fun H1 e v' w' rv rw Q q => by
    rw [fl_rp hx rv, fl_rp hy rw]
    exact ⟨hs, q _ H1 Ext.rfl' rfl⟩
theorem gv_ne {x y : D} {v w : V} (ha : Gv K ta σ H x) (hb : Gv K tb σ H y) (hx : x.fl = some v) (hy : y.fl = some w) (hs : scal v w = true) : Gv K (tOp rNe ta tb) σ H (.bl (!decide (v = w))) :=
  gv_op ha hb fun H1 e v' w' rv rw Q q => by
    rw [fl_rp hx rv, fl_rp hy rw]
    exact ⟨hs, q _ H1 Ext.rfl' rfl⟩
theorem dec_vi {i j : Int} : decide (V.int i = V.int j) = decide (i = j) := by
  rw [Bool.eq_iff_iff]
  simp
theorem gv_eqI (ha : Gv K ta σ H (.int i)) (hb : Gv K tb σ H (.int j)) : Gv K (tOp rEq ta tb) σ H (.bl (decide (i = j))) := (gv_eq ha hb rfl rfl rfl).is (by rw [dec_vi])
theorem gv_neI (ha : Gv K ta σ H (.int i)) (hb : Gv K tb σ H (.int j)) : Gv K (tOp rNe ta tb) σ H (.bl (!decide (i = j))) := (gv_ne ha hb rfl rfl rfl).is (by rw [dec_vi])
/-- what is None -/
def D.isN : D → Option Bool
  | .any | .at _ _ => none
  | .non => some true
  | _ => some false
theorem isN_rp (h : d.isN = some a) {v : V} (r : Rp K H d v) : decide (v = V.non) = a := by
  cases d <;> simp [D.isN] at h <;> subst h
  case non =>
    have e : v = .non := r
    subst e
    rfl
  case bl => have e : v = .bl _ := r; subst e; rfl
  case int => have e : v = .int _ := r; subst e; rfl
  case str => have e : v = .str _ := r; subst e; rfl
  case adr => have e : v = .ref _ := r; subst e; rfl
  all_goals
    obtain ⟨a, r⟩ := r
    first
      | (obtain ⟨_, _, e, _⟩ := r; subst e; rfl)
      | (obtain ⟨_, e, _⟩ := r; subst e; rfl)
theorem gv_isN {x : D} (ha : Gv K ta σ H x) (hx : x.isN = some a) : Gv K (tOp rIsN ta (tC .non)) σ H (.bl a) :=
  gv_op ha gv_non fun H1 e v w rv rw Q q => ⟨rw, by rw [isN_rp hx rv]; exact q _ H1 Ext.rfl' rfl⟩
theorem gv_notN {x : D} (ha : Gv K ta σ H x) (hx : x.isN = some a) : Gv K (tOp rNotN ta (tC .non)) σ H (.bl (!a)) :=
  gv_op ha gv_non fun H1 e v w rv rw Q q => ⟨rw, by rw [isN_rp hx rv]; exact q _ H1 Ext.rfl' rfl⟩
theorem gv_isB (ha : Gv K ta σ H (.bl a)) (hb : Gv K tb σ H (.bl b)) : Gv K (tOp rIsB ta tb) σ H (.bl (decide (a = b))) :=
  gv_op ha hb fun H1 e v w rv rw Q q => ⟨a, b, rv, rw, q _ H1 Ext.rfl' rfl⟩
theorem gv_notB (ha : Gv K ta σ H (.bl a)) (hb : Gv K tb σ H (.bl b)) : Gv K (tOp rNotB ta tb) σ H (.bl (!decide (a = b))) :=
  gv_op ha hb fun H1 e v w rv rw Q q => ⟨a, b, rv, rw, q _ H1 Ext.rfl' rfl⟩
theorem gv_chain {r r' : R2} {x y z : D} (ha : Gv K ta σ H x) (hb : Gv K tb σ H y) (hc : a = true → Gv K tx σ H z)
    (hr : ∀ H1, Ext H H1 → ∀ v w, Rp K H1 x v → Rp K H1 y w → ∀ Q : VK, Q (.bl a) H1 → r v w H1 Q)
    (hr' : a = true → ∀ H1, Ext H H1 → ∀ v w, Rp K H1 y v → Rp K H1 z w → ∀ Q : VK, Q (.bl b) H1 → r' v w H1 Q) : Gv K (tChain r r' ta tb tx) σ H (.bl (a && b)) := fun H1 e Q q =>
  ha H1 e _ fun v H2 e2 rv => hb H2 (e.trans e2) _ fun w H3 e3 rw => hr H3 ((e.trans e2).trans e3) v w (rv.ext e3) rw _ ⟨a, rfl, by
    cases a with
    | true =>
      show tx σ H3 _
      exact hc rfl H3 ((e.trans e2).trans e3) _ fun z H4 e4 rz => hr' rfl H4 (((e.trans e2).trans e3).trans e4) w z (rw.ext e4) rz Q (q _ H4 ((e2.trans e3).trans e4) rfl)
    | false =>
      show Q (.bl false) H3
      exact q _ H3 (e2.trans e3) rfl⟩
theorem gv_chainI {f g : Int → Int → Bool} {k : Int} (ha : Gv K ta σ H (.int i)) (hb : Gv K tb σ H (.int j)) (hc : Gv K tx σ H (.int k)) :
    Gv K (tChain (rI0 fun i j => .bl (f i j)) (rI0 fun i j => .bl (g i j)) ta tb tx) σ H (.bl (f i j && g j k)) :=
  gv_chain ha hb (fun _ => hc) (fun H1 e v w rv rw Q q => ⟨i, j, rv, rw, q⟩) fun _ H1 e v w rv rw Q q => ⟨j, k, rv, rw, q⟩
theorem ga_nil : GvA K tNil σ H [] := fun H1 e Q q => q [] H1 Ext.rfl' rfl
theorem ga_cons (h : Gv K ta σ H d) (hs : GvA K tA σ H ds) : GvA K (tCons ta tA) σ H (d :: ds) := fun H1 e Q q =>
  h H1 e _ fun v H2 e2 rv => hs H2 (e.trans e2) _ fun vs H3 e3 rs => q _ H3 (e2.trans e3) ⟨v, vs, rfl, rv.ext e3, rs⟩
theorem gv_call {sp : Sp} {E : XK} (ha : GvA K tA σ H ds) (hs : SpOk K sp ds H d) : Gv K (tCall sp [] E tA) σ H d := fun H1 e Q q =>
  ha H1 e _ fun vs H2 e2 rs => by
    show sp (vs ++ []) H2 Q E
    rw [List.append_nil]
    exact hs H2 (e.trans e2) vs rs Q E fun v H3 e3 rv => q v H3 (e2.trans e3) rv
theorem gn_call {sp : Sp} {E : XK} (ha : GvA K tA σ H ds) (hs : SpN K sp ds H es) : GvN K (tCall sp [] E tA) σ H es := fun H1 e Q q =>
  ha H1 e _ fun vs H2 e2 rs => by
    show sp (vs ++ []) H2 Q E
    rw [List.append_nil]
    exact hs H2 (e.trans e2) vs rs Q E fun p xs H3 hp e3 h3 rv => q p xs H3 (by
      cases q2 : H1 p with
      | none => rfl
      | some o =>
        rw [e2 _ _ q2] at hp
        cases hp) (e2.trans e3) h3 rv
theorem lookup_zip_none {m : Str} : ∀ {fs : List Str} {xs : List V}, fs.contains m = false → (fs.zip xs).lookup m = none
  | [], _, _ => by simp
  | f :: fs, [], _ => by simp
  | f :: fs, x :: xs, h => by
    rw [List.contains_cons, Bool.or_eq_false_iff] at h
    show (match m == f with | true => some x | false => (fs.zip xs).lookup m) = none
    rw [h.1]
    exact lookup_zip_none h.2
theorem fresh_back {H1 H2 : Hp} {p : Addr} (e : Ext H1 H2) (h : H2 p = none) : H1 p = none := by
  cases q : H1 p with
  | none => rfl
  | some o =>
    rw [e _ _ q] at h
    cases h
theorem gv_meth {c : Str} {m : Str} {fs : List Str} {d0s : List D} {sp : Sp} {E : XK} (ho : Gv K ta σ H (.ins c fs d0s)) (hm : fs.contains m = false) (ha : GvA K tA σ H ds) (hs : SpOk K sp (.ins c fs d0s :: ds) H d) : Gv K (tMeth (He.ga K c) m sp [] E ta tA) σ H d := fun H1 e Q q =>
  ho H1 e _ fun v H2 e2 rv => by
    obtain ⟨a, dx, xs, rfl, h1, h2⟩ := id rv
    refine ⟨a, dx, _, rfl, h1, lookup_zip_none hm, ha H2 (e.trans e2) _ fun vs H3 e3 rs => ?_⟩
    rw [List.append_nil]
    exact hs H3 ((e.trans e2).trans e3) _ ⟨_, _, rfl, rv.ext e3, rs⟩ Q E fun v H4 e4 rv => q v H4 ((e2.trans e3).trans e4) rv
theorem gn_meth {c : Str} {m : Str} {fs : List Str} {d0s : List D} {sp : Sp} {E : XK} (ho : Gv K ta σ H (.ins c fs d0s)) (hm : fs.contains m = false) (ha : GvA K tA σ H ds) (hs : SpN K sp (.ins c fs d0s :: ds) H es) : GvN K (tMeth (He.ga K c) m sp [] E ta tA) σ H es := fun H1 e Q q =>
  ho H1 e _ fun v H2 e2 rv => by
    obtain ⟨a, dx, xs, rfl, h1, h2⟩ := id rv
    refine ⟨a, dx, _, rfl, h1, lookup_zip_none hm, ha H2 (e.trans e2) _ fun vs H3 e3 rs => ?_⟩
    rw [List.append_nil]
    exact hs H3 ((e.trans e2).trans e3) _ ⟨_, _, rfl, rv.ext e3, rs⟩ Q E fun p xs H4 hp e4 h4 rv => q p xs H4 (fresh_back (e2.trans e3) hp) ((e2.trans e3).trans e4) h4 rv
theorem lookup_zip : ∀ {fs : List Str} {xs : List V} {f : Str} {n : Nat} {x : V}, fs.idxOf f = n → n < fs.length → xs[n]? = some x → (fs.zip xs).lookup f = some x
  | [], _, f, n, x, _, hl, _ => by simp at hl
  | g :: fs, [], f, n, x, _, _, h => by simp at h
  | g :: fs, y :: xs, f, n, x, e, hl, h => by
    rw [List.idxOf_cons] at e
    show (match f == g with | true => some y | false => (fs.zip xs).lookup f) = some x
    cases q : (f == g) with
    | true =>
      have q2 : (g == f) = true := by
        rw [beq_iff_eq] at q ⊢
        exact q.symm
      rw [q2] at e
      have e0 : n = 0 := e.symm
      subst e0
      simpa using h
    | false =>
      have q2 : (g == f) = false := by
        rw [beq_eq_false_iff_ne] at q ⊢
        exact q.symm
      rw [q2] at e
      have e0 : n = fs.idxOf f + 1 := e.symm
      subst e0
      exact lookup_zip rfl (by simpa using hl) (by simpa using h)
/-- a field -/
theorem gv_fld {c f : Str} {fs : List Str} {d0s : List D} {n : Nat} (ho : Gv K ta σ H (.ins c fs d0s)) (hc : Cls K (He.ga K c)) (hn : NoAttr K (He.ga K c) f) (hi : fs.idxOf f = n) (hl : n < fs.length) (hd : d0s[n]? = some d) : Gv K (tFld K ta f) σ H d := fun H1 e Q q =>
  ho H1 e _ fun v H2 e2 rv => by
    obtain ⟨a, dx, xs, rfl, h1, h2⟩ := id rv
    obtain ⟨x, h3, h4⟩ := h2.get hd
    exact ⟨a, _, dx, _, x, rfl, h1, hc, hn, lookup_zip hi hl h3, q x H2 e2 h4⟩
theorem sz_of {n : Nat} (h : n ≤ 100000) : n ≤ sizeLine := Nat.le_trans h (by decide)
theorem sz_lt {n : Nat} (h : n < 100000) : n < sizeLine := Nat.lt_of_lt_of_le h (by decide)
theorem gv_tup (h : GvA K tA σ H ds) (hl : ds.length ≤ 100000) : Gv K (tTup tA) σ H (.tup ds) := fun H1 e Q q =>
  h H1 e _ fun vs H2 e2 rs => ⟨sz_of (by rw [rs.len]; exact hl), fun p hp => q _ _ (e2.trans (Ext.upd hp)) ⟨p, vs, rfl, upd_same, rs.ext (Ext.upd hp)⟩⟩
theorem gn_lst (h : GvA K tA σ H ds) (hl : ds.length ≤ 100000) : GvN K (tLst tA) σ H ds := fun H1 e Q q =>
  h H1 e _ fun vs H2 e2 rs => ⟨sz_of (by rw [rs.len]; exact hl), fun p hp => q p vs _ (fresh_back e2 hp) (e2.trans (Ext.upd hp)) upd_same (rs.ext (Ext.upd hp))⟩
theorem atI_D {xs : List V} (h : Rps K H ds xs) (e : atI ds i = some d) : ∃ x, atI xs i = some x ∧ Rp K H d x := by
  unfold atI at e ⊢
  rw [h.len]
  cases q : ixN ds.length i with
  | none =>
    rw [q] at e
    cases e
  | some n =>
    rw [q] at e
    exact h.get e
theorem gv_ixL (ha : Gv K ta σ H (.lst ds)) (hb : Gv K tb σ H (.int i)) (h : atI ds i = some d) : Gv K (tOp (rIxL K) ta tb) σ H d :=
  gv_op ha hb fun H1 e v w rv rw Q q => by
    obtain ⟨a, xs, rfl, h1, h2⟩ := rv
    obtain ⟨x, h3, h4⟩ := atI_D h2 h
    exact ⟨a, xs, i, x, rfl, rw, SqL.of h1, h3, q x H1 Ext.rfl' h4⟩
theorem gv_ixT (ha : Gv K ta σ H (.tup ds)) (hb : Gv K tb σ H (.int i)) (h : atI ds i = some d) : Gv K (tOp (rIxT K) ta tb) σ H d :=
  gv_op ha hb fun H1 e v w rv rw Q q => by
    obtain ⟨a, xs, rfl, h1, h2⟩ := rv
    obtain ⟨x, h3, h4⟩ := atI_D h2 h
    exact ⟨a, xs, i, x, rfl, rw, SqT.of h1, h3, q x H1 Ext.rfl' h4⟩
/-! built-in calls by values -/
abbrev RC := List V → Hp → VK → Prop
def rLenQ (K : PySem.W.Frag) : RC := fun xs H Q => ∃ p ys, xs = [.ref p] ∧ (SqL K H p ys ∨ SqT K H p ys) ∧ Q (.int ys.length) H
def rTupQ (K : PySem.W.Frag) : RC := fun xs H Q => ∃ p ys, xs = [.ref p] ∧ ((SqL K H p ys ∧ ∀ l, H l = none → Q (.ref l) (upd H l (.tup ys))) ∨ (SqT K H p ys ∧ Q (.ref p) H))
def rLstQ (K : PySem.W.Frag) : RC := fun xs H Q => ∃ p ys, xs = [.ref p] ∧ (SqL K H p ys ∨ SqT K H p ys) ∧ ∀ l, H l = none → Q (.ref l) (upd H l (.lst ys))
def rIntQ : RC := fun xs H Q => (∃ i, xs = [.int i] ∧ Q (.int i) H) ∨ ∃ k, xs = [.bl k] ∧ Q (.int (if k then 1 else 0)) H
def rMin2Q : RC := fun xs H Q => ∃ i j, xs = [.int i, .int j] ∧ Q (.int (if j < i then j else i)) H
def rMax2Q : RC := fun xs H Q => ∃ i j, xs = [.int i, .int j] ∧ Q (.int (if j > i then j else i)) H
theorem gv_cb {r : RC} (ha : GvA K tA σ H ds) (hr : ∀ H1, Ext H H1 → ∀ vs, Rps K H1 ds vs → ∀ Q : VK, (∀ z H2, Ext H1 H2 → Rp K H2 d z → Q z H2) → r vs H1 Q) : Gv K (tCB r tA) σ H d := fun H1 e Q q =>
  ha H1 e _ fun vs H2 e2 rs => hr H2 (e.trans e2) vs rs Q fun z H3 e3 rz => q z H3 (e2.trans e3) rz
theorem one_of {vs : List V} (h : Rps K H [d] vs) : ∃ v, vs = [v] ∧ Rp K H d v := by
  obtain ⟨x, r, rfl, h1, h2⟩ := h
  cases h2
  exact ⟨x, rfl, h1⟩
theorem two_of {d2 : D} {vs : List V} (h : Rps K H [d, d2] vs) : ∃ v w, vs = [v, w] ∧ Rp K H d v ∧ Rp K H d2 w := by
  obtain ⟨x, r, rfl, h1, h2⟩ := h
  obtain ⟨w, rfl, h3⟩ := one_of h2
  exact ⟨x, w, rfl, h1, h3⟩
theorem gv_lenL (ha : Gv K ta σ H (.lst ds)) : Gv K (tCB (rLenQ K) (tCons ta tNil)) σ H (.int (ds.length : Int)) := gv_cb (ga_cons ha ga_nil) fun H1 e vs rs Q q => by
  obtain ⟨v, rfl, a, xs, rfl, h1, h2⟩ := one_of rs
  exact ⟨a, xs, rfl, .inl (SqL.of h1), by rw [h2.len]; exact q _ H1 Ext.rfl' rfl⟩
theorem gv_lenT (ha : Gv K ta σ H (.tup ds)) : Gv K (tCB (rLenQ K) (tCons ta tNil)) σ H (.int (ds.length : Int)) := gv_cb (ga_cons ha ga_nil) fun H1 e vs rs Q q => by
  obtain ⟨v, rfl, a, xs, rfl, h1, h2⟩ := one_of rs
  exact ⟨a, xs, rfl, .inr (SqT.of h1), by rw [h2.len]; exact q _ H1 Ext.rfl' rfl⟩
theorem gv_tupL (ha : Gv K ta σ H (.lst ds)) : Gv K (tCB (rTupQ K) (tCons ta tNil)) σ H (.tup ds) := gv_cb (ga_cons ha ga_nil) fun H1 e vs rs Q q => by
  obtain ⟨v, rfl, a, xs, rfl, h1, h2⟩ := one_of rs
  exact ⟨a, xs, rfl, .inl ⟨SqL.of h1, fun l hl => q _ _ (Ext.upd hl) ⟨l, xs, rfl, upd_same, h2.ext (Ext.upd hl)⟩⟩⟩
theorem gv_tupT (ha : Gv K ta σ H (.tup ds)) : Gv K (tCB (rTupQ K) (tCons ta tNil)) σ H (.tup ds) := gv_cb (ga_cons ha ga_nil) fun H1 e vs rs Q q => by
  obtain ⟨v, rfl, a, xs, rfl, h1, h2⟩ := one_of rs
  exact ⟨a, xs, rfl, .inr ⟨SqT.of h1, q _ H1 Ext.rfl' ⟨a, xs, rfl, h1, h2⟩⟩⟩
theorem gn_cb {r : RC} (ha : GvA K tA σ H ds) (hr : ∀ H1, Ext H H1 → ∀ vs, Rps K H1 ds vs → ∀ Q : VK, (∀ p xs H2, H1 p = none → Ext H1 H2 → H2 p = some (.lst xs) → Rps K H2 es xs → Q (.ref p) H2) → r vs H1 Q) : GvN K (tCB r tA) σ H es := fun H1 e Q q =>
  ha H1 e _ fun vs H2 e2 rs => hr H2 (e.trans e2) vs rs Q fun p xs H3 hp e3 h3 rz => q p xs H3 (fresh_back e2 hp) (e2.trans e3) h3 rz
theorem gn_lstT (ha : Gv K ta σ H (.tup ds)) : GvN K (tCB (rLstQ K) (tCons ta tNil)) σ H ds := gn_cb (ga_cons ha ga_nil) fun H1 e vs rs Q q => by
  obtain ⟨v, rfl, a, xs, rfl, h1, h2⟩ := one_of rs
  exact ⟨a, xs, rfl, .inr (SqT.of h1), fun l hl => q l xs _ hl (Ext.upd hl) upd_same (h2.ext (Ext.upd hl))⟩
theorem gn_lstL (ha : Gv K ta σ H (.lst ds)) : GvN K (tCB (rLstQ K) (tCons ta tNil)) σ H ds := gn_cb (ga_cons ha ga_nil) fun H1 e vs rs Q q => by
  obtain ⟨v, rfl, a, xs, rfl, h1, h2⟩ := one_of rs
  exact ⟨a, xs, rfl, .inl (SqL.of h1), fun l hl => q l xs _ hl (Ext.upd hl) upd_same (h2.ext (Ext.upd hl))⟩
theorem gv_intI (ha : Gv K ta σ H (.int i)) : Gv K (tCB rIntQ (tCons ta tNil)) σ H (.int i) := gv_cb (ga_cons ha ga_nil) fun H1 e vs rs Q q => by
  obtain ⟨v, rfl, rv⟩ := one_of rs
  exact .inl ⟨i, by rw [show v = .int i from rv], q _ H1 Ext.rfl' rfl⟩
theorem gv_intB (ha : Gv K ta σ H (.bl a)) : Gv K (tCB rIntQ (tCons ta tNil)) σ H (.int (if a then 1 else 0)) := gv_cb (ga_cons ha ga_nil) fun H1 e vs rs Q q => by
  obtain ⟨v, rfl, rv⟩ := one_of rs
  exact .inr ⟨a, by rw [show v = .bl a from rv], q _ H1 Ext.rfl' rfl⟩
theorem gv_min2 (ha : Gv K ta σ H (.int i)) (hb : Gv K tb σ H (.int j)) : Gv K (tCB rMin2Q (tCons ta (tCons tb tNil))) σ H (.int (if j < i then j else i)) := gv_cb (ga_cons ha (ga_cons hb ga_nil)) fun H1 e vs rs Q q => by
  obtain ⟨v, w, rfl, rv, rw⟩ := two_of rs
  exact ⟨i, j, by rw [show v = .int i from rv, show w = .int j from rw], q _ H1 Ext.rfl' rfl⟩
theorem gv_max2 (ha : Gv K ta σ H (.int i)) (hb : Gv K tb σ H (.int j)) : Gv K (tCB rMax2Q (tCons ta (tCons tb tNil))) σ H (.int (if j > i then j else i)) := gv_cb (ga_cons ha (ga_cons hb ga_nil)) fun H1 e vs rs Q q => by
  obtain ⟨v, w, rfl, rv, rw⟩ := two_of rs
  exact ⟨i, j, by rw [show v = .int i from rv, show w = .int j from rw], q _ H1 Ext.rfl' rfl⟩
theorem gv_sum {ns : List Int} (ha : Gv K ta σ H (.lst (ns.map D.int))) : Gv K (tCB (rSum K) (tCons ta tNil)) σ H (.int ns.sum) := gv_cb (ga_cons ha ga_nil) fun H1 e vs rs Q q => by
  obtain ⟨v, rfl, a, xs, rfl, h1, h2⟩ := one_of rs
  exact ⟨a, ns, rfl, SqL.of (by rw [← h2.ints_eq]; exact h1), q _ H1 Ext.rfl' rfl⟩
theorem flB {bs : List Bool} {xs : List V} (h : Rps K H (bs.map D.bl) xs) : xs = bs.map V.bl := h.flat_eq (f := D.bl) (g := V.bl) fun _ _ r => r
theorem gv_all {bs : List Bool} (ha : Gv K ta σ H (.lst (bs.map D.bl))) : Gv K (tCB (rAll K) (tCons ta tNil)) σ H (.bl (bs.all id)) := gv_cb (ga_cons ha ga_nil) fun H1 e vs rs Q q => by
  obtain ⟨v, rfl, a, xs, rfl, h1, h2⟩ := one_of rs
  exact ⟨a, bs, rfl, SqL.of (by rw [← flB h2]; exact h1), q _ H1 Ext.rfl' rfl⟩
theorem gv_any {bs : List Bool} (ha : Gv K ta σ H (.lst (bs.map D.bl))) : Gv K (tCB (rAny K) (tCons ta tNil)) σ H (.bl (bs.any id)) := gv_cb (ga_cons ha ga_nil) fun H1 e vs rs Q q => by
  obtain ⟨v, rfl, a, xs, rfl, h1, h2⟩ := one_of rs
  exact ⟨a, bs, rfl, SqL.of (by rw [← flB h2]; exact h1), q _ H1 Ext.rfl' rfl⟩
theorem all_flat (ns : List Int) : (ns.map V.int).all flatV = true := by
  induction ns with
  | nil => rfl
  | cons n r ih =>
    rw [List.map_cons, List.all_cons, ih]
    rfl
theorem inV_ints {n : Int} {ns : List Int} : inV (.int n) (ns.map V.int) = decide (n ∈ ns) := by
  unfold inV
  induction ns with
  | nil => rfl
  | cons m r ih =>
    rw [List.map_cons, List.any_cons, ih, show eqV (V.int m) (V.int n) = decide (m = n) from rfl]
    by_cases h : m = n
    · simp [h]
    · have h2 : ¬ n = m := fun e => h e.symm
      simp [h, h2]
theorem gv_inL {neg : Bool} {ns : List Int} (ha : Gv K ta σ H (.int i)) (hb : Gv K tb σ H (.lst (ns.map D.int))) : Gv K (tOp (rIn K neg) ta tb) σ H (.bl (if neg then !decide (i ∈ ns) else decide (i ∈ ns))) :=
  gv_op ha hb fun H1 e v w rv rw Q q => by
    obtain ⟨a, xs, rfl, h1, h2⟩ := rw
    have ev : v = .int i := rv
    subst ev
    have ex := h2.ints_eq
    subst ex
    refine ⟨a, _, rfl, .inl (SqL.of h1), rfl, all_flat ns, ?_⟩
    rw [inV_ints]
    exact q _ H1 Ext.rfl' rfl
theorem gv_inT {neg : Bool} {ns : List Int} (ha : Gv K ta σ H (.int i)) (hb : Gv K tb σ H (.tup (ns.map D.int))) : Gv K (tOp (rIn K neg) ta tb) σ H (.bl (if neg then !decide (i ∈ ns) else decide (i ∈ ns))) :=
  gv_op ha hb fun H1 e v w rv rw Q q => by
    obtain ⟨a, xs, rfl, h1, h2⟩ := rw
    have ev : v = .int i := rv
    subst ev
    have ex := h2.ints_eq
    subst ex
    refine ⟨a, _, rfl, .inr (SqT.of h1), rfl, all_flat ns, ?_⟩
    rw [inV_ints]
    exact q _ H1 Ext.rfl' rfl
/-- list + list -/
theorem gn_cat (ha : Gv K ta σ H (.lst ds)) (hb : Gv K tb σ H (.lst es)) (hl : ds.length + es.length ≤ 100000) : GvN K (tOp rCat ta tb) σ H (ds ++ es) := fun H1 e Q q =>
  ha H1 e _ fun v H2 e2 rv => hb H2 (e.trans e2) _ fun w H3 e3 rw => by
    obtain ⟨a, xs, rfl, h1, h2⟩ := rv.ext e3
    obtain ⟨b, ys, rfl, h3, h4⟩ := rw
    exact ⟨a, b, xs, ys, rfl, rfl, h1, h3, sz_of (by rw [h2.len, h4.len]; exact hl), fun p hp => q p _ _ (fresh_back (e2.trans e3) hp) ((e2.trans e3).trans (Ext.upd hp)) upd_same ((h2.append h4).ext (Ext.upd hp))⟩
/-- tuple + tuple, neither empty -/
theorem gv_catT (ha : Gv K ta σ H (.tup ds)) (hb : Gv K tb σ H (.tup es)) (hd : ds ≠ []) (he : es ≠ []) (hl : ds.length + es.length ≤ 100000) : Gv K (tOp (rCatT K) ta tb) σ H (.tup (ds ++ es)) := gv_op ha hb fun H1 e v w rv rw Q q => by
  obtain ⟨a, xs, rfl, h1, h2⟩ := rv
  obtain ⟨b, ys, rfl, h3, h4⟩ := rw
  have nx : xs ≠ [] := fun z => hd (List.length_eq_zero_iff.mp (by rw [← h2.len, z]; rfl))
  have ny : ys ≠ [] := fun z => he (List.length_eq_zero_iff.mp (by rw [← h4.len, z]; rfl))
  exact ⟨a, b, xs, ys, rfl, rfl, SqT.of h1, SqT.of h3, nx, sz_of (by rw [h2.len, h4.len]; exact hl), fun z => absurd z ny, fun _ p hp => q _ _ (Ext.upd hp) ⟨p, _, rfl, upd_same, (h2.append h4).ext (Ext.upd hp)⟩⟩
/-! tests -/
theorem gt_test (h : Gv K te σ H (.bl a)) : Gt (tTest te) σ H a := fun H1 e Q q => h H1 e _ fun v H2 e2 r => ⟨a, r, q H2 e2⟩
theorem gt_B (h : Gv K te σ H (.bl a)) : Gt (tB te) σ H a := fun H1 e Q q => h H1 e _ fun v H2 e2 r => ⟨a, r, q H2 e2⟩
theorem gt_and (h1 : Gt t σ H a) (h2 : a = true → Gt u σ H b) : Gt (tAnd t u) σ H (a && b) := fun H1 e Q q => h1 H1 e _ fun H2 e2 => by
  cases a with
  | true =>
    show u σ H2 Q
    exact h2 rfl H2 (e.trans e2) Q fun H3 e3 => q H3 (e2.trans e3)
  | false =>
    show Q false H2
    exact q H2 e2
theorem gt_or (h1 : Gt t σ H a) (h2 : a = false → Gt u σ H b) : Gt (tOr t u) σ H (a || b) := fun H1 e Q q => h1 H1 e _ fun H2 e2 => by
  cases a with
  | true =>
    show Q true H2
    exact q H2 e2
  | false =>
    show u σ H2 Q
    exact h2 rfl H2 (e.trans e2) Q fun H3 e3 => q H3 (e2.trans e3)
theorem gt_not (h : Gt t σ H a) : Gt (tNot t) σ H (!a) := fun H1 e Q q => h H1 e _ fun H2 e2 => q H2 e2
/-- the truth of a list -/
def tTruQ (K : PySem.W.Frag) (ta : TE) : TT := fun σ H Q => ta σ H fun x H' => ∃ k, TruV K x H' k ∧ Q k H'
theorem gt_truL (h : Gv K ta σ H (.lst ds)) : Gt (tTruQ K ta) σ H (!ds.isEmpty) := fun H1 e Q q => h H1 e _ fun v H2 e2 r => by
  obtain ⟨a, xs, rfl, h1, h2⟩ := r
  refine ⟨!ds.isEmpty, .inl ⟨xs, SqL.of h1, ?_⟩, q H2 e2⟩
  cases ds with
  | nil =>
    cases h2
    rfl
  | cons d r =>
    obtain ⟨_, _, rfl, _, _⟩ := h2
    rfl
theorem gt_truB (h : Gv K ta σ H (.bl a)) : Gt (tTruQ K ta) σ H a := fun H1 e Q q => h H1 e _ fun v H2 e2 r => by
  have ev : v = .bl a := r
  subst ev
  exact ⟨a, rfl, q H2 e2⟩
theorem gv_andV (h1 : Gv K ta σ H (.bl a)) (h2 : a = true → Gv K tb σ H (.bl b)) : Gv K (tAndV ta tb) σ H (.bl (a && b)) := fun H1 e Q q => h1 H1 e _ fun v H2 e2 r => ⟨a, r, by
  cases a with
  | true =>
    show tb σ H2 Q
    exact h2 rfl H2 (e.trans e2) Q fun v H3 e3 r => q v H3 (e2.trans e3) r
  | false =>
    show Q (.bl false) H2
    exact q _ H2 e2 rfl⟩
theorem gv_orV (h1 : Gv K ta σ H (.bl a)) (h2 : a = false → Gv K tb σ H (.bl b)) : Gv K (tOrV ta tb) σ H (.bl (a || b)) := fun H1 e Q q => h1 H1 e _ fun v H2 e2 r => ⟨a, r, by
  cases a with
  | true =>
    show Q (.bl true) H2
    exact q _ H2 e2 rfl
  | false =>
    show tb σ H2 Q
    exact h2 rfl H2 (e.trans e2) Q fun v H3 e3 r => q v H3 (e2.trans e3) r⟩
theorem gv_notV (h1 : Gv K ta σ H (.bl a)) : Gv K (tNotV ta) σ H (.bl (!a)) := fun H1 e Q q => h1 H1 e _ fun v H2 e2 r => ⟨a, r, q _ H2 e2 rfl⟩
theorem gv_if (h : Gt t σ H a) (h1 : a = true → Gv K ta σ H d) (h2 : a = false → Gv K tb σ H d) : Gv K (tIf t ta tb) σ H d := fun H1 e Q q => h H1 e _ fun H2 e2 => by
  cases a with
  | true =>
    show ta σ H2 Q
    exact h1 rfl H2 (e.trans e2) Q fun v H3 e3 r => q v H3 (e2.trans e3) r
  | false =>
    show tb σ H2 Q
    exact h2 rfl H2 (e.trans e2) Q fun v H3 e3 r => q v H3 (e2.trans e3) r
theorem gv_ite {d1 d2 : D} (h : Gt t σ H a) (h1 : Gv K ta σ H d1) (h2 : Gv K tb σ H d2) : Gv K (tIf t ta tb) σ H (if a = true then d1 else d2) := gv_if h (fun e => by rw [e]; exact h1) fun e => by rw [e]; exact h2
/-! ### statements -/
variable {nx : L2.St → Hp → Prop} {rt : V → Hp → Prop} {bk ct : L2.St → Hp → Prop} {tu tw : TS} {g : TG}
theorem s_asg {i : Nat} (E : Sl K H G σ) (h : Gv K te σ H d) (k : ∀ v H1, Ext H H1 → Rp K H1 d v → Sl K H1 (G.set i (some d)) (σ.set i (some v)) → nx (σ.set i (some v)) H1) : tAsg te (gName i) ⟨nx, rt, bk, ct⟩ σ H :=
  h H Ext.rfl' _ fun v H1 e r => k v H1 e r ((E.ext e).set r)
/-- a new list at a name: its address is known -/
theorem s_asgN {i : Nat} (E : Sl K H G σ) (h : GvN K te σ H ds) (k : ∀ p xs H1, H p = none → Ext H H1 → H1 p = some (.lst xs) → Rps K H1 ds xs → Sl K H1 (G.set i (some (.adr p))) (σ.set i (some (.ref p))) → nx (σ.set i (some (.ref p))) H1) : tAsg te (gName i) ⟨nx, rt, bk, ct⟩ σ H :=
  h H Ext.rfl' _ fun p xs H1 hp e h1 r => k p xs H1 hp e h1 r ((E.ext e).set (d := .adr p) rfl)
theorem s_ret (h : Gv K te σ H d) (k : ∀ v H1, Ext H H1 → Rp K H1 d v → rt v H1) : tRet te ⟨nx, rt, bk, ct⟩ σ H := h H Ext.rfl' _ k
theorem s_retN (h : GvN K te σ H ds) (k : ∀ p xs H1, H p = none → Ext H H1 → H1 p = some (.lst xs) → Rps K H1 ds xs → rt (.ref p) H1) : tRet te ⟨nx, rt, bk, ct⟩ σ H := h H Ext.rfl' _ k
theorem s_if (E : Sl K H G σ) (h : Gt t σ H a) (h1 : a = true → ∀ H1, Ext H H1 → Sl K H1 G σ → tu ⟨nx, rt, bk, ct⟩ σ H1) (h2 : a = false → ∀ H1, Ext H H1 → Sl K H1 G σ → tw ⟨nx, rt, bk, ct⟩ σ H1) : tIfS t tu tw ⟨nx, rt, bk, ct⟩ σ H := h H Ext.rfl' _ fun H1 e => by
  cases a with
  | true =>
    show tu ⟨nx, rt, bk, ct⟩ σ H1
    exact h1 rfl H1 e (E.ext e)
  | false =>
    show tw ⟨nx, rt, bk, ct⟩ σ H1
    exact h2 rfl H1 e (E.ext e)
theorem s_drop (E : Sl K H G σ) (h : Gv K te σ H d) (k : ∀ v H1, Ext H H1 → Rp K H1 d v → Sl K H1 G σ → nx σ H1) : tDrop te ⟨nx, rt, bk, ct⟩ σ H := h H Ext.rfl' _ fun v H1 e r => k v H1 e r (E.ext e)
/-- xs.append(e) -/
theorem s_app {p : Addr} {xs : List V} (E : Sl K H G σ) (hp : H p = some (.lst xs)) (ha : Gv K ta σ H (.adr p)) (h : Gv K te σ H d) (hl : xs.length < 100000) (k : ∀ v H1, Ext H H1 → Rp K H1 d v → Sl K H1 G σ → H1 p = some (.lst xs) → nx σ (upd H1 p (.lst (xs ++ [v])))) :
    tDrop (tBM K "list" rAppend ta (tCons te tNil)) ⟨nx, rt, bk, ct⟩ σ H := ha H Ext.rfl' _ fun w H1 e1 rw => by
  have ew : w = .ref p := rw
  subst ew
  exact ⟨.inl ⟨rfl, xs, SqL.of (e1 _ _ hp)⟩, h H1 e1 _ fun v H2 e2 rv => ⟨p, xs, v, rfl, rfl, (e1.trans e2) _ _ hp, sz_lt hl, k v H2 (e1.trans e2) rv (E.ext (e1.trans e2)) ((e1.trans e2) _ _ hp)⟩⟩
theorem s_appN {p : Addr} {xs : List V} (E : Sl K H G σ) (hp : H p = some (.lst xs)) (ha : Gv K ta σ H (.adr p)) (h : GvN K te σ H es) (hl : xs.length < 100000) (k : ∀ q ys H1, H q = none → Ext H H1 → H1 q = some (.lst ys) → Rps K H1 es ys → Sl K H1 G σ → H1 p = some (.lst xs) → nx σ (upd H1 p (.lst (xs ++ [.ref q])))) :
    tDrop (tBM K "list" rAppend ta (tCons te tNil)) ⟨nx, rt, bk, ct⟩ σ H := ha H Ext.rfl' _ fun w H1 e1 rw => by
  have ew : w = .ref p := rw
  subst ew
  exact ⟨.inl ⟨rfl, xs, SqL.of (e1 _ _ hp)⟩, h H1 e1 _ fun q ys H2 hq e2 h2 rv => ⟨p, xs, .ref q, rfl, rfl, (e1.trans e2) _ _ hp, sz_lt hl, k q ys H2 (fresh_back e1 hq) (e1.trans e2) h2 rv (E.ext (e1.trans e2)) ((e1.trans e2) _ _ hp)⟩⟩
/-- x op= e for a name -/
theorem s_aug {i : Nat} {f : Int → Int → Int} {m n : Int} (E : Sl K H G σ) (hx : G[i]? = some (some (.int m))) (h : Gv K te σ H (.int n)) (k : ∀ H1, Ext H H1 → Sl K H1 (G.set i (some (.int (f m n)))) (σ.set i (some (.int (f m n)))) → nx (σ.set i (some (.int (f m n)))) H1) : tAug i te (ipI f) ⟨nx, rt, bk, ct⟩ σ H := by
  obtain ⟨v, h1, h2⟩ := E.2 i _ hx
  have ev : v = .int m := h2
  subst ev
  exact ⟨_, h1, h H Ext.rfl' _ fun w H1 e r => ⟨m, n, rfl, r, k H1 e ((E.ext e).set rfl)⟩⟩
/-! loops -/
theorem map_got {α : Type} {l : List α} {f : α → D} {i : Nat} {d : D} (h : (l.map f)[i]? = some d) : ∃ a, l[i]? = some a ∧ d = f a := by
  rw [List.getElem?_map] at h
  cases e : l[i]? with
  | none =>
    rw [e] at h
    cases h
  | some a =>
    rw [e] at h
    exact ⟨a, rfl, (Option.some.inj h).symm⟩
/-- for over a list: the word I tells at each turn that the list stands -/
theorem s_forL {α : Type} {l : List α} {emb : α → D} {tl : TE} (hx : Gv K tl σ H (.lst (l.map emb))) (hw : ∀ v H1, Ext H H1 → Rp K H1 (.lst (l.map emb)) v → ∃ I : Nat → L2.St → Hp → Prop,
    (∀ i σ' H', I i σ' H' → Rp K H' (.lst (l.map emb)) v) ∧ I 0 σ H1 ∧
    (∀ i a x σ' H', l[i]? = some a → I i σ' H' → Rp K H' (emb a) x → g x σ' H' fun σ2 H2 => tu ⟨I (i + 1), rt, nx, I (i + 1)⟩ σ2 H2) ∧
    ∀ σ' H', I l.length σ' H' → nx σ' H') : tFor (iList K tl) g tu ⟨nx, rt, bk, ct⟩ σ H := hx H Ext.rfl' _ fun v H1 e1 rv => by
  obtain ⟨I, hk, h0, hs, hd⟩ := hw v H1 e1 rv
  obtain ⟨a, xs, rfl, h1, h2⟩ := id rv
  refine ⟨a, rfl, ⟨xs, SqL.of h1⟩, fun i m σ H => m = l.length - i ∧ i ≤ l.length ∧ I i σ H, ⟨l.length, by simp, Nat.zero_le _, h0⟩, ?_⟩
  rintro i m σ' H' ⟨rfl, hi, p⟩
  obtain ⟨a', ys, ea, h3, h4⟩ := hk i σ' H' p
  cases ea
  have ly : ys.length = l.length := by rw [h4.len, List.length_map]
  by_cases hlt : i < l.length
  · obtain ⟨y, hy⟩ : ∃ y, ys[i]? = some y := ⟨_, List.getElem?_eq_getElem (by omega)⟩
    refine .inr ⟨⟨ys, y, SqL.of h3, hy⟩, I (i + 1), fun σ2 H2 p2 => ⟨l.length - (i + 1), by omega, rfl, hlt, p2⟩, fun x H2 hq => ?_⟩
    obtain ⟨e, hq⟩ := hq
    subst e
    obtain ⟨d, hd1, hd2⟩ := h4.got (hq ys (SqL.of h3))
    obtain ⟨c, hc1, hc2⟩ := map_got hd1
    subst hc2
    exact hs i c x σ' _ hc1 p hd2
  · have e : i = l.length := by omega
    subst e
    exact .inl ⟨⟨ys, SqL.of h3, by omega⟩, hd σ' H' p⟩
theorem s_forT {α : Type} {l : List α} {emb : α → D} {tl : TE} (hx : Gv K tl σ H (.tup (l.map emb))) (hw : ∀ v H1, Ext H H1 → Rp K H1 (.tup (l.map emb)) v → ∃ I : Nat → L2.St → Hp → Prop,
    (∀ i σ' H', I i σ' H' → Rp K H' (.tup (l.map emb)) v) ∧ I 0 σ H1 ∧
    (∀ i a x σ' H', l[i]? = some a → I i σ' H' → Rp K H' (emb a) x → g x σ' H' fun σ2 H2 => tu ⟨I (i + 1), rt, nx, I (i + 1)⟩ σ2 H2) ∧
    ∀ σ' H', I l.length σ' H' → nx σ' H') : tFor (iTup K tl) g tu ⟨nx, rt, bk, ct⟩ σ H := hx H Ext.rfl' _ fun v H1 e1 rv => by
  obtain ⟨I, hk, h0, hs, hd⟩ := hw v H1 e1 rv
  obtain ⟨a, xs, rfl, h1, h2⟩ := id rv
  refine ⟨a, rfl, ⟨xs, SqT.of h1⟩, fun i m σ H => m = l.length - i ∧ i ≤ l.length ∧ I i σ H, ⟨l.length, by simp, Nat.zero_le _, h0⟩, ?_⟩
  rintro i m σ' H' ⟨rfl, hi, p⟩
  obtain ⟨a', ys, ea, h3, h4⟩ := hk i σ' H' p
  cases ea
  have ly : ys.length = l.length := by rw [h4.len, List.length_map]
  by_cases hlt : i < l.length
  · obtain ⟨y, hy⟩ : ∃ y, ys[i]? = some y := ⟨_, List.getElem?_eq_getElem (by omega)⟩
    refine .inr ⟨⟨ys, y, SqT.of h3, hy⟩, I (i + 1), fun σ2 H2 p2 => ⟨l.length - (i + 1), by omega, rfl, hlt, p2⟩, fun x H2 hq => ?_⟩
    obtain ⟨e, hq⟩ := hq
    subst e
    obtain ⟨d, hd1, hd2⟩ := h4.got (hq ys (SqT.of h3))
    obtain ⟨c, hc1, hc2⟩ := map_got hd1
    subst hc2
    exact hs i c x σ' _ hc1 p hd2
  · have e : i = l.length := by omega
    subst e
    exact .inl ⟨⟨ys, SqT.of h3, by omega⟩, hd σ' H' p⟩
theorem s_forR1 {j : Nat} {n : Nat} {tA : TA} (h : GvA K tA σ H [.int n]) (hn : n ≤ 100000) (I : Nat → L2.St → Hp → Prop) (h0 : ∀ H1, Ext H H1 → I 0 σ H1)
    (hs : ∀ (i : Nat) σ' H', i < n → I i σ' H' → tu ⟨I (i + 1), rt, nx, I (i + 1)⟩ (σ'.set j (some (.int (i : Int)))) H') (hd : ∀ σ' H', I n σ' H' → nx σ' H') : tFor (iRng1 tA) (gName j) tu ⟨nx, rt, bk, ct⟩ σ H :=
  h H Ext.rfl' _ fun vs H1 e rs => by
    obtain ⟨v, rfl, rv⟩ := one_of rs
    have ev : v = .int n := rv
    subst ev
    refine ⟨n, rfl, by omega, by omega, for_range (lo := 0) (n := (n : Int).toNat) I (h0 H1 e) (fun i σ' H' hi p => ?_) fun σ' H' p => hd σ' H' (by rw [Int.toNat_natCast] at p; exact p)⟩
    show tu ⟨I (i + 1), rt, nx, I (i + 1)⟩ (σ'.set j (some (.int ((0 : Int) + (i : Int))))) H'
    rw [Int.zero_add]
    exact hs i σ' H' (by rw [Int.toNat_natCast] at hi; exact hi) p
theorem s_forR2 {j : Nat} {lo n : Nat} {tA : TA} (h : GvA K tA σ H [.int lo, .int n]) (hl : lo ≤ 100000) (hn : n ≤ 100000) (I : Nat → L2.St → Hp → Prop) (h0 : ∀ H1, Ext H H1 → I 0 σ H1)
    (hs : ∀ (i : Nat) σ' H', lo + i < n → I i σ' H' → tu ⟨I (i + 1), rt, nx, I (i + 1)⟩ (σ'.set j (some (.int ((lo + i : Nat) : Int)))) H') (hd : ∀ σ' H', I (n - lo) σ' H' → nx σ' H') : tFor (iRng2 tA) (gName j) tu ⟨nx, rt, bk, ct⟩ σ H :=
  h H Ext.rfl' _ fun vs H1 e rs => by
    obtain ⟨v, w, rfl, rv, rw⟩ := two_of rs
    have ev : v = .int lo := rv
    have ew : w = .int n := rw
    subst ev ew
    have en : ((n : Int) - (lo : Int)).toNat = n - lo := by omega
    refine ⟨lo, n, rfl, ⟨by omega, by omega, by omega, by omega⟩, for_range (lo := lo) (n := ((n : Int) - (lo : Int)).toNat) I (h0 H1 e) (fun i σ' H' hi p => ?_) fun σ' H' p => hd σ' H' (by rw [en] at p; exact p)⟩
    show tu ⟨I (i + 1), rt, nx, I (i + 1)⟩ (σ'.set j (some (.int ((lo : Int) + (i : Int))))) H'
    rw [← Int.natCast_add]
    exact hs i σ' H' (by omega) p
theorem s_while (W : Nat → L2.St → Hp → Prop) (m0 : Nat) (h0 : W m0 σ H)
    (hs : ∀ m σ' H', W m σ' H' → ∃ b, Gt t σ' H' b ∧ (b = true → ∀ H1, Ext H' H1 → ∃ N : L2.St → Hp → Prop, (∀ σ2 H2, N σ2 H2 → ∃ m', m' < m ∧ W m' σ2 H2) ∧ tu ⟨N, rt, nx, N⟩ σ' H1) ∧ (b = false → ∀ H1, Ext H' H1 → nx σ' H1)) : tWhile t tu ⟨nx, rt, bk, ct⟩ σ H :=
  ⟨W, ⟨m0, h0⟩, fun m σ' H' hw => by
    obtain ⟨b, hb, h1, h2⟩ := hs m σ' H' hw
    refine hb H' Ext.rfl' _ fun H1 e => ?_
    cases b with
    | true => exact h1 rfl H1 e
    | false => exact h2 rfl H1 e⟩
/-! targets -/
theorem wipe_len (σ : L2.St) (vs : List Nat) : (L2.wipe σ vs).length = σ.length := L2.wipe_length σ vs
theorem wipe_set {j : Nat} {y : Option V} : ∀ {vs : List Nat} (σ : L2.St), L2.wipe (σ.set j y) vs = if j ∈ vs then L2.wipe σ vs else (L2.wipe σ vs).set j y
  | [], σ => by simp [L2.wipe]
  | v :: vs, σ => by
    show (L2.wipe (σ.set j y) vs).set v none = if j ∈ v :: vs then (L2.wipe σ vs).set v none else ((L2.wipe σ vs).set v none).set j y
    rw [wipe_set (vs := vs) σ]
    by_cases h1 : j = v
    · subst h1
      rw [if_pos List.mem_cons_self]
      by_cases h2 : j ∈ vs
      · rw [if_pos h2]
      · rw [if_neg h2, List.set_set]
    · by_cases h2 : j ∈ vs
      · rw [if_pos h2, if_pos (List.mem_cons_of_mem _ h2)]
      · rw [if_neg h2, if_neg (by simp [h1, h2]), List.set_comm _ _ h1]
theorem wipe_in {j : Nat} {y : Option V} {vs : List Nat} (σ : L2.St) (h : j ∈ vs) : L2.wipe (σ.set j y) vs = L2.wipe σ vs := by rw [wipe_set, if_pos h]
theorem wipe_twice : ∀ (vs : List Nat) (σ : L2.St), L2.wipe (L2.wipe σ vs) vs = L2.wipe σ vs
  | [], σ => rfl
  | v :: vs, σ => by
    show (L2.wipe ((L2.wipe σ vs).set v none) vs).set v none = (L2.wipe σ vs).set v none
    rw [wipe_set, wipe_twice vs σ]
    by_cases h : v ∈ vs
    · rw [if_pos h]
    · rw [if_neg h, List.set_set]
/-- how a target binds -/
def Tg (K : PySem.W.Frag) (g : TG) (G : Sg) (d : D) (G' : Sg) (vs : List Nat) : Prop := ∀ (σ : L2.St) (H : Hp) (x : V), Sl K H G σ → Rp K H d x → ∀ Q : L2.St → Hp → Prop, (∀ σ2, Sl K H G' σ2 → L2.wipe σ2 vs = L2.wipe σ vs → Q σ2 H) → g x σ H Q
theorem tg_name {j : Nat} {vs : List Nat} (h : j ∈ vs) : Tg K (gName j) G d (G.set j (some d)) vs := fun σ H x E r Q q => q _ (E.set r) (wipe_in σ h)
theorem tg_pair {i j : Nat} {d1 d2 : D} {vs : List Nat} (h1 : i ∈ vs) (h2 : j ∈ vs) : Tg K (gTup K 2 (gCons (gName i) (gCons (gName j) gNil))) G (.tup [d1, d2]) ((G.set i (some d1)).set j (some d2)) vs := fun σ H x E r Q q => by
  obtain ⟨a, xs, rfl, h3, h4⟩ := r
  obtain ⟨v, w, rfl, rv, rw⟩ := two_of h4
  exact ⟨a, _, rfl, SqT.of h3, rfl, v, _, rfl, w, _, rfl, rfl, q _ ((E.set rv).set rw) (by rw [wipe_in _ h2, wipe_in _ h1])⟩
/-- the target of a for, an assignment -/
theorem g_name {j : Nat} {x : V} {Q : L2.St → Hp → Prop} (E : Sl K H G σ) (r : Rp K H d x) (q : Sl K H (G.set j (some d)) (σ.set j (some x)) → Q (σ.set j (some x)) H) : gName j x σ H Q := q (E.set r)
theorem g_pair {i j : Nat} {d1 d2 : D} {x : V} {Q : L2.St → Hp → Prop} (E : Sl K H G σ) (r : Rp K H (.tup [d1, d2]) x) (q : ∀ v w, Rp K H d1 v → Rp K H d2 w → Sl K H ((G.set i (some d1)).set j (some d2)) ((σ.set i (some v)).set j (some w)) → Q ((σ.set i (some v)).set j (some w)) H) :
    gTup K 2 (gCons (gName i) (gCons (gName j) gNil)) x σ H Q := by
  obtain ⟨a, xs, rfl, h3, h4⟩ := r
  obtain ⟨v, w, rfl, rv, rw⟩ := two_of h4
  exact ⟨a, _, rfl, SqT.of h3, rfl, v, _, rfl, w, _, rfl, rfl, q v w rv rw ((E.set rv).set rw)⟩
theorem s_pair {i j : Nat} {d1 d2 : D} (E : Sl K H G σ) (h : Gv K te σ H (.tup [d1, d2])) (k : ∀ v w H1, Ext H H1 → Sl K H1 ((G.set i (some d1)).set j (some d2)) ((σ.set i (some v)).set j (some w)) → nx ((σ.set i (some v)).set j (some w)) H1) :
    tAsg te (gTup K 2 (gCons (gName i) (gCons (gName j) gNil))) ⟨nx, rt, bk, ct⟩ σ H := h H Ext.rfl' _ fun v H1 e r => g_pair (E.ext e) r fun v w _ _ E1 => k v w H1 e E1
/-! comprehensions: elements that no change touches -/
theorem gt_yes : Gt tYes σ H true := fun H1 e Q q => q H1 Ext.rfl'
theorem lc_core {J : It} {α : Type} {l : List α} {emb f : α → D} {p : α → Bool} {G' : α → Sg} {vs : List Nat} {H1 : Hp} {Dl : Addr} {tt : TT} {Qd : V → Hp → Prop} (E : Sl K H1 G σ) (hD : H1 Dl = none) (hl : l.length ≤ 50000) [hf : ∀ a, Pu (f a)]
    (hgo : ∀ i H, Ext H1 H → i < l.length → J.go i H) (hst : ∀ i H, Ext H1 H → l.length ≤ i → J.stop i H) (hy : ∀ i x H H', Ext H1 H → J.yld i H x H' → H' = H ∧ ∀ a, l[i]? = some a → Rp K H (emb a) x)
    (hg : ∀ a ∈ l, Tg K g (wipeG G vs) (emb a) (G' a) vs) (ht : ∀ a ∈ l, ∀ σ2 H2, Ext H1 H2 → Sl K H2 (G' a) σ2 → Gt tt σ2 H2 (p a)) (he : ∀ a ∈ l, p a = true → ∀ σ2 H2, Ext H1 H2 → Sl K H2 (G' a) σ2 → Gv K te σ2 H2 (f a))
    (hq : ∀ xs H2, Ext H1 H2 → H2 Dl = some (.lst xs) → Rps K H2 ((l.filter p).map f) xs → Qd (.ref Dl) H2) :
    ∃ W : Nat → Nat → Hp → Prop, (∃ m, W 0 m (upd H1 Dl (.lst []))) ∧ ∀ i m H, W i m H → (J.stop i H ∧ Qd (.ref Dl) H) ∨ (J.go i H ∧ ∃ Nx : Hp → Prop, (∀ H', Nx H' → ∃ m', m' < m ∧ W (i + 1) m' H') ∧ ∀ x H', J.yld i H x H' →
      g x (L2.wipe σ vs) H' fun σ2 H2 => L2.wipe σ2 vs = L2.wipe σ vs ∧ tt σ2 H2 fun b H3 => if b = true then te σ2 H3 fun y H4 => ∃ acc, H4 Dl = some (.lst acc) ∧ acc.length < sizeLine ∧ Nx (upd H4 Dl (.lst (acc ++ [y]))) else Nx H3) := by
  refine ⟨fun i m H => m = l.length - i ∧ i ≤ l.length ∧ Ext H1 H ∧ ∃ xs, H Dl = some (.lst xs) ∧ Rps K H (((l.take i).filter p).map f) xs, ⟨l.length, by simp, Nat.zero_le _, Ext.upd hD, [], upd_same, .nil⟩, ?_⟩
  rintro i m H' ⟨rfl, hi, e1, xs, h1, h2⟩
  by_cases hlt : i < l.length
  · refine .inr ⟨hgo i H' e1 hlt, fun H2 => i + 1 ≤ l.length ∧ Ext H1 H2 ∧ ∃ xs, H2 Dl = some (.lst xs) ∧ Rps K H2 (((l.take (i + 1)).filter p).map f) xs, fun H2 p2 => ⟨l.length - (i + 1), by omega, rfl, p2⟩, fun x H2 yl => ?_⟩
    obtain ⟨rfl, hx⟩ := hy i x H' H2 e1 yl
    have ha : l[i]? = some l[i] := List.getElem?_eq_getElem hlt
    have hm : l[i] ∈ l := List.getElem_mem hlt
    have tk : l.take (i + 1) = l.take i ++ [l[i]] := by rw [List.take_add_one, ha]; rfl
    refine hg l[i] hm _ _ x ((E.ext e1).wipe vs) (hx _ ha) _ fun σ2 E2 w2 => ⟨by rw [w2, wipe_twice], ?_⟩
    refine ht l[i] hm σ2 _ e1 E2 _ Ext.rfl' _ fun H3 e3 => ?_
    cases hp : p l[i] with
    | false =>
      show _ ∧ _ ∧ _
      refine ⟨hlt, e1.trans e3, xs, e3 _ _ h1, ?_⟩
      rw [tk, List.filter_append, List.filter_cons, if_neg (by rw [hp]; decide)]
      simpa using h2.ext e3
    | true =>
      refine he l[i] hm hp σ2 H3 (e1.trans e3) (E2.ext e3) H3 Ext.rfl' _ fun y H4 e4 ry => ⟨xs, e4 _ _ (e3 _ _ h1), ?_, hlt, ?_, xs ++ [y], upd_same, ?_⟩
      · refine sz_lt ?_
        rw [h2.len, List.length_map]
        have q1 := List.length_filter_le p (l.take i)
        rw [List.length_take] at q1
        omega
      · intro b o hb
        rw [upd_ne (ne_of_none hb hD)]
        exact e4 _ _ (e3 _ _ (e1 _ _ hb))
      · rw [tk, List.filter_append, List.filter_cons, if_pos hp, List.map_append]
        have g1 : Gr K H4 (upd H4 Dl (.lst (xs ++ [y]))) := Gr.updL (e4 _ _ (e3 _ _ h1))
        refine Rps.append (((h2.ext e3).ext e4).gr g1 _ (pus_iff.mpr fun d hd => ?_)) (.cons (ry.gr g1 _ (hf _).pu) .nil)
        obtain ⟨a, _, rfl⟩ := List.mem_map.mp hd
        exact (hf a).pu
  · have e : i = l.length := by omega
    subst e
    refine .inl ⟨hst _ _ e1 (Nat.le_refl _), hq xs H' e1 h1 ?_⟩
    rw [List.take_length] at h2
    exact h2
variable {α : Type} {l : List α} {emb f : α → D} {p : α → Bool} {G' : α → Sg} {vs : List Nat} {tt : TT} {tl : TE}
theorem gn_lcL (E : Sl K H G σ) (hx : Gv K tl σ H (.lst (l.map emb))) (hl : l.length ≤ 50000) [hf : ∀ a, Pu (f a)] (hg : ∀ a ∈ l, Tg K g (wipeG G vs) (emb a) (G' a) vs)
    (ht : ∀ a ∈ l, ∀ σ2 H2, Ext H H2 → Sl K H2 (G' a) σ2 → Gt tt σ2 H2 (p a)) (he : ∀ a ∈ l, p a = true → ∀ σ2 H2, Ext H H2 → Sl K H2 (G' a) σ2 → Gv K te σ2 H2 (f a)) : GvN K (tLc (iList K tl) g tt te vs) σ H ((l.filter p).map f) := fun H0 e0 Q q =>
  hx H0 e0 _ fun v H1 e1 rv => by
    obtain ⟨a, xs, rfl, h1, h2⟩ := id rv
    refine ⟨a, rfl, ⟨xs, SqL.of h1⟩, fun Dl hD => ?_⟩
    refine lc_core (J := Itl K a) (E.ext (e0.trans e1)) hD hl (fun i H2 e2 hi => ?_) (fun i H2 e2 hi => ?_) (fun i x H2 H3 e2 hy => ?_) hg (fun a ha σ2 H2 e2 E2 => ht a ha σ2 H2 ((e0.trans e1).trans e2) E2) (fun a ha hp σ2 H2 e2 E2 => he a ha hp σ2 H2 ((e0.trans e1).trans e2) E2) fun ys H2 e2 h3 h4 => q Dl ys H2 (fresh_back e1 hD) (e1.trans e2) h3 h4
    · have hi2 : i < xs.length := by rw [h2.len, List.length_map]; exact hi
      exact ⟨xs, xs[i], SqL.of (e2 _ _ h1), List.getElem?_eq_getElem hi2⟩
    · exact ⟨xs, SqL.of (e2 _ _ h1), by rw [h2.len, List.length_map]; exact hi⟩
    · obtain ⟨rfl, hy⟩ := hy
      refine ⟨rfl, fun a ha => ?_⟩
      obtain ⟨d, hd1, hd2⟩ := (h2.ext e2).got (hy xs (SqL.of (e2 _ _ h1)))
      obtain ⟨c, hc1, hc2⟩ := map_got hd1
      rw [ha] at hc1
      cases hc1
      subst hc2
      exact hd2
theorem gn_lcT (E : Sl K H G σ) (hx : Gv K tl σ H (.tup (l.map emb))) (hl : l.length ≤ 50000) [hf : ∀ a, Pu (f a)] (hg : ∀ a ∈ l, Tg K g (wipeG G vs) (emb a) (G' a) vs)
    (ht : ∀ a ∈ l, ∀ σ2 H2, Ext H H2 → Sl K H2 (G' a) σ2 → Gt tt σ2 H2 (p a)) (he : ∀ a ∈ l, p a = true → ∀ σ2 H2, Ext H H2 → Sl K H2 (G' a) σ2 → Gv K te σ2 H2 (f a)) : GvN K (tLc (iTup K tl) g tt te vs) σ H ((l.filter p).map f) := fun H0 e0 Q q =>
  hx H0 e0 _ fun v H1 e1 rv => by
    obtain ⟨a, xs, rfl, h1, h2⟩ := id rv
    refine ⟨a, rfl, ⟨xs, SqT.of h1⟩, fun Dl hD => ?_⟩
    refine lc_core (J := Itt K a) (E.ext (e0.trans e1)) hD hl (fun i H2 e2 hi => ?_) (fun i H2 e2 hi => ?_) (fun i x H2 H3 e2 hy => ?_) hg (fun a ha σ2 H2 e2 E2 => ht a ha σ2 H2 ((e0.trans e1).trans e2) E2) (fun a ha hp σ2 H2 e2 E2 => he a ha hp σ2 H2 ((e0.trans e1).trans e2) E2) fun ys H2 e2 h3 h4 => q Dl ys H2 (fresh_back e1 hD) (e1.trans e2) h3 h4
    · have hi2 : i < xs.length := by rw [h2.len, List.length_map]; exact hi
      exact ⟨xs, xs[i], SqT.of (e2 _ _ h1), List.getElem?_eq_getElem hi2⟩
    · exact ⟨xs, SqT.of (e2 _ _ h1), by rw [h2.len, List.length_map]; exact hi⟩
    · obtain ⟨rfl, hy⟩ := hy
      refine ⟨rfl, fun a ha => ?_⟩
      obtain ⟨d, hd1, hd2⟩ := (h2.ext e2).got (hy xs (SqT.of (e2 _ _ h1)))
      obtain ⟨c, hc1, hc2⟩ := map_got hd1
      rw [ha] at hc1
      cases hc1
      subst hc2
      exact hd2
/-- over range(n) -/
theorem gn_lcR {n : Nat} {tA : TA} {f : Nat → D} {p : Nat → Bool} {G' : Nat → Sg} (E : Sl K H G σ) (hx : GvA K tA σ H [.int n]) (hl : n ≤ 50000) [hf : ∀ a, Pu (f a)] (hg : ∀ a, a < n → Tg K g (wipeG G vs) (.int (a : Int)) (G' a) vs)
    (ht : ∀ a, a < n → ∀ σ2 H2, Ext H H2 → Sl K H2 (G' a) σ2 → Gt tt σ2 H2 (p a)) (he : ∀ a, a < n → p a = true → ∀ σ2 H2, Ext H H2 → Sl K H2 (G' a) σ2 → Gv K te σ2 H2 (f a)) : GvN K (tLc (iRng1 tA) g tt te vs) σ H (((List.range n).filter p).map f) := fun H0 e0 Q q =>
  hx H0 e0 _ fun us H1 e1 rs => by
    obtain ⟨v, rfl, rv⟩ := one_of rs
    have ev : v = .int n := rv
    subst ev
    refine ⟨n, rfl, by omega, by omega, fun Dl hD => ?_⟩
    refine lc_core (J := Itr 0 (n : Int).toNat) (l := List.range n) (emb := fun a : Nat => .int (a : Int)) (E.ext (e0.trans e1)) hD (by rw [List.length_range]; exact hl) (fun i H2 e2 hi => ?_) (fun i H2 e2 hi => ?_) (fun i x H2 H3 e2 hy => ?_) (fun a ha => hg a (List.mem_range.mp ha)) (fun a ha σ2 H2 e2 E2 => ht a (List.mem_range.mp ha) σ2 H2 ((e0.trans e1).trans e2) E2) (fun a ha hp σ2 H2 e2 E2 => he a (List.mem_range.mp ha) hp σ2 H2 ((e0.trans e1).trans e2) E2) fun ys H2 e2 h3 h4 => q Dl ys H2 (fresh_back e1 hD) (e1.trans e2) h3 h4
    · rw [List.length_range] at hi
      show i < (n : Int).toNat
      omega
    · rw [List.length_range] at hi
      show (n : Int).toNat ≤ i
      omega
    · obtain ⟨rfl, rfl⟩ := hy
      refine ⟨rfl, fun a ha => ?_⟩
      have ea : i = a := by
        have l1 : i < (List.range n).length := (List.getElem?_eq_some_iff.mp ha).1
        rw [List.getElem?_eq_getElem l1, List.getElem_range] at ha
        exact Option.some.inj ha
      subst ea
      show V.int ((0 : Int) + (i : Int)) = V.int (i : Int)
      rw [Int.zero_add]
theorem filter_yes {l : List α} : l.filter (fun _ => true) = l := List.filter_eq_self.mpr fun _ _ => rfl
end
end K38

set_option Elab.async false
set_option linter.all false
set_option maxRecDepth 100000
set_option maxHeartbeats 4000000
namespace K38
open PySem PySem.Spec PyProof.Rows L2
def d_limbs_of : He.DefD := ⟨("limbs_of", none), "limbs_of", "limbs_of", defArgs s_limbs_of, defBody s_limbs_of, defScope s_limbs_of, [], []⟩
def d_Hasher_init : He.DefD := ⟨("Hasher", some "__init__"), "__init__", "Hasher.__init__", defArgs s_Hasher_init, defBody s_Hasher_init, defScope s_Hasher_init, [], []⟩
def d_Hasher_digest : He.DefD := ⟨("Hasher", some "digest"), "digest", "Hasher.digest", defArgs s_Hasher_digest, defBody s_Hasher_digest, defScope s_Hasher_digest, [], []⟩
def d_Hasher_is_digest : He.DefD := ⟨("Hasher", some "is_digest"), "is_digest", "Hasher.is_digest", defArgs s_Hasher_is_digest, defBody s_Hasher_is_digest, defScope s_Hasher_is_digest, [], []⟩
def d_collision : He.DefD := ⟨("collision", none), "collision", "collision", defArgs s_collision, defBody s_collision, defScope s_collision, [], []⟩
def d_is_input : He.DefD := ⟨("is_input", none), "is_input", "is_input", defArgs s_is_input, defBody s_is_input, defScope s_is_input, [], []⟩
def d_is_collision : He.DefD := ⟨("is_collision", none), "is_collision", "is_collision", defArgs s_is_collision, defBody s_is_collision, defScope s_is_collision, [], []⟩
def d_digit_counts : He.DefD := ⟨("digit_counts", none), "digit_counts", "digit_counts", defArgs s_digit_counts, defBody s_digit_counts, defScope s_digit_counts, [], []⟩
def d_digits_of : He.DefD := ⟨("digits_of", none), "digits_of", "digits_of", defArgs s_digits_of, defBody s_digits_of, defScope s_digits_of, [], []⟩
def d_stepped : He.DefD := ⟨("stepped", none), "stepped", "stepped", defArgs s_stepped, defBody s_stepped, defScope s_stepped, [], []⟩
def d_key_digest : He.DefD := ⟨("key_digest", none), "key_digest", "key_digest", defArgs s_key_digest, defBody s_key_digest, defScope s_key_digest, [], []⟩
def d_Signer_init : He.DefD := ⟨("Signer", some "__init__"), "__init__", "Signer.__init__", defArgs s_Signer_init, defBody s_Signer_init, defScope s_Signer_init, [], []⟩
def d_Signer_chains : He.DefD := ⟨("Signer", some "chains"), "chains", "Signer.chains", defArgs s_Signer_chains, defBody s_Signer_chains, defScope s_Signer_chains, [], []⟩
def d_Signer_key_words : He.DefD := ⟨("Signer", some "key_words"), "key_words", "Signer.key_words", defArgs s_Signer_key_words, defBody s_Signer_key_words, defScope s_Signer_key_words, [], []⟩
def d_Signer_word : He.DefD := ⟨("Signer", some "word"), "word", "Signer.word", defArgs s_Signer_word, defBody s_Signer_word, defScope s_Signer_word, [], []⟩
def d_Signer_tops : He.DefD := ⟨("Signer", some "tops"), "tops", "Signer.tops", defArgs s_Signer_tops, defBody s_Signer_tops, defScope s_Signer_tops, [], []⟩
def d_Signer_path : He.DefD := ⟨("Signer", some "path"), "path", "Signer.path", defArgs s_Signer_path, defBody s_Signer_path, defScope s_Signer_path, [], []⟩
def d_Signer_sign : He.DefD := ⟨("Signer", some "sign"), "sign", "Signer.sign", defArgs s_Signer_sign, defBody s_Signer_sign, defScope s_Signer_sign, [], []⟩
def d_levels_of : He.DefD := ⟨("levels_of", none), "levels_of", "levels_of", defArgs s_levels_of, defBody s_levels_of, defScope s_levels_of, [], []⟩
def d_inputs_of : He.DefD := ⟨("inputs_of", none), "inputs_of", "inputs_of", defArgs s_inputs_of, defBody s_inputs_of, defScope s_inputs_of, [], []⟩
def d_verify : He.DefD := ⟨("verify", none), "verify", "verify", defArgs s_verify, defBody s_verify, defScope s_verify, [], []⟩
def d_members_fault : He.DefD := ⟨("members_fault", none), "members_fault", "members_fault", defArgs s_members_fault, defBody s_members_fault, defScope s_members_fault, [], []⟩
def d_members_numbers : He.DefD := ⟨("members_numbers", none), "members_numbers", "members_numbers", defArgs s_members_numbers, defBody s_members_numbers, defScope s_members_numbers, [], []⟩
def d_members_root : He.DefD := ⟨("members_root", none), "members_root", "members_root", defArgs s_members_root, defBody s_members_root, defScope s_members_root, [], []⟩
def d_total : He.DefD := ⟨("total", none), "total", "total", defArgs s_total, defBody s_total, defScope s_total, [], []⟩
def d_weight_of : He.DefD := ⟨("weight_of", none), "weight_of", "weight_of", defArgs s_weight_of, defBody s_weight_of, defScope s_weight_of, [], []⟩
def d_more_than : He.DefD := ⟨("more_than", none), "more_than", "more_than", defArgs s_more_than, defBody s_more_than, defScope s_more_than, [], []⟩
def d_signers : He.DefD := ⟨("signers", none), "signers", "signers", defArgs s_signers, defBody s_signers, defScope s_signers, [], []⟩
def d_Header_init : He.DefD := ⟨("Header", some "__init__"), "__init__", "Header.__init__", defArgs s_Header_init, defBody s_Header_init, defScope s_Header_init, [], []⟩
def d_Header_fields : He.DefD := ⟨("Header", some "fields"), "fields", "Header.fields", defArgs s_Header_fields, defBody s_Header_fields, defScope s_Header_fields, [], []⟩
def d_Header_eq : He.DefD := ⟨("Header", some "__eq__"), "__eq__", "Header.__eq__", defArgs s_Header_eq, defBody s_Header_eq, defScope s_Header_eq, [], []⟩
def d_Block_init : He.DefD := ⟨("Block", some "__init__"), "__init__", "Block.__init__", defArgs s_Block_init, defBody s_Block_init, defScope s_Block_init, [], []⟩
def d_Block_eq : He.DefD := ⟨("Block", some "__eq__"), "__eq__", "Block.__eq__", defArgs s_Block_eq, defBody s_Block_eq, defScope s_Block_eq, [], []⟩
def d_header_digest : He.DefD := ⟨("header_digest", none), "header_digest", "header_digest", defArgs s_header_digest, defBody s_header_digest, defScope s_header_digest, [], []⟩
def d_vote_message : He.DefD := ⟨("vote_message", none), "vote_message", "vote_message", defArgs s_vote_message, defBody s_vote_message, defScope s_vote_message, [], []⟩
def d_block_signers : He.DefD := ⟨("block_signers", none), "block_signers", "block_signers", defArgs s_block_signers, defBody s_block_signers, defScope s_block_signers, [], []⟩
def d_lists_fault : He.DefD := ⟨("lists_fault", none), "lists_fault", "lists_fault", defArgs s_lists_fault, defBody s_lists_fault, defScope s_lists_fault, [], []⟩
def d_block_fault : He.DefD := ⟨("block_fault", none), "block_fault", "block_fault", defArgs s_block_fault, defBody s_block_fault, defScope s_block_fault, [], []⟩
def d_Policy_init : He.DefD := ⟨("Policy", some "__init__"), "__init__", "Policy.__init__", defArgs s_Policy_init, defBody s_Policy_init, defScope s_Policy_init, [], []⟩
def d_Policy_eq : He.DefD := ⟨("Policy", some "__eq__"), "__eq__", "Policy.__eq__", defArgs s_Policy_eq, defBody s_Policy_eq, defScope s_Policy_eq, [], []⟩
def d_is_expired : He.DefD := ⟨("is_expired", none), "is_expired", "is_expired", defArgs s_is_expired, defBody s_is_expired, defScope s_is_expired, [], []⟩
def d_order_fault : He.DefD := ⟨("order_fault", none), "order_fault", "order_fault", defArgs s_order_fault, defBody s_order_fault, defScope s_order_fault, [], []⟩
def d_link_fault : He.DefD := ⟨("link_fault", none), "link_fault", "link_fault", defArgs s_link_fault, defBody s_link_fault, defScope s_link_fault, [], []⟩
def d_step_fault : He.DefD := ⟨("step_fault", none), "step_fault", "step_fault", defArgs s_step_fault, defBody s_step_fault, defScope s_step_fault, [], []⟩
def d_Client_init : He.DefD := ⟨("Client", some "__init__"), "__init__", "Client.__init__", defArgs s_Client_init, defBody s_Client_init, defScope s_Client_init, [], []⟩
def d_Client_heights : He.DefD := ⟨("Client", some "heights"), "heights", "Client.heights", defArgs s_Client_heights, defBody s_Client_heights, defScope s_Client_heights, [], []⟩
def d_Client_block : He.DefD := ⟨("Client", some "block"), "block", "Client.block", defArgs s_Client_block, defBody s_Client_block, defScope s_Client_block, [], []⟩
def d_Client_base : He.DefD := ⟨("Client", some "base"), "base", "Client.base", defArgs s_Client_base, defBody s_Client_base, defScope s_Client_base, [], []⟩
def d_Client_fault : He.DefD := ⟨("Client", some "fault"), "fault", "Client.fault", defArgs s_Client_fault, defBody s_Client_fault, defScope s_Client_fault, [], []⟩
def d_Client_start_fault : He.DefD := ⟨("Client", some "start_fault"), "start_fault", "Client.start_fault", defArgs s_Client_start_fault, defBody s_Client_start_fault, defScope s_Client_start_fault, [], []⟩
def d_Client_step : He.DefD := ⟨("Client", some "step"), "step", "Client.step", defArgs s_Client_step, defBody s_Client_step, defScope s_Client_step, [], []⟩
def d_Client_reach : He.DefD := ⟨("Client", some "reach"), "reach", "Client.reach", defArgs s_Client_reach, defBody s_Client_reach, defScope s_Client_reach, [], []⟩
def d_Client_follow : He.DefD := ⟨("Client", some "follow"), "follow", "Client.follow", defArgs s_Client_follow, defBody s_Client_follow, defScope s_Client_follow, [], []⟩
def d_second_client : He.DefD := ⟨("second_client", none), "second_client", "second_client", defArgs s_second_client, defBody s_second_client, defScope s_second_client, [], []⟩
def d_ask_witness : He.DefD := ⟨("ask_witness", none), "ask_witness", "ask_witness", defArgs s_ask_witness, defBody s_ask_witness, defScope s_ask_witness, [], []⟩
def d_members_collision : He.DefD := ⟨("members_collision", none), "members_collision", "members_collision", defArgs s_members_collision, defBody s_members_collision, defScope s_members_collision, [], []⟩
def d_is_own : He.DefD := ⟨("is_own", none), "is_own", "is_own", defArgs s_is_own, defBody s_is_own, defScope s_is_own, [], []⟩
def d_lists_collision : He.DefD := ⟨("lists_collision", none), "lists_collision", "lists_collision", defArgs s_lists_collision, defBody s_lists_collision, defScope s_lists_collision, [], []⟩
def d_vote_collision : He.DefD := ⟨("vote_collision", none), "vote_collision", "vote_collision", defArgs s_vote_collision, defBody s_vote_collision, defScope s_vote_collision, [], []⟩
def d_culprits : He.DefD := ⟨("culprits", none), "culprits", "culprits", defArgs s_culprits, defBody s_culprits, defScope s_culprits, [], []⟩
def d_judge_step : He.DefD := ⟨("judge_step", none), "judge_step", "judge_step", defArgs s_judge_step, defBody s_judge_step, defScope s_judge_step, [], []⟩
def d_judge_steps : He.DefD := ⟨("judge_steps", none), "judge_steps", "judge_steps", defArgs s_judge_steps, defBody s_judge_steps, defScope s_judge_steps, [], []⟩
def d_verdict_holds : He.DefD := ⟨("verdict_holds", none), "verdict_holds", "verdict_holds", defArgs s_verdict_holds, defBody s_verdict_holds, defScope s_verdict_holds, [], []⟩
def d_bit_of : He.DefD := ⟨("bit_of", none), "bit_of", "bit_of", defArgs s_bit_of, defBody s_bit_of, defScope s_bit_of, [], []⟩
def d_parted : He.DefD := ⟨("parted", none), "parted", "parted", defArgs s_parted, defBody s_parted, defScope s_parted, [], []⟩
def d_node_input : He.DefD := ⟨("node_input", none), "node_input", "node_input", defArgs s_node_input, defBody s_node_input, defScope s_node_input, [], []⟩
def d_node_digest : He.DefD := ⟨("node_digest", none), "node_digest", "node_digest", defArgs s_node_digest, defBody s_node_digest, defScope s_node_digest, [], []⟩
def d_map_root : He.DefD := ⟨("map_root", none), "map_root", "map_root", defArgs s_map_root, defBody s_map_root, defScope s_map_root, [], []⟩
def d_Node_init : He.DefD := ⟨("Node", some "__init__"), "__init__", "Node.__init__", defArgs s_Node_init, defBody s_Node_init, defScope s_Node_init, [], []⟩
def d_Node_add : He.DefD := ⟨("Node", some "add"), "add", "Node.add", defArgs s_Node_add, defBody s_Node_add, defScope s_Node_add, [], []⟩
def d_Node_height : He.DefD := ⟨("Node", some "height"), "height", "Node.height", defArgs s_Node_height, defBody s_Node_height, defScope s_Node_height, [], []⟩
def d_Node_block : He.DefD := ⟨("Node", some "block"), "block", "Node.block", defArgs s_Node_block, defBody s_Node_block, defScope s_Node_block, [], []⟩
def d_Node_pairs_at : He.DefD := ⟨("Node", some "pairs_at"), "pairs_at", "Node.pairs_at", defArgs s_Node_pairs_at, defBody s_Node_pairs_at, defScope s_Node_pairs_at, [], []⟩
def d_Node_grow : He.DefD := ⟨("Node", some "grow"), "grow", "Node.grow", defArgs s_Node_grow, defBody s_Node_grow, defScope s_Node_grow, [], []⟩
def d_Node_answers : He.DefD := ⟨("Node", some "answers"), "answers", "Node.answers", defArgs s_Node_answers, defBody s_Node_answers, defScope s_Node_answers, [], []⟩
def d_law_number : He.DefD := ⟨("_law_number", none), "_law_number", "_law_number", defArgs s_law_number, defBody s_law_number, defScope s_law_number, [], []⟩
def d_law_cells : He.DefD := ⟨("_law_cells", none), "_law_cells", "_law_cells", defArgs s_law_cells, defBody s_law_cells, defScope s_law_cells, [], []⟩
def d_law_signers : He.DefD := ⟨("_law_signers", none), "_law_signers", "_law_signers", defArgs s_law_signers, defBody s_law_signers, defScope s_law_signers, [], []⟩
def d_law_members : He.DefD := ⟨("_law_members", none), "_law_members", "_law_members", defArgs s_law_members, defBody s_law_members, defScope s_law_members, [], []⟩
def d_law_node : He.DefD := ⟨("_law_node", none), "_law_node", "_law_node", defArgs s_law_node, defBody s_law_node, defScope s_law_node, [], []⟩
def d_law_votes : He.DefD := ⟨("_law_votes", none), "_law_votes", "_law_votes", defArgs s_law_votes, defBody s_law_votes, defScope s_law_votes, [], []⟩
def d_law_forged : He.DefD := ⟨("_law_forged", none), "_law_forged", "_law_forged", defArgs s_law_forged, defBody s_law_forged, defScope s_law_forged, [], []⟩
def d_law_corrupt : He.DefD := ⟨("_law_corrupt", none), "_law_corrupt", "_law_corrupt", defArgs s_law_corrupt, defBody s_law_corrupt, defScope s_law_corrupt, [], []⟩
def d_law_row : He.DefD := ⟨("_law_row", none), "_law_row", "_law_row", defArgs s_law_row, defBody s_law_row, defScope s_law_row, [], []⟩
def d_law_server : He.DefD := ⟨("_law_server", none), "_law_server", "_law_server", defArgs s_law_server, defBody s_law_server, defScope s_law_server, [], []⟩
def d_law_seen : He.DefD := ⟨("_law_seen", none), "_law_seen", "_law_seen", defArgs s_law_seen, defBody s_law_seen, defScope s_law_seen, [], []⟩
def d_law_lying : He.DefD := ⟨("_law_lying", none), "_law_lying", "_law_lying", defArgs s_law_lying, defBody s_law_lying, defScope s_law_lying, [], []⟩
def d_law_stays : He.DefD := ⟨("_law_stays", none), "_law_stays", "_law_stays", defArgs s_law_stays, defBody s_law_stays, defScope s_law_stays, [], []⟩
def d_law : He.DefD := ⟨("law", none), "law", "law", defArgs s_law, defBody s_law, defScope s_law, [], []⟩
def fn : List He.DefD := [d_limbs_of, d_Hasher_init, d_Hasher_digest, d_Hasher_is_digest, d_collision, d_is_input, d_is_collision, d_digit_counts, d_digits_of, d_stepped, d_key_digest, d_Signer_init, d_Signer_chains, d_Signer_key_words, d_Signer_word, d_Signer_tops, d_Signer_path, d_Signer_sign, d_levels_of, d_inputs_of, d_verify, d_members_fault, d_members_numbers, d_members_root, d_total, d_weight_of, d_more_than, d_signers, d_Header_init, d_Header_fields, d_Header_eq, d_Block_init, d_Block_eq, d_header_digest, d_vote_message, d_block_signers, d_lists_fault, d_block_fault, d_Policy_init, d_Policy_eq, d_is_expired, d_order_fault, d_link_fault, d_step_fault, d_Client_init, d_Client_heights, d_Client_block, d_Client_base, d_Client_fault, d_Client_start_fault, d_Client_step, d_Client_reach, d_Client_follow, d_second_client, d_ask_witness, d_members_collision, d_is_own, d_lists_collision, d_vote_collision, d_culprits, d_judge_step, d_judge_steps, d_verdict_holds, d_bit_of, d_parted, d_node_input, d_node_digest, d_map_root, d_Node_init, d_Node_add, d_Node_height, d_Node_block, d_Node_pairs_at, d_Node_grow, d_Node_answers, d_law_number, d_law_cells, d_law_signers, d_law_members, d_law_node, d_law_votes, d_law_forged, d_law_corrupt, d_law_row, d_law_server, d_law_seen, d_law_lying, d_law_stays, d_law]
def fa : List He.Fa := [.glo "limbs_of", .glo "collision", .glo "is_input", .glo "is_collision", .glo "digit_counts", .glo "digits_of", .glo "stepped", .glo "key_digest", .glo "levels_of", .glo "inputs_of", .glo "verify", .glo "members_fault", .glo "members_numbers", .glo "members_root", .glo "total", .glo "weight_of", .glo "more_than", .glo "signers", .glo "header_digest", .glo "vote_message", .glo "block_signers", .glo "lists_fault", .glo "block_fault", .glo "is_expired", .glo "order_fault", .glo "link_fault", .glo "step_fault", .glo "second_client", .glo "ask_witness", .glo "members_collision", .glo "is_own", .glo "lists_collision", .glo "vote_collision", .glo "culprits", .glo "judge_step", .glo "judge_steps", .glo "verdict_holds", .glo "bit_of", .glo "parted", .glo "node_input", .glo "node_digest", .glo "map_root", .glo "_law_number", .glo "_law_cells", .glo "_law_signers", .glo "_law_members", .glo "_law_node", .glo "_law_votes", .glo "_law_forged", .glo "_law_corrupt", .glo "_law_row", .glo "_law_server", .glo "_law_seen", .glo "_law_lying", .glo "_law_stays", .glo "law", .glo "OffingError", .glo "BadBlock", .glo "Hasher", .glo "Signer", .glo "Header", .glo "Block", .glo "Policy", .glo "Client", .glo "Node", .free "len", .free "range", .free "sum", .free "min", .free "max", .free "any", .free "all", .free "sorted", .free "tuple", .free "list", .free "dict", .free "isinstance", .free "int", .free "str", .free "super", .int "MASK" 18446744073709551615, .int "FIRST" 7263541890216354987, .int "SECOND" 12985647301928374651, .int "ONE" 15241578750190521011, .int "OTHER" 9764318250173649287, .int "LIMB" 4294967295, .int "WHOLE" 128, .int "CHAIN" 4, .int "KEY" 5, .int "TREE" 6, .int "SECRET" 7, .int "BASE" 16, .int "MOST_LEVELS" 6, .int "MEMBERS_TAG" 9, .int "MOST_MEMBERS" 64, .int "MOST_WEIGHT" 1000000, .int "HEADER_TAG" 8, .int "VOTE_TAG" 10, .int "LEAF" 2, .int "INNER" 3, .int "KEY_BITS" 32, .str "AGAIN" "overlap", .cls "Hasher", .noat "Hasher" "width", .mkr "Hasher", .meth "Hasher" "digest", .meth "Hasher" "is_digest", .cls "Signer", .noat "Signer" "hasher", .noat "Signer" "secret", .noat "Signer" "levels", .noat "Signer" "words", .noat "Signer" "rows", .noat "Signer" "public", .mkr "Signer", .meth "Signer" "chains", .meth "Signer" "key_words", .meth "Signer" "word", .meth "Signer" "tops", .meth "Signer" "path", .meth "Signer" "sign", .cls "Header", .noat "Header" "chain", .noat "Header" "height", .noat "Header" "time", .noat "Header" "previous", .noat "Header" "state", .noat "Header" "members", .noat "Header" "following", .mkr "Header", .meth "Header" "fields", .meth "Header" "__eq__", .cls "Block", .noat "Block" "header", .noat "Block" "members", .noat "Block" "following", .noat "Block" "votes", .mkr "Block", .meth "Block" "__eq__", .cls "Policy", .noat "Policy" "period", .noat "Policy" "drift", .mkr "Policy", .meth "Policy" "__eq__", .cls "Client", .noat "Client" "hasher", .noat "Client" "policy", .noat "Client" "trusted", .noat "Client" "steps", .noat "Client" "halted", .mkr "Client", .meth "Client" "heights", .meth "Client" "block", .meth "Client" "base", .meth "Client" "fault", .meth "Client" "start_fault", .meth "Client" "step", .meth "Client" "reach", .meth "Client" "follow", .cls "Node", .noat "Node" "hasher", .noat "Node" "chain", .noat "Node" "blocks", .noat "Node" "states", .mkr "Node", .meth "Node" "add", .meth "Node" "height", .meth "Node" "block", .meth "Node" "pairs_at", .meth "Node" "grow", .meth "Node" "answers"]
/-- besides: what isinstance asks of two classes, and that the classes stand apart -/
def insB (K : PySem.W.Frag) (x : Str) : Bool := He.eqO (PySem.W.findIn K (.ref (He.ga K x)) "__class__") (some (some (.builtin "object.__class__"))) && (He.eqO (PySem.W.specialIn K (.builtin "object.__class__") "__get__") (some (some (.builtin "getset_descriptor.__get__"))) &&
  (decide (PySem.W.takesIn K (.builtin "object.__class__") = some true) && (decide (PySem.W.mroIn K (He.ga K x) (.type "object") = some true) && decide (PySem.W.kitOne K (.ref (He.ga K x)) (.ref (He.ga K x)) = some true))))
def clsL : List Str := ["Hasher", "Header", "Block", "Policy", "Signer", "Client", "Node"]
def apart : List Addr → Bool
  | [] => true
  | a :: r => r.all (fun b => !decide (a = b)) && apart r
def exB (K : PySem.W.Frag) : Bool := insB K "Header" && (insB K "Block" && apart (clsL.map (He.ga K)))
structure Txt (K : PySem.W.Frag) (mg : Str → Option Value) : Prop where
  says : He.SaysD fa fn K
  ex : exB K = true
  at_ : ∃ h : Heap, K.In h ∧ h.Ns mainGlobals mg
section
variable {K : PySem.W.Frag} {mg : Str → Option Value}
theorem Txt.glo (T : Txt K mg) (i : Nat) {x : Str} (h : fa[i]? = some (.glo x)) : mg x = some (.ref (He.ga K x)) := by
  obtain ⟨_, X, G⟩ := T.at_
  exact He.glo_ok X G (T.says.fact i h)
theorem Txt.gc (T : Txt K mg) (i : Nat) {x : Str} (h : fa[i]? = some (.glo x)) : ∃ u, mg x = some u ∧ RelV (.ref (He.ga K x)) u := ⟨_, T.glo i h, rfl⟩
theorem Txt.free (T : Txt K mg) (i : Nat) {x : Str} (h : fa[i]? = some (.free x)) : mg x = none := by
  obtain ⟨_, X, G⟩ := T.at_
  exact He.free_ok X G (T.says.fact i h)
theorem Txt.int (T : Txt K mg) (i : Nat) {x : Str} {n : Int} (h : fa[i]? = some (.int x n)) : ∃ u, mg x = some u ∧ RelV (.int n) u := by
  obtain ⟨_, X, G⟩ := T.at_
  obtain ⟨t, e⟩ := He.int_ok X G (T.says.fact i h)
  exact ⟨_, e, t, rfl⟩
theorem Txt.str (T : Txt K mg) (i : Nat) {x z : Str} (h : fa[i]? = some (.str x z)) : ∃ u, mg x = some u ∧ RelV (.str z) u := by
  obtain ⟨_, X, G⟩ := T.at_
  obtain ⟨t, e⟩ := He.str_ok X G (T.says.fact i h)
  exact ⟨_, e, t, rfl⟩
theorem Txt.cls (T : Txt K mg) (i : Nat) {x : Str} (h : fa[i]? = some (.cls x)) : Cls K (He.ga K x) := He.cls_ok (T.says.fact i h)
theorem Txt.noat (T : Txt K mg) (i : Nat) {x f : Str} (h : fa[i]? = some (.noat x f)) : NoAttr K (He.ga K x) f := He.noat_ok (T.says.fact i h)
theorem Txt.mkr (T : Txt K mg) (i : Nat) {x : Str} (h : fa[i]? = some (.mkr x)) : Mk K (He.ga K x) (He.fAd K (x, some "__init__")) := He.mkr_ok (T.says.fact i h)
theorem Txt.meth (T : Txt K mg) (i : Nat) {x m : Str} (h : fa[i]? = some (.meth x m)) : Meth K (He.ga K x) m (He.fAd K (x, some m)) := He.meth_ok (T.says.fact i h)
theorem Txt.def_ (T : Txt K mg) (i : Nat) {d : He.DefD} (h : fn[i]? = some d) : ∃ fd, FunD K d.name d.qual d.params d.body d.scope (d.dvs K) (d.kws K) (He.fAd K d.at_) fd := T.says.def_ i h
theorem ins_ok {x : Str} (c : Cls K (He.ga K x)) (h : insB K x = true) : C8.InsC K (He.ga K x) := by
  obtain ⟨h1, h⟩ := He.ba h
  obtain ⟨h2, h⟩ := He.ba h
  obtain ⟨h3, h⟩ := He.ba h
  obtain ⟨h4, h5⟩ := He.ba h
  exact ⟨c, He.eqO_ok h1, He.eqO_ok h2, of_decide_eq_true h3, of_decide_eq_true h4, of_decide_eq_true h5⟩
theorem apart_ok : ∀ {l : List Addr} {i j : Nat} {a b : Addr}, apart l = true → i < j → l[i]? = some a → l[j]? = some b → a ≠ b
  | [], i, j, a, b, _, _, h, _ => by simp at h
  | c :: r, 0, j + 1, a, b, h, _, h1, h2 => by
    obtain ⟨h3, _⟩ := He.ba h
    have e : c = a := by simpa using h1
    subst e
    have q := List.all_eq_true.mp h3 b (List.mem_of_getElem? (by simpa using h2))
    exact of_decide_eq_false (by simpa using q)
  | c :: r, i + 1, j + 1, a, b, h, hl, h1, h2 => apart_ok (i := i) (j := j) (He.ba h).2 (by omega) (by simpa using h1) (by simpa using h2)
/-- the classes of two names stand apart -/
theorem Txt.ne (T : Txt K mg) (i j : Nat) {x y : Str} (hl : i < j) (h1 : clsL[i]? = some x) (h2 : clsL[j]? = some y) : He.ga K x ≠ He.ga K y := by
  obtain ⟨_, h⟩ := He.ba T.ex
  obtain ⟨_, h⟩ := He.ba h
  exact apart_ok h hl (by rw [List.getElem?_map, h1]; rfl) (by rw [List.getElem?_map, h2]; rfl)
theorem Txt.g_limbs_of (T : Txt K mg) : mg "limbs_of" = some (.ref (He.ga K "limbs_of")) := T.glo 0 rfl
theorem Txt.g_collision (T : Txt K mg) : mg "collision" = some (.ref (He.ga K "collision")) := T.glo 1 rfl
theorem Txt.g_is_input (T : Txt K mg) : mg "is_input" = some (.ref (He.ga K "is_input")) := T.glo 2 rfl
theorem Txt.g_is_collision (T : Txt K mg) : mg "is_collision" = some (.ref (He.ga K "is_collision")) := T.glo 3 rfl
theorem Txt.g_digit_counts (T : Txt K mg) : mg "digit_counts" = some (.ref (He.ga K "digit_counts")) := T.glo 4 rfl
theorem Txt.g_digits_of (T : Txt K mg) : mg "digits_of" = some (.ref (He.ga K "digits_of")) := T.glo 5 rfl
theorem Txt.g_stepped (T : Txt K mg) : mg "stepped" = some (.ref (He.ga K "stepped")) := T.glo 6 rfl
theorem Txt.g_key_digest (T : Txt K mg) : mg "key_digest" = some (.ref (He.ga K "key_digest")) := T.glo 7 rfl
theorem Txt.g_levels_of (T : Txt K mg) : mg "levels_of" = some (.ref (He.ga K "levels_of")) := T.glo 8 rfl
theorem Txt.g_inputs_of (T : Txt K mg) : mg "inputs_of" = some (.ref (He.ga K "inputs_of")) := T.glo 9 rfl
theorem Txt.g_verify (T : Txt K mg) : mg "verify" = some (.ref (He.ga K "verify")) := T.glo 10 rfl
theorem Txt.g_members_fault (T : Txt K mg) : mg "members_fault" = some (.ref (He.ga K "members_fault")) := T.glo 11 rfl
theorem Txt.g_members_numbers (T : Txt K mg) : mg "members_numbers" = some (.ref (He.ga K "members_numbers")) := T.glo 12 rfl
theorem Txt.g_members_root (T : Txt K mg) : mg "members_root" = some (.ref (He.ga K "members_root")) := T.glo 13 rfl
theorem Txt.g_total (T : Txt K mg) : mg "total" = some (.ref (He.ga K "total")) := T.glo 14 rfl
theorem Txt.g_weight_of (T : Txt K mg) : mg "weight_of" = some (.ref (He.ga K "weight_of")) := T.glo 15 rfl
theorem Txt.g_more_than (T : Txt K mg) : mg "more_than" = some (.ref (He.ga K "more_than")) := T.glo 16 rfl
theorem Txt.g_signers (T : Txt K mg) : mg "signers" = some (.ref (He.ga K "signers")) := T.glo 17 rfl
theorem Txt.g_header_digest (T : Txt K mg) : mg "header_digest" = some (.ref (He.ga K "header_digest")) := T.glo 18 rfl
theorem Txt.g_vote_message (T : Txt K mg) : mg "vote_message" = some (.ref (He.ga K "vote_message")) := T.glo 19 rfl
theorem Txt.g_block_signers (T : Txt K mg) : mg "block_signers" = some (.ref (He.ga K "block_signers")) := T.glo 20 rfl
theorem Txt.g_lists_fault (T : Txt K mg) : mg "lists_fault" = some (.ref (He.ga K "lists_fault")) := T.glo 21 rfl
theorem Txt.g_block_fault (T : Txt K mg) : mg "block_fault" = some (.ref (He.ga K "block_fault")) := T.glo 22 rfl
theorem Txt.g_is_expired (T : Txt K mg) : mg "is_expired" = some (.ref (He.ga K "is_expired")) := T.glo 23 rfl
theorem Txt.g_order_fault (T : Txt K mg) : mg "order_fault" = some (.ref (He.ga K "order_fault")) := T.glo 24 rfl
theorem Txt.g_link_fault (T : Txt K mg) : mg "link_fault" = some (.ref (He.ga K "link_fault")) := T.glo 25 rfl
theorem Txt.g_step_fault (T : Txt K mg) : mg "step_fault" = some (.ref (He.ga K "step_fault")) := T.glo 26 rfl
theorem Txt.g_second_client (T : Txt K mg) : mg "second_client" = some (.ref (He.ga K "second_client")) := T.glo 27 rfl
theorem Txt.g_ask_witness (T : Txt K mg) : mg "ask_witness" = some (.ref (He.ga K "ask_witness")) := T.glo 28 rfl
theorem Txt.g_members_collision (T : Txt K mg) : mg "members_collision" = some (.ref (He.ga K "members_collision")) := T.glo 29 rfl
theorem Txt.g_is_own (T : Txt K mg) : mg "is_own" = some (.ref (He.ga K "is_own")) := T.glo 30 rfl
theorem Txt.g_lists_collision (T : Txt K mg) : mg "lists_collision" = some (.ref (He.ga K "lists_collision")) := T.glo 31 rfl
theorem Txt.g_vote_collision (T : Txt K mg) : mg "vote_collision" = some (.ref (He.ga K "vote_collision")) := T.glo 32 rfl
theorem Txt.g_culprits (T : Txt K mg) : mg "culprits" = some (.ref (He.ga K "culprits")) := T.glo 33 rfl
theorem Txt.g_judge_step (T : Txt K mg) : mg "judge_step" = some (.ref (He.ga K "judge_step")) := T.glo 34 rfl
theorem Txt.g_judge_steps (T : Txt K mg) : mg "judge_steps" = some (.ref (He.ga K "judge_steps")) := T.glo 35 rfl
theorem Txt.g_verdict_holds (T : Txt K mg) : mg "verdict_holds" = some (.ref (He.ga K "verdict_holds")) := T.glo 36 rfl
theorem Txt.g_bit_of (T : Txt K mg) : mg "bit_of" = some (.ref (He.ga K "bit_of")) := T.glo 37 rfl
theorem Txt.g_parted (T : Txt K mg) : mg "parted" = some (.ref (He.ga K "parted")) := T.glo 38 rfl
theorem Txt.g_node_input (T : Txt K mg) : mg "node_input" = some (.ref (He.ga K "node_input")) := T.glo 39 rfl
theorem Txt.g_node_digest (T : Txt K mg) : mg "node_digest" = some (.ref (He.ga K "node_digest")) := T.glo 40 rfl
theorem Txt.g_map_root (T : Txt K mg) : mg "map_root" = some (.ref (He.ga K "map_root")) := T.glo 41 rfl
theorem Txt.g_law_number (T : Txt K mg) : mg "_law_number" = some (.ref (He.ga K "_law_number")) := T.glo 42 rfl
theorem Txt.g_law_cells (T : Txt K mg) : mg "_law_cells" = some (.ref (He.ga K "_law_cells")) := T.glo 43 rfl
theorem Txt.g_law_signers (T : Txt K mg) : mg "_law_signers" = some (.ref (He.ga K "_law_signers")) := T.glo 44 rfl
theorem Txt.g_law_members (T : Txt K mg) : mg "_law_members" = some (.ref (He.ga K "_law_members")) := T.glo 45 rfl
theorem Txt.g_law_node (T : Txt K mg) : mg "_law_node" = some (.ref (He.ga K "_law_node")) := T.glo 46 rfl
theorem Txt.g_law_votes (T : Txt K mg) : mg "_law_votes" = some (.ref (He.ga K "_law_votes")) := T.glo 47 rfl
theorem Txt.g_law_forged (T : Txt K mg) : mg "_law_forged" = some (.ref (He.ga K "_law_forged")) := T.glo 48 rfl
theorem Txt.g_law_corrupt (T : Txt K mg) : mg "_law_corrupt" = some (.ref (He.ga K "_law_corrupt")) := T.glo 49 rfl
theorem Txt.g_law_row (T : Txt K mg) : mg "_law_row" = some (.ref (He.ga K "_law_row")) := T.glo 50 rfl
theorem Txt.g_law_server (T : Txt K mg) : mg "_law_server" = some (.ref (He.ga K "_law_server")) := T.glo 51 rfl
theorem Txt.g_law_seen (T : Txt K mg) : mg "_law_seen" = some (.ref (He.ga K "_law_seen")) := T.glo 52 rfl
theorem Txt.g_law_lying (T : Txt K mg) : mg "_law_lying" = some (.ref (He.ga K "_law_lying")) := T.glo 53 rfl
theorem Txt.g_law_stays (T : Txt K mg) : mg "_law_stays" = some (.ref (He.ga K "_law_stays")) := T.glo 54 rfl
theorem Txt.g_law (T : Txt K mg) : mg "law" = some (.ref (He.ga K "law")) := T.glo 55 rfl
theorem Txt.g_OffingError (T : Txt K mg) : mg "OffingError" = some (.ref (He.ga K "OffingError")) := T.glo 56 rfl
theorem Txt.gc_OffingError (T : Txt K mg) : ∃ u, mg "OffingError" = some u ∧ RelV (.ref (He.ga K "OffingError")) u := T.gc 56 rfl
theorem Txt.g_BadBlock (T : Txt K mg) : mg "BadBlock" = some (.ref (He.ga K "BadBlock")) := T.glo 57 rfl
theorem Txt.gc_BadBlock (T : Txt K mg) : ∃ u, mg "BadBlock" = some u ∧ RelV (.ref (He.ga K "BadBlock")) u := T.gc 57 rfl
theorem Txt.g_Hasher (T : Txt K mg) : mg "Hasher" = some (.ref (He.ga K "Hasher")) := T.glo 58 rfl
theorem Txt.gc_Hasher (T : Txt K mg) : ∃ u, mg "Hasher" = some u ∧ RelV (.ref (He.ga K "Hasher")) u := T.gc 58 rfl
theorem Txt.g_Signer (T : Txt K mg) : mg "Signer" = some (.ref (He.ga K "Signer")) := T.glo 59 rfl
theorem Txt.gc_Signer (T : Txt K mg) : ∃ u, mg "Signer" = some u ∧ RelV (.ref (He.ga K "Signer")) u := T.gc 59 rfl
theorem Txt.g_Header (T : Txt K mg) : mg "Header" = some (.ref (He.ga K "Header")) := T.glo 60 rfl
theorem Txt.gc_Header (T : Txt K mg) : ∃ u, mg "Header" = some u ∧ RelV (.ref (He.ga K "Header")) u := T.gc 60 rfl
theorem Txt.g_Block (T : Txt K mg) : mg "Block" = some (.ref (He.ga K "Block")) := T.glo 61 rfl
theorem Txt.gc_Block (T : Txt K mg) : ∃ u, mg "Block" = some u ∧ RelV (.ref (He.ga K "Block")) u := T.gc 61 rfl
theorem Txt.g_Policy (T : Txt K mg) : mg "Policy" = some (.ref (He.ga K "Policy")) := T.glo 62 rfl
theorem Txt.gc_Policy (T : Txt K mg) : ∃ u, mg "Policy" = some u ∧ RelV (.ref (He.ga K "Policy")) u := T.gc 62 rfl
theorem Txt.g_Client (T : Txt K mg) : mg "Client" = some (.ref (He.ga K "Client")) := T.glo 63 rfl
theorem Txt.gc_Client (T : Txt K mg) : ∃ u, mg "Client" = some u ∧ RelV (.ref (He.ga K "Client")) u := T.gc 63 rfl
theorem Txt.g_Node (T : Txt K mg) : mg "Node" = some (.ref (He.ga K "Node")) := T.glo 64 rfl
theorem Txt.gc_Node (T : Txt K mg) : ∃ u, mg "Node" = some u ∧ RelV (.ref (He.ga K "Node")) u := T.gc 64 rfl
theorem Txt.b_len (T : Txt K mg) : mg "len" = none := T.free 65 rfl
theorem Txt.b_range (T : Txt K mg) : mg "range" = none := T.free 66 rfl
theorem Txt.b_sum (T : Txt K mg) : mg "sum" = none := T.free 67 rfl
theorem Txt.b_min (T : Txt K mg) : mg "min" = none := T.free 68 rfl
theorem Txt.b_max (T : Txt K mg) : mg "max" = none := T.free 69 rfl
theorem Txt.b_any (T : Txt K mg) : mg "any" = none := T.free 70 rfl
theorem Txt.b_all (T : Txt K mg) : mg "all" = none := T.free 71 rfl
theorem Txt.b_sorted (T : Txt K mg) : mg "sorted" = none := T.free 72 rfl
theorem Txt.b_tuple (T : Txt K mg) : mg "tuple" = none := T.free 73 rfl
theorem Txt.b_list (T : Txt K mg) : mg "list" = none := T.free 74 rfl
theorem Txt.b_dict (T : Txt K mg) : mg "dict" = none := T.free 75 rfl
theorem Txt.b_isinstance (T : Txt K mg) : mg "isinstance" = none := T.free 76 rfl
theorem Txt.b_int (T : Txt K mg) : mg "int" = none := T.free 77 rfl
theorem Txt.b_str (T : Txt K mg) : mg "str" = none := T.free 78 rfl
theorem Txt.b_super (T : Txt K mg) : mg "super" = none := T.free 79 rfl
theorem Txt.c_MASK (T : Txt K mg) : ∃ u, mg "MASK" = some u ∧ RelV (.int 18446744073709551615) u := T.int 80 rfl
theorem Txt.c_FIRST (T : Txt K mg) : ∃ u, mg "FIRST" = some u ∧ RelV (.int 7263541890216354987) u := T.int 81 rfl
theorem Txt.c_SECOND (T : Txt K mg) : ∃ u, mg "SECOND" = some u ∧ RelV (.int 12985647301928374651) u := T.int 82 rfl
theorem Txt.c_ONE (T : Txt K mg) : ∃ u, mg "ONE" = some u ∧ RelV (.int 15241578750190521011) u := T.int 83 rfl
theorem Txt.c_OTHER (T : Txt K mg) : ∃ u, mg "OTHER" = some u ∧ RelV (.int 9764318250173649287) u := T.int 84 rfl
theorem Txt.c_LIMB (T : Txt K mg) : ∃ u, mg "LIMB" = some u ∧ RelV (.int 4294967295) u := T.int 85 rfl
theorem Txt.c_WHOLE (T : Txt K mg) : ∃ u, mg "WHOLE" = some u ∧ RelV (.int 128) u := T.int 86 rfl
theorem Txt.c_CHAIN (T : Txt K mg) : ∃ u, mg "CHAIN" = some u ∧ RelV (.int 4) u := T.int 87 rfl
theorem Txt.c_KEY (T : Txt K mg) : ∃ u, mg "KEY" = some u ∧ RelV (.int 5) u := T.int 88 rfl
theorem Txt.c_TREE (T : Txt K mg) : ∃ u, mg "TREE" = some u ∧ RelV (.int 6) u := T.int 89 rfl
theorem Txt.c_SECRET (T : Txt K mg) : ∃ u, mg "SECRET" = some u ∧ RelV (.int 7) u := T.int 90 rfl
theorem Txt.c_BASE (T : Txt K mg) : ∃ u, mg "BASE" = some u ∧ RelV (.int 16) u := T.int 91 rfl
theorem Txt.c_MOST_LEVELS (T : Txt K mg) : ∃ u, mg "MOST_LEVELS" = some u ∧ RelV (.int 6) u := T.int 92 rfl
theorem Txt.c_MEMBERS_TAG (T : Txt K mg) : ∃ u, mg "MEMBERS_TAG" = some u ∧ RelV (.int 9) u := T.int 93 rfl
theorem Txt.c_MOST_MEMBERS (T : Txt K mg) : ∃ u, mg "MOST_MEMBERS" = some u ∧ RelV (.int 64) u := T.int 94 rfl
theorem Txt.c_MOST_WEIGHT (T : Txt K mg) : ∃ u, mg "MOST_WEIGHT" = some u ∧ RelV (.int 1000000) u := T.int 95 rfl
theorem Txt.c_HEADER_TAG (T : Txt K mg) : ∃ u, mg "HEADER_TAG" = some u ∧ RelV (.int 8) u := T.int 96 rfl
theorem Txt.c_VOTE_TAG (T : Txt K mg) : ∃ u, mg "VOTE_TAG" = some u ∧ RelV (.int 10) u := T.int 97 rfl
theorem Txt.c_LEAF (T : Txt K mg) : ∃ u, mg "LEAF" = some u ∧ RelV (.int 2) u := T.int 98 rfl
theorem Txt.c_INNER (T : Txt K mg) : ∃ u, mg "INNER" = some u ∧ RelV (.int 3) u := T.int 99 rfl
theorem Txt.c_KEY_BITS (T : Txt K mg) : ∃ u, mg "KEY_BITS" = some u ∧ RelV (.int 32) u := T.int 100 rfl
theorem Txt.c_AGAIN (T : Txt K mg) : ∃ u, mg "AGAIN" = some u ∧ RelV (.str "overlap") u := T.str 101 rfl
theorem Txt.cl_Hasher (T : Txt K mg) : Cls K (He.ga K "Hasher") := T.cls 102 rfl
theorem Txt.na_Hasher_width (T : Txt K mg) : NoAttr K (He.ga K "Hasher") "width" := T.noat 103 rfl
theorem Txt.mk_Hasher (T : Txt K mg) : Mk K (He.ga K "Hasher") (He.fAd K ("Hasher", some "__init__")) := T.mkr 104 rfl
theorem Txt.me_Hasher_digest (T : Txt K mg) : Meth K (He.ga K "Hasher") "digest" (He.fAd K ("Hasher", some "digest")) := T.meth 105 rfl
theorem Txt.me_Hasher_is_digest (T : Txt K mg) : Meth K (He.ga K "Hasher") "is_digest" (He.fAd K ("Hasher", some "is_digest")) := T.meth 106 rfl
theorem Txt.cl_Signer (T : Txt K mg) : Cls K (He.ga K "Signer") := T.cls 107 rfl
theorem Txt.na_Signer_hasher (T : Txt K mg) : NoAttr K (He.ga K "Signer") "hasher" := T.noat 108 rfl
theorem Txt.na_Signer_secret (T : Txt K mg) : NoAttr K (He.ga K "Signer") "secret" := T.noat 109 rfl
theorem Txt.na_Signer_levels (T : Txt K mg) : NoAttr K (He.ga K "Signer") "levels" := T.noat 110 rfl
theorem Txt.na_Signer_words (T : Txt K mg) : NoAttr K (He.ga K "Signer") "words" := T.noat 111 rfl
theorem Txt.na_Signer_rows (T : Txt K mg) : NoAttr K (He.ga K "Signer") "rows" := T.noat 112 rfl
theorem Txt.na_Signer_public (T : Txt K mg) : NoAttr K (He.ga K "Signer") "public" := T.noat 113 rfl
theorem Txt.mk_Signer (T : Txt K mg) : Mk K (He.ga K "Signer") (He.fAd K ("Signer", some "__init__")) := T.mkr 114 rfl
theorem Txt.me_Signer_chains (T : Txt K mg) : Meth K (He.ga K "Signer") "chains" (He.fAd K ("Signer", some "chains")) := T.meth 115 rfl
theorem Txt.me_Signer_key_words (T : Txt K mg) : Meth K (He.ga K "Signer") "key_words" (He.fAd K ("Signer", some "key_words")) := T.meth 116 rfl
theorem Txt.me_Signer_word (T : Txt K mg) : Meth K (He.ga K "Signer") "word" (He.fAd K ("Signer", some "word")) := T.meth 117 rfl
theorem Txt.me_Signer_tops (T : Txt K mg) : Meth K (He.ga K "Signer") "tops" (He.fAd K ("Signer", some "tops")) := T.meth 118 rfl
theorem Txt.me_Signer_path (T : Txt K mg) : Meth K (He.ga K "Signer") "path" (He.fAd K ("Signer", some "path")) := T.meth 119 rfl
theorem Txt.me_Signer_sign (T : Txt K mg) : Meth K (He.ga K "Signer") "sign" (He.fAd K ("Signer", some "sign")) := T.meth 120 rfl
theorem Txt.cl_Header (T : Txt K mg) : Cls K (He.ga K "Header") := T.cls 121 rfl
theorem Txt.na_Header_chain (T : Txt K mg) : NoAttr K (He.ga K "Header") "chain" := T.noat 122 rfl
theorem Txt.na_Header_height (T : Txt K mg) : NoAttr K (He.ga K "Header") "height" := T.noat 123 rfl
theorem Txt.na_Header_time (T : Txt K mg) : NoAttr K (He.ga K "Header") "time" := T.noat 124 rfl
theorem Txt.na_Header_previous (T : Txt K mg) : NoAttr K (He.ga K "Header") "previous" := T.noat 125 rfl
theorem Txt.na_Header_state (T : Txt K mg) : NoAttr K (He.ga K "Header") "state" := T.noat 126 rfl
theorem Txt.na_Header_members (T : Txt K mg) : NoAttr K (He.ga K "Header") "members" := T.noat 127 rfl
theorem Txt.na_Header_following (T : Txt K mg) : NoAttr K (He.ga K "Header") "following" := T.noat 128 rfl
theorem Txt.mk_Header (T : Txt K mg) : Mk K (He.ga K "Header") (He.fAd K ("Header", some "__init__")) := T.mkr 129 rfl
theorem Txt.me_Header_fields (T : Txt K mg) : Meth K (He.ga K "Header") "fields" (He.fAd K ("Header", some "fields")) := T.meth 130 rfl
theorem Txt.me_Header_eq (T : Txt K mg) : Meth K (He.ga K "Header") "__eq__" (He.fAd K ("Header", some "__eq__")) := T.meth 131 rfl
theorem Txt.cl_Block (T : Txt K mg) : Cls K (He.ga K "Block") := T.cls 132 rfl
theorem Txt.na_Block_header (T : Txt K mg) : NoAttr K (He.ga K "Block") "header" := T.noat 133 rfl
theorem Txt.na_Block_members (T : Txt K mg) : NoAttr K (He.ga K "Block") "members" := T.noat 134 rfl
theorem Txt.na_Block_following (T : Txt K mg) : NoAttr K (He.ga K "Block") "following" := T.noat 135 rfl
theorem Txt.na_Block_votes (T : Txt K mg) : NoAttr K (He.ga K "Block") "votes" := T.noat 136 rfl
theorem Txt.mk_Block (T : Txt K mg) : Mk K (He.ga K "Block") (He.fAd K ("Block", some "__init__")) := T.mkr 137 rfl
theorem Txt.me_Block_eq (T : Txt K mg) : Meth K (He.ga K "Block") "__eq__" (He.fAd K ("Block", some "__eq__")) := T.meth 138 rfl
theorem Txt.cl_Policy (T : Txt K mg) : Cls K (He.ga K "Policy") := T.cls 139 rfl
theorem Txt.na_Policy_period (T : Txt K mg) : NoAttr K (He.ga K "Policy") "period" := T.noat 140 rfl
theorem Txt.na_Policy_drift (T : Txt K mg) : NoAttr K (He.ga K "Policy") "drift" := T.noat 141 rfl
theorem Txt.mk_Policy (T : Txt K mg) : Mk K (He.ga K "Policy") (He.fAd K ("Policy", some "__init__")) := T.mkr 142 rfl
theorem Txt.me_Policy_eq (T : Txt K mg) : Meth K (He.ga K "Policy") "__eq__" (He.fAd K ("Policy", some "__eq__")) := T.meth 143 rfl
theorem Txt.cl_Client (T : Txt K mg) : Cls K (He.ga K "Client") := T.cls 144 rfl
theorem Txt.na_Client_hasher (T : Txt K mg) : NoAttr K (He.ga K "Client") "hasher" := T.noat 145 rfl
theorem Txt.na_Client_policy (T : Txt K mg) : NoAttr K (He.ga K "Client") "policy" := T.noat 146 rfl
theorem Txt.na_Client_trusted (T : Txt K mg) : NoAttr K (He.ga K "Client") "trusted" := T.noat 147 rfl
theorem Txt.na_Client_steps (T : Txt K mg) : NoAttr K (He.ga K "Client") "steps" := T.noat 148 rfl
theorem Txt.na_Client_halted (T : Txt K mg) : NoAttr K (He.ga K "Client") "halted" := T.noat 149 rfl
theorem Txt.mk_Client (T : Txt K mg) : Mk K (He.ga K "Client") (He.fAd K ("Client", some "__init__")) := T.mkr 150 rfl
theorem Txt.me_Client_heights (T : Txt K mg) : Meth K (He.ga K "Client") "heights" (He.fAd K ("Client", some "heights")) := T.meth 151 rfl
theorem Txt.me_Client_block (T : Txt K mg) : Meth K (He.ga K "Client") "block" (He.fAd K ("Client", some "block")) := T.meth 152 rfl
theorem Txt.me_Client_base (T : Txt K mg) : Meth K (He.ga K "Client") "base" (He.fAd K ("Client", some "base")) := T.meth 153 rfl
theorem Txt.me_Client_fault (T : Txt K mg) : Meth K (He.ga K "Client") "fault" (He.fAd K ("Client", some "fault")) := T.meth 154 rfl
theorem Txt.me_Client_start_fault (T : Txt K mg) : Meth K (He.ga K "Client") "start_fault" (He.fAd K ("Client", some "start_fault")) := T.meth 155 rfl
theorem Txt.me_Client_step (T : Txt K mg) : Meth K (He.ga K "Client") "step" (He.fAd K ("Client", some "step")) := T.meth 156 rfl
theorem Txt.me_Client_reach (T : Txt K mg) : Meth K (He.ga K "Client") "reach" (He.fAd K ("Client", some "reach")) := T.meth 157 rfl
theorem Txt.me_Client_follow (T : Txt K mg) : Meth K (He.ga K "Client") "follow" (He.fAd K ("Client", some "follow")) := T.meth 158 rfl
theorem Txt.cl_Node (T : Txt K mg) : Cls K (He.ga K "Node") := T.cls 159 rfl
theorem Txt.na_Node_hasher (T : Txt K mg) : NoAttr K (He.ga K "Node") "hasher" := T.noat 160 rfl
theorem Txt.na_Node_chain (T : Txt K mg) : NoAttr K (He.ga K "Node") "chain" := T.noat 161 rfl
theorem Txt.na_Node_blocks (T : Txt K mg) : NoAttr K (He.ga K "Node") "blocks" := T.noat 162 rfl
theorem Txt.na_Node_states (T : Txt K mg) : NoAttr K (He.ga K "Node") "states" := T.noat 163 rfl
theorem Txt.mk_Node (T : Txt K mg) : Mk K (He.ga K "Node") (He.fAd K ("Node", some "__init__")) := T.mkr 164 rfl
theorem Txt.me_Node_add (T : Txt K mg) : Meth K (He.ga K "Node") "add" (He.fAd K ("Node", some "add")) := T.meth 165 rfl
theorem Txt.me_Node_height (T : Txt K mg) : Meth K (He.ga K "Node") "height" (He.fAd K ("Node", some "height")) := T.meth 166 rfl
theorem Txt.me_Node_block (T : Txt K mg) : Meth K (He.ga K "Node") "block" (He.fAd K ("Node", some "block")) := T.meth 167 rfl
theorem Txt.me_Node_pairs_at (T : Txt K mg) : Meth K (He.ga K "Node") "pairs_at" (He.fAd K ("Node", some "pairs_at")) := T.meth 168 rfl
theorem Txt.me_Node_grow (T : Txt K mg) : Meth K (He.ga K "Node") "grow" (He.fAd K ("Node", some "grow")) := T.meth 169 rfl
theorem Txt.me_Node_answers (T : Txt K mg) : Meth K (He.ga K "Node") "answers" (He.fAd K ("Node", some "answers")) := T.meth 170 rfl
theorem Txt.f_limbs_of (T : Txt K mg) : ∃ fd, FunD K "limbs_of" "limbs_of" (defArgs s_limbs_of) (defBody s_limbs_of) (defScope s_limbs_of) [] [] (He.ga K "limbs_of") fd := T.def_ 0 (d := d_limbs_of) rfl
theorem Txt.f_Hasher_init (T : Txt K mg) : ∃ fd, FunD K "__init__" "Hasher.__init__" (defArgs s_Hasher_init) (defBody s_Hasher_init) (defScope s_Hasher_init) [] [] (He.fAd K ("Hasher", some "__init__")) fd := T.def_ 1 (d := d_Hasher_init) rfl
theorem Txt.f_Hasher_digest (T : Txt K mg) : ∃ fd, FunD K "digest" "Hasher.digest" (defArgs s_Hasher_digest) (defBody s_Hasher_digest) (defScope s_Hasher_digest) [] [] (He.fAd K ("Hasher", some "digest")) fd := T.def_ 2 (d := d_Hasher_digest) rfl
theorem Txt.f_Hasher_is_digest (T : Txt K mg) : ∃ fd, FunD K "is_digest" "Hasher.is_digest" (defArgs s_Hasher_is_digest) (defBody s_Hasher_is_digest) (defScope s_Hasher_is_digest) [] [] (He.fAd K ("Hasher", some "is_digest")) fd := T.def_ 3 (d := d_Hasher_is_digest) rfl
theorem Txt.f_collision (T : Txt K mg) : ∃ fd, FunD K "collision" "collision" (defArgs s_collision) (defBody s_collision) (defScope s_collision) [] [] (He.ga K "collision") fd := T.def_ 4 (d := d_collision) rfl
theorem Txt.f_is_input (T : Txt K mg) : ∃ fd, FunD K "is_input" "is_input" (defArgs s_is_input) (defBody s_is_input) (defScope s_is_input) [] [] (He.ga K "is_input") fd := T.def_ 5 (d := d_is_input) rfl
theorem Txt.f_is_collision (T : Txt K mg) : ∃ fd, FunD K "is_collision" "is_collision" (defArgs s_is_collision) (defBody s_is_collision) (defScope s_is_collision) [] [] (He.ga K "is_collision") fd := T.def_ 6 (d := d_is_collision) rfl
theorem Txt.f_digit_counts (T : Txt K mg) : ∃ fd, FunD K "digit_counts" "digit_counts" (defArgs s_digit_counts) (defBody s_digit_counts) (defScope s_digit_counts) [] [] (He.ga K "digit_counts") fd := T.def_ 7 (d := d_digit_counts) rfl
theorem Txt.f_digits_of (T : Txt K mg) : ∃ fd, FunD K "digits_of" "digits_of" (defArgs s_digits_of) (defBody s_digits_of) (defScope s_digits_of) [] [] (He.ga K "digits_of") fd := T.def_ 8 (d := d_digits_of) rfl
theorem Txt.f_stepped (T : Txt K mg) : ∃ fd, FunD K "stepped" "stepped" (defArgs s_stepped) (defBody s_stepped) (defScope s_stepped) [] [] (He.ga K "stepped") fd := T.def_ 9 (d := d_stepped) rfl
theorem Txt.f_key_digest (T : Txt K mg) : ∃ fd, FunD K "key_digest" "key_digest" (defArgs s_key_digest) (defBody s_key_digest) (defScope s_key_digest) [] [] (He.ga K "key_digest") fd := T.def_ 10 (d := d_key_digest) rfl
theorem Txt.f_Signer_init (T : Txt K mg) : ∃ fd, FunD K "__init__" "Signer.__init__" (defArgs s_Signer_init) (defBody s_Signer_init) (defScope s_Signer_init) [] [] (He.fAd K ("Signer", some "__init__")) fd := T.def_ 11 (d := d_Signer_init) rfl
theorem Txt.f_Signer_chains (T : Txt K mg) : ∃ fd, FunD K "chains" "Signer.chains" (defArgs s_Signer_chains) (defBody s_Signer_chains) (defScope s_Signer_chains) [] [] (He.fAd K ("Signer", some "chains")) fd := T.def_ 12 (d := d_Signer_chains) rfl
theorem Txt.f_Signer_key_words (T : Txt K mg) : ∃ fd, FunD K "key_words" "Signer.key_words" (defArgs s_Signer_key_words) (defBody s_Signer_key_words) (defScope s_Signer_key_words) [] [] (He.fAd K ("Signer", some "key_words")) fd := T.def_ 13 (d := d_Signer_key_words) rfl
theorem Txt.f_Signer_word (T : Txt K mg) : ∃ fd, FunD K "word" "Signer.word" (defArgs s_Signer_word) (defBody s_Signer_word) (defScope s_Signer_word) [] [] (He.fAd K ("Signer", some "word")) fd := T.def_ 14 (d := d_Signer_word) rfl
theorem Txt.f_Signer_tops (T : Txt K mg) : ∃ fd, FunD K "tops" "Signer.tops" (defArgs s_Signer_tops) (defBody s_Signer_tops) (defScope s_Signer_tops) [] [] (He.fAd K ("Signer", some "tops")) fd := T.def_ 15 (d := d_Signer_tops) rfl
theorem Txt.f_Signer_path (T : Txt K mg) : ∃ fd, FunD K "path" "Signer.path" (defArgs s_Signer_path) (defBody s_Signer_path) (defScope s_Signer_path) [] [] (He.fAd K ("Signer", some "path")) fd := T.def_ 16 (d := d_Signer_path) rfl
theorem Txt.f_Signer_sign (T : Txt K mg) : ∃ fd, FunD K "sign" "Signer.sign" (defArgs s_Signer_sign) (defBody s_Signer_sign) (defScope s_Signer_sign) [] [] (He.fAd K ("Signer", some "sign")) fd := T.def_ 17 (d := d_Signer_sign) rfl
theorem Txt.f_levels_of (T : Txt K mg) : ∃ fd, FunD K "levels_of" "levels_of" (defArgs s_levels_of) (defBody s_levels_of) (defScope s_levels_of) [] [] (He.ga K "levels_of") fd := T.def_ 18 (d := d_levels_of) rfl
theorem Txt.f_inputs_of (T : Txt K mg) : ∃ fd, FunD K "inputs_of" "inputs_of" (defArgs s_inputs_of) (defBody s_inputs_of) (defScope s_inputs_of) [] [] (He.ga K "inputs_of") fd := T.def_ 19 (d := d_inputs_of) rfl
theorem Txt.f_verify (T : Txt K mg) : ∃ fd, FunD K "verify" "verify" (defArgs s_verify) (defBody s_verify) (defScope s_verify) [] [] (He.ga K "verify") fd := T.def_ 20 (d := d_verify) rfl
theorem Txt.f_members_fault (T : Txt K mg) : ∃ fd, FunD K "members_fault" "members_fault" (defArgs s_members_fault) (defBody s_members_fault) (defScope s_members_fault) [] [] (He.ga K "members_fault") fd := T.def_ 21 (d := d_members_fault) rfl
theorem Txt.f_members_numbers (T : Txt K mg) : ∃ fd, FunD K "members_numbers" "members_numbers" (defArgs s_members_numbers) (defBody s_members_numbers) (defScope s_members_numbers) [] [] (He.ga K "members_numbers") fd := T.def_ 22 (d := d_members_numbers) rfl
theorem Txt.f_members_root (T : Txt K mg) : ∃ fd, FunD K "members_root" "members_root" (defArgs s_members_root) (defBody s_members_root) (defScope s_members_root) [] [] (He.ga K "members_root") fd := T.def_ 23 (d := d_members_root) rfl
theorem Txt.f_total (T : Txt K mg) : ∃ fd, FunD K "total" "total" (defArgs s_total) (defBody s_total) (defScope s_total) [] [] (He.ga K "total") fd := T.def_ 24 (d := d_total) rfl
theorem Txt.f_weight_of (T : Txt K mg) : ∃ fd, FunD K "weight_of" "weight_of" (defArgs s_weight_of) (defBody s_weight_of) (defScope s_weight_of) [] [] (He.ga K "weight_of") fd := T.def_ 25 (d := d_weight_of) rfl
theorem Txt.f_more_than (T : Txt K mg) : ∃ fd, FunD K "more_than" "more_than" (defArgs s_more_than) (defBody s_more_than) (defScope s_more_than) [] [] (He.ga K "more_than") fd := T.def_ 26 (d := d_more_than) rfl
theorem Txt.f_signers (T : Txt K mg) : ∃ fd, FunD K "signers" "signers" (defArgs s_signers) (defBody s_signers) (defScope s_signers) [] [] (He.ga K "signers") fd := T.def_ 27 (d := d_signers) rfl
theorem Txt.f_Header_init (T : Txt K mg) : ∃ fd, FunD K "__init__" "Header.__init__" (defArgs s_Header_init) (defBody s_Header_init) (defScope s_Header_init) [] [] (He.fAd K ("Header", some "__init__")) fd := T.def_ 28 (d := d_Header_init) rfl
theorem Txt.f_Header_fields (T : Txt K mg) : ∃ fd, FunD K "fields" "Header.fields" (defArgs s_Header_fields) (defBody s_Header_fields) (defScope s_Header_fields) [] [] (He.fAd K ("Header", some "fields")) fd := T.def_ 29 (d := d_Header_fields) rfl
theorem Txt.f_Header_eq (T : Txt K mg) : ∃ fd, FunD K "__eq__" "Header.__eq__" (defArgs s_Header_eq) (defBody s_Header_eq) (defScope s_Header_eq) [] [] (He.fAd K ("Header", some "__eq__")) fd := T.def_ 30 (d := d_Header_eq) rfl
theorem Txt.f_Block_init (T : Txt K mg) : ∃ fd, FunD K "__init__" "Block.__init__" (defArgs s_Block_init) (defBody s_Block_init) (defScope s_Block_init) [] [] (He.fAd K ("Block", some "__init__")) fd := T.def_ 31 (d := d_Block_init) rfl
theorem Txt.f_Block_eq (T : Txt K mg) : ∃ fd, FunD K "__eq__" "Block.__eq__" (defArgs s_Block_eq) (defBody s_Block_eq) (defScope s_Block_eq) [] [] (He.fAd K ("Block", some "__eq__")) fd := T.def_ 32 (d := d_Block_eq) rfl
theorem Txt.f_header_digest (T : Txt K mg) : ∃ fd, FunD K "header_digest" "header_digest" (defArgs s_header_digest) (defBody s_header_digest) (defScope s_header_digest) [] [] (He.ga K "header_digest") fd := T.def_ 33 (d := d_header_digest) rfl
theorem Txt.f_vote_message (T : Txt K mg) : ∃ fd, FunD K "vote_message" "vote_message" (defArgs s_vote_message) (defBody s_vote_message) (defScope s_vote_message) [] [] (He.ga K "vote_message") fd := T.def_ 34 (d := d_vote_message) rfl
theorem Txt.f_block_signers (T : Txt K mg) : ∃ fd, FunD K "block_signers" "block_signers" (defArgs s_block_signers) (defBody s_block_signers) (defScope s_block_signers) [] [] (He.ga K "block_signers") fd := T.def_ 35 (d := d_block_signers) rfl
theorem Txt.f_lists_fault (T : Txt K mg) : ∃ fd, FunD K "lists_fault" "lists_fault" (defArgs s_lists_fault) (defBody s_lists_fault) (defScope s_lists_fault) [] [] (He.ga K "lists_fault") fd := T.def_ 36 (d := d_lists_fault) rfl
theorem Txt.f_block_fault (T : Txt K mg) : ∃ fd, FunD K "block_fault" "block_fault" (defArgs s_block_fault) (defBody s_block_fault) (defScope s_block_fault) [] [] (He.ga K "block_fault") fd := T.def_ 37 (d := d_block_fault) rfl
theorem Txt.f_Policy_init (T : Txt K mg) : ∃ fd, FunD K "__init__" "Policy.__init__" (defArgs s_Policy_init) (defBody s_Policy_init) (defScope s_Policy_init) [] [] (He.fAd K ("Policy", some "__init__")) fd := T.def_ 38 (d := d_Policy_init) rfl
theorem Txt.f_Policy_eq (T : Txt K mg) : ∃ fd, FunD K "__eq__" "Policy.__eq__" (defArgs s_Policy_eq) (defBody s_Policy_eq) (defScope s_Policy_eq) [] [] (He.fAd K ("Policy", some "__eq__")) fd := T.def_ 39 (d := d_Policy_eq) rfl
theorem Txt.f_is_expired (T : Txt K mg) : ∃ fd, FunD K "is_expired" "is_expired" (defArgs s_is_expired) (defBody s_is_expired) (defScope s_is_expired) [] [] (He.ga K "is_expired") fd := T.def_ 40 (d := d_is_expired) rfl
theorem Txt.f_order_fault (T : Txt K mg) : ∃ fd, FunD K "order_fault" "order_fault" (defArgs s_order_fault) (defBody s_order_fault) (defScope s_order_fault) [] [] (He.ga K "order_fault") fd := T.def_ 41 (d := d_order_fault) rfl
theorem Txt.f_link_fault (T : Txt K mg) : ∃ fd, FunD K "link_fault" "link_fault" (defArgs s_link_fault) (defBody s_link_fault) (defScope s_link_fault) [] [] (He.ga K "link_fault") fd := T.def_ 42 (d := d_link_fault) rfl
theorem Txt.f_step_fault (T : Txt K mg) : ∃ fd, FunD K "step_fault" "step_fault" (defArgs s_step_fault) (defBody s_step_fault) (defScope s_step_fault) [] [] (He.ga K "step_fault") fd := T.def_ 43 (d := d_step_fault) rfl
theorem Txt.f_Client_init (T : Txt K mg) : ∃ fd, FunD K "__init__" "Client.__init__" (defArgs s_Client_init) (defBody s_Client_init) (defScope s_Client_init) [] [] (He.fAd K ("Client", some "__init__")) fd := T.def_ 44 (d := d_Client_init) rfl
theorem Txt.f_Client_heights (T : Txt K mg) : ∃ fd, FunD K "heights" "Client.heights" (defArgs s_Client_heights) (defBody s_Client_heights) (defScope s_Client_heights) [] [] (He.fAd K ("Client", some "heights")) fd := T.def_ 45 (d := d_Client_heights) rfl
theorem Txt.f_Client_block (T : Txt K mg) : ∃ fd, FunD K "block" "Client.block" (defArgs s_Client_block) (defBody s_Client_block) (defScope s_Client_block) [] [] (He.fAd K ("Client", some "block")) fd := T.def_ 46 (d := d_Client_block) rfl
theorem Txt.f_Client_base (T : Txt K mg) : ∃ fd, FunD K "base" "Client.base" (defArgs s_Client_base) (defBody s_Client_base) (defScope s_Client_base) [] [] (He.fAd K ("Client", some "base")) fd := T.def_ 47 (d := d_Client_base) rfl
theorem Txt.f_Client_fault (T : Txt K mg) : ∃ fd, FunD K "fault" "Client.fault" (defArgs s_Client_fault) (defBody s_Client_fault) (defScope s_Client_fault) [] [] (He.fAd K ("Client", some "fault")) fd := T.def_ 48 (d := d_Client_fault) rfl
theorem Txt.f_Client_start_fault (T : Txt K mg) : ∃ fd, FunD K "start_fault" "Client.start_fault" (defArgs s_Client_start_fault) (defBody s_Client_start_fault) (defScope s_Client_start_fault) [] [] (He.fAd K ("Client", some "start_fault")) fd := T.def_ 49 (d := d_Client_start_fault) rfl
theorem Txt.f_Client_step (T : Txt K mg) : ∃ fd, FunD K "step" "Client.step" (defArgs s_Client_step) (defBody s_Client_step) (defScope s_Client_step) [] [] (He.fAd K ("Client", some "step")) fd := T.def_ 50 (d := d_Client_step) rfl
theorem Txt.f_Client_reach (T : Txt K mg) : ∃ fd, FunD K "reach" "Client.reach" (defArgs s_Client_reach) (defBody s_Client_reach) (defScope s_Client_reach) [] [] (He.fAd K ("Client", some "reach")) fd := T.def_ 51 (d := d_Client_reach) rfl
theorem Txt.f_Client_follow (T : Txt K mg) : ∃ fd, FunD K "follow" "Client.follow" (defArgs s_Client_follow) (defBody s_Client_follow) (defScope s_Client_follow) [] [] (He.fAd K ("Client", some "follow")) fd := T.def_ 52 (d := d_Client_follow) rfl
theorem Txt.f_second_client (T : Txt K mg) : ∃ fd, FunD K "second_client" "second_client" (defArgs s_second_client) (defBody s_second_client) (defScope s_second_client) [] [] (He.ga K "second_client") fd := T.def_ 53 (d := d_second_client) rfl
theorem Txt.f_ask_witness (T : Txt K mg) : ∃ fd, FunD K "ask_witness" "ask_witness" (defArgs s_ask_witness) (defBody s_ask_witness) (defScope s_ask_witness) [] [] (He.ga K "ask_witness") fd := T.def_ 54 (d := d_ask_witness) rfl
theorem Txt.f_members_collision (T : Txt K mg) : ∃ fd, FunD K "members_collision" "members_collision" (defArgs s_members_collision) (defBody s_members_collision) (defScope s_members_collision) [] [] (He.ga K "members_collision") fd := T.def_ 55 (d := d_members_collision) rfl
theorem Txt.f_is_own (T : Txt K mg) : ∃ fd, FunD K "is_own" "is_own" (defArgs s_is_own) (defBody s_is_own) (defScope s_is_own) [] [] (He.ga K "is_own") fd := T.def_ 56 (d := d_is_own) rfl
theorem Txt.f_lists_collision (T : Txt K mg) : ∃ fd, FunD K "lists_collision" "lists_collision" (defArgs s_lists_collision) (defBody s_lists_collision) (defScope s_lists_collision) [] [] (He.ga K "lists_collision") fd := T.def_ 57 (d := d_lists_collision) rfl
theorem Txt.f_vote_collision (T : Txt K mg) : ∃ fd, FunD K "vote_collision" "vote_collision" (defArgs s_vote_collision) (defBody s_vote_collision) (defScope s_vote_collision) [] [] (He.ga K "vote_collision") fd := T.def_ 58 (d := d_vote_collision) rfl
theorem Txt.f_culprits (T : Txt K mg) : ∃ fd, FunD K "culprits" "culprits" (defArgs s_culprits) (defBody s_culprits) (defScope s_culprits) [] [] (He.ga K "culprits") fd := T.def_ 59 (d := d_culprits) rfl
theorem Txt.f_judge_step (T : Txt K mg) : ∃ fd, FunD K "judge_step" "judge_step" (defArgs s_judge_step) (defBody s_judge_step) (defScope s_judge_step) [] [] (He.ga K "judge_step") fd := T.def_ 60 (d := d_judge_step) rfl
theorem Txt.f_judge_steps (T : Txt K mg) : ∃ fd, FunD K "judge_steps" "judge_steps" (defArgs s_judge_steps) (defBody s_judge_steps) (defScope s_judge_steps) [] [] (He.ga K "judge_steps") fd := T.def_ 61 (d := d_judge_steps) rfl
theorem Txt.f_verdict_holds (T : Txt K mg) : ∃ fd, FunD K "verdict_holds" "verdict_holds" (defArgs s_verdict_holds) (defBody s_verdict_holds) (defScope s_verdict_holds) [] [] (He.ga K "verdict_holds") fd := T.def_ 62 (d := d_verdict_holds) rfl
theorem Txt.f_bit_of (T : Txt K mg) : ∃ fd, FunD K "bit_of" "bit_of" (defArgs s_bit_of) (defBody s_bit_of) (defScope s_bit_of) [] [] (He.ga K "bit_of") fd := T.def_ 63 (d := d_bit_of) rfl
theorem Txt.f_parted (T : Txt K mg) : ∃ fd, FunD K "parted" "parted" (defArgs s_parted) (defBody s_parted) (defScope s_parted) [] [] (He.ga K "parted") fd := T.def_ 64 (d := d_parted) rfl
theorem Txt.f_node_input (T : Txt K mg) : ∃ fd, FunD K "node_input" "node_input" (defArgs s_node_input) (defBody s_node_input) (defScope s_node_input) [] [] (He.ga K "node_input") fd := T.def_ 65 (d := d_node_input) rfl
theorem Txt.f_node_digest (T : Txt K mg) : ∃ fd, FunD K "node_digest" "node_digest" (defArgs s_node_digest) (defBody s_node_digest) (defScope s_node_digest) [] [] (He.ga K "node_digest") fd := T.def_ 66 (d := d_node_digest) rfl
theorem Txt.f_map_root (T : Txt K mg) : ∃ fd, FunD K "map_root" "map_root" (defArgs s_map_root) (defBody s_map_root) (defScope s_map_root) [] [] (He.ga K "map_root") fd := T.def_ 67 (d := d_map_root) rfl
theorem Txt.f_Node_init (T : Txt K mg) : ∃ fd, FunD K "__init__" "Node.__init__" (defArgs s_Node_init) (defBody s_Node_init) (defScope s_Node_init) [] [] (He.fAd K ("Node", some "__init__")) fd := T.def_ 68 (d := d_Node_init) rfl
theorem Txt.f_Node_add (T : Txt K mg) : ∃ fd, FunD K "add" "Node.add" (defArgs s_Node_add) (defBody s_Node_add) (defScope s_Node_add) [] [] (He.fAd K ("Node", some "add")) fd := T.def_ 69 (d := d_Node_add) rfl
theorem Txt.f_Node_height (T : Txt K mg) : ∃ fd, FunD K "height" "Node.height" (defArgs s_Node_height) (defBody s_Node_height) (defScope s_Node_height) [] [] (He.fAd K ("Node", some "height")) fd := T.def_ 70 (d := d_Node_height) rfl
theorem Txt.f_Node_block (T : Txt K mg) : ∃ fd, FunD K "block" "Node.block" (defArgs s_Node_block) (defBody s_Node_block) (defScope s_Node_block) [] [] (He.fAd K ("Node", some "block")) fd := T.def_ 71 (d := d_Node_block) rfl
theorem Txt.f_Node_pairs_at (T : Txt K mg) : ∃ fd, FunD K "pairs_at" "Node.pairs_at" (defArgs s_Node_pairs_at) (defBody s_Node_pairs_at) (defScope s_Node_pairs_at) [] [] (He.fAd K ("Node", some "pairs_at")) fd := T.def_ 72 (d := d_Node_pairs_at) rfl
theorem Txt.f_Node_grow (T : Txt K mg) : ∃ fd, FunD K "grow" "Node.grow" (defArgs s_Node_grow) (defBody s_Node_grow) (defScope s_Node_grow) [] [] (He.fAd K ("Node", some "grow")) fd := T.def_ 73 (d := d_Node_grow) rfl
theorem Txt.f_Node_answers (T : Txt K mg) : ∃ fd, FunD K "answers" "Node.answers" (defArgs s_Node_answers) (defBody s_Node_answers) (defScope s_Node_answers) [] [] (He.fAd K ("Node", some "answers")) fd := T.def_ 74 (d := d_Node_answers) rfl
theorem Txt.f_law_number (T : Txt K mg) : ∃ fd, FunD K "_law_number" "_law_number" (defArgs s_law_number) (defBody s_law_number) (defScope s_law_number) [] [] (He.ga K "_law_number") fd := T.def_ 75 (d := d_law_number) rfl
theorem Txt.f_law_cells (T : Txt K mg) : ∃ fd, FunD K "_law_cells" "_law_cells" (defArgs s_law_cells) (defBody s_law_cells) (defScope s_law_cells) [] [] (He.ga K "_law_cells") fd := T.def_ 76 (d := d_law_cells) rfl
theorem Txt.f_law_signers (T : Txt K mg) : ∃ fd, FunD K "_law_signers" "_law_signers" (defArgs s_law_signers) (defBody s_law_signers) (defScope s_law_signers) [] [] (He.ga K "_law_signers") fd := T.def_ 77 (d := d_law_signers) rfl
theorem Txt.f_law_members (T : Txt K mg) : ∃ fd, FunD K "_law_members" "_law_members" (defArgs s_law_members) (defBody s_law_members) (defScope s_law_members) [] [] (He.ga K "_law_members") fd := T.def_ 78 (d := d_law_members) rfl
theorem Txt.f_law_node (T : Txt K mg) : ∃ fd, FunD K "_law_node" "_law_node" (defArgs s_law_node) (defBody s_law_node) (defScope s_law_node) [] [] (He.ga K "_law_node") fd := T.def_ 79 (d := d_law_node) rfl
theorem Txt.f_law_votes (T : Txt K mg) : ∃ fd, FunD K "_law_votes" "_law_votes" (defArgs s_law_votes) (defBody s_law_votes) (defScope s_law_votes) [] [] (He.ga K "_law_votes") fd := T.def_ 80 (d := d_law_votes) rfl
theorem Txt.f_law_forged (T : Txt K mg) : ∃ fd, FunD K "_law_forged" "_law_forged" (defArgs s_law_forged) (defBody s_law_forged) (defScope s_law_forged) [] [] (He.ga K "_law_forged") fd := T.def_ 81 (d := d_law_forged) rfl
theorem Txt.f_law_corrupt (T : Txt K mg) : ∃ fd, FunD K "_law_corrupt" "_law_corrupt" (defArgs s_law_corrupt) (defBody s_law_corrupt) (defScope s_law_corrupt) [] [] (He.ga K "_law_corrupt") fd := T.def_ 82 (d := d_law_corrupt) rfl
theorem Txt.f_law_row (T : Txt K mg) : ∃ fd, FunD K "_law_row" "_law_row" (defArgs s_law_row) (defBody s_law_row) (defScope s_law_row) [] [] (He.ga K "_law_row") fd := T.def_ 83 (d := d_law_row) rfl
theorem Txt.f_law_server (T : Txt K mg) : ∃ fd, FunD K "_law_server" "_law_server" (defArgs s_law_server) (defBody s_law_server) (defScope s_law_server) [] [] (He.ga K "_law_server") fd := T.def_ 84 (d := d_law_server) rfl
theorem Txt.f_law_seen (T : Txt K mg) : ∃ fd, FunD K "_law_seen" "_law_seen" (defArgs s_law_seen) (defBody s_law_seen) (defScope s_law_seen) [] [] (He.ga K "_law_seen") fd := T.def_ 85 (d := d_law_seen) rfl
theorem Txt.f_law_lying (T : Txt K mg) : ∃ fd, FunD K "_law_lying" "_law_lying" (defArgs s_law_lying) (defBody s_law_lying) (defScope s_law_lying) [] [] (He.ga K "_law_lying") fd := T.def_ 86 (d := d_law_lying) rfl
theorem Txt.f_law_stays (T : Txt K mg) : ∃ fd, FunD K "_law_stays" "_law_stays" (defArgs s_law_stays) (defBody s_law_stays) (defScope s_law_stays) [] [] (He.ga K "_law_stays") fd := T.def_ 87 (d := d_law_stays) rfl
theorem Txt.f_law (T : Txt K mg) : ∃ fd, FunD K "law" "law" (defArgs s_law) (defBody s_law) (defScope s_law) [] [] (He.ga K "law") fd := T.def_ 88 (d := d_law) rfl
theorem Txt.is_Header (T : Txt K mg) : C8.InsC K (He.ga K "Header") := ins_ok T.cl_Header (He.ba T.ex).1
theorem Txt.is_Block (T : Txt K mg) : C8.InsC K (He.ga K "Block") := ins_ok T.cl_Block (He.ba (He.ba T.ex).2).1
end
/-! ### a def's promise by its body -/
section
variable {P : Program} {w : World} {K : PySem.W.Frag} {mg : Str → Option Value} {base : Heap} {x qual : Str} {st : Stmt} {f : Addr} {fd : FuncData} {N ps : List Str} {k : Nat} {sp : Sp}
abbrev BindOk (x : Str) (st : Stmt) (ps : List Str) : Prop := ∀ (kV doc pm : Value) (an : Option Addr) (cdv ct : Value) (us : List Value), us.length = ps.length → bindArgs (PySem.W.fnOf x x (defArgs st) (defBody st) (defScope st) .none kV doc pm an cdv ct) ⟨us, []⟩ = pure (ps.zip us)
abbrev BindOkM (x qual : Str) (st : Stmt) (ps : List Str) : Prop := ∀ (kV doc pm : Value) (an : Option Addr) (cdv ct : Value) (us : List Value), us.length = ps.length → bindArgs (PySem.W.fnOf x qual (defArgs st) (defBody st) (defScope st) .none kV doc pm an cdv ct) ⟨us, []⟩ = pure (ps.zip us)
abbrev BodyOk (P : Program) (w : World) (K : PySem.W.Frag) (mg : Str → Option Value) (base : Heap) (N : List Str) (k : Nat) (qual : Str) (st : Stmt) (f : Addr) (sp : Sp) : Prop := ∀ (cdv : Value) (A : Around) (outer : List Env) (s : Shared) (H : Hp) (vs : List V) (Q : VK) (E : XK), Room k (A.deeper (envOfC qual (defScope st) s.heap.objs.size f cdv)) → sp vs H Q E →
  ∃ t, PSs (cxOf C8.CX0 P w K mg base N qual (defScope st) f cdv A outer s H E).nox (defBody st) t ∧ t { nx := fun _ H' => Q .non H', rt := Q } (start N vs) H
theorem fnD (F : FunD K x qual (defArgs st) (defBody st) (defScope st) [] [] f fd) (S : FnScope N ps (defScope st)) (len : ∀ vs H Q E, sp vs H Q E → vs.length = ps.length) (hbody : BodyOk P w K mg base N k qual st f sp) : FnOk P w K mg base C8.CX0 (k + 1) f fd ps sp :=
  F.ok S len fun cdv A outer s H vs Q E hr h => by
    obtain ⟨t, h1, h2⟩ := hbody cdv A outer s H vs Q E hr h
    exact ⟨t, h1.nox, h2⟩
theorem calD (F : FunD K x x (defArgs st) (defBody st) (defScope st) [] [] f fd) (hm : mg x = some (.ref f)) (b : BindOk x st ps) (S : FnScope N ps (defScope st)) (len : ∀ vs H Q E, sp vs H Q E → vs.length = ps.length) (hbody : BodyOk P w K mg base N k x st f sp) : C8.Cal P w K mg base (k + 1) x sp [] :=
  ⟨f, fd, ps, [], fnD F S len hbody, hm, F.kp, F.bindsN b, .nil⟩
theorem metD {C : Addr} (c : Cls K C) (me : Meth K C x f) (F : FunD K x qual (defArgs st) (defBody st) (defScope st) [] [] f fd) (b : BindOkM x qual st ps) (S : FnScope N ps (defScope st)) (len : ∀ vs H Q E, sp vs H Q E → vs.length = ps.length) (hbody : BodyOk P w K mg base N k qual st f sp) : C8.Met P w K mg base (k + 1) C x sp [] :=
  ⟨f, fd, ps, [], c, me, fnD F S len hbody, F.bindsN b, .nil⟩
theorem makD {C : Addr} {y : Str} (M : Mk K C f) (hm : mg y = some (.ref C)) (F : FunD K x qual (defArgs st) (defBody st) (defScope st) [] [] f fd) (b : BindOkM x qual st ps) (S : FnScope N ps (defScope st)) (len : ∀ vs H Q E, sp vs H Q E → vs.length = ps.length) (hbody : BodyOk P w K mg base N k qual st f sp) : C8.Mak P w K mg base (k + 1) y C sp [] :=
  ⟨f, fd, ps, [], M, fnD F S len hbody, hm, F.bindsN b, .nil⟩
end
end K38

set_option Elab.async false
set_option linter.all false
set_option maxRecDepth 100000
set_option maxHeartbeats 4000000
namespace K38
open PySem PySem.Spec PyProof.Rows L2

section
variable {X : Cx} {tg : Expr}
/-- a for over a list or a tuple -/
def iSeq (K : PySem.W.Frag) (tl : TE) : TI := fun σ H R => tl σ H fun x H1 => ∃ a, x = .ref a ∧ (((∃ xs, SqL K H1 a xs) ∧ R (Itl K a) H1) ∨ ((∃ xs, SqT K H1 a xs) ∧ R (Itt K a) H1))
theorem pi_seq {l : Expr} {tl : TE} (hl : PE X l tl) : PI X tg l (iSeq X.K tl) := by
  constructor
  intro pins s σ H R I h
  refine thn (hl.run pins s σ H _ I h) fun v s1 hv => ?_
  obtain ⟨x, H1, I1, r1, a, e, q1⟩ := hv
  subst e
  cases r1
  have key : ∀ (b : Addr), b ∈ [s1.heap.objs.size] → FpOk X pins H1 b := fun b hb => by
    have eb : b = s1.heap.objs.size := by simpa using hb
    rw [eb]
    exact I1.fpOk (Nat.le_refl _) (I1.hok.fresh (Nat.le_refl _))
  rcases q1 with ⟨⟨xs, hq⟩, q⟩ | ⟨⟨xs, hq⟩, q⟩
  · obtain ⟨its, rv, p, _⟩ := I1.list hq
    refine wpAny_pyIter_list p.isList ⟨s1.heap.objs.size, [s1.heap.objs.size], _, _, H1, rfl, I1.kept (t' := s1.toks) (fun b o e => Heap.get?_push_of_some _ e), turn_list a _, ⟨_, Heap.get?_push_size _ rfl, rfl, rfl⟩, key, q⟩
  · obtain ⟨its, rv, p, _⟩ := I1.tuple hq
    refine wpAny_pyIter_tuple (show s1.heap.IsTuple a its.toArray from p) ⟨s1.heap.objs.size, [s1.heap.objs.size], _, _, H1, rfl, I1.kept (t' := s1.toks) (fun b o e => Heap.get?_push_of_some _ e), turn_tuple a _, ⟨_, Heap.get?_push_size _ rfl, rfl, rfl⟩, key, q⟩
/-- xs[i] as what an op= reads, 0 ≤ i -/
def rGetL (K : PySem.W.Frag) : V → V → Hp → VK → Prop := fun o i H Q => ∃ (p : Addr) (xs : List V) (n : Nat) (v : V), o = .ref p ∧ i = .int n ∧ SqL K H p xs ∧ xs[n]? = some v ∧ Q v H
theorem pget_list : PGet X (rGetL X.K) := by
  intro pins s σ H o i ov iv Q I r1 r2 h
  obtain ⟨p, xs, n, v, rfl, rfl, hq, hv, q⟩ := h
  cases r1
  obtain ⟨t, rfl⟩ := r2
  obtain ⟨its, r, pl, hz⟩ := I.list hq
  obtain ⟨u, hu, ru⟩ := r.get hv
  have hn : n < its.length := (List.getElem?_eq_some_iff.mp hu).1
  rw [sizeLine_eq, r.length] at hz
  exact getItem_listL pl.isList (by omega) (by omega) (by simpa using hu) ⟨v, H, I, ru, q⟩
/-- sum(t), a tuple of whole numbers -/
def rSumT (K : PySem.W.Frag) : RC := fun vs H Q => ∃ (a : Addr) (ns : List Int), vs = [V.ref a] ∧ SqT K H a (ns.map V.int) ∧ Q (.int ns.sum) H
theorem cr_sumT (hc : X.calm = true) : CallR X (.builtin "sum") (rSumT X.K) := by
  intro pins s σ H vs us Q I r h
  obtain ⟨a, ns, rfl, hs, q⟩ := h
  obtain ⟨its, rv, hl, _⟩ := I.tuple hs
  rw [Vals.ref1 r]
  obtain ⟨xs, e⟩ := rv.ints.allInts.items
  have hn : numsOf (intItems xs).toList = ns := by
    rw [← e]
    exact rv.ints.numsOf
  rw [nums_intItems] at hn
  have hl2 : s.heap.IsTuple a its.toArray := hl
  rw [e] at hl2
  refine PySem.W.ktm_sumG (I.ok.hd hc) hl2 fun h' tk t' hk => ?_
  rw [preSum_eq, List.take_of_length_le (by simp), hn]
  exact ⟨.int _, H, I.kept hk, ⟨_, rfl⟩, q⟩
end
section
variable {K : PySem.W.Frag} {H H' : Hp} {G : Sg} {σ : L2.St} {ta tb te tx tl : TE} {nx : L2.St → Hp → Prop} {rt : V → Hp → Prop} {bk ct : L2.St → Hp → Prop} {tu tw : TS} {g : TG}
theorem gv_sumT {ns : List Int} (ha : Gv K ta σ H (.tup (ns.map D.int))) : Gv K (tCB (rSumT K) (tCons ta tNil)) σ H (.int ns.sum) := gv_cb (ga_cons ha ga_nil) fun H1 e vs rs Q q => by
  obtain ⟨v, rfl, a, xs, rfl, h1, h2⟩ := one_of rs
  exact ⟨a, ns, rfl, SqT.of (by rw [← h2.ints_eq]; exact h1), q _ H1 Ext.rfl' rfl⟩
theorem ixN_nat {n j : Nat} (hj : j < n) : ixN n (j : Int) = some j := by
  unfold ixN
  rw [if_pos (by omega), if_pos (by omega)]
  simp
/-- xs[n] += k, ints -/
theorem s_augL {p : Addr} {xs : List V} {n : Nat} {m k : Int} {f : Int → Int → Int} (E : Sl K H G σ) (hp : H p = some (.lst xs)) (ho : Gv K ta σ H (.adr p)) (hi : Gv K tb σ H (.int n)) (hv : xs[n]? = some (.int m)) (he : Gv K te σ H (.int k))
    (q : ∀ H1, Ext H H1 → Sl K H1 G σ → H1 p = some (.lst xs) → nx σ (upd H1 p (.lst (xs.set n (.int (f m k)))))) : tAugS ta tb te (rGetL K) (ipI f) rSetL ⟨nx, rt, bk, ct⟩ σ H := ho H Ext.rfl' _ fun w H1 e1 rw => hi H1 e1 _ fun v H2 e2 rv => by
  have ew : w = .ref p := rw
  have ev : v = .int n := rv
  subst ew ev
  have hn : n < xs.length := (List.getElem?_eq_some_iff.mp hv).1
  refine ⟨p, xs, n, _, rfl, rfl, SqL.of ((e1.trans e2) _ _ hp), hv, he H2 (e1.trans e2) _ fun z H3 e3 rz => ?_⟩
  have e := (e1.trans e2).trans e3
  exact ⟨m, k, rfl, rz, p, xs, n, n, rfl, rfl, e _ _ hp, ixN_nat hn, q H3 e (E.ext e) (e _ _ hp)⟩
/-- a list or a tuple -/
def D.seq (b : Bool) (ds : List D) : D := if b then .lst ds else .tup ds
def itS (K : PySem.W.Frag) (b : Bool) (a : Addr) : It := if b then Itl K a else Itt K a
/-- what a loop over v must keep, from the word I -/
structure LoopI (K : PySem.W.Frag) (g : TG) (tu : TS) (nx : L2.St → Hp → Prop) (rt : V → Hp → Prop) {α : Type} (l : List α) (emb : α → D) (mk : List D → D) (v : V) (σ : L2.St) (H : Hp) (I : Nat → L2.St → Hp → Prop) : Prop where
  stay : ∀ i σ' H', I i σ' H' → Rp K H' (mk (l.map emb)) v
  start : I 0 σ H
  turn : ∀ i a x σ' H', l[i]? = some a → I i σ' H' → Rp K H' (emb a) x → g x σ' H' fun σ2 H2 => tu ⟨I (i + 1), rt, nx, I (i + 1)⟩ σ2 H2
  done : ∀ σ' H', I l.length σ' H' → nx σ' H'
theorem for_inS {α : Type} {l : List α} {emb : α → D} {b : Bool} {v : V} {I : Nat → L2.St → Hp → Prop} (h : LoopI K g tu nx rt l emb (D.seq b) v σ H I) : ∃ a, v = .ref a ∧ (b = true ∧ ((∃ xs, SqL K H a xs) ∧ ∃ W : Nat → Nat → L2.St → Hp → Prop, (∃ m, W 0 m σ H) ∧ ∀ i m σ H, W i m σ H → ((Itl K a).stop i H ∧ nx σ H) ∨ ((Itl K a).go i H ∧ ∃ N : L2.St → Hp → Prop, (∀ σ' H', N σ' H' → ∃ m', m' < m ∧ W (i + 1) m' σ' H') ∧
      ∀ x H', (Itl K a).yld i H x H' → g x σ H' fun σ2 H2 => tu ⟨N, rt, nx, N⟩ σ2 H2)) ∨ b = false ∧ ((∃ xs, SqT K H a xs) ∧ ∃ W : Nat → Nat → L2.St → Hp → Prop, (∃ m, W 0 m σ H) ∧ ∀ i m σ H, W i m σ H → ((Itt K a).stop i H ∧ nx σ H) ∨ ((Itt K a).go i H ∧ ∃ N : L2.St → Hp → Prop, (∀ σ' H', N σ' H' → ∃ m', m' < m ∧ W (i + 1) m' σ' H') ∧
      ∀ x H', (Itt K a).yld i H x H' → g x σ H' fun σ2 H2 => tu ⟨N, rt, nx, N⟩ σ2 H2))) := by
  have sq : ∀ H2, Rp K H2 (D.seq b (l.map emb)) v → ∃ a xs, v = .ref a ∧ (b = true ∧ SqL K H2 a xs ∨ b = false ∧ SqT K H2 a xs) ∧ Rps K H2 (l.map emb) xs := fun H2 r => by
    cases b with
    | true =>
      obtain ⟨a, xs, e, h1, h2⟩ := r
      exact ⟨a, xs, e, .inl ⟨rfl, SqL.of h1⟩, h2⟩
    | false =>
      obtain ⟨a, xs, e, h1, h2⟩ := r
      exact ⟨a, xs, e, .inr ⟨rfl, SqT.of h1⟩, h2⟩
  obtain ⟨a, xs, rfl, h1, h2⟩ := sq H (h.stay 0 σ H h.start)
  have core : ∃ W : Nat → Nat → L2.St → Hp → Prop, (∃ m, W 0 m σ H) ∧ ∀ i m σ H, W i m σ H → ((itS K b a).stop i H ∧ nx σ H) ∨ ((itS K b a).go i H ∧ ∃ N : L2.St → Hp → Prop, (∀ σ' H', N σ' H' → ∃ m', m' < m ∧ W (i + 1) m' σ' H') ∧
      ∀ x H', (itS K b a).yld i H x H' → g x σ H' fun σ2 H2 => tu ⟨N, rt, nx, N⟩ σ2 H2) := by
    refine ⟨fun i m σ H => m = l.length - i ∧ i ≤ l.length ∧ I i σ H, ⟨l.length, by simp, Nat.zero_le _, h.start⟩, ?_⟩
    rintro i m σ' H' ⟨rfl, hi, p⟩
    obtain ⟨a', ys, ea, h3, h4⟩ := sq H' (h.stay i σ' H' p)
    cases ea
    have ly : ys.length = l.length := by rw [h4.len, List.length_map]
    have fin : ∀ (x : V), ys[i]? = some x → g x σ' H' fun σ2 H2 => tu ⟨I (i + 1), rt, nx, I (i + 1)⟩ σ2 H2 := fun x hx => by
      obtain ⟨d, hd1, hd2⟩ := h4.got hx
      obtain ⟨c, hc1, hc2⟩ := map_got hd1
      subst hc2
      exact h.turn i c x σ' _ hc1 p hd2
    by_cases hlt : i < l.length
    · obtain ⟨y, hy⟩ : ∃ y, ys[i]? = some y := ⟨_, List.getElem?_eq_getElem (by omega)⟩
      refine .inr ⟨?_, I (i + 1), fun σ2 H2 p2 => ⟨l.length - (i + 1), by omega, rfl, hlt, p2⟩, fun x H2 hq => ?_⟩
      · rcases h3 with ⟨rfl, h3⟩ | ⟨rfl, h3⟩
        · exact ⟨ys, y, h3, hy⟩
        · exact ⟨ys, y, h3, hy⟩
      · rcases h3 with ⟨rfl, h3⟩ | ⟨rfl, h3⟩
        · obtain ⟨e, hq⟩ := hq
          subst e
          exact fin x (hq ys h3)
        · obtain ⟨e, hq⟩ := hq
          subst e
          exact fin x (hq ys h3)
    · have e : i = l.length := by omega
      subst e
      refine .inl ⟨?_, h.done σ' H' p⟩
      rcases h3 with ⟨rfl, h3⟩ | ⟨rfl, h3⟩
      · exact ⟨ys, h3, by omega⟩
      · exact ⟨ys, h3, by omega⟩
  refine ⟨a, rfl, ?_⟩
  rcases h1 with ⟨rfl, h1⟩ | ⟨rfl, h1⟩
  · exact .inl ⟨rfl, ⟨xs, h1⟩, core⟩
  · exact .inr ⟨rfl, ⟨xs, h1⟩, core⟩
/-- over the value of a slot, as it stands in the base B0 -/
theorem s_forSV {α : Type} {l : List α} {emb : α → D} {b : Bool} {j : Nat} {B0 : Hp} (E0 : Sl K B0 G σ) (hj : G[j]? = some (some (D.seq b (l.map emb)))) (hw : ∀ v, Rp K B0 (D.seq b (l.map emb)) v → ∃ I, LoopI K g tu nx rt l emb (D.seq b) v σ H I) : tFor (iSeq K (tVar j)) g tu ⟨nx, rt, bk, ct⟩ σ H := by
  obtain ⟨v, h1, h2⟩ := E0.2 j _ hj
  obtain ⟨I, hI⟩ := hw v h2
  obtain ⟨a, e, h3 | h3⟩ := for_inS hI
  · exact ⟨v, h1, a, e, .inl h3.2⟩
  · exact ⟨v, h1, a, e, .inr h3.2⟩
theorem s_forLV {α : Type} {l : List α} {emb : α → D} {j : Nat} {B0 : Hp} (E0 : Sl K B0 G σ) (hj : G[j]? = some (some (.lst (l.map emb)))) (hw : ∀ v, Rp K B0 (.lst (l.map emb)) v → ∃ I, LoopI K g tu nx rt l emb .lst v σ H I) : tFor (iList K (tVar j)) g tu ⟨nx, rt, bk, ct⟩ σ H := by
  obtain ⟨v, h1, h2⟩ := E0.2 j _ hj
  obtain ⟨I, hI⟩ := hw v h2
  obtain ⟨a, e, h3 | h3⟩ := for_inS (b := true) ⟨hI.stay, hI.start, hI.turn, hI.done⟩
  · exact ⟨v, h1, a, e, h3.2⟩
  · exact absurd h3.1 (by decide)
theorem s_forTV {α : Type} {l : List α} {emb : α → D} {j : Nat} {B0 : Hp} (E0 : Sl K B0 G σ) (hj : G[j]? = some (some (.tup (l.map emb)))) (hw : ∀ v, Rp K B0 (.tup (l.map emb)) v → ∃ I, LoopI K g tu nx rt l emb .tup v σ H I) : tFor (iTup K (tVar j)) g tu ⟨nx, rt, bk, ct⟩ σ H := by
  obtain ⟨v, h1, h2⟩ := E0.2 j _ hj
  obtain ⟨I, hI⟩ := hw v h2
  obtain ⟨a, e, h3 | h3⟩ := for_inS (b := false) ⟨hI.stay, hI.start, hI.turn, hI.done⟩
  · exact absurd h3.1 (by decide)
  · exact ⟨v, h1, a, e, h3.2⟩
theorem gv_lenS {ds : List D} {b : Bool} (ha : Gv K ta σ H (D.seq b ds)) : Gv K (tCB (rLenQ K) (tCons ta tNil)) σ H (.int (ds.length : Int)) := by
  cases b with
  | true => exact gv_lenL ha
  | false => exact gv_lenT ha
end
end K38

set_option Elab.async false
set_option linter.all false
set_option maxRecDepth 100000
set_option maxHeartbeats 4000000
namespace K38
open PySem PySem.Spec PyProof.Rows L2

/-! ### what stands for what -/
abbrev nD (n : Nat) : D := .int (n : Int)
structure Hdr where
  ch : Nat
  ht : Nat
  tm : Nat
  pv : Nat
  st : Nat
  mb : Nat
  fo : Nat
  deriving DecidableEq
abbrev Mem := List (Nat × Nat)
abbrev Sig := List Nat
abbrev Votes := List (Nat × Sig)
structure Blk where
  h : Hdr
  mem : Mem
  fol : Mem
  votes : Votes
  deriving DecidableEq
def prD (p : Nat × Nat) : D := .tup [nD p.1, nD p.2]
def memD (m : Mem) : D := .tup (m.map prD)
def sigD (s : Sig) : D := .tup (s.map nD)
def vtD (v : Nat × Sig) : D := .tup [nD v.1, sigD v.2]
def votD (vs : Votes) : D := .tup (vs.map vtD)
def Hdr.list (h : Hdr) : List Nat := [h.ch, h.ht, h.tm, h.pv, h.st, h.mb, h.fo]
abbrev fHdr : List Str := ["chain", "height", "time", "previous", "state", "members", "following"]
abbrev fBlk : List Str := ["header", "members", "following", "votes"]
def hdrD (h : Hdr) : D := .ins "Header" fHdr (h.list.map nD)
def blkD (b : Blk) : D := .ins "Block" fBlk [hdrD b.h, memD b.mem, memD b.fol, votD b.votes]
def hshD (w : Nat) : D := .ins "Hasher" ["width"] [nD w]
def polD (p d : Nat) : D := .ins "Policy" ["period", "drift"] [nD p, nD d]
instance {p} : Pu (prD p) := (inferInstance : Pu (.tup [nD p.1, nD p.2]))
instance {m} : Pu (memD m) := (inferInstance : Pu (.tup (m.map prD)))
instance {s} : Pu (sigD s) := (inferInstance : Pu (.tup (s.map nD)))
instance {v} : Pu (vtD v) := (inferInstance : Pu (.tup [nD v.1, sigD v.2]))
instance {vs} : Pu (votD vs) := (inferInstance : Pu (.tup (vs.map vtD)))
instance {h} : Pu (hdrD h) := (inferInstance : Pu (.ins "Header" fHdr (h.list.map nD)))
instance {b} : Pu (blkD b) := (inferInstance : Pu (.ins "Block" fBlk [hdrD b.h, memD b.mem, memD b.fol, votD b.votes]))
instance {w} : Pu (hshD w) := (inferInstance : Pu (.ins "Hasher" ["width"] [nD w]))
instance {p d} : Pu (polD p d) := (inferInstance : Pu (.ins "Policy" ["period", "drift"] [nD p, nD d]))

/-! ### digests -/
def lims (n : Nat) : List Nat := if h : n = 0 then [] else n % 4294967296 :: lims (n / 4294967296)
termination_by n
decreasing_by omega
theorem lims_zero : lims 0 = [] := by
  unfold lims
  rfl
theorem lims_pos {n : Nat} (h : 0 < n) : lims n = n % 4294967296 :: lims (n / 4294967296) := by
  rw [lims, dif_neg (by omega)]
def limbs1 (n : Nat) : List Nat := (lims n).length :: lims n
def limbs (ns : List Nat) : List Nat := ns.length :: ns.flatMap limbs1
theorem lims_len {n : Nat} (h : n < 18446744073709551616) : (lims n).length ≤ 2 := by
  by_cases h0 : 0 < n
  · rw [lims_pos h0, List.length_cons]
    by_cases h1 : 0 < n / 4294967296
    · rw [lims_pos h1, List.length_cons, show n / 4294967296 / 4294967296 = 0 by omega, lims_zero]
      simp
    · rw [show n / 4294967296 = 0 by omega, lims_zero]
      simp
  · rw [show n = 0 by omega, lims_zero]
    simp
theorem limbs_len {ns : List Nat} (h : ∀ n ∈ ns, n < 18446744073709551616) : (ns.flatMap limbs1).length ≤ 3 * ns.length := by
  induction ns with
  | nil => simp
  | cons n r ih =>
    rw [List.flatMap_cons, List.length_append, List.length_cons]
    have h1 := ih fun m hm => h m (List.mem_cons_of_mem _ hm)
    have h2 := lims_len (h n List.mem_cons_self)
    have h3 : (limbs1 n).length = (lims n).length + 1 := rfl
    omega
/-- numbers that a digest takes -/
structure NsOk (ns : List Nat) : Prop where
  len : ns.length ≤ 1000
  lt : ∀ n ∈ ns, n < 18446744073709551616
def mix (p : Int × Int) (l : Nat) : Int × Int :=
  let f1 := Builtin.bitAnd (Builtin.bitXor p.1 l * 15241578750190521011) 18446744073709551615
  let f2 := Builtin.bitXor f1 (f1 / 2 ^ 31)
  let s1 := Builtin.bitAnd ((p.2 + f2) * 9764318250173649287) 18446744073709551615
  let s2 := Builtin.bitXor s1 (s1 / 2 ^ 29)
  (Builtin.bitAnd (f2 + s2) 18446744073709551615, s2)
def limbAll (w tag : Nat) (ns : List Nat) : List Nat := [tag] ++ limbs ns ++ [w, w]
def mixAll (ls : List Nat) : Int × Int := ls.foldl mix (7263541890216354987, 12985647301928374651)
def dgI (w tag : Nat) (ns : List Nat) : Int := Builtin.bitOr ((mixAll (limbAll w tag ns)).1 * 2 ^ 64) (mixAll (limbAll w tag ns)).2 / 2 ^ (128 - w)
def dg (w tag : Nat) (ns : List Nat) : Nat := (dgI w tag ns).toNat
def In64 (p : Int × Int) : Prop := (0 ≤ p.1 ∧ p.1 < 18446744073709551616) ∧ 0 ≤ p.2 ∧ p.2 < 18446744073709551616
theorem and_mask (x : Int) : 0 ≤ Builtin.bitAnd x 18446744073709551615 ∧ Builtin.bitAnd x 18446744073709551615 < 18446744073709551616 := by
  obtain ⟨h1, h2⟩ := bitAnd_range x (y := 18446744073709551615) (by decide)
  exact ⟨h1, by omega⟩
theorem xor_lt {x y : Int} (hx : 0 ≤ x) (hx2 : x < 18446744073709551616) (hy : 0 ≤ y) (hy2 : y < 18446744073709551616) : 0 ≤ Builtin.bitXor x y ∧ Builtin.bitXor x y < 18446744073709551616 := by
  rw [Bits.bitXor_pp hx hy]
  have h1 : x.toNat < 2 ^ 64 := by omega
  have h2 : y.toNat < 2 ^ 64 := by omega
  have h3 := Nat.xor_lt_two_pow h1 h2
  omega
theorem mix_form (p : Int × Int) (l : Nat) : ∃ x y : Int, mix p l = (Builtin.bitAnd x 18446744073709551615, Builtin.bitXor (Builtin.bitAnd y 18446744073709551615) (Builtin.bitAnd y 18446744073709551615 / 2 ^ 29)) := ⟨_, _, rfl⟩
theorem mix_in (p : Int × Int) (l : Nat) : In64 (mix p l) := by
  obtain ⟨x, y, e⟩ := mix_form p l
  rw [e]
  refine ⟨and_mask x, ?_⟩
  have h := and_mask y
  generalize Builtin.bitAnd y 18446744073709551615 = s at h
  have e : (2 : Int) ^ 29 = 536870912 := by decide
  show 0 ≤ Builtin.bitXor s (s / 2 ^ 29) ∧ Builtin.bitXor s (s / 2 ^ 29) < 18446744073709551616
  rw [e]
  exact xor_lt h.1 h.2 (by omega) (by omega)
theorem mixAll_in (ls : List Nat) : In64 (mixAll ls) := by
  unfold mixAll
  have : ∀ (ls : List Nat) (p : Int × Int), In64 p → In64 (ls.foldl mix p) := by
    intro ls
    induction ls with
    | nil => exact fun p h => h
    | cons l r ih => exact fun p h => ih _ (mix_in p l)
  exact this ls _ ⟨⟨by decide, by decide⟩, by decide, by decide⟩
theorem dgI_eq (w tag : Nat) (ns : List Nat) : dgI w tag ns = ((mixAll (limbAll w tag ns)).2 + (mixAll (limbAll w tag ns)).1 * 2 ^ 64) / 2 ^ (128 - w) := by
  have h := mixAll_in (limbAll w tag ns)
  unfold dgI
  rw [Bits.bitOr_join' h.2.1 (by rw [show (2 : Int) ^ 64 = 18446744073709551616 by decide]; exact h.2.2) h.1.1]
theorem dgI_in {w : Nat} (hw : w ≤ 128) (tag : Nat) (ns : List Nat) : 0 ≤ dgI w tag ns ∧ dgI w tag ns < 2 ^ w := by
  have h := mixAll_in (limbAll w tag ns)
  rw [dgI_eq]
  generalize mixAll (limbAll w tag ns) = p at h
  obtain ⟨⟨h1, h2⟩, h3, h4⟩ := h
  have e : (2 : Int) ^ 64 = 18446744073709551616 := by decide
  rw [e]
  have hp : (0 : Int) < 2 ^ (128 - w) := Int.pow_pos (by decide)
  have hb : p.2 + p.1 * 18446744073709551616 < 2 ^ w * 2 ^ (128 - w) := by
    rw [← Int.pow_add, show w + (128 - w) = 128 by omega, show (2 : Int) ^ 128 = 340282366920938463463374607431768211456 by decide]
    omega
  exact ⟨Int.ediv_nonneg (by omega) (by omega), Int.ediv_lt_of_lt_mul hp hb⟩
theorem dg_cast {w : Nat} (hw : w ≤ 128) (tag : Nat) (ns : List Nat) : ((dg w tag ns : Nat) : Int) = dgI w tag ns := Int.toNat_of_nonneg (dgI_in hw tag ns).1
theorem dg_lt {w : Nat} (hw : w ≤ 128) (tag : Nat) (ns : List Nat) : dg w tag ns < 2 ^ w := by
  have h := (dgI_in hw tag ns).2
  rw [← dg_cast hw] at h
  have e : ((2 ^ w : Nat) : Int) = 2 ^ w := by simp
  rw [← e] at h
  exact Int.ofNat_lt.mp h
/-- the widths of the law -/
def WOk (w : Nat) : Prop := 4 ≤ w ∧ w ≤ 12
theorem WOk.le {w : Nat} (h : WOk w) : w ≤ 128 := by
  unfold WOk at h
  omega
end K38

set_option Elab.async false
set_option linter.all false
set_option maxRecDepth 100000
set_option maxHeartbeats 4000000
namespace K38
open PySem PySem.Spec PyProof.Rows L2

/-! ### a part of the heap out of sight while an expression is walked -/
def hide (L : List Addr) (H : Hp) : Hp := fun a => if a ∈ L then none else H a
def put (L : List Addr) (H H' : Hp) : Hp := fun a => if a ∈ L then H a else H' a
theorem hide_in {L : List Addr} {H : Hp} {a : Addr} (h : a ∈ L) : hide L H a = none := if_pos h
theorem hide_out {L : List Addr} {H : Hp} {a : Addr} (h : a ∉ L) : hide L H a = H a := if_neg h
theorem put_in {L : List Addr} {H H' : Hp} {a : Addr} (h : a ∈ L) : put L H H' a = H a := if_pos h
theorem put_out {L : List Addr} {H H' : Hp} {a : Addr} (h : a ∉ L) : put L H H' a = H' a := if_neg h
/-- what may be out of sight: lists, dicts, instances with their own dicts -/
def HideOk (H : Hp) (L : List Addr) : Prop := ∀ a ∈ L, (∃ xs, H a = some (.lst xs)) ∨ (∃ kvs, H a = some (.dK kvs)) ∨ (∃ C dx fs, H a = some (.ins C dx fs) ∧ dx ∈ L) ∨ ∃ x C fs, H a = some (.own x) ∧ H x = some (.ins C a fs) ∧ x ∈ L
theorem HideOk.some {H : Hp} {L : List Addr} (h : HideOk H L) {a : Addr} (ha : a ∈ L) : ∃ o, H a = some o := by
  rcases h a ha with ⟨_, e⟩ | ⟨_, e⟩ | ⟨_, _, _, e, _⟩ | ⟨_, _, _, e, _⟩ <;> exact ⟨_, e⟩
theorem HideOk.notup {H : Hp} {L : List Addr} (h : HideOk H L) {a : Addr} {xs : List V} (e : H a = Option.some (.tup xs)) : a ∉ L := fun ha => by
  rcases h a ha with ⟨_, q⟩ | ⟨_, q⟩ | ⟨_, _, _, q, _⟩ | ⟨_, _, _, q, _⟩ <;> (rw [q] at e; cases e)
theorem HideOk.nofrz {H : Hp} {L : List Addr} (h : HideOk H L) {a : Addr} {ob : Obj} {u : HO} (e : H a = Option.some (.frz ob u)) : a ∉ L := fun ha => by
  rcases h a ha with ⟨_, q⟩ | ⟨_, q⟩ | ⟨_, _, _, q, _⟩ | ⟨_, _, _, q, _⟩ <;> (rw [q] at e; cases e)
theorem HideOk.notbl {H : Hp} {L : List Addr} (h : HideOk H L) {a : Addr} {ps : Array Value} (e : H a = Option.some (.tbl ps)) : a ∉ L := fun ha => by
  rcases h a ha with ⟨_, q⟩ | ⟨_, q⟩ | ⟨_, _, _, q, _⟩ | ⟨_, _, _, q, _⟩ <;> (rw [q] at e; cases e)
theorem HideOk.nocell {P : Program} {w : World} {H : Hp} {h : Heap} {L : List Addr} (k : HideOk H L) (hok : HOk P w H h) {a : Addr} {ob : Obj} (ha : a ∈ L) (e : h.get? a = Option.some ob) (v : Option Value) : ob.data ≠ .cell v := fun z => by
  rcases k a ha with ⟨_, q⟩ | ⟨_, q⟩ | ⟨_, _, _, q, _⟩ | ⟨y, C, fs, q, q2, _⟩
  · obtain ⟨_, _, _, _, q⟩ := hok _ _ q
    have eo := Option.some.inj (e.symm.trans q)
    rw [eo] at z
    cases z
  · obtain ⟨_, _, _, _, o, es, ep, q, _, q3, _⟩ := hok _ _ q
    have eo := Option.some.inj (e.symm.trans q)
    rw [eo, q3] at z
    cases z
  · obtain ⟨_, _, _, q, _⟩ := hok _ _ q
    have eo := Option.some.inj (e.symm.trans q)
    rw [eo] at z
    cases z
  · obtain ⟨_, _, _, _, mA, ⟨od, es, ep, q, q3, _⟩, _⟩ := hok _ _ q2
    have eo := Option.some.inj (e.symm.trans q)
    rw [eo, q3] at z
    cases z
theorem HideOk.obj {P : Program} {w : World} {H : Hp} {h : Heap} {L : List Addr} (k : HideOk H L) (hok : HOk P w H h) {a : Addr} (ha : a ∈ L) : ∃ o, h.get? a = Option.some o := by
  rcases k a ha with ⟨_, e⟩ | ⟨_, e⟩ | ⟨_, _, _, e, _⟩ | ⟨_, _, _, e, _⟩
  · obtain ⟨_, _, _, _, q⟩ := hok a _ e
    exact ⟨_, q⟩
  · obtain ⟨_, _, _, _, o, _, _, q, _⟩ := hok a _ e
    exact ⟨_, q⟩
  · obtain ⟨_, _, _, q, _⟩ := hok a _ e
    exact ⟨_, q⟩
  · obtain ⟨_, q⟩ := hok a _ e
    exact ⟨_, q⟩
def pinsL (L : List Addr) (h : Heap) : List (Addr × Obj) := L.filterMap fun a => (h.get? a).map fun o => (a, o)
theorem mem_pinsL {L : List Addr} {h : Heap} {a : Addr} {o : Obj} (ha : a ∈ L) (e : h.get? a = some o) : (a, o) ∈ pinsL L h := List.mem_filterMap.mpr ⟨a, ha, by rw [e]; rfl⟩
theorem of_pinsL {L : List Addr} {h : Heap} {p : Addr × Obj} (hp : p ∈ pinsL L h) : p.1 ∈ L ∧ h.get? p.1 = some p.2 := by
  obtain ⟨a, ha, e⟩ := List.mem_filterMap.mp hp
  cases q : h.get? a with
  | none =>
    rw [q] at e
    cases e
  | some o =>
    rw [q] at e
    cases e
    exact ⟨ha, q⟩
section
variable {X : Cx} {pins : List (Addr × Obj)} {σ : L2.St} {H H' : Hp} {s s' : Shared} {L : List Addr}
theorem frees (I : L2.Inv X pins σ H s) {b : Addr} (hb : b ∈ X.fs) : H b = none := by
  obtain ⟨_, o, ho, _⟩ := I.ok.funs.mem hb
  exact I.base.free b o ho (I.ok.frf b hb) fun z => I.ok.exfs b z hb
theorem Inv_hide (I : L2.Inv X pins σ H s) (k : HideOk H L) : L2.Inv X (pins ++ pinsL L s.heap) σ (hide L H) s := by
  have out : ∀ b, H b = none → hide L H b = none := fun b e => by
    unfold hide
    split
    · rfl
    · exact e
  refine ⟨I.ok, I.os, I.bare, ⟨I.base.keep, I.base.slot, fun b o e n hx => out b (I.base.free b o e n hx), I.base.there, fun b xs e => ?_, fun b o u e => ?_, fun b ps e => ?_⟩, I.loc, I.cell, out _ I.free, fun x c e => out _ (I.freeC x c e), fun p hp => ?_, fun a o e => ?_, I.len⟩
  · have q := I.base.tups b xs e
    rw [hide_out (k.notup q)]
    exact q
  · have q := I.base.frzs b o u e
    rw [hide_out (k.nofrz q)]
    exact q
  · obtain ⟨more, q⟩ := I.base.tbls b ps e
    exact ⟨more, by rw [hide_out (k.notbl q)]; exact q⟩
  · rw [← List.append_assoc] at hp
    rcases List.mem_append.mp hp with hp | hp
    · obtain ⟨h1, h2, h3, h4, h5⟩ := I.pin p hp
      exact ⟨h1, out _ h2, h3, h4, h5⟩
    · obtain ⟨h1, h2⟩ := of_pinsL hp
      obtain ⟨o, e⟩ := k.some h1
      refine ⟨h2, hide_in h1, fun z => ?_, fun z => ?_, fun v z => ?_⟩
      · rw [z, I.free] at e
        cases e
      · rw [frees I z] at e
        cases e
      · exact k.nocell I.hok h1 h2 v z
  · by_cases ha : a ∈ L
    · rw [hide_in ha] at e
      cases e
    · rw [hide_out ha] at e
      refine (I.hok a o e).stay (fun b u _ q => q) (fun b q => ?_) fun b xs q => ?_
      · rw [hide_out fun hb => ?_]
        · exact q
        · rcases k b hb with ⟨_, z⟩ | ⟨_, z⟩ | ⟨_, _, _, z, _⟩ | ⟨y, _, _, z, _, hy⟩
          · rw [z] at q
            cases q
          · rw [z] at q
            cases q
          · rw [z] at q
            cases q
          · rw [z] at q
            cases q
            exact ha hy
      · rw [hide_out (k.notup q)]
        exact q
theorem Inv_put (I : L2.Inv X pins σ H s) (k : HideOk H L) (I' : L2.Inv X (pins ++ pinsL L s.heap) σ H' s') : (∀ a ∈ L, H' a = none) ∧ L2.Inv X pins σ (put L H H') s' := by
  have pin : ∀ a ∈ L, ∃ o, s.heap.get? a = some o ∧ s'.heap.get? a = some o ∧ H' a = none := fun a ha => by
    obtain ⟨o, e⟩ := k.obj I.hok ha
    obtain ⟨h1, h2, _⟩ := I'.pin (a, o) (by rw [← List.append_assoc]; exact List.mem_append_right _ (mem_pinsL ha e))
    exact ⟨o, e, h1, h2⟩
  have none' : ∀ a ∈ L, H' a = none := fun a ha => by
    obtain ⟨_, _, _, e⟩ := pin a ha
    exact e
  have nin : ∀ b, H b = none → b ∉ L := fun b e hb => by
    obtain ⟨o, q⟩ := k.some hb
    rw [e] at q
    cases q
  refine ⟨none', ⟨I.ok, I'.os, I'.bare, ⟨I'.base.keep, I'.base.slot, fun b o e n hx => ?_, I'.base.there, fun b xs e => ?_, fun b o u e => ?_, fun b ps e => ?_⟩, I'.loc, I'.cell, ?_, fun x c e => ?_, fun p hp => ?_, fun a o e => ?_, I.len⟩⟩
  · by_cases hb : b ∈ L
    · rw [put_in hb]
      exact I.base.free b o e n hx
    · rw [put_out hb]
      exact I'.base.free b o e n hx
  · by_cases hb : b ∈ L
    · rw [put_in hb]
      exact I.base.tups b xs e
    · rw [put_out hb]
      exact I'.base.tups b xs e
  · by_cases hb : b ∈ L
    · rw [put_in hb]
      exact I.base.frzs b o u e
    · rw [put_out hb]
      exact I'.base.frzs b o u e
  · by_cases hb : b ∈ L
    · rw [put_in hb]
      exact I.base.tbls b ps e
    · rw [put_out hb]
      exact I'.base.tbls b ps e
  · rw [put_out (nin _ I.free)]
    exact I'.free
  · rw [put_out (nin _ (I.freeC x c e))]
    exact I'.freeC x c e
  · have hp' : p ∈ X.pn ++ (pins ++ pinsL L s.heap) := by
      rw [← List.append_assoc]
      exact List.mem_append_left _ hp
    obtain ⟨h1, h2, h3, h4, h5⟩ := I'.pin p hp'
    obtain ⟨_, h6, _⟩ := I.pin p hp
    exact ⟨h1, by rw [put_out (nin _ h6)]; exact h2, h3, h4, h5⟩
  · by_cases ha : a ∈ L
    · rw [put_in ha] at e
      have go : ∀ b ∈ L, ∀ u, s.heap.get? b = some u → s'.heap.get? b = some u := fun b hb u q => by
        obtain ⟨o2, e1, e2, _⟩ := pin b hb
        rw [q] at e1
        cases e1
        exact e2
      rcases k a ha with ⟨xs, q⟩ | ⟨kvs, q⟩ | ⟨C, dx, fs, q, hdx⟩ | ⟨y, C, fs, q, q2, hy⟩
      · rw [q] at e
        cases e
        obtain ⟨z, its, n, r, g⟩ := I.hok a _ q
        exact ⟨z, its, n, r, go a ha _ g⟩
      · rw [q] at e
        cases e
        obtain ⟨z, y, vs, r, ob, es, ep, g, c⟩ := I.hok a _ q
        exact ⟨z, y, vs, r, ob, es, ep, go a ha _ g, c⟩
      · rw [q] at e
        cases e
        obtain ⟨d, z, ne, g, mA, ⟨od, es, ep, g2, c⟩, r⟩ := I.hok a _ q
        exact ⟨by rw [put_in hdx]; exact d, z, ne, go a ha _ g, mA, ⟨od, es, ep, go dx hdx _ g2, c⟩, r⟩
      · rw [q] at e
        cases e
        obtain ⟨ob, g⟩ := I.hok a _ q
        exact ⟨ob, go a ha _ g⟩
    · rw [put_out ha] at e
      refine (I'.hok a o e).stay (fun b u _ q => q) (fun b q => ?_) fun b xs q => ?_
      · rw [put_out fun hb => by rw [none' b hb] at q; cases q]
        exact q
      · rw [put_out fun hb => by rw [none' b hb] at q; cases q]
        exact q
end
/-- an expression walked while L is out of sight -/
def tFr (te : TE) : TE := fun σ H Q => ∃ L : List Addr, HideOk H L ∧ te σ (hide L H) fun v H' => (∀ a ∈ L, H' a = none) → Q v (put L H H')
theorem pe_fr {X : Cx} {e : Expr} {te : TE} (he : PE X e te) : PE X e (tFr te) := by
  constructor
  intro pins s σ H Q I h
  obtain ⟨L, k, h⟩ := h
  refine thn (he.run (pins ++ pinsL L s.heap) s σ (hide L H) _ (Inv_hide I k) h) fun u s1 hu => ?_
  obtain ⟨v, H', I', r, q⟩ := hu
  obtain ⟨h1, I2⟩ := Inv_put I k I'
  exact ⟨v, _, I2, r, q h1⟩
def tFrT (tt : TT) : TT := fun σ H Q => ∃ L : List Addr, HideOk H L ∧ tt σ (hide L H) fun b H' => (∀ a ∈ L, H' a = none) → Q b (put L H H')
theorem pt_fr {X : Cx} {e : Expr} {tt : TT} (he : PT X e tt) : PT X e (tFrT tt) := by
  constructor
  intro pins s σ H Q I h
  obtain ⟨L, k, h⟩ := h
  refine thn (he.run (pins ++ pinsL L s.heap) s σ (hide L H) _ (Inv_hide I k) h) fun u s1 hu => ?_
  obtain ⟨H', I', q⟩ := hu
  obtain ⟨h1, I2⟩ := Inv_put I k I'
  exact ⟨_, I2, q h1⟩

/-! ### a world B in sight, cells L beside it -/
/-- B is the heap but for the cells L -/
structure Beside (B H : Hp) (L : List Addr) : Prop where
  ext : Ext B H
  free : ∀ a ∈ L, B a = none
  ok : HideOk H L
theorem Beside.hide {B H : Hp} {L : List Addr} (b : Beside B H L) : Ext B (hide L H) := fun a o e => by
  rw [hide_out fun ha => by rw [b.free a ha] at e; cases e]
  exact b.ext a o e
section
variable {K : PySem.W.Frag} {B H : Hp} {G : Sg} {σ : L2.St} {te : TE} {tt : TT} {d : D} {ds : List D} {L : List Addr} {a : Bool}
/-- the heap behind, and the world behind -/
structure After (B H B' H' : Hp) (L : List Addr) : Prop where
  b : Ext B B'
  h : Ext H H'
  at_ : ∀ a ∈ L, H' a = H a
  bs : Beside B' H' L
theorem after_of (b : Beside B H L) {H1 : Hp} (e : Ext (hide L H) H1) (hn : ∀ a ∈ L, H1 a = none) : After B H H1 (put L H H1) L := by
  have e1 : Ext H1 (put L H H1) := fun c o q => by
    rw [put_out fun hc => by rw [hn c hc] at q; cases q]
    exact q
  refine ⟨Ext.trans b.hide e, fun c o q => ?_, fun c hc => put_in hc, e1, hn, fun c hc => ?_⟩
  · by_cases hc : c ∈ L
    · rw [put_in hc]
      exact q
    · exact e1 c o (e c o (by rw [hide_out hc]; exact q))
  · rcases b.ok c hc with ⟨xs, q⟩ | ⟨kvs, q⟩ | ⟨C, dx, fs, q, hdx⟩ | ⟨y, C, fs, q, q2, hy⟩
    · exact .inl ⟨xs, by rw [put_in hc]; exact q⟩
    · exact .inr (.inl ⟨kvs, by rw [put_in hc]; exact q⟩)
    · exact .inr (.inr (.inl ⟨C, dx, fs, by rw [put_in hc]; exact q, hdx⟩))
    · exact .inr (.inr (.inr ⟨y, C, fs, by rw [put_in hc]; exact q, by rw [put_in hy]; exact q2, hy⟩))
theorem fr_gv {Q : VK} (b : Beside B H L) (h : Gv K te σ B d) (k : ∀ v B' H', After B H B' H' L → Rp K B' d v → Q v H') : tFr te σ H Q :=
  ⟨L, b.ok, h (hide L H) b.hide _ fun v H1 e r hn => k v H1 _ (after_of b e hn) r⟩
theorem fr_gn {Q : VK} (b : Beside B H L) (h : GvN K te σ B ds) (k : ∀ p xs B' H', H p = none → After B H B' H' L → B' p = some (.lst xs) → Rps K B' ds xs → Q (.ref p) H') : tFr te σ H Q :=
  ⟨L, b.ok, h (hide L H) b.hide _ fun p xs H1 hp e h1 r hn => by
    have hpL : p ∉ L := fun hc => by
      rw [hn p hc] at h1
      cases h1
    exact k p xs H1 _ (by rw [hide_out hpL] at hp; exact hp) (after_of b e hn) h1 r⟩
theorem fr_gt {Q : Bool → Hp → Prop} (b : Beside B H L) (h : Gt tt σ B a) (k : ∀ B' H', After B H B' H' L → Q a H') : tFrT tt σ H Q :=
  ⟨L, b.ok, h (hide L H) b.hide _ fun H1 e hn => k H1 _ (after_of b e hn)⟩
end
end K38

set_option Elab.async false
set_option linter.all false
set_option maxRecDepth 100000
set_option maxHeartbeats 4000000
namespace K38
open PySem PySem.Spec PyProof.Rows L2

/-! ### instances made -/
/-- an instance beside the world B -/
structure Cell (B H : Hp) (x dx C : Addr) (fs : List (Str × V)) : Prop where
  ext : Ext B H
  fx : B x = none
  fd : B dx = none
  ne : dx ≠ x
  at_ : H x = some (.ins C dx fs)
  own : H dx = some (.own x)
theorem Cell.bs {B H : Hp} {x dx C : Addr} {fs : List (Str × V)} (c : Cell B H x dx C fs) : Beside B H [x, dx] := by
  refine ⟨c.ext, fun a ha => ?_, fun a ha => ?_⟩
  · rcases List.mem_cons.mp ha with rfl | ha
    · exact c.fx
    · rw [List.mem_singleton.mp ha]
      exact c.fd
  · rcases List.mem_cons.mp ha with rfl | ha
    · exact .inr (.inr (.inl ⟨C, dx, fs, c.at_, by simp⟩))
    · rw [List.mem_singleton.mp ha]
      exact .inr (.inr (.inr ⟨x, C, fs, c.own, c.at_, by simp⟩))
theorem Cell.after {B H B' H' : Hp} {x dx C : Addr} {fs : List (Str × V)} (c : Cell B H x dx C fs) (a : After B H B' H' [x, dx]) : Cell B' H' x dx C fs :=
  ⟨a.bs.ext, a.bs.free x (by simp), a.bs.free dx (by simp), c.ne, by rw [a.at_ x (by simp)]; exact c.at_, by rw [a.at_ dx (by simp)]; exact c.own⟩
theorem Cell.set {B H : Hp} {x dx C : Addr} {fs : List (Str × V)} (c : Cell B H x dx C fs) (gs : List (Str × V)) : Cell B (upd H x (.ins C dx gs)) x dx C gs :=
  ⟨fun a o e => by rw [upd_ne (ne_of_none e c.fx)]; exact c.ext a o e, c.fx, c.fd, c.ne, upd_same, by rw [upd_ne c.ne]; exact c.own⟩
/-- a class's __init__, from data to the instance -/
def spMk (K : PySem.W.Frag) (c : Str) {α : Type} (pre : α → Prop) (ins : α → List D) (out : α → D) : Sp := fun vs H Q _ => ∃ (z : α) (x dx : Addr) (us : List V) (B : Hp), pre z ∧ vs = .ref x :: us ∧ Cell B H x dx (He.ga K c) [] ∧ Rps K B (ins z) us ∧
  ∀ H', Ext B H' → Rp K H' (out z) (.ref x) → Q .non H'
section
variable {K : PySem.W.Frag} {H H' B : Hp} {G : Sg} {σ : L2.St} {te tv : TE} {tA : TA} {d : D} {c f : Str} {nx : L2.St → Hp → Prop} {rt : V → Hp → Prop} {bk ct : L2.St → Hp → Prop}
theorem cell_new {x dx C : Addr} {fs : List (Str × V)} (hx : H x = none) (hd : H dx = none) (ne : dx ≠ x) : Cell H (upd (upd H dx (.own x)) x (.ins C dx fs)) x dx C fs :=
  ⟨fun a o e => by rw [upd_ne (ne_of_none e hx), upd_ne (ne_of_none e hd)]; exact e, hx, hd, ne, upd_same, by rw [upd_ne ne, upd_same]⟩
theorem gv_make {α : Type} {pre : α → Prop} {ins : α → List D} {out : α → D} {E : XK} (z : α) (hp : pre z) (ha : GvA K tA σ H (ins z)) : Gv K (tMake (He.ga K c) (spMk K c pre ins out) [] E tA) σ H (out z) := fun H1 e Q q =>
  ha H1 e _ fun vs H2 e2 rs x dx hx hd ne => by
    rw [List.append_nil]
    exact ⟨z, x, dx, vs, H2, hp, rfl, cell_new hx hd ne, rs, fun H3 e3 r => ⟨rfl, q _ H3 (e2.trans e3) r⟩⟩
theorem putF_zip {v : V} : ∀ {fs : List Str} {us : List V}, us.length = fs.length → fs.contains f = false → putF f v (fs.zip us) = (fs ++ [f]).zip (us ++ [v])
  | [], [], _, _ => rfl
  | [], _ :: _, h, _ => by simp at h
  | _ :: _, [], h, _ => by simp at h
  | g :: fs, u :: us, hl, h => by
    rw [List.contains_cons, Bool.or_eq_false_iff] at h
    have ne : ¬ g = f := fun e => by
      have q := h.1
      rw [e, beq_self_eq_true] at q
      cases q
    show (if g = f then (g, v) :: fs.zip us else (g, u) :: putF f v (fs.zip us)) = (g, u) :: (fs ++ [f]).zip (us ++ [v])
    rw [if_neg ne, putF_zip (by simpa using hl) h.2]
/-- self.f = e in an __init__ -/
theorem s_ini {x dx : Addr} {fs : List Str} {us : List V} (E : Sl K B G σ) (h0 : G[0]? = some (some (.adr x))) (cl : Cell B H x dx (He.ga K c) (fs.zip us)) (hl : us.length = fs.length) (hv : Gv K tv σ B d)
    (hc : Cls K (He.ga K c)) (hn : NoAttr K (He.ga K c) f) (nf : fs.contains f = false) (h1 : fs.length < 1000)
    (k : ∀ v B' H', Ext B B' → Sl K B' G σ → Cell B' H' x dx (He.ga K c) ((fs ++ [f]).zip (us ++ [v])) → (us ++ [v]).length = (fs ++ [f]).length → Rp K B' d v → nx σ H') : sFld K (tVar 0) (tFr tv) f ⟨nx, rt, bk, ct⟩ σ H :=
  fr_gv cl.bs hv fun v B' H' a r => by
    obtain ⟨w, h2, h3⟩ := E.2 0 _ h0
    have ew : w = .ref x := h3
    subst ew
    have c2 := cl.after a
    refine ⟨_, h2, x, _, dx, _, rfl, c2.at_, hc, hn, by rw [List.length_zip, hl, Nat.min_self]; exact h1, ?_⟩
    rw [putF_zip hl nf]
    exact k v B' _ a.b (E.ext a.b) (c2.set _) (by simp [hl]) r
theorem s_iniN {x dx : Addr} {fs : List Str} {us : List V} {ds : List D} (E : Sl K B G σ) (h0 : G[0]? = some (some (.adr x))) (cl : Cell B H x dx (He.ga K c) (fs.zip us)) (hl : us.length = fs.length) (hv : GvN K tv σ B ds)
    (hc : Cls K (He.ga K c)) (hn : NoAttr K (He.ga K c) f) (nf : fs.contains f = false) (h1 : fs.length < 1000)
    (k : ∀ p xs B' H', B p = none → Ext B B' → Sl K B' G σ → B' p = some (.lst xs) → Rps K B' ds xs → Cell B' H' x dx (He.ga K c) ((fs ++ [f]).zip (us ++ [V.ref p])) → (us ++ [V.ref p]).length = (fs ++ [f]).length → nx σ H') : sFld K (tVar 0) (tFr tv) f ⟨nx, rt, bk, ct⟩ σ H :=
  fr_gn cl.bs hv fun p xs B' H' hp a h4 r => by
    obtain ⟨w, h2, h3⟩ := E.2 0 _ h0
    have ew : w = .ref x := h3
    subst ew
    have c2 := cl.after a
    refine ⟨_, h2, x, _, dx, _, rfl, c2.at_, hc, hn, by rw [List.length_zip, hl, Nat.min_self]; exact h1, ?_⟩
    rw [putF_zip hl nf]
    exact k p xs B' _ (fresh_back cl.ext hp) a.b (E.ext a.b) h4 r (c2.set _) (by simp [hl])
theorem Cell.rp {x dx : Addr} {fs : List Str} {us : List V} {ds : List D} (cl : Cell B H x dx (He.ga K c) (fs.zip us)) (r : Rps K B ds us) : Rp K H (.ins c fs ds) (.ref x) := ⟨x, dx, us, rfl, cl.at_, r.ext cl.ext⟩
end
/-! ### the fields of the classes -/
section
variable {K : PySem.W.Frag} {mg : Str → Option Value} {H : Hp} {σ : L2.St} {ta : TE}
theorem gv_Hasher_width (T : Txt K mg) {w : Nat} (h : Gv K ta σ H (hshD w)) : Gv K (tFld K ta "width") σ H (nD w) := gv_fld h T.cl_Hasher T.na_Hasher_width (n := 0) (by decide +kernel) (by decide) rfl
theorem gv_Header_chain (T : Txt K mg) {hd : Hdr} (h : Gv K ta σ H (hdrD hd)) : Gv K (tFld K ta "chain") σ H (nD hd.ch) := gv_fld h T.cl_Header T.na_Header_chain (n := 0) (by decide +kernel) (by decide) rfl
theorem gv_Header_height (T : Txt K mg) {hd : Hdr} (h : Gv K ta σ H (hdrD hd)) : Gv K (tFld K ta "height") σ H (nD hd.ht) := gv_fld h T.cl_Header T.na_Header_height (n := 1) (by decide +kernel) (by decide) rfl
theorem gv_Header_time (T : Txt K mg) {hd : Hdr} (h : Gv K ta σ H (hdrD hd)) : Gv K (tFld K ta "time") σ H (nD hd.tm) := gv_fld h T.cl_Header T.na_Header_time (n := 2) (by decide +kernel) (by decide) rfl
theorem gv_Header_previous (T : Txt K mg) {hd : Hdr} (h : Gv K ta σ H (hdrD hd)) : Gv K (tFld K ta "previous") σ H (nD hd.pv) := gv_fld h T.cl_Header T.na_Header_previous (n := 3) (by decide +kernel) (by decide) rfl
theorem gv_Header_state (T : Txt K mg) {hd : Hdr} (h : Gv K ta σ H (hdrD hd)) : Gv K (tFld K ta "state") σ H (nD hd.st) := gv_fld h T.cl_Header T.na_Header_state (n := 4) (by decide +kernel) (by decide) rfl
theorem gv_Header_members (T : Txt K mg) {hd : Hdr} (h : Gv K ta σ H (hdrD hd)) : Gv K (tFld K ta "members") σ H (nD hd.mb) := gv_fld h T.cl_Header T.na_Header_members (n := 5) (by decide +kernel) (by decide) rfl
theorem gv_Header_following (T : Txt K mg) {hd : Hdr} (h : Gv K ta σ H (hdrD hd)) : Gv K (tFld K ta "following") σ H (nD hd.fo) := gv_fld h T.cl_Header T.na_Header_following (n := 6) (by decide +kernel) (by decide) rfl
theorem gv_Block_header (T : Txt K mg) {bk : Blk} (h : Gv K ta σ H (blkD bk)) : Gv K (tFld K ta "header") σ H (hdrD bk.h) := gv_fld h T.cl_Block T.na_Block_header (n := 0) (by decide +kernel) (by decide) rfl
theorem gv_Block_members (T : Txt K mg) {bk : Blk} (h : Gv K ta σ H (blkD bk)) : Gv K (tFld K ta "members") σ H (memD bk.mem) := gv_fld h T.cl_Block T.na_Block_members (n := 1) (by decide +kernel) (by decide) rfl
theorem gv_Block_following (T : Txt K mg) {bk : Blk} (h : Gv K ta σ H (blkD bk)) : Gv K (tFld K ta "following") σ H (memD bk.fol) := gv_fld h T.cl_Block T.na_Block_following (n := 2) (by decide +kernel) (by decide) rfl
theorem gv_Block_votes (T : Txt K mg) {bk : Blk} (h : Gv K ta σ H (blkD bk)) : Gv K (tFld K ta "votes") σ H (votD bk.votes) := gv_fld h T.cl_Block T.na_Block_votes (n := 3) (by decide +kernel) (by decide) rfl
theorem gv_Policy_period (T : Txt K mg) {p d : Nat} (h : Gv K ta σ H (polD p d)) : Gv K (tFld K ta "period") σ H (nD p) := gv_fld h T.cl_Policy T.na_Policy_period (n := 0) (by decide +kernel) (by decide) rfl
theorem gv_Policy_drift (T : Txt K mg) {p d : Nat} (h : Gv K ta σ H (polD p d)) : Gv K (tFld K ta "drift") σ H (nD d) := gv_fld h T.cl_Policy T.na_Policy_drift (n := 1) (by decide +kernel) (by decide) rfl
end
end K38

set_option Elab.async false
set_option linter.all false
set_option maxRecDepth 100000
set_option maxHeartbeats 4000000
namespace K38
open PySem PySem.Spec PyProof.Rows L2
open PySem.W (Datum Tup)

/-! ### data compared -/
instance : Datum Nat where
  toD n := .int n
  plain _ := rfl
  eqv a b := by
    simp only [PyData.eqv]
    rw [PySem.W.beq_decide]
    exact decide_eq_decide.mpr Int.ofNat_inj
  depth := 0
  depth_le _ := Nat.le_refl _
class HD {α : Type} [DecidableEq α] [Datum α] (f : α → D) : Prop where
  dp : ∀ {K : PySem.W.Frag} {H : Hp} (a : α) {v : V}, Rp K H (f a) v → Dp K H v (Datum.toD a)
section
variable {α β : Type} [DecidableEq α] [Datum α] [DecidableEq β] [Datum β]
theorem hd_nat : HD nD := ⟨fun a v r => by
  cases (show v = .int _ from r)
  exact .int _⟩
theorem hd_str : HD D.str := ⟨fun a v r => by
  cases (show v = .str _ from r)
  exact .str _⟩
theorem hd_all {f : α → D} (h : HD f) {K : PySem.W.Frag} {H : Hp} : ∀ {l : List α} {xs : List V}, Rps K H (l.map f) xs → DpAll K H xs (l.map Datum.toD)
  | [], _, r => by
    cases r
    exact .nil
  | a :: l, _, r => by
    obtain ⟨x, q, rfl, h1, h2⟩ := r
    exact .cons (h.dp a h1) (hd_all h h2)
theorem hd_pair {f : α → D} {g : β → D} (hf : HD f) (hg : HD g) : HD (fun p : α × β => .tup [f p.1, g p.2]) := ⟨fun p v r => by
  obtain ⟨a, xs, rfl, h1, h2⟩ := r
  obtain ⟨x, _, rfl, h3, y, _, rfl, h4, rfl⟩ := h2
  exact .tup (SqT.of h1) (.cons (hf.dp _ h3) (.cons (hg.dp _ h4) .nil))⟩
theorem hd_tup {f : α → D} (h : HD f) : HD (fun t : Tup α => .tup (t.items.map f)) := ⟨fun t v r => by
  obtain ⟨a, xs, rfl, h1, h2⟩ := r
  exact .tup (SqT.of h1) (hd_all h h2)⟩
theorem hd_lst {f : α → D} (h : HD f) : HD (fun t : List α => .lst (t.map f)) := ⟨fun t v r => by
  obtain ⟨a, xs, rfl, h1, h2⟩ := r
  exact .lst (SqL.of h1) (hd_all h h2)⟩
end
def rEqH (K : PySem.W.Frag) (α : Type) [DecidableEq α] [Datum α] : R2 := fun x y H Q => ∃ a b : α, Dp K H x (Datum.toD a) ∧ Dp K H y (Datum.toD b) ∧ Q (.bl (decide (a = b))) H
def rNeH (K : PySem.W.Frag) (α : Type) [DecidableEq α] [Datum α] : R2 := fun x y H Q => ∃ a b : α, Dp K H x (Datum.toD a) ∧ Dp K H y (Datum.toD b) ∧ Q (.bl (decide (a ≠ b))) H
section
variable {X : Cx} {k : Nat}
theorem op_eqH {α : Type} [DecidableEq α] [Datum α] (hr : Room k X.A) (hd : Datum.depth α ≤ 60) : OpR X (compareOp .Eq) (rEqH X.K α) := by
  intro pins s σ H x y v u Q I rx ry h
  obtain ⟨a, b, h1, h2, q⟩ := h
  obtain ⟨as, r1⟩ := Dp.reads I _ x v h1 rx
  obtain ⟨bs, r2⟩ := Dp.reads I _ y u h2 ry
  exact PySem.W.eq_datum ⟨as, r1⟩ ⟨bs, r2⟩ (by have := hr.units; omega) ⟨.bl _, H, I, rfl, q⟩
theorem op_neH {α : Type} [DecidableEq α] [Datum α] (hr : Room k X.A) (hd : Datum.depth α ≤ 60) : OpR X (compareOp .NotEq) (rNeH X.K α) := by
  intro pins s σ H x y v u Q I rx ry h
  obtain ⟨a, b, h1, h2, q⟩ := h
  obtain ⟨as, r1⟩ := Dp.reads I _ x v h1 rx
  obtain ⟨bs, r2⟩ := Dp.reads I _ y u h2 ry
  exact PySem.W.ne_datum ⟨as, r1⟩ ⟨bs, r2⟩ (by have := hr.units; omega) ⟨.bl _, H, I, rfl, q⟩
/-- an own == -/
def rOwn (C : Addr) (sp : Sp) : R2 := fun x y H Q => ∃ a b dx dy fs gs, x = .ref a ∧ y = .ref b ∧ H a = some (.ins C dx fs) ∧ H b = some (.ins C dy gs) ∧ sp [x, y] H (fun v H' => ∃ r, v = .bl r ∧ Q v H') E0
theorem op_own {C : Addr} {sp : Sp} {j : Nat} (c : C8.Met X.prog X.w X.K X.mg X.base k C "__eq__" sp []) (hr : Room j X.A) (hk : k ≤ j) : OpR X (compareOp .Eq) (rOwn C sp) := by
  intro pins s σ H x y u v Q I rx ry h
  obtain ⟨a, b, dx, dy, fs, gs, rfl, rfl, ha, hb', hsp⟩ := h
  obtain ⟨f, fd, ps, ds, hc, hm, F, hb, hd⟩ := c.ex
  cases hd
  cases rx
  cases ry
  obtain ⟨mA, J, _⟩ := ins_get I.hok ha
  obtain ⟨mB, J', _⟩ := ins_get I.hok hb'
  obtain ⟨od, J, _⟩ := J.look
  obtain ⟨od', J', _⟩ := J'.look
  obtain ⟨m, hF⟩ := I.fr
  show wpAny (model X.prog X.w) X.A (richCompare .Eq (.ref a) (.ref b)) (EP X pins σ Q) X.xe s
  refine PySem.W.cmp_K (op := .Eq) (tb := .ref C) hr.units0 hF I.ok.mod.kin J J'.type (by simp [PySem.W.notFirst]) hm.at_ hm.fn ?_
  have hl := F.len _ _ _ _ hsp
  have r2 : Vals [V.ref a, V.ref b] [Value.ref a, Value.ref b] := .cons rfl (.cons rfl .nil)
  refine wpAny_call (codeAny_mono (F.run X.A X.stack s H ⟨[.ref a, .ref b], []⟩ [.ref a, .ref b] [.ref a, .ref b] _ _ (hr.mono hk) I.env0 (by
    have := hb s [.ref a, .ref b] I.kIn (by simpa using hl)
    simpa using this) r2 hsp) fun r s' hq => ?_)
  cases r with
  | error e => exact pass0 pins σ H s e s' I hq
  | ok fl =>
    cases fl with
    | ret w =>
      obtain ⟨z, H', I', rz, r, ez, q⟩ := I.after hq
      subst ez
      have ew : w = Value.bool r := rz
      subst ew
      exact ⟨.bl r, H', I', rfl, q⟩
    | next => exact False.elim hq
    | brk => exact False.elim hq
    | cont => exact False.elim hq
end
/-- instances, told apart by their class -/
class IsIns (d : D) (c : outParam Str) : Prop where
  is : ∀ {K : PySem.W.Frag} {H : Hp} {v : V}, Rp K H d v → ∃ a dx fs, v = .ref a ∧ H a = some (.ins (He.ga K c) dx fs)
instance {c fs ds} : IsIns (.ins c fs ds) c := ⟨fun r => by
  obtain ⟨a, dx, xs, rfl, h1, _⟩ := r
  exact ⟨a, dx, _, rfl, h1⟩⟩
instance {p d c} [h : IsIns d c] : IsIns (.at p d) c := ⟨fun r => h.is r.2⟩
instance {h} : IsIns (hdrD h) "Header" := (inferInstance : IsIns (.ins "Header" fHdr (h.list.map nD)) "Header")
instance {b} : IsIns (blkD b) "Block" := (inferInstance : IsIns (.ins "Block" fBlk [hdrD b.h, memD b.mem, memD b.fol, votD b.votes]) "Block")

/-! ### the same values -/
mutual
def D.det : D → Bool
  | .non | .bl _ | .int _ | .str _ | .adr _ | .at _ _ => true
  | .any | .ins _ _ _ | .dct _ _ => false
  | .tup ds | .lst ds => D.dets ds
def D.dets : List D → Bool
  | [] => true
  | d :: ds => D.det d && D.dets ds
end
mutual
def D.dep : D → Nat
  | .tup ds | .lst ds => D.deps ds + 1
  | _ => 0
def D.deps : List D → Nat
  | [] => 0
  | d :: ds => max (D.dep d) (D.deps ds)
end
theorem deps_all {n : Nat} : ∀ {ds : List D}, (∀ d ∈ ds, D.dep d ≤ n) → D.deps ds ≤ n
  | [], _ => Nat.zero_le _
  | d :: ds, h => Nat.max_le.mpr ⟨h d List.mem_cons_self, deps_all fun e he => h e (List.mem_cons_of_mem _ he)⟩
theorem dets_all : ∀ {ds : List D}, (∀ d ∈ ds, D.det d = true) → D.dets ds = true
  | [], _ => rfl
  | d :: ds, h => by
    show (D.det d && D.dets ds) = true
    rw [h d List.mem_cons_self, dets_all fun e he => h e (List.mem_cons_of_mem _ he)]
    rfl
section
variable {X : Cx} {pins : List (Addr × Obj)} {σ : L2.St} {H : Hp} {s : Shared}
open SeqAt in
theorem eqAt_ref {v : Addr} {a b : Value} {A : Around} (ra : RelV (.ref v) a) (rb : RelV (.ref v) b) : EqAt A s a b true := by
  cases (show a = .ref v from ra)
  cases (show b = .ref v from rb)
  exact EqAt.same _
theorem all_yes {n : Nat} : (List.range n).all (fun _ => true) = true := by simp
open SeqAt in
mutual
theorem det_eq (I : Inv X pins σ H s) (A : Around) : ∀ (d : D) {x y : V} {u v : Value}, D.det d = true → A.units + D.dep d < cLine → Rp X.K H d x → Rp X.K H d y → RelV x u → RelV y v → EqAt A s u v true
  | .non, _, _, _, _, _, _, rx, ry, ru, rv => by
    cases (show _ = V.non from rx)
    cases (show _ = V.non from ry)
    cases (show _ = Value.none from ru)
    cases (show _ = Value.none from rv)
    exact EqAt.same _
  | .bl b, _, _, _, _, _, _, rx, ry, ru, rv => by
    cases (show _ = V.bl b from rx)
    cases (show _ = V.bl b from ry)
    cases (show _ = Value.bool b from ru)
    cases (show _ = Value.bool b from rv)
    exact EqAt.same _
  | .int i, _, _, _, _, _, _, rx, ry, ru, rv => by
    cases (show _ = V.int i from rx)
    cases (show _ = V.int i from ry)
    obtain ⟨t, rfl⟩ := ru
    obtain ⟨t2, rfl⟩ := rv
    have := EqAt.int_int (A := A) (s := s) i t i t2
    rwa [beq_self_eq_true] at this
  | .str i, _, _, _, _, _, _, rx, ry, ru, rv => by
    cases (show _ = V.str i from rx)
    cases (show _ = V.str i from ry)
    obtain ⟨t, rfl⟩ := ru
    obtain ⟨t2, rfl⟩ := rv
    have := EqAt.str_str (A := A) (s := s) i t i t2
    rwa [beq_self_eq_true] at this
  | .adr a, _, _, _, _, _, _, rx, ry, ru, rv => by
    cases (show _ = V.ref a from rx)
    cases (show _ = V.ref a from ry)
    exact eqAt_ref ru rv
  | .at a d, _, _, _, _, _, _, rx, ry, ru, rv => by
    cases (show _ = V.ref a from rx.1)
    cases (show _ = V.ref a from ry.1)
    exact eqAt_ref ru rv
  | .tup ds, x, y, u, v, hd, hu, rx, ry, ru, rv => by
    obtain ⟨a, xs, rfl, h1, h2⟩ := rx
    obtain ⟨b, ys, rfl, h3, h4⟩ := ry
    cases (show u = .ref a from ru)
    cases (show v = .ref b from rv)
    obtain ⟨its, r1, p1, z1⟩ := I.tuple (SqT.of h1)
    obtain ⟨its2, r2, p2, z2⟩ := I.tuple (SqT.of h3)
    by_cases hne : a = b
    · subst hne
      exact EqAt.same _
    · refine EqAt.of_refs hne ?_
      have hu2 : A.units + (D.deps ds + 1) < cLine := hu
      have q := RcAt.tuples (A := A) (e := fun _ => true) p1 p2 (by omega) fun j l1 l2 => det_eqs I A.in1 ds hd (by rw [Around.in1_units]; omega) h2 h4 r1 r2 j (by simpa using l1) (by simpa using l2)
      have e : (its.toArray.size == its2.toArray.size) = true := by
        rw [List.size_toArray, List.size_toArray, ← r1.length, ← r2.length, h2.len, h4.len, beq_self_eq_true]
      rw [all_yes, e] at q
      exact q
  | .lst ds, x, y, u, v, hd, hu, rx, ry, ru, rv => by
    obtain ⟨a, xs, rfl, h1, h2⟩ := rx
    obtain ⟨b, ys, rfl, h3, h4⟩ := ry
    cases (show u = .ref a from ru)
    cases (show v = .ref b from rv)
    obtain ⟨its, r1, p1, z1⟩ := I.list (SqL.of h1)
    obtain ⟨its2, r2, p2, z2⟩ := I.list (SqL.of h3)
    by_cases hne : a = b
    · subst hne
      exact EqAt.same _
    · refine EqAt.of_refs hne ?_
      have hu2 : A.units + (D.deps ds + 1) < cLine := hu
      have e : its.toArray.size = its2.toArray.size := by
        rw [List.size_toArray, List.size_toArray, ← r1.length, ← r2.length, h2.len, h4.len]
      have q := RcAt.lists (A := A) (e := fun _ => true) p1.isList p2.isList e (by omega) fun j l1 l2 => det_eqs I A.in1 ds hd (by rw [Around.in1_units]; omega) h2 h4 r1 r2 j (by simpa using l1) (by simpa using l2)
      rw [all_yes] at q
      exact q
  | .any, _, _, _, _, hd, _, _, _, _, _ => by cases hd
  | .ins _ _ _, _, _, _, _, hd, _, _, _, _, _ => by cases hd
  | .dct _ _, _, _, _, _, hd, _, _, _, _, _ => by cases hd
theorem det_eqs (I : Inv X pins σ H s) (A : Around) : ∀ (ds : List D) {xs ys : List V} {us vs : List Value}, D.dets ds = true → A.units + D.deps ds < cLine → Rps X.K H ds xs → Rps X.K H ds ys → Vals xs us → Vals ys vs → ∀ (j : Nat) (l1 : j < us.length) (l2 : j < vs.length), EqAt A s us[j] vs[j] true
  | [], _, _, _, _, _, _, rx, _, ru, _ => fun j l1 => by
    cases rx
    cases ru
    simp at l1
  | d :: ds, _, _, _, _, hd, hu, rx, ry, ru, rv => fun j l1 l2 => by
    obtain ⟨x, xs, rfl, h1, h2⟩ := rx
    obtain ⟨y, ys, rfl, h3, h4⟩ := ry
    cases ru with
    | cons a1 a2 =>
      cases rv with
      | cons b1 b2 =>
        have hd2 := Bool.and_eq_true_iff.mp hd
        have hu2 : A.units + max (D.dep d) (D.deps ds) < cLine := hu
        cases j with
        | zero => exact det_eq I A d hd2.1 (by omega) h1 h3 a1 b1
        | succ j => exact det_eqs I A ds hd2.2 (by omega) h2 h4 a2 b2 j (by simpa using l1) (by simpa using l2)
end
end
def rEqS (K : PySem.W.Frag) : R2 := fun x y H Q => ∃ ds, D.dets ds = true ∧ D.deps ds ≤ 50 ∧ ((Rp K H (.lst ds) x ∧ Rp K H (.lst ds) y) ∨ (Rp K H (.tup ds) x ∧ Rp K H (.tup ds) y)) ∧ Q (.bl true) H
def rNeS (K : PySem.W.Frag) : R2 := fun x y H Q => ∃ ds, D.dets ds = true ∧ D.deps ds ≤ 50 ∧ (Rp K H (.lst ds) x ∧ Rp K H (.lst ds) y) ∧ Q (.bl false) H
section
variable {X : Cx} {k : Nat}
open SeqAt
theorem op_eqS (hr : Room k X.A) : OpR X (compareOp .Eq) (rEqS X.K) := by
  intro pins s σ H x y u v Q I ru rv h
  obtain ⟨ds, hd, hn, h, q⟩ := h
  have hu := hr.units
  rcases h with ⟨rx, ry⟩ | ⟨rx, ry⟩
  · obtain ⟨a, xs, rfl, h1, h2⟩ := rx
    obtain ⟨b, ys, rfl, h3, h4⟩ := ry
    cases (show u = .ref a from ru)
    cases (show v = .ref b from rv)
    obtain ⟨its, r1, p1, z1⟩ := I.list (SqL.of h1)
    obtain ⟨its2, r2, p2, z2⟩ := I.list (SqL.of h3)
    have e : its.toArray.size = its2.toArray.size := by
      rw [List.size_toArray, List.size_toArray, ← r1.length, ← r2.length, h2.len, h4.len]
    have q1 := RcAt.lists (A := X.A) (e := fun _ => true) p1.isList p2.isList e (by omega) fun j l1 l2 => det_eqs I X.A.in1 ds hd (by rw [Around.in1_units]; omega) h2 h4 r1 r2 j (by simpa using l1) (by simpa using l2)
    rw [all_yes] at q1
    exact q1 X.prog X.w X.xe _ ⟨.bl true, H, I, rfl, q⟩
  · obtain ⟨a, xs, rfl, h1, h2⟩ := rx
    obtain ⟨b, ys, rfl, h3, h4⟩ := ry
    cases (show u = .ref a from ru)
    cases (show v = .ref b from rv)
    obtain ⟨its, r1, p1, z1⟩ := I.tuple (SqT.of h1)
    obtain ⟨its2, r2, p2, z2⟩ := I.tuple (SqT.of h3)
    have q1 := RcAt.tuples (A := X.A) (e := fun _ => true) p1 p2 (by omega) fun j l1 l2 => det_eqs I X.A.in1 ds hd (by rw [Around.in1_units]; omega) h2 h4 r1 r2 j (by simpa using l1) (by simpa using l2)
    have e : (its.toArray.size == its2.toArray.size) = true := by
      rw [List.size_toArray, List.size_toArray, ← r1.length, ← r2.length, h2.len, h4.len, beq_self_eq_true]
    rw [all_yes, e] at q1
    exact q1 X.prog X.w X.xe _ ⟨.bl true, H, I, rfl, q⟩
theorem op_neS (hr : Room k X.A) : OpR X (compareOp .NotEq) (rNeS X.K) := by
  intro pins s σ H x y u v Q I ru rv h
  obtain ⟨ds, hd, hn, ⟨rx, ry⟩, q⟩ := h
  have hu := hr.units
  obtain ⟨a, xs, rfl, h1, h2⟩ := rx
  obtain ⟨b, ys, rfl, h3, h4⟩ := ry
  cases (show u = .ref a from ru)
  cases (show v = .ref b from rv)
  obtain ⟨its, r1, p1, z1⟩ := I.list (SqL.of h1)
  obtain ⟨its2, r2, p2, z2⟩ := I.list (SqL.of h3)
  have e : its.toArray.size = its2.toArray.size := by
    rw [List.size_toArray, List.size_toArray, ← r1.length, ← r2.length, h2.len, h4.len]
  have q1 := RcNeAt.lists (A := X.A) (e := fun _ => true) p1.isList p2.isList e (by omega) fun j l1 l2 => det_eqs I X.A.in1 ds hd (by rw [Around.in1_units]; omega) h2 h4 r1 r2 j (by simpa using l1) (by simpa using l2)
  rw [all_yes] at q1
  exact q1 X.prog X.w X.xe _ ⟨.bl false, H, I, rfl, q⟩
end
end K38

set_option Elab.async false
set_option linter.all false
set_option maxRecDepth 100000
set_option maxHeartbeats 4000000
namespace K38
open PySem PySem.Spec PyProof.Rows L2
open PySem.W (Datum Tup)

section
variable {K : PySem.W.Frag} {H H' : Hp} {G : Sg} {σ : L2.St} {ta tb te tx tl : TE} {d : D} {ds es : List D} {i j : Int} {a b : Bool} {tA : TA} {nx : L2.St → Hp → Prop} {rt : V → Hp → Prop} {bk ct : L2.St → Hp → Prop} {tu tw : TS} {g : TG}
theorem Rp.un {p : Addr} {v : V} (h : Rp K H (.at p d) v) : Rp K H d v := h.2
theorem gv_un {p : Addr} (h : Gv K te σ H (.at p d)) : Gv K te σ H d := fun H1 e Q q => h H1 e Q fun v H2 e2 r => q v H2 e2 r.2
theorem Rps.mono {α : Type} {f g : α → D} (hf : ∀ a v, Rp K H (f a) v → Rp K H (g a) v) : ∀ {l : List α} {xs : List V}, Rps K H (l.map f) xs → Rps K H (l.map g) xs
  | [], _, h => h
  | a :: l, _, h => by
    obtain ⟨x, r, rfl, h1, h2⟩ := h
    exact ⟨x, r, rfl, hf _ _ h1, Rps.mono hf h2⟩
theorem gv_weak {d' : D} (h : Gv K te σ H d) (hd : ∀ H v, Rp K H d v → Rp K H d' v) : Gv K te σ H d' := fun H1 e Q q => h H1 e Q fun v H2 e2 r => q v H2 e2 (hd H2 v r)
/-! comparisons -/
theorem gv_eqH {α : Type} [DecidableEq α] [Datum α] {f : α → D} (hf : HD f) {x y : α} (ha : Gv K ta σ H (f x)) (hb : Gv K tb σ H (f y)) : Gv K (tOp (rEqH K α) ta tb) σ H (.bl (decide (x = y))) :=
  gv_op ha hb fun H1 e v w rv rw Q q => ⟨x, y, hf.dp _ rv, hf.dp _ rw, q _ H1 Ext.rfl' rfl⟩
theorem gv_neH {α : Type} [DecidableEq α] [Datum α] {f : α → D} (hf : HD f) {x y : α} (ha : Gv K ta σ H (f x)) (hb : Gv K tb σ H (f y)) : Gv K (tOp (rNeH K α) ta tb) σ H (.bl (decide (x ≠ y))) :=
  gv_op ha hb fun H1 e v w rv rw Q q => ⟨x, y, hf.dp _ rv, hf.dp _ rw, q _ H1 Ext.rfl' rfl⟩
theorem gv_eqS (hd : D.dets ds = true) (hn : D.deps ds ≤ 50) (ha : Gv K ta σ H (.lst ds)) (hb : Gv K tb σ H (.lst ds)) : Gv K (tOp (rEqS K) ta tb) σ H (.bl true) :=
  gv_op ha hb fun H1 e v w rv rw Q q => ⟨ds, hd, hn, .inl ⟨rv, rw⟩, q _ H1 Ext.rfl' rfl⟩
theorem gv_eqST (hd : D.dets ds = true) (hn : D.deps ds ≤ 50) (ha : Gv K ta σ H (.tup ds)) (hb : Gv K tb σ H (.tup ds)) : Gv K (tOp (rEqS K) ta tb) σ H (.bl true) :=
  gv_op ha hb fun H1 e v w rv rw Q q => ⟨ds, hd, hn, .inr ⟨rv, rw⟩, q _ H1 Ext.rfl' rfl⟩
theorem gv_neS (hd : D.dets ds = true) (hn : D.deps ds ≤ 50) (ha : Gv K ta σ H (.lst ds)) (hb : Gv K tb σ H (.lst ds)) : Gv K (tOp (rNeS K) ta tb) σ H (.bl false) :=
  gv_op ha hb fun H1 e v w rv rw Q q => ⟨ds, hd, hn, ⟨rv, rw⟩, q _ H1 Ext.rfl' rfl⟩
theorem gv_own {c : Str} {sp : Sp} {x y : D} [hx : IsIns x c] [hy : IsIns y c] (ha : Gv K ta σ H x) (hb : Gv K tb σ H y) (hs : SpOk K sp [x, y] H (.bl a)) : Gv K (tOp (rOwn (He.ga K c) sp) ta tb) σ H (.bl a) :=
  gv_op ha hb fun H1 e v w rv rw Q q => by
    obtain ⟨p, dx, fs, ev, h1⟩ := hx.is rv
    obtain ⟨p2, dy, gs, ew, h2⟩ := hy.is rw
    exact ⟨p, p2, dx, dy, fs, gs, ev, ew, h1, h2, hs H1 e _ (.cons rv (.cons rw .nil)) _ _ fun z H2 e2 rz => ⟨a, rz, q z H2 e2 rz⟩⟩
/-! slices -/
theorem go_none : GvO tNoPart σ H none := fun H1 e Q q => q H1 Ext.rfl'
theorem go_some (h : Gv K te σ H (.int i)) : GvO (tPart te) σ H (some i) := fun H1 e Q q => h H1 e _ fun v H2 e2 r => ⟨i, r, q H2 e2⟩
theorem Rps.cut {xs : List V} {lo hi : Option Int} (h : Rps K H ds xs) : Rps K H ((ds.drop (HT.sIx ds.length 0 lo)).take (HT.sIx ds.length ds.length hi - HT.sIx ds.length 0 lo)) (cutV xs lo hi) := by
  unfold cutV
  rw [h.len]
  exact (h.drop _).take _
variable {tlo thi : TO} {lo hi : Option Int}
def cutD (ds : List D) (lo hi : Option Int) : List D := (ds.drop (HT.sIx ds.length 0 lo)).take (HT.sIx ds.length ds.length hi - HT.sIx ds.length 0 lo)
theorem gv_slT (h : Gv K te σ H (.tup ds)) (hlo : GvO tlo σ H lo) (hhi : GvO thi σ H hi) {n : Nat} (hn : ds.length = n) (hw : ¬ (HT.sIx n 0 lo = 0 ∧ HT.sIx n n hi = n)) (he : cutD ds lo hi = es) : Gv K (tSl (rSlT K) te tlo thi) σ H (.tup es) := fun H1 e Q q =>
  h H1 e _ fun v H2 e2 r => hlo H2 (e.trans e2) _ fun H3 e3 => hhi H3 ((e.trans e2).trans e3) _ fun H4 e4 => by
    obtain ⟨a, xs, rfl, h1, h2⟩ := (r.ext e3).ext e4
    refine ⟨a, xs, rfl, SqT.of h1, by rw [h2.len, hn]; exact hw, fun p hp => q _ _ (((e2.trans e3).trans e4).trans (Ext.upd hp)) ⟨p, _, rfl, upd_same, ?_⟩⟩
    subst he
    exact h2.cut.ext (Ext.upd hp)
theorem gn_slL (h : Gv K te σ H (.lst ds)) (hlo : GvO tlo σ H lo) (hhi : GvO thi σ H hi) (he : cutD ds lo hi = es) : GvN K (tSl (rSlL K) te tlo thi) σ H es := fun H1 e Q q =>
  h H1 e _ fun v H2 e2 r => hlo H2 (e.trans e2) _ fun H3 e3 => hhi H3 ((e.trans e2).trans e3) _ fun H4 e4 => by
    obtain ⟨a, xs, rfl, h1, h2⟩ := (r.ext e3).ext e4
    refine ⟨a, xs, rfl, SqL.of h1, fun p hp => q p _ _ (fresh_back ((e2.trans e3).trans e4) hp) (((e2.trans e3).trans e4).trans (Ext.upd hp)) upd_same ?_⟩
    subst he
    exact h2.cut.ext (Ext.upd hp)
/-! sorted, min, max -/
def srt (ns : List Int) : List Int := ns.mergeSort (fun a b => decide (a ≤ b))
theorem srt_perm (ns : List Int) : (srt ns).Perm ns := List.mergeSort_perm _ _
theorem srt_sorted (ns : List Int) : (srt ns).Pairwise (· ≤ ·) := by
  have h := List.pairwise_mergeSort (le := fun a b : Int => decide (a ≤ b)) (by intro a b c h1 h2; simp at *; omega) (by intro a b; simp; omega) ns
  exact h.imp fun h => by simpa using h
theorem srt_uniq {ns ms : List Int} (hp : ms.Perm ns) (hs : ms.Pairwise (· ≤ ·)) : ms = srt ns :=
  List.Perm.eq_of_pairwise (le := (· ≤ ·)) (fun a b _ _ h1 h2 => by omega) hs (srt_sorted ns) (hp.trans (srt_perm ns).symm)
theorem rps_ints_eq {ns : List Int} {xs : List V} (h : Rps K H (ns.map D.int) xs) : xs = ns.map V.int := h.ints_eq
theorem gn_sortedL {ns : List Int} (ha : Gv K ta σ H (.lst (ns.map D.int))) : GvN K (tCB (rSortedI K) (tCons ta tNil)) σ H ((srt ns).map D.int) := gn_cb (ga_cons ha ga_nil) fun H1 e vs rs Q q => by
  obtain ⟨v, rfl, a, xs, rfl, h1, h2⟩ := one_of rs
  refine ⟨a, ns, rfl, SqL.of (by rw [← h2.ints_eq]; exact h1), fun ms p hp hs hn => ?_⟩
  rw [srt_uniq hp hs]
  exact q p _ _ hn (Ext.upd hn) upd_same Rps.ints
theorem min_ex : ∀ {ns : List Int}, ns ≠ [] → ∃ m, m ∈ ns ∧ ∀ y, y ∈ ns → m ≤ y
  | [n], _ => ⟨n, by simp, fun y hy => by simp at hy; omega⟩
  | n :: m :: r, _ => by
    obtain ⟨z, h1, h2⟩ := min_ex (ns := m :: r) (by simp)
    by_cases h : n ≤ z
    · exact ⟨n, by simp, fun y hy => by
        rcases List.mem_cons.mp hy with rfl | hy
        · exact Int.le_refl _
        · exact Int.le_trans h (h2 y hy)⟩
    · exact ⟨z, List.mem_cons_of_mem _ h1, fun y hy => by
        rcases List.mem_cons.mp hy with rfl | hy
        · omega
        · exact h2 y hy⟩
theorem max_ex : ∀ {ns : List Int}, ns ≠ [] → ∃ m, m ∈ ns ∧ ∀ y, y ∈ ns → y ≤ m
  | [n], _ => ⟨n, by simp, fun y hy => by simp at hy; omega⟩
  | n :: m :: r, _ => by
    obtain ⟨z, h1, h2⟩ := max_ex (ns := m :: r) (by simp)
    by_cases h : z ≤ n
    · exact ⟨n, by simp, fun y hy => by
        rcases List.mem_cons.mp hy with rfl | hy
        · exact Int.le_refl _
        · exact Int.le_trans (h2 y hy) h⟩
    · exact ⟨z, List.mem_cons_of_mem _ h1, fun y hy => by
        rcases List.mem_cons.mp hy with rfl | hy
        · omega
        · exact h2 y hy⟩
theorem gv_minL {ns : List Int} {m : Int} (ha : Gv K ta σ H (.lst (ns.map D.int))) (h1 : m ∈ ns) (h2 : ∀ y, y ∈ ns → m ≤ y) : Gv K (tCB (rMin K) (tCons ta tNil)) σ H (.int m) := gv_cb (ga_cons ha ga_nil) fun H1 e vs rs Q q => by
  obtain ⟨v, rfl, a, xs, rfl, h3, h4⟩ := one_of rs
  refine ⟨a, ns, rfl, SqL.of (by rw [← h4.ints_eq]; exact h3), List.length_pos_of_mem h1, fun m' g1 g2 => ?_⟩
  have e1 := g2 m h1
  have e2 := h2 m' g1
  have e3 : m' = m := by omega
  exact q _ H1 Ext.rfl' (by rw [e3]; rfl)
theorem gv_maxL {ns : List Int} {m : Int} (ha : Gv K ta σ H (.lst (ns.map D.int))) (h1 : m ∈ ns) (h2 : ∀ y, y ∈ ns → y ≤ m) : Gv K (tCB (rMax K) (tCons ta tNil)) σ H (.int m) := gv_cb (ga_cons ha ga_nil) fun H1 e vs rs Q q => by
  obtain ⟨v, rfl, a, xs, rfl, h3, h4⟩ := one_of rs
  refine ⟨a, ns, rfl, SqL.of (by rw [← h4.ints_eq]; exact h3), List.length_pos_of_mem h1, fun m' g1 g2 => ?_⟩
  have e1 := g2 m h1
  have e2 := h2 m' g1
  have e3 : m' = m := by omega
  exact q _ H1 Ext.rfl' (by rw [e3]; rfl)

/-! ### dicts of whole-number keys -/
abbrev nK (n : Nat) : L2.Key := .inl (n : Int)
def lk {α : Type} (l : List (Nat × α)) (k : Nat) : Option α := (l.find? fun p => decide (p.1 = k)).map (·.2)
def putN {α : Type} (l : List (Nat × α)) (k : Nat) (a : α) : List (Nat × α) := if (l.any fun p => decide (p.1 = k)) = true then l.map (fun p => if p.1 = k then (p.1, a) else p) else l ++ [(k, a)]
def dropN {α : Type} (l : List (Nat × α)) (k : Nat) : List (Nat × α) := l.filter fun p => decide (p.1 ≠ k)
def dcD {α : Type} (emb : α → D) (l : List (Nat × α)) : D := .dct (l.map fun p => (p.1 : Int)) (l.map fun p => emb p.2)
section
variable {α : Type} {emb : α → D}
def KR (K : PySem.W.Frag) (H : Hp) (emb : α → D) : List (Nat × α) → List (L2.Key × V) → Prop
  | [], m => m = []
  | p :: l, m => ∃ v r, m = (nK p.1, v) :: r ∧ Rp K H (emb p.2) v ∧ KR K H emb l r
theorem KR.ext (e : Ext H H') : ∀ {l : List (Nat × α)} {m : List (L2.Key × V)}, KR K H emb l m → KR K H' emb l m
  | [], _, h => h
  | _ :: _, _, ⟨v, r, h1, h2, h3⟩ => ⟨v, r, h1, h2.ext e, h3.ext e⟩
theorem KR.gr (hp : ∀ a, Pu (emb a)) (e : Gr K H H') : ∀ {l : List (Nat × α)} {m : List (L2.Key × V)}, KR K H emb l m → KR K H' emb l m
  | [], _, h => h
  | p :: _, _, ⟨v, r, h1, h2, h3⟩ => ⟨v, r, h1, h2.gr e _ (hp _).pu, h3.gr hp e⟩
theorem KR.len : ∀ {l : List (Nat × α)} {m : List (L2.Key × V)}, KR K H emb l m → m.length = l.length
  | [], _, h => by
    cases h
    rfl
  | _ :: _, _, ⟨v, r, h1, h2, h3⟩ => by rw [h1, List.length_cons, List.length_cons, h3.len]
theorem KR.keys : ∀ {l : List (Nat × α)} {m : List (L2.Key × V)}, KR K H emb l m → m.map (·.1) = (l.map fun p => (p.1 : Int)).map Sum.inl
  | [], _, h => by
    cases h
    rfl
  | _ :: _, _, ⟨v, r, h1, h2, h3⟩ => by rw [h1, List.map_cons, List.map_cons, List.map_cons, h3.keys]
theorem nK_eq {m n : Nat} : (nK m = nK n) ↔ m = n := ⟨fun e => Int.ofNat_inj.mp (Sum.inl.inj e), fun e => by rw [e]⟩
theorem KR.val : ∀ {l : List (Nat × α)} {m : List (L2.Key × V)} {k : Nat}, KR K H emb l m → (∀ a, lk l k = some a → ∃ v, valV m (nK k) = some v ∧ Rp K H (emb a) v) ∧ (lk l k = none → valV m (nK k) = none)
  | [], _, k, h => by
    cases h
    exact ⟨fun a e => (by simp [lk] at e), fun _ => rfl⟩
  | p :: l, _, k, ⟨v, r, h1, h2, h3⟩ => by
    subst h1
    have ih := KR.val (k := k) h3
    by_cases e : p.1 = k
    · have e1 : lk (p :: l) k = some p.2 := by simp [lk, List.find?_cons, e]
      rw [e1, valV_pos (by rw [e])]
      exact ⟨fun a ea => ⟨v, rfl, by cases ea; exact h2⟩, fun z => by cases z⟩
    · have e1 : lk (p :: l) k = lk l k := by simp [lk, List.find?_cons, e]
      rw [e1, valV_neg (fun z => e (nK_eq.mp z))]
      exact ih
theorem KR.any : ∀ {l : List (Nat × α)} {m : List (L2.Key × V)} {k : Nat}, KR K H emb l m → (m.any fun kv => decide (kv.1 = nK k)) = l.any fun p => decide (p.1 = k)
  | [], _, k, h => by
    cases h
    rfl
  | p :: l, _, k, ⟨v, r, h1, h2, h3⟩ => by
    subst h1
    rw [List.any_cons, List.any_cons, KR.any h3]
    congr 1
    exact decide_eq_decide.mpr nK_eq
theorem KR.map : ∀ {l : List (Nat × α)} {m : List (L2.Key × V)} {k : Nat} {a : α} {v : V}, KR K H emb l m → Rp K H (emb a) v → KR K H emb (l.map fun p => if p.1 = k then (p.1, a) else p) (m.map fun kv => if kv.1 = nK k then (kv.1, v) else kv)
  | [], _, k, a, v, h, _ => by
    cases h
    rfl
  | p :: l, _, k, a, v, ⟨w, r, h1, h2, h3⟩, hv => by
    subst h1
    rw [List.map_cons, List.map_cons]
    by_cases e : p.1 = k
    · rw [if_pos e, if_pos (nK_eq.mpr e)]
      exact ⟨v, _, rfl, hv, KR.map h3 hv⟩
    · rw [if_neg e, if_neg (fun z => e (nK_eq.mp z))]
      exact ⟨w, _, rfl, h2, KR.map h3 hv⟩
theorem KR.append : ∀ {l l2 : List (Nat × α)} {m m2 : List (L2.Key × V)}, KR K H emb l m → KR K H emb l2 m2 → KR K H emb (l ++ l2) (m ++ m2)
  | [], _, _, _, h, h2 => by
    cases h
    exact h2
  | p :: l, _, _, _, ⟨w, r, h1, h2, h3⟩, q => by
    subst h1
    exact ⟨w, _, rfl, h2, KR.append h3 q⟩
theorem KR.put {l : List (Nat × α)} {m : List (L2.Key × V)} {k : Nat} {a : α} {v : V} (h : KR K H emb l m) (hv : Rp K H (emb a) v) : KR K H emb (putN l k a) (putK m (nK k) v) := by
  unfold putN putK
  rw [h.any]
  split
  · exact h.map hv
  · exact h.append ⟨v, [], rfl, hv, rfl⟩
theorem KR.drop : ∀ {l : List (Nat × α)} {m : List (L2.Key × V)} {k : Nat}, KR K H emb l m → KR K H emb (dropN l k) (dropK m (nK k))
  | [], _, k, h => by
    cases h
    rfl
  | p :: l, _, k, ⟨w, r, h1, h2, h3⟩ => by
    subst h1
    unfold dropN dropK
    rw [List.filter_cons, List.filter_cons]
    by_cases e : p.1 = k
    · rw [if_neg (by simp [e]), if_neg (by simp [e])]
      exact KR.drop h3
    · rw [if_pos (by simp [e]), if_pos (by
        rw [decide_eq_true_iff]
        exact fun z => e (nK_eq.mp z))]
      exact ⟨w, _, rfl, h2, KR.drop h3⟩
theorem KR.of : ∀ {l : List (Nat × α)} {xs : List V}, Rps K H (l.map fun p => emb p.2) xs → KR K H emb l (((l.map fun p => (p.1 : Int)).map Sum.inl).zip xs)
  | [], _, h => by
    cases h
    rfl
  | p :: l, _, h => by
    obtain ⟨x, r, rfl, h1, h2⟩ := h
    exact ⟨x, _, rfl, h1, KR.of h2⟩
theorem KR.back : ∀ {l : List (Nat × α)} {m : List (L2.Key × V)}, KR K H emb l m → ∃ xs, m = ((l.map fun p => (p.1 : Int)).map Sum.inl).zip xs ∧ Rps K H (l.map fun p => emb p.2) xs
  | [], _, h => ⟨[], by cases h; rfl, .nil⟩
  | p :: l, _, ⟨w, r, h1, h2, h3⟩ => by
    subst h1
    obtain ⟨xs, e, h4⟩ := KR.back h3
    exact ⟨w :: xs, by rw [e]; rfl, .cons h2 h4⟩
theorem dcD_rp {l : List (Nat × α)} {v : V} : Rp K H (dcD emb l) v ↔ ∃ a m, v = .ref a ∧ H a = some (.dK m) ∧ KR K H emb l m := by
  constructor
  · rintro ⟨a, xs, h1, h2, h3⟩
    exact ⟨a, _, h1, h2, KR.of h3⟩
  · rintro ⟨a, m, h1, h2, h3⟩
    obtain ⟨xs, rfl, h4⟩ := h3.back
    exact ⟨a, xs, h1, h2, h4⟩
/-- none, or what stands there -/
def opD (emb : α → D) : Option α → D
  | none => .non
  | some a => emb a
variable {l : List (Nat × α)} {k : Nat} {z : α} {tk tv : TE}
theorem gv_dget (h : Gv K te σ H (dcD emb l)) (hk : Gv K tk σ H (nD k)) (hz : lk l k = some z) : Gv K (tDGet te tk) σ H (emb z) := fun H1 e Q q => h H1 e _ fun v H2 e2 r => hk H2 (e.trans e2) _ fun y H3 e3 ry => by
  obtain ⟨a, m, rfl, h1, h2⟩ := dcD_rp.mp (r.ext e3)
  have ey : y = .int k := ry
  subst ey
  obtain ⟨w, h3, h4⟩ := h2.val.1 z hz
  exact ⟨a, w, rfl, h3 ▸ DGet.k h1 (k := nK k), q w H3 (e2.trans e3) h4⟩
theorem KR.dget {m : List (L2.Key × V)} (h : KR K H emb l m) : ∃ o, valV m (nK k) = o ∧ o.isSome = (lk l k).isSome ∧ Rp K H (opD emb (lk l k)) (o.getD .non) := by
  cases hz : lk l k with
  | none => exact ⟨none, h.val.2 hz, rfl, rfl⟩
  | some z =>
    obtain ⟨w, h3, h4⟩ := h.val.1 z hz
    exact ⟨some w, h3, rfl, h4⟩
theorem gv_dget1 (h : Gv K te σ H (dcD emb l)) (hk : Gv K tk σ H (nD k)) : Gv K (tDGet1 te tk) σ H (opD emb (lk l k)) := fun H1 e Q q => h H1 e _ fun v H2 e2 r => by
  obtain ⟨a, m, rfl, h1, h2⟩ := dcD_rp.mp r
  refine ⟨a, rfl, .inl ⟨m, .inl h1⟩, hk H2 (e.trans e2) _ fun y H3 e3 ry => ?_⟩
  have ey : y = .int k := ry
  subst ey
  obtain ⟨o, h3, _, h4⟩ := (h2.ext e3).dget (k := k)
  exact ⟨o, h3 ▸ DGet.k (e3 _ _ h1) (k := nK k), q _ H3 (e2.trans e3) h4⟩
theorem gv_din (hk : Gv K tk σ H (nD k)) (h : Gv K te σ H (dcD emb l)) : Gv K (tDIn tk te) σ H (.bl (lk l k).isSome) := fun H1 e Q q => hk H1 e _ fun y H2 e2 ry => h H2 (e.trans e2) _ fun v H3 e3 r => by
  obtain ⟨a, m, rfl, h1, h2⟩ := dcD_rp.mp r
  have ey : y = .int k := ry
  subst ey
  obtain ⟨o, h3, h4, _⟩ := h2.dget (k := k)
  exact ⟨a, o, rfl, h3 ▸ DGet.k h1 (k := nK k), by rw [h4]; exact q _ H3 (e2.trans e3) rfl⟩
theorem gv_dnotin (hk : Gv K tk σ H (nD k)) (h : Gv K te σ H (dcD emb l)) : Gv K (tDNotIn tk te) σ H (.bl (!(lk l k).isSome)) := fun H1 e Q q => hk H1 e _ fun y H2 e2 ry => h H2 (e.trans e2) _ fun v H3 e3 r => by
  obtain ⟨a, m, rfl, h1, h2⟩ := dcD_rp.mp r
  have ey : y = .int k := ry
  subst ey
  obtain ⟨o, h3, h4, _⟩ := h2.dget (k := k)
  exact ⟨a, o, rfl, h3 ▸ DGet.k h1 (k := nK k), by rw [h4]; exact q _ H3 (e2.trans e3) rfl⟩
theorem gn_sortedD (h : Gv K te σ H (dcD emb l)) (hl : l.length < 64) : GvN K (tCB (fun xs H Q => ∃ (a : Addr) (kvs : List (L2.Key × V)) (ks : List Int), xs = [.ref a] ∧ Rd H a (.dK kvs) ∧ kvs.map (·.1) = ks.map Sum.inl ∧ ks.length < 64 ∧
    ∀ (ys : List Int) (p : Addr), ys.Perm ks → ys.Pairwise (· ≤ ·) → H p = none → Q (.ref p) (upd H p (.lst (ys.map V.int)))) (tCons te tNil)) σ H ((srt (l.map fun p => (p.1 : Int))).map D.int) := gn_cb (ga_cons h ga_nil) fun H1 e vs rs Q q => by
  obtain ⟨v, rfl, r⟩ := one_of rs
  obtain ⟨a, m, rfl, h1, h2⟩ := dcD_rp.mp r
  refine ⟨a, m, _, rfl, .inl h1, h2.keys, by rw [List.length_map]; exact hl, fun ys p hp hs hn => ?_⟩
  rw [srt_uniq hp hs]
  exact q p _ _ hn (Ext.upd hn) upd_same Rps.ints
/-- a new dict -/
def GvDN (K : PySem.W.Frag) (te : TE) (σ : L2.St) (H : Hp) (emb : α → D) (l : List (Nat × α)) : Prop := ∀ H1, Ext H H1 → ∀ Q : VK, (∀ p m H2, H1 p = none → Ext H1 H2 → H2 p = some (.dK m) → KR K H2 emb l m → Q (.ref p) H2) → te σ H1 Q
theorem GvDN.gv (h : GvDN K te σ H emb l) : Gv K te σ H (dcD emb l) := fun H1 e Q q => h H1 e Q fun p m H2 hp e2 h2 r => q _ H2 e2 (dcD_rp.mpr ⟨p, m, rfl, h2, r⟩)
theorem gd_new : GvDN K tDNewK σ H emb [] := fun H1 e Q q p hp => q p [] _ hp (Ext.upd hp) upd_same rfl
theorem gd_copy (h : Gv K te σ H (dcD emb l)) : GvDN K (tCB (fun xs H Q => ∃ (a : Addr) (kvs : List (L2.Key × V)), xs = [.ref a] ∧ Rd H a (.dK kvs) ∧ ∀ p, H p = none → Q (.ref p) (upd H p (.dK kvs))) (tCons te tNil)) σ H emb l := fun H1 e Q q =>
  h H1 e _ fun v H2 e2 r => by
    obtain ⟨a, m, rfl, h1, h2⟩ := dcD_rp.mp r
    exact ⟨a, m, rfl, .inl h1, fun p hp => q p m _ (fresh_back e2 hp) (e2.trans (Ext.upd hp)) upd_same (h2.ext (Ext.upd hp))⟩
theorem gd_disp [hp0 : Pu (emb z)] (hk : Gv K tk σ H (nD k)) (hv : Gv K tv σ H (emb z)) : GvDN K (tDisp [(tk, tv)]) σ H emb [(k, z)] := fun H1 e Q q p hp => by
  have e0 : Ext H1 (upd H1 p (.dK [])) := Ext.upd hp
  refine hk _ (e.trans e0) _ fun y H2 e2 ry => hv H2 ((e.trans e0).trans e2) _ fun v H3 e3 rv => ⟨e3 _ _ (e2 _ _ upd_same), [(nK k, v)], ?_, by simp, ?_⟩
  · have ey : y = .int k := ry
    subst ey
    rfl
  · have e5 : Ext H1 (upd H3 p (.dK [(nK k, v)])) := fun a o ha => by
      rw [upd_ne (ne_of_none ha hp)]
      exact e3 _ _ (e2 _ _ (e0 _ _ ha))
    refine q p [(nK k, v)] _ hp e5 upd_same ⟨v, [], rfl, rv.gr (Gr.updD (e3 _ _ (e2 _ _ upd_same))) _ hp0.pu, rfl⟩
end
end
end K38

set_option Elab.async false
set_option linter.all false
set_option maxRecDepth 100000
set_option maxHeartbeats 4000000
namespace K38
open PySem PySem.Spec PyProof.Rows L2
/-- != of tuples: the same values, or first texts that differ, one of them alone -/
def rNeT (K : PySem.W.Frag) : R2 := fun x y H Q => ∃ ds es, (Rp K H (.tup ds) x ∧ Rp K H (.tup es) y) ∧ ((es = ds ∧ D.dets ds = true ∧ D.deps ds ≤ 50 ∧ Q (.bl false) H) ∨ ∃ s1 s2 r1 r2, ds = .str s1 :: r1 ∧ es = .str s2 :: r2 ∧ (s1 == s2) = false ∧ (r1 = [] ∨ r2 = []) ∧ Q (.bl true) H)
section
variable {X : Cx} {k : Nat}
open SeqAt
theorem op_neT (hr : Room k X.A) : OpR X (compareOp .NotEq) (rNeT X.K) := by
  intro pins s σ H x y u v Q I ru rv h
  obtain ⟨ds, es, ⟨rx, ry⟩, h⟩ := h
  have hu := hr.units
  obtain ⟨a, xs, rfl, h1, h2⟩ := rx
  obtain ⟨b, ys, rfl, h3, h4⟩ := ry
  cases (show u = .ref a from ru)
  cases (show v = .ref b from rv)
  obtain ⟨its, r1, p1, z1⟩ := I.tuple (SqT.of h1)
  obtain ⟨its2, r2, p2, z2⟩ := I.tuple (SqT.of h3)
  rcases h with ⟨rfl, hd, hn, q⟩ | ⟨s1, s2, t1, t2, rfl, rfl, hs, ht, q⟩
  · have q1 := RcNeAt.tuples (A := X.A) (e := fun _ => true) p1 p2 (by omega) fun j l1 l2 => det_eqs I X.A.in1 _ hd (by rw [Around.in1_units]; omega) h2 h4 r1 r2 j (by simpa using l1) (by simpa using l2)
    have e : (its.toArray.size == its2.toArray.size) = true := by
      rw [List.size_toArray, List.size_toArray, ← r1.length, ← r2.length, h2.len, h4.len, beq_self_eq_true]
    rw [all_yes, e] at q1
    exact q1 X.prog X.w X.xe _ ⟨.bl false, H, I, rfl, q⟩
  · obtain ⟨x1, xr, rfl, hx1, hx2⟩ := h2
    obtain ⟨y1, yr, rfl, hy1, hy2⟩ := h4
    have ex : x1 = .str s1 := hx1
    have ey : y1 = .str s2 := hy1
    subst ex ey
    cases r1 with
    | cons a1 a2 =>
      rename_i u1 us
      cases r2 with
      | cons b1 b2 =>
        rename_i v1 vs
        obtain ⟨k1, rfl⟩ := (show ∃ t, u1 = Value.str s1 t from a1)
        obtain ⟨k2, rfl⟩ := (show ∃ t, v1 = Value.str s2 t from b1)
        have q1 := RcNeAt.tuples (A := X.A) (e := fun _ => false) p1 p2 (by omega) fun j l1 l2 => by
          have hj : j = 0 := by
            rcases ht with rfl | rfl
            · have e1 : xr = [] := hx2
              subst e1
              cases a2
              simp at l1
              exact l1
            · have e1 : yr = [] := hy2
              subst e1
              cases b2
              simp at l2
              exact l2
          subst hj
          have q2 := EqAt.str_str (A := X.A.in1) (s := s) s1 k1 s2 k2
          rw [hs] at q2
          exact q2
        have e : ((List.range (min (Value.str s1 k1 :: us).toArray.size (Value.str s2 k2 :: vs).toArray.size)).all fun _ => false) = false := by
          rw [List.size_toArray, List.size_toArray, List.length_cons, List.length_cons, show min (us.length + 1) (vs.length + 1) = min us.length vs.length + 1 by omega, List.range_succ_eq_map]
          rfl
        rw [e] at q1
        exact q1 X.prog X.w X.xe _ ⟨.bl true, H, I, rfl, q⟩
end
section
variable {K : PySem.W.Frag} {H : Hp} {σ : L2.St} {ta tb : TE} {ds r1 r2 : List D} {s1 s2 : Str}
theorem gv_neT (hd : D.dets ds = true) (hn : D.deps ds ≤ 50) (ha : Gv K ta σ H (.tup ds)) (hb : Gv K tb σ H (.tup ds)) : Gv K (tOp (rNeT K) ta tb) σ H (.bl false) :=
  gv_op ha hb fun H1 e v w rv rw Q q => ⟨ds, ds, ⟨rv, rw⟩, .inl ⟨rfl, hd, hn, q _ H1 Ext.rfl' rfl⟩⟩
theorem gv_neT1 (hs : (s1 == s2) = false) (ht : r1 = [] ∨ r2 = []) (ha : Gv K ta σ H (.tup (.str s1 :: r1))) (hb : Gv K tb σ H (.tup (.str s2 :: r2))) : Gv K (tOp (rNeT K) ta tb) σ H (.bl true) :=
  gv_op ha hb fun H1 e v w rv rw Q q => ⟨_, _, ⟨rv, rw⟩, .inr ⟨s1, s2, r1, r2, rfl, rfl, hs, ht, q _ H1 Ext.rfl' rfl⟩⟩
end
end K38

set_option Elab.async false
set_option linter.all false
set_option maxRecDepth 100000
set_option maxHeartbeats 4000000
namespace K38
open PySem PySem.Spec PyProof.Rows L2
instance {G : Sg} {d : D} {i : Nat} [h : PuG G] [hd : Pu d] : PuG (G.set i (some d)) := ⟨fun j c e => by
  rw [List.getElem?_set] at e
  split at e
  · split at e
    · have e2 : d = c := by simpa using e
      exact e2 ▸ hd.pu
    · cases e
  · exact h.pu j c e⟩
instance {ds : List D} {n : Nat} [h : Pus ds] : PuG (ds.map some ++ List.replicate n none) := ⟨fun j c e => by
  rw [List.getElem?_append] at e
  split at e
  · rw [List.getElem?_map] at e
    cases q : ds[j]? with
    | none =>
      rw [q] at e
      cases e
    | some x =>
      rw [q] at e
      have e2 : x = c := by simpa using e
      exact e2 ▸ pus_iff.mp h.pus x (List.mem_of_getElem? q)
  · rw [List.getElem?_replicate] at e
    split at e <;> simp at e⟩
section
variable {K : PySem.W.Frag} {H H' : Hp} {G : Sg} {σ : L2.St} {ta tb te tx tl : TE} {m n : Nat} {b : Bool} {ds : List D}
theorem s_nop {nx : L2.St → Hp → Prop} {rt : V → Hp → Prop} {bk ct : L2.St → Hp → Prop} (h : nx σ H) : tNext ⟨nx, rt, bk, ct⟩ σ H := h
theorem gv_nat (n : Nat) : Gv K (tC (.int (n : Int))) σ H (nD n) := gv_int
theorem gv_neg1 : Gv K (tUn (rU fun i => V.int (-i)) (tC (.int 1))) σ H (.int (-1)) := fun H1 e Q q => ⟨1, rfl, q _ H1 Ext.rfl' rfl⟩
theorem gv_addN (ha : Gv K ta σ H (nD m)) (hb : Gv K tb σ H (nD n)) : Gv K (tOp (rI0 fun i j => .int (i + j)) ta tb) σ H (nD (m + n)) := (gv_I0 (f := fun i j => i + j) ha hb).is (by rw [nD, Int.natCast_add])
theorem gv_subN (ha : Gv K ta σ H (nD m)) (hb : Gv K tb σ H (nD n)) (h : n ≤ m) : Gv K (tOp (rI0 fun i j => .int (i - j)) ta tb) σ H (nD (m - n)) := (gv_I0 (f := fun i j => i - j) ha hb).is (by rw [nD, Int.ofNat_sub h])
theorem gv_mulN (ha : Gv K ta σ H (nD m)) (hb : Gv K tb σ H (nD n)) (h : m < 18446744073709551616 ∨ n < 18446744073709551616) : Gv K (tOp (rI CMul fun i j => .int (i * j)) ta tb) σ H (nD (m * n)) := (gv_I (f := fun i j => i * j) ha hb (by
  have e : (2 : Int) ^ 64 = 18446744073709551616 := by decide
  show (-(2 ^ 64) < (m : Int) ∧ (m : Int) < 2 ^ 64) ∨ (-(2 ^ 64) < (n : Int) ∧ (n : Int) < 2 ^ 64)
  rw [e]
  omega)).is (by rw [nD, Int.natCast_mul])
theorem gv_divN (ha : Gv K ta σ H (nD m)) (hb : Gv K tb σ H (nD n)) (h1 : 0 < n) (h2 : n < 1073741824) : Gv K (tOp (rI CDiv fun i j => .int (i / j)) ta tb) σ H (nD (m / n)) := (gv_I (f := fun i j => i / j) ha hb ⟨by omega, by omega⟩).is (by rw [nD, Int.natCast_ediv])
theorem gv_modN (ha : Gv K ta σ H (nD m)) (hb : Gv K tb σ H (nD n)) (h1 : 0 < n) : Gv K (tOp (rI (fun _ j => 0 < j) fun i j => .int (i % j)) ta tb) σ H (nD (m % n)) := (gv_I (f := fun i j => i % j) (C := fun _ j => 0 < j) ha hb (by omega)).is (by rw [nD, Int.natCast_emod])
theorem gv_shrN (ha : Gv K ta σ H (nD m)) (hb : Gv K tb σ H (nD n)) : Gv K (tOp (rI (fun _ j => 0 ≤ j) fun i j => .int (i / 2 ^ j.toNat)) ta tb) σ H (nD (m / 2 ^ n)) := (gv_I (f := fun i j => i / 2 ^ j.toNat) (C := fun _ j => 0 ≤ j) ha hb (by omega)).is (by
  rw [Int.toNat_natCast]
  have e : ((2 ^ n : Nat) : Int) = 2 ^ n := by simp
  rw [← e, nD, Int.natCast_ediv])
theorem gv_shlN (ha : Gv K ta σ H (nD m)) (hb : Gv K tb σ H (nD n)) (h1 : m < 18446744073709551616) (h2 : n ≤ 1000000) : Gv K (tOp (rI CPow fun i j => .int (i * 2 ^ j.toNat)) ta tb) σ H (nD (m * 2 ^ n)) := (gv_I (f := fun i j => i * 2 ^ j.toNat) ha hb ⟨by omega, by omega, by
  have e : (2 : Nat) ^ 64 = 18446744073709551616 := by decide
  rw [e]
  omega⟩).is (by
  rw [Int.toNat_natCast]
  have e : ((2 ^ n : Nat) : Int) = 2 ^ n := by simp
  rw [← e, nD, Int.natCast_mul])
theorem gv_and15 (ha : Gv K ta σ H (nD m)) : Gv K (tOp (rI0 fun i j => .int (Builtin.bitAnd i j)) ta (tC (.int 15))) σ H (nD (m % 16)) := (gv_I0 (f := fun i j => Builtin.bitAnd i j) ha gv_int).is (by
  rw [bitAnd_m4]
  rfl)
theorem gv_and1 (ha : Gv K ta σ H (nD m)) : Gv K (tOp (rI0 fun i j => .int (Builtin.bitAnd i j)) ta (tC (.int 1))) σ H (nD (m % 2)) := (gv_I0 (f := fun i j => Builtin.bitAnd i j) ha gv_int).is (by
  rw [bitAnd_m1]
  rfl)
theorem gv_xorN (ha : Gv K ta σ H (nD m)) (hb : Gv K tb σ H (nD n)) : Gv K (tOp (rI0 fun i j => .int (Builtin.bitXor i j)) ta tb) σ H (nD (m ^^^ n)) := (gv_I0 (f := fun i j => Builtin.bitXor i j) ha hb).is (by rw [Bits.bitXor_pp (by omega) (by omega), Int.toNat_natCast, Int.toNat_natCast])
theorem gv_ltN (ha : Gv K ta σ H (nD m)) (hb : Gv K tb σ H (nD n)) : Gv K (tOp (rI0 fun i j => .bl (decide (i < j))) ta tb) σ H (.bl (decide (m < n))) := (gv_Ib (f := fun i j => decide (i < j)) ha hb).is (by simp only [Int.ofNat_lt])
theorem gv_leN (ha : Gv K ta σ H (nD m)) (hb : Gv K tb σ H (nD n)) : Gv K (tOp (rI0 fun i j => .bl (decide (i ≤ j))) ta tb) σ H (.bl (decide (m ≤ n))) := (gv_Ib (f := fun i j => decide (i ≤ j)) ha hb).is (by simp only [Int.ofNat_le])
theorem gv_gtN (ha : Gv K ta σ H (nD m)) (hb : Gv K tb σ H (nD n)) : Gv K (tOp (rI0 fun i j => .bl (decide (i > j))) ta tb) σ H (.bl (decide (n < m))) := (gv_Ib (f := fun i j => decide (i > j)) ha hb).is (by simp only [GT.gt, Int.ofNat_lt])
theorem gv_geN (ha : Gv K ta σ H (nD m)) (hb : Gv K tb σ H (nD n)) : Gv K (tOp (rI0 fun i j => .bl (decide (i ≥ j))) ta tb) σ H (.bl (decide (n ≤ m))) := (gv_Ib (f := fun i j => decide (i ≥ j)) ha hb).is (by simp only [GE.ge, Int.ofNat_le])
theorem gv_chainN {k : Nat} (ha : Gv K ta σ H (nD k)) (hb : Gv K tb σ H (nD m)) (hc : Gv K tx σ H (nD n)) : Gv K (tChain (rI0 fun i j => .bl (decide (i ≤ j))) (rI0 fun i j => .bl (decide (i < j))) ta tb tx) σ H (.bl (decide (k ≤ m) && decide (m < n))) :=
  (gv_chainI (f := fun i j => decide (i ≤ j)) (g := fun i j => decide (i < j)) ha hb hc).is (by simp only [Int.ofNat_lt, Int.ofNat_le])
theorem gv_chainNN {k : Nat} (ha : Gv K ta σ H (nD k)) (hb : Gv K tb σ H (nD m)) (hc : Gv K tx σ H (nD n)) : Gv K (tChain (rI0 fun i j => .bl (decide (i ≤ j))) (rI0 fun i j => .bl (decide (i ≤ j))) ta tb tx) σ H (.bl (decide (k ≤ m) && decide (m ≤ n))) :=
  (gv_chainI (f := fun i j => decide (i ≤ j)) (g := fun i j => decide (i ≤ j)) ha hb hc).is (by simp only [Int.ofNat_le])
theorem gv_eqN (ha : Gv K ta σ H (nD m)) (hb : Gv K tb σ H (nD n)) : Gv K (tOp rEq ta tb) σ H (.bl (decide (m = n))) := (gv_eqI ha hb).is (by simp only [Int.ofNat_inj])
theorem gv_neN (ha : Gv K ta σ H (nD m)) (hb : Gv K tb σ H (nD n)) : Gv K (tOp rNe ta tb) σ H (.bl (!decide (m = n))) := (gv_neI ha hb).is (by simp only [Int.ofNat_inj])
theorem gv_eqStr {x y : Str} (ha : Gv K ta σ H (.str x)) (hb : Gv K tb σ H (.str y)) : Gv K (tOp rEq ta tb) σ H (.bl (decide (x = y))) := (gv_eq ha hb rfl rfl rfl).is (by simp)
theorem gv_neStr {x y : Str} (ha : Gv K ta σ H (.str x)) (hb : Gv K tb σ H (.str y)) : Gv K (tOp rNe ta tb) σ H (.bl (!decide (x = y))) := (gv_ne ha hb rfl rfl rfl).is (by simp)
theorem gv_tupS (h : Gv K ta σ H (D.seq b ds)) : Gv K (tCB (rTupQ K) (tCons ta tNil)) σ H (.tup ds) := by
  cases b with
  | true => exact gv_tupL h
  | false => exact gv_tupT h
theorem atI_nat {α : Type} {xs : List α} {n : Nat} : atI xs (n : Int) = xs[n]? := by
  by_cases h : n < xs.length
  · unfold atI
    rw [ixN_nat h]
    rfl
  · unfold atI ixN
    rw [List.getElem?_eq_none (by omega)]
    rw [if_pos (by omega), if_neg (by omega)]
    rfl
theorem gv_ixLN {d : D} (ha : Gv K ta σ H (.lst ds)) (hb : Gv K tb σ H (nD n)) (h : ds[n]? = some d) : Gv K (tOp (rIxL K) ta tb) σ H d := gv_ixL ha hb (by rw [atI_nat]; exact h)
theorem gv_ixTN {d : D} (ha : Gv K ta σ H (.tup ds)) (hb : Gv K tb σ H (nD n)) (h : ds[n]? = some d) : Gv K (tOp (rIxT K) ta tb) σ H d := gv_ixT ha hb (by rw [atI_nat]; exact h)
theorem map_nI {ns : List Nat} : ns.map nD = (ns.map fun n : Nat => (n : Int)).map D.int := by
  rw [List.map_map]
  rfl
theorem sum_nI {ns : List Nat} : (ns.map fun n : Nat => (n : Int)).sum = ((ns.sum : Nat) : Int) := by
  induction ns with
  | nil => rfl
  | cons n r ih => rw [List.map_cons, List.sum_cons, List.sum_cons, ih, Int.natCast_add]
theorem gv_sumN {ns : List Nat} (ha : Gv K ta σ H (.lst (ns.map nD))) : Gv K (tCB (rSum K) (tCons ta tNil)) σ H (nD ns.sum) := (gv_sum (ha.is (by rw [map_nI]))).is (by rw [sum_nI])
theorem gv_sumTN {ns : List Nat} (ha : Gv K ta σ H (.tup (ns.map nD))) : Gv K (tCB (rSumT K) (tCons ta tNil)) σ H (nD ns.sum) := (gv_sumT (ha.is (by rw [map_nI]))).is (by rw [sum_nI])
theorem mem_nI {n : Nat} {ns : List Nat} : ((n : Int) ∈ ns.map fun n : Nat => (n : Int)) ↔ n ∈ ns := by
  rw [List.mem_map]
  constructor
  · rintro ⟨m, h1, h2⟩
    rwa [← Int.ofNat_inj.mp h2]
  · intro h
    exact ⟨n, h, rfl⟩
theorem gv_inLN {ns : List Nat} (ha : Gv K ta σ H (nD n)) (hb : Gv K tb σ H (.lst (ns.map nD))) : Gv K (tOp (rIn K false) ta tb) σ H (.bl (decide (n ∈ ns))) := (gv_inL (neg := false) ha (hb.is (by rw [map_nI]))).is (by simp only [mem_nI]; rfl)
theorem gv_ninLN {ns : List Nat} (ha : Gv K ta σ H (nD n)) (hb : Gv K tb σ H (.lst (ns.map nD))) : Gv K (tOp (rIn K true) ta tb) σ H (.bl (!decide (n ∈ ns))) := (gv_inL (neg := true) ha (hb.is (by rw [map_nI]))).is (by simp only [mem_nI]; rfl)
theorem gv_inTN {ns : List Nat} (ha : Gv K ta σ H (nD n)) (hb : Gv K tb σ H (.tup (ns.map nD))) : Gv K (tOp (rIn K false) ta tb) σ H (.bl (decide (n ∈ ns))) := (gv_inT (neg := false) ha (hb.is (by rw [map_nI]))).is (by simp only [mem_nI]; rfl)
theorem gv_ninTN {ns : List Nat} (ha : Gv K ta σ H (nD n)) (hb : Gv K tb σ H (.tup (ns.map nD))) : Gv K (tOp (rIn K true) ta tb) σ H (.bl (!decide (n ∈ ns))) := (gv_inT (neg := true) ha (hb.is (by rw [map_nI]))).is (by simp only [mem_nI]; rfl)
theorem gn_none {ds : List D} : GvN K (tLst tNil) σ H [] := gn_lst ga_nil (by simp)
/-! ### comprehensions over one name -/
variable {α : Type} {l : List α} {emb f : α → D} {p : α → Bool} {vs : List Nat} {j i : Nat} {tt : TT} {tA : TA}
theorem gn_mapR {n : Nat} {f : Nat → D} (E : Sl K H G σ) (hx : GvA K tA σ H [nD n]) (hl : n ≤ 50000) [hf : ∀ a, Pu (f a)] (hj : j ∈ vs)
    (he : ∀ a, a < n → ∀ σ2 H2, Ext H H2 → Sl K H2 ((wipeG G vs).set j (some (nD a))) σ2 → Gv K te σ2 H2 (f a)) : GvN K (tLc (iRng1 tA) (gName j) tYes te vs) σ H ((List.range n).map f) :=
  (gn_lcR (p := fun _ => true) (f := f) E hx hl (fun a _ => tg_name hj) (fun _ _ _ _ _ _ => gt_yes) (fun a ha _ σ2 H2 e2 E2 => he a ha σ2 H2 e2 E2)).is (by rw [filter_yes])
theorem gn_mapL (E : Sl K H G σ) (hx : Gv K tl σ H (.lst (l.map emb))) (hl : l.length ≤ 50000) [hf : ∀ a, Pu (f a)] (hj : j ∈ vs)
    (he : ∀ a ∈ l, ∀ σ2 H2, Ext H H2 → Sl K H2 ((wipeG G vs).set j (some (emb a))) σ2 → Gv K te σ2 H2 (f a)) : GvN K (tLc (iList K tl) (gName j) tYes te vs) σ H (l.map f) :=
  (gn_lcL (p := fun _ => true) (f := f) E hx hl (fun a _ => tg_name hj) (fun _ _ _ _ _ _ => gt_yes) (fun a ha _ σ2 H2 e2 E2 => he a ha σ2 H2 e2 E2)).is (by rw [filter_yes])
theorem gn_mapT (E : Sl K H G σ) (hx : Gv K tl σ H (.tup (l.map emb))) (hl : l.length ≤ 50000) [hf : ∀ a, Pu (f a)] (hj : j ∈ vs)
    (he : ∀ a ∈ l, ∀ σ2 H2, Ext H H2 → Sl K H2 ((wipeG G vs).set j (some (emb a))) σ2 → Gv K te σ2 H2 (f a)) : GvN K (tLc (iTup K tl) (gName j) tYes te vs) σ H (l.map f) :=
  (gn_lcT (p := fun _ => true) (f := f) E hx hl (fun a _ => tg_name hj) (fun _ _ _ _ _ _ => gt_yes) (fun a ha _ σ2 H2 e2 E2 => he a ha σ2 H2 e2 E2)).is (by rw [filter_yes])
theorem gn_filL (E : Sl K H G σ) (hx : Gv K tl σ H (.lst (l.map emb))) (hl : l.length ≤ 50000) [hf : ∀ a, Pu (f a)] (hj : j ∈ vs)
    (ht : ∀ a ∈ l, ∀ σ2 H2, Ext H H2 → Sl K H2 ((wipeG G vs).set j (some (emb a))) σ2 → Gt tt σ2 H2 (p a))
    (he : ∀ a ∈ l, p a = true → ∀ σ2 H2, Ext H H2 → Sl K H2 ((wipeG G vs).set j (some (emb a))) σ2 → Gv K te σ2 H2 (f a)) : GvN K (tLc (iList K tl) (gName j) tt te vs) σ H ((l.filter p).map f) :=
  gn_lcL E hx hl (fun a _ => tg_name hj) ht he
theorem gn_filT (E : Sl K H G σ) (hx : Gv K tl σ H (.tup (l.map emb))) (hl : l.length ≤ 50000) [hf : ∀ a, Pu (f a)] (hj : j ∈ vs)
    (ht : ∀ a ∈ l, ∀ σ2 H2, Ext H H2 → Sl K H2 ((wipeG G vs).set j (some (emb a))) σ2 → Gt tt σ2 H2 (p a))
    (he : ∀ a ∈ l, p a = true → ∀ σ2 H2, Ext H H2 → Sl K H2 ((wipeG G vs).set j (some (emb a))) σ2 → Gv K te σ2 H2 (f a)) : GvN K (tLc (iTup K tl) (gName j) tt te vs) σ H ((l.filter p).map f) :=
  gn_lcT E hx hl (fun a _ => tg_name hj) ht he
variable {e1 e2 : α → D}
theorem gn_mapTP (E : Sl K H G σ) (hx : Gv K tl σ H (.tup (l.map fun a => .tup [e1 a, e2 a]))) (hl : l.length ≤ 50000) [hf : ∀ a, Pu (f a)] (hi : i ∈ vs) (hj : j ∈ vs)
    (he : ∀ a ∈ l, ∀ σ2 H2, Ext H H2 → Sl K H2 (((wipeG G vs).set i (some (e1 a))).set j (some (e2 a))) σ2 → Gv K te σ2 H2 (f a)) : GvN K (tLc (iTup K tl) (gTup K 2 (gCons (gName i) (gCons (gName j) gNil))) tYes te vs) σ H (l.map f) :=
  (gn_lcT (p := fun _ => true) (f := f) E hx hl (fun a _ => tg_pair hi hj) (fun _ _ _ _ _ _ => gt_yes) (fun a ha _ σ2 H2 e2 E2 => he a ha σ2 H2 e2 E2)).is (by rw [filter_yes])
theorem gn_mapLP (E : Sl K H G σ) (hx : Gv K tl σ H (.lst (l.map fun a => .tup [e1 a, e2 a]))) (hl : l.length ≤ 50000) [hf : ∀ a, Pu (f a)] (hi : i ∈ vs) (hj : j ∈ vs)
    (he : ∀ a ∈ l, ∀ σ2 H2, Ext H H2 → Sl K H2 (((wipeG G vs).set i (some (e1 a))).set j (some (e2 a))) σ2 → Gv K te σ2 H2 (f a)) : GvN K (tLc (iList K tl) (gTup K 2 (gCons (gName i) (gCons (gName j) gNil))) tYes te vs) σ H (l.map f) :=
  (gn_lcL (p := fun _ => true) (f := f) E hx hl (fun a _ => tg_pair hi hj) (fun _ _ _ _ _ _ => gt_yes) (fun a ha _ σ2 H2 e2 E2 => he a ha σ2 H2 e2 E2)).is (by rw [filter_yes])
theorem gn_filTP (E : Sl K H G σ) (hx : Gv K tl σ H (.tup (l.map fun a => .tup [e1 a, e2 a]))) (hl : l.length ≤ 50000) [hf : ∀ a, Pu (f a)] (hi : i ∈ vs) (hj : j ∈ vs)
    (ht : ∀ a ∈ l, ∀ σ2 H2, Ext H H2 → Sl K H2 (((wipeG G vs).set i (some (e1 a))).set j (some (e2 a))) σ2 → Gt tt σ2 H2 (p a))
    (he : ∀ a ∈ l, p a = true → ∀ σ2 H2, Ext H H2 → Sl K H2 (((wipeG G vs).set i (some (e1 a))).set j (some (e2 a))) σ2 → Gv K te σ2 H2 (f a)) : GvN K (tLc (iTup K tl) (gTup K 2 (gCons (gName i) (gCons (gName j) gNil))) tt te vs) σ H ((l.filter p).map f) :=
  gn_lcT E hx hl (fun a _ => tg_pair hi hj) ht he
/-! ### a list being built beside the world B -/
structure LCell (B H : Hp) (p : Addr) (xs : List V) : Prop where
  ext : Ext B H
  fx : B p = none
  at_ : H p = some (.lst xs)
variable {B : Hp} {nx : L2.St → Hp → Prop} {rt : V → Hp → Prop} {bk ct : L2.St → Hp → Prop}
theorem LCell.bs {p : Addr} {xs : List V} (c : LCell B H p xs) : Beside B H [p] := ⟨c.ext, fun a ha => by rw [List.mem_singleton.mp ha]; exact c.fx, fun a ha => by rw [List.mem_singleton.mp ha]; exact .inl ⟨xs, c.at_⟩⟩
theorem LCell.after {B' : Hp} {p : Addr} {xs : List V} (c : LCell B H p xs) (a : After B H B' H' [p]) : LCell B' H' p xs := ⟨a.bs.ext, a.bs.free p (by simp), by rw [a.at_ p (by simp)]; exact c.at_⟩
theorem LCell.set {p : Addr} {xs ys : List V} (c : LCell B H p xs) : LCell B (upd H p (.lst ys)) p ys := ⟨fun a o e => by rw [upd_ne (ne_of_none e c.fx)]; exact c.ext a o e, c.fx, upd_same⟩
theorem LCell.rp {p : Addr} {xs : List V} (c : LCell B H p xs) (r : Rps K B ds xs) : Rp K H (.lst ds) (.ref p) := ⟨p, xs, rfl, c.at_, r.ext c.ext⟩
/-- found = [] -/
theorem s_new {i : Nat} (E : Sl K H G σ) (k : ∀ p H1, H p = none → LCell H H1 p [] → Sl K H (G.set i (some (.adr p))) (σ.set i (some (.ref p))) → nx (σ.set i (some (.ref p))) H1) : tAsg (tLst tNil) (gName i) ⟨nx, rt, bk, ct⟩ σ H :=
  ⟨Nat.zero_le _, fun p hp => k p _ hp ⟨Ext.upd hp, hp, upd_same⟩ (E.set (d := .adr p) rfl)⟩
theorem s_appF {d : D} {p : Addr} {xs : List V} {i : Nat} (E : Sl K B G σ) (c : LCell B H p xs) (hi : G[i]? = some (some (.adr p))) (h : Gv K te σ B d) (hl : xs.length < 100000)
    (k : ∀ v B' H', Ext B B' → Sl K B' G σ → Rp K B' d v → LCell B' H' p (xs ++ [v]) → nx σ H') : tDrop (tBM K "list" rAppend (tVar i) (tCons (tFr te) tNil)) ⟨nx, rt, bk, ct⟩ σ H := by
  obtain ⟨w, h1, h2⟩ := E.2 i _ hi
  have ew : w = .ref p := h2
  subst ew
  refine ⟨_, h1, .inl ⟨rfl, xs, SqL.of c.at_⟩, fr_gv c.bs h fun v B' H' a r => ?_⟩
  have c2 := c.after a
  exact ⟨p, xs, v, rfl, rfl, c2.at_, sz_lt hl, k v B' _ a.b (E.ext a.b) r c2.set⟩
theorem s_appFN {es : List D} {p : Addr} {xs : List V} {i : Nat} (E : Sl K B G σ) (c : LCell B H p xs) (hi : G[i]? = some (some (.adr p))) (h : GvN K te σ B es) (hl : xs.length < 100000)
    (k : ∀ v B' H', Ext B B' → Sl K B' G σ → Rp K B' (.lst es) v → LCell B' H' p (xs ++ [v]) → nx σ H') : tDrop (tBM K "list" rAppend (tVar i) (tCons (tFr te) tNil)) ⟨nx, rt, bk, ct⟩ σ H := s_appF E c hi h.gv hl k
end
end K38

set_option Elab.async false
set_option linter.all false
set_option maxRecDepth 100000
set_option maxHeartbeats 4000000
namespace K38
open PySem PySem.Spec PyProof.Rows L2

/-! ### data of lists, tuples, frozen instances: it outlives the hiding of other cells -/
mutual
def D.sq : D → Prop
  | .any | .non | .bl _ | .int _ | .str _ | .adr _ => True
  | .at _ d => D.sq d
  | .tup ds | .lst ds => D.sqs ds
  | .dct _ ds => D.sqs ds
  | .ins c _ ds => c ∈ frozen ∧ D.sqs ds
def D.sqs : List D → Prop
  | [] => True
  | d :: ds => D.sq d ∧ D.sqs ds
end
theorem sqs_iff : ∀ {ds : List D}, D.sqs ds ↔ ∀ d ∈ ds, D.sq d
  | [] => Iff.intro (fun _ d h => nomatch h) fun _ => trivial
  | d :: ds => by
    show D.sq d ∧ D.sqs ds ↔ _
    rw [sqs_iff (ds := ds)]
    simp
/-- all but some instances kept -/
structure GrI (K : PySem.W.Frag) (H H' : Hp) : Prop where
  tup : ∀ a xs, H a = some (.tup xs) → H' a = some (.tup xs)
  lst : ∀ a xs, H a = some (.lst xs) → H' a = some (.lst xs)
  dct : ∀ a xs, H a = some (.dK xs) → H' a = some (.dK xs)
  ins : ∀ c ∈ frozen, ∀ a dx fs, H a = some (.ins (He.ga K c) dx fs) → H' a = some (.ins (He.ga K c) dx fs)
section
variable {K : PySem.W.Frag} {H H' : Hp}
mutual
theorem Rp.gi (e : GrI K H H') : ∀ (d : D) {v : V}, D.sq d → Rp K H d v → Rp K H' d v
  | .any, _, _, _ => trivial
  | .non, _, _, h => h
  | .bl _, _, _, h => h
  | .int _, _, _, h => h
  | .str _, _, _, h => h
  | .adr _, _, _, h => h
  | .at _ d, _, p, h => ⟨h.1, Rp.gi e d p h.2⟩
  | .tup ds, _, p, ⟨a, xs, h1, h2, h3⟩ => ⟨a, xs, h1, e.tup _ _ h2, Rps.gi e ds p h3⟩
  | .lst ds, _, p, ⟨a, xs, h1, h2, h3⟩ => ⟨a, xs, h1, e.lst _ _ h2, Rps.gi e ds p h3⟩
  | .dct _ ds, _, p, ⟨a, xs, h1, h2, h3⟩ => ⟨a, xs, h1, e.dct _ _ h2, Rps.gi e ds p h3⟩
  | .ins c _ ds, _, p, ⟨a, dx, xs, h1, h2, h3⟩ => ⟨a, dx, xs, h1, e.ins c p.1 _ _ _ h2, Rps.gi e ds p.2 h3⟩
theorem Rps.gi (e : GrI K H H') : ∀ (ds : List D) {xs : List V}, D.sqs ds → Rps K H ds xs → Rps K H' ds xs
  | [], _, _, h => h
  | d :: ds, _, p, ⟨x, r, h1, h2, h3⟩ => ⟨x, r, h1, Rp.gi e d p.1 h2, Rps.gi e ds p.2 h3⟩
end
/-- no class of the frozen ones is c -/
class NF (K : PySem.W.Frag) (c : Str) : Prop where
  nf : ∀ f ∈ frozen, He.ga K f ≠ He.ga K c
theorem hide_gi {c : Str} [n : NF K c] {x dx dx' : Addr} {fs : List (Str × V)} (hx : H x = some (.ins (He.ga K c) dx' fs)) (hd : H dx = some (.own x)) : GrI K H (hide [x, dx] H) := by
  have ne : ∀ a o, H a = some o → (∀ y, o ≠ .own y) → (∀ dx fs, o ≠ .ins (He.ga K c) dx fs) → hide [x, dx] H a = some o := fun a o e h1 h2 => by
    rw [hide_out]
    · exact e
    · intro ha
      rcases List.mem_cons.mp ha with rfl | ha
      · rw [hx] at e
        exact h2 _ _ (Option.some.inj e).symm
      · rw [List.mem_singleton.mp ha, hd] at e
        exact h1 _ (Option.some.inj e).symm
  refine ⟨fun a xs e => ?_, fun a xs e => ?_, fun a xs e => ?_, fun f hf a d2 fs2 e => ?_⟩
  · exact ne a _ e (fun y z => by cases z) (fun _ _ z => by cases z)
  · exact ne a _ e (fun y z => by cases z) (fun _ _ z => by cases z)
  · exact ne a _ e (fun y z => by cases z) (fun _ _ z => by cases z)
  · refine ne a _ e (fun y z => by cases z) fun d3 fs3 z => ?_
    injection z with z1
    exact n.nf f hf z1
theorem ext_hide {B : Hp} {L : List Addr} (e : Ext B H) (h : ∀ a ∈ L, B a = none) : Ext B (hide L H) := fun a o q => by
  rw [hide_out fun ha => by rw [h a ha] at q; cases q]
  exact e a o q
theorem hide_ext {L : List Addr} : Ext (hide L H) H := fun a o q => by
  by_cases ha : a ∈ L
  · rw [hide_in ha] at q
    cases q
  · rw [hide_out ha] at q
    exact q
theorem hide_mono {L : List Addr} (e : Ext H H') : Ext (hide L H) (hide L H') := fun a o q => by
  by_cases ha : a ∈ L
  · rw [hide_in ha] at q
    cases q
  · rw [hide_out ha] at q ⊢
    exact e a o q
end
section
variable {K : PySem.W.Frag} {H H' B : Hp} {G : Sg} {σ : L2.St} {te tv : TE} {tA : TA} {d : D} {c f : Str} {nx : L2.St → Hp → Prop} {rt : V → Hp → Prop} {bk ct : L2.St → Hp → Prop}
theorem LCell.mono {p : Addr} {xs : List V} (c : LCell B H p xs) (e : Ext H H') : LCell B H' p xs := ⟨c.ext.trans e, c.fx, e _ _ c.at_⟩
theorem Cell.mono {x dx C : Addr} {fs : List (Str × V)} (c : Cell B H x dx C fs) (e : Ext H H') : Cell B H' x dx C fs := ⟨c.ext.trans e, c.fx, c.fd, c.ne, e _ _ c.at_, e _ _ c.own⟩
/-- the widest world beside the instance -/
theorem Cell.hid {x dx C : Addr} {fs : List (Str × V)} (c : Cell B H x dx C fs) : Cell (hide [x, dx] H) H x dx C fs := ⟨hide_ext, hide_in (by simp), hide_in (by simp), c.ne, c.at_, c.own⟩
theorem Cell.bhid {x dx C : Addr} {fs : List (Str × V)} (c : Cell B H x dx C fs) : Ext B (hide [x, dx] H) := ext_hide c.ext fun a ha => by
  rcases List.mem_cons.mp ha with rfl | ha
  · exact c.fx
  · rw [List.mem_singleton.mp ha]
    exact c.fd
/-- self.f = e, e walked with self in sight -/
theorem s_iniH [NF K c] {x dx : Addr} {fs : List Str} {us : List V} (E : Sl K B G σ) (h0 : G[0]? = some (some (.adr x))) (cl : Cell B H x dx (He.ga K c) (fs.zip us)) (hl : us.length = fs.length) (hv : Gv K tv σ H d) (hs : D.sq d)
    (hc : Cls K (He.ga K c)) (hn : NoAttr K (He.ga K c) f) (nf : fs.contains f = false) (h1 : fs.length < 1000)
    (k : ∀ v B' H', Ext B B' → Sl K B' G σ → Cell B' H' x dx (He.ga K c) ((fs ++ [f]).zip (us ++ [v])) → (us ++ [v]).length = (fs ++ [f]).length → Rp K B' d v → nx σ H') : sFld K (tVar 0) tv f ⟨nx, rt, bk, ct⟩ σ H :=
  hv H Ext.rfl' _ fun v H1 e1 r => by
    obtain ⟨w, h2, h3⟩ := E.2 0 _ h0
    have ew : w = .ref x := h3
    subst ew
    have c2 := cl.mono e1
    refine ⟨_, h2, x, _, dx, _, rfl, c2.at_, hc, hn, by rw [List.length_zip, hl, Nat.min_self]; exact h1, ?_⟩
    rw [putF_zip hl nf]
    exact k v _ _ c2.bhid (E.ext c2.bhid) (c2.hid.set _) (by simp [hl]) (r.gi (hide_gi c2.at_ c2.own) _ hs)
theorem s_iniR {x dx : Addr} {fs : List Str} {us : List V} {ds : List D} (E : Sl K B G σ) (h0 : G[0]? = some (some (.adr x))) (cl : Cell B H x dx (He.ga K c) (fs.zip us)) (hl : us.length = fs.length) (hv : GvN K tv σ H ds)
    (hc : Cls K (He.ga K c)) (hn : NoAttr K (He.ga K c) f) (nf : fs.contains f = false) (h1 : fs.length < 1000)
    (k : ∀ p xs H1, H p = none → Ext H H1 → H1 p = some (.lst xs) → Rps K H1 ds xs → nx σ (upd H1 x (.ins (He.ga K c) dx ((fs ++ [f]).zip (us ++ [V.ref p]))))) : sFld K (tVar 0) tv f ⟨nx, rt, bk, ct⟩ σ H :=
  hv H Ext.rfl' _ fun p xs H1 hp e1 h2 r => by
    obtain ⟨w, h3, h4⟩ := E.2 0 _ h0
    have ew : w = .ref x := h4
    subst ew
    refine ⟨_, h3, x, _, dx, _, rfl, (cl.mono e1).at_, hc, hn, by rw [List.length_zip, hl, Nat.min_self]; exact h1, ?_⟩
    rw [putF_zip hl nf]
    exact k p xs H1 hp e1 h2 r
theorem s_iniV {x dx : Addr} {fs : List Str} {us : List V} (E : Sl K B G σ) (h0 : G[0]? = some (some (.adr x))) (cl : Cell B H x dx (He.ga K c) (fs.zip us)) (hl : us.length = fs.length) (hv : Gv K tv σ H d)
    (hc : Cls K (He.ga K c)) (hn : NoAttr K (He.ga K c) f) (nf : fs.contains f = false) (h1 : fs.length < 1000)
    (k : ∀ v H1, Ext H H1 → Rp K H1 d v → nx σ (upd H1 x (.ins (He.ga K c) dx ((fs ++ [f]).zip (us ++ [v]))))) : sFld K (tVar 0) tv f ⟨nx, rt, bk, ct⟩ σ H :=
  hv H Ext.rfl' _ fun v H1 e1 r => by
    obtain ⟨w, h3, h4⟩ := E.2 0 _ h0
    have ew : w = .ref x := h4
    subst ew
    refine ⟨_, h3, x, _, dx, _, rfl, (cl.mono e1).at_, hc, hn, by rw [List.length_zip, hl, Nat.min_self]; exact h1, ?_⟩
    rw [putF_zip hl nf]
    exact k v H1 e1 r
/-! ### comprehensions whose elements are new lists -/
/-- over range(n), the names of a range in one slot -/
theorem gn_mapRF {n : Nat} {f : Nat → D} {vs : List Nat} {j : Nat} (E : Sl K H G σ) (hx : GvA K tA σ H [nD n]) (hl : n ≤ 50000) (hj : j ∈ vs)
    (he : ∀ a, a < n → ∀ σ2 H2, Ext H H2 → Sl K H2 ((wipeG G vs).set j (some (nD a))) σ2 → Gv K te σ2 H2 (f a)) : GvN K (tLc (iRng1 tA) (gName j) tYes (tFr te) vs) σ H ((List.range n).map f) := fun H0 e0 Q q =>
  hx H0 e0 _ fun us H1 e1 rs => by
    obtain ⟨v, rfl, rv⟩ := one_of rs
    have ev : v = .int n := rv
    subst ev
    refine ⟨n, rfl, by omega, by omega, fun Dl hD => ?_⟩
    refine ⟨fun i m H => m = n - i ∧ i ≤ n ∧ ∃ B xs, Ext H1 B ∧ LCell B H Dl xs ∧ Rps K B ((List.range i).map f) xs, ⟨n, by simp, Nat.zero_le _, H1, [], Ext.rfl', ⟨Ext.upd hD, hD, upd_same⟩, .nil⟩, ?_⟩
    rintro i m H' ⟨rfl, hi, B, xs, e2, cl, h2⟩
    by_cases hlt : i < n
    · refine .inr ⟨?_, fun H2 => i + 1 ≤ n ∧ ∃ B xs, Ext H1 B ∧ LCell B H2 Dl xs ∧ Rps K B ((List.range (i + 1)).map f) xs, fun H2 p2 => ⟨n - (i + 1), by omega, rfl, p2⟩, fun x H2 yl => ?_⟩
      · show i < (n : Int).toNat
        omega
      · obtain ⟨rfl, rfl⟩ := yl
        have E2 : Sl K B ((wipeG G vs).set j (some (nD i))) ((L2.wipe σ vs).set j (some (.int ((0 : Int) + (i : Int))))) := ((E.ext ((e0.trans e1).trans e2)).wipe vs).set (d := nD i) (show V.int _ = V.int _ by rw [Int.zero_add])
        refine ⟨by rw [wipe_in _ hj, wipe_twice], ?_⟩
        refine gt_yes (H := H2) H2 Ext.rfl' _ fun H3 e3 => ?_
        have cl3 := cl.mono e3
        rw [if_pos rfl]
        refine fr_gv cl3.bs (he i hlt _ B ((e0.trans e1).trans e2) E2) fun y B' H4 a r => ?_
        have c2 := cl3.after a
        refine ⟨xs, c2.at_, sz_lt (by rw [h2.len, List.length_map, List.length_range]; omega), hlt, B', xs ++ [y], e2.trans a.b, c2.set, ?_⟩
        rw [List.range_succ, List.map_append]
        exact (h2.ext a.b).snoc r
    · have e : i = n := by omega
      subst e
      refine .inl ⟨?_, q Dl xs H' (fresh_back e1 hD) (e1.trans (e2.trans cl.ext)) cl.at_ (h2.ext cl.ext)⟩
      show (i : Int).toNat ≤ i
      omega
theorem rgC_even {n : Nat} (h : n = 2 ∨ n = 4 ∨ n = 8) : RgC 0 (n : Int) 2 (n / 2) := by
  rcases h with rfl | rfl | rfl <;> exact ⟨by decide, by decide, by decide, by decide⟩
/-- over range(0, n, 2) -/
theorem gn_mapR3 {n : Nat} {f : Nat → D} {vs : List Nat} {j : Nat} (E : Sl K H G σ) (hx : GvA K tA σ H [nD 0, nD n, nD 2]) (hl : n = 2 ∨ n = 4 ∨ n = 8) [hf : ∀ a, Pu (f a)] (hj : j ∈ vs)
    (he : ∀ a, a < n / 2 → ∀ σ2 H2, Ext H H2 → Sl K H2 ((wipeG G vs).set j (some (nD (2 * a)))) σ2 → Gv K te σ2 H2 (f a)) : GvN K (tLc (iRng3 tA) (gName j) tYes te vs) σ H ((List.range (n / 2)).map f) := fun H0 e0 Q q =>
  hx H0 e0 _ fun us H1 e1 rs => by
    obtain ⟨v, r, rfl, rv, rs⟩ := rs
    obtain ⟨v2, v3, rfl, rv2, rv3⟩ := two_of rs
    have ev : v = .int 0 := rv
    have ev2 : v2 = .int n := rv2
    have ev3 : v3 = .int 2 := rv3
    subst ev ev2 ev3
    refine ⟨0, n, 2, n / 2, rfl, rgC_even hl, fun Dl hD => ?_⟩
    refine lc_core (J := Itc 0 2 (n / 2)) (l := List.range (n / 2)) (emb := fun a : Nat => nD (2 * a)) (p := fun _ => true) (f := f) (G' := fun a => (wipeG G vs).set j (some (nD (2 * a)))) (E.ext (e0.trans e1)) hD (by rw [List.length_range]; omega) (fun i H2 e2 hi => ?_) (fun i H2 e2 hi => ?_) (fun i x H2 H3 e2 hy => ?_) (fun a _ => tg_name hj) (fun _ _ _ _ _ _ => gt_yes) (fun a ha _ σ2 H2 e2 E2 => he a (List.mem_range.mp ha) σ2 H2 ((e0.trans e1).trans e2) E2) fun ys H2 e2 h3 h4 => q Dl ys H2 (fresh_back e1 hD) (e1.trans e2) h3 (by rw [filter_yes] at h4; exact h4)
    · rw [List.length_range] at hi
      exact hi
    · rw [List.length_range] at hi
      exact hi
    · obtain ⟨rfl, rfl⟩ := hy
      refine ⟨rfl, fun a ha => ?_⟩
      have ea : i = a := by
        have l1 : i < (List.range (n / 2)).length := (List.getElem?_eq_some_iff.mp ha).1
        rw [List.getElem?_eq_getElem l1, List.getElem_range] at ha
        exact Option.some.inj ha
      subst ea
      show V.int _ = V.int _
      congr 1
      omega
/-! ### an instance and lists beside one world -/
theorem bs_add {L : List Addr} {p : Addr} {xs : List V} (b : Beside B H L) (c : LCell B H p xs) : Beside B H (p :: L) := ⟨b.ext, fun a ha => by
  rcases List.mem_cons.mp ha with rfl | ha
  · exact c.fx
  · exact b.free a ha, fun a ha => by
  rcases List.mem_cons.mp ha with rfl | ha
  · exact .inl ⟨xs, c.at_⟩
  · rcases b.ok a ha with q | q | ⟨C, dx, fs, q, h⟩ | ⟨x, C, fs, q, q2, h⟩
    · exact .inl q
    · exact .inr (.inl q)
    · exact .inr (.inr (.inl ⟨C, dx, fs, q, List.mem_cons_of_mem _ h⟩))
    · exact .inr (.inr (.inr ⟨x, C, fs, q, q2, List.mem_cons_of_mem _ h⟩))⟩
theorem Cell.afterL {B' : Hp} {x dx C : Addr} {fs : List (Str × V)} {L : List Addr} (c : Cell B H x dx C fs) (a : After B H B' H' L) (h1 : x ∈ L) (h2 : dx ∈ L) : Cell B' H' x dx C fs :=
  ⟨a.bs.ext, a.bs.free x h1, a.bs.free dx h2, c.ne, by rw [a.at_ x h1]; exact c.at_, by rw [a.at_ dx h2]; exact c.own⟩
theorem LCell.afterL {B' : Hp} {p : Addr} {xs : List V} {L : List Addr} (c : LCell B H p xs) (a : After B H B' H' L) (h1 : p ∈ L) : LCell B' H' p xs := ⟨a.bs.ext, a.bs.free p h1, by rw [a.at_ p h1]; exact c.at_⟩
/-- one cell set, another kept -/
theorem LCell.keep {p q : Addr} {xs : List V} {o : HO} (c : LCell B H p xs) (h : p ≠ q) (hq : B q = none) : LCell B (upd H q o) p xs := ⟨fun a u e => by rw [upd_ne (ne_of_none e hq)]; exact c.ext a u e, c.fx, by rw [upd_ne h]; exact c.at_⟩
theorem Cell.keep {x dx C q : Addr} {fs : List (Str × V)} {o : HO} (c : Cell B H x dx C fs) (h : x ≠ q) (h2 : dx ≠ q) (hq : B q = none) : Cell B (upd H q o) x dx C fs := ⟨fun a u e => by rw [upd_ne (ne_of_none e hq)]; exact c.ext a u e, c.fx, c.fd, c.ne, by rw [upd_ne h]; exact c.at_, by rw [upd_ne h2]; exact c.own⟩
theorem LCell.nex {p x dx C : Addr} {xs : List V} {fs : List (Str × V)} (c : LCell B H p xs) (d : Cell B H x dx C fs) : x ≠ p ∧ dx ≠ p := by
  constructor
  · intro e
    have h1 := d.at_
    rw [e, c.at_] at h1
    cases h1
  · intro e
    have h1 := d.own
    rw [e, c.at_] at h1
    cases h1
/-- both at the widest world -/
theorem Cell.hidL {x dx C p : Addr} {fs : List (Str × V)} {xs : List V} (c : Cell B H x dx C fs) (l : LCell B H p xs) : Cell (hide [p, x, dx] H) H x dx C fs ∧ LCell (hide [p, x, dx] H) H p xs ∧ Ext B (hide [p, x, dx] H) :=
  ⟨⟨hide_ext, hide_in (by simp), hide_in (by simp), c.ne, c.at_, c.own⟩, ⟨hide_ext, hide_in (by simp), l.at_⟩, ext_hide c.ext fun a ha => by
    rcases List.mem_cons.mp ha with rfl | ha
    · exact l.fx
    rcases List.mem_cons.mp ha with rfl | ha
    · exact c.fx
    · rw [List.mem_singleton.mp ha]
      exact c.fd⟩
/-- pure data, at the widest world beside L -/
theorem gr_hide {L : List Addr} (k : HideOk H L) (hi : ∀ a ∈ L, ∀ c ∈ frozen, ∀ dx fs, H a ≠ some (.ins (He.ga K c) dx fs)) : Gr K H (hide L H) := ⟨fun a xs e => by rw [hide_out (k.notup e)]; exact e, fun c hc a dx fs e => by
  rw [hide_out fun ha => hi a ha c hc dx fs e]
  exact e⟩
end
theorem nf_of {K : PySem.W.Frag} {mg : Str → Option Value} (T : Txt K mg) {c : Str} (j : Nat) (hj : 4 ≤ j) (h : clsL[j]? = some c) : NF K c := ⟨fun f hf => by
  have h4 : ∃ i, i < 4 ∧ clsL[i]? = some f := by
    unfold frozen at hf
    rcases List.mem_cons.mp hf with rfl | hf
    · exact ⟨0, by decide, rfl⟩
    rcases List.mem_cons.mp hf with rfl | hf
    · exact ⟨1, by decide, rfl⟩
    rcases List.mem_cons.mp hf with rfl | hf
    · exact ⟨2, by decide, rfl⟩
    rcases List.mem_cons.mp hf with rfl | hf
    · exact ⟨3, by decide, rfl⟩
    · cases hf
  obtain ⟨i, h1, h2⟩ := h4
  exact T.ne i j (by omega) h2 h⟩
theorem sqs_map {α : Type} {f : α → D} {l : List α} (h : ∀ a, D.sq (f a)) : D.sqs (l.map f) := sqs_iff.mpr fun d hd => by
  obtain ⟨a, _, rfl⟩ := List.mem_map.mp hd
  exact h a
section
variable {K : PySem.W.Frag} {H : Hp} {σ : L2.St} {te tk tm : TE} {ds : List D} {a b : Nat}
theorem gv_slFrom (h : Gv K te σ H (.tup ds)) (hk : Gv K tk σ H (nD a)) (h1 : 1 ≤ a) (h2 : a ≤ ds.length) : Gv K (tSl (rSlT K) te (tPart tk) tNoPart) σ H (.tup (ds.drop a)) :=
  gv_slT h (go_some (K := K) hk) go_none rfl (by rw [HT.sIx_nat]; omega) (by
    unfold cutD
    rw [HT.sIx_nat, HT.sIx_none, Nat.min_eq_left h2, List.take_of_length_le (by rw [List.length_drop]; exact Nat.le_refl _)])
theorem gv_slBtw (h : Gv K te σ H (.tup ds)) (hk : Gv K tk σ H (nD a)) (hm : Gv K tm σ H (nD b)) (h1 : 1 ≤ a) (h2 : a ≤ b) (h3 : b ≤ ds.length) : Gv K (tSl (rSlT K) te (tPart tk) (tPart tm)) σ H (.tup ((ds.drop a).take (b - a))) :=
  gv_slT h (go_some (K := K) hk) (go_some (K := K) hm) rfl (by rw [HT.sIx_nat]; omega) (by
    unfold cutD
    rw [HT.sIx_nat, HT.sIx_nat, Nat.min_eq_left h3, Nat.min_eq_left (by omega)])
end
end K38

set_option Elab.async false
set_option linter.all false
set_option maxRecDepth 100000
set_option maxHeartbeats 4000000
namespace K38
open PySem PySem.Spec PyProof.Rows L2
/-- min(t), a tuple of whole numbers, none empty: one of them -/
def rMinT (K : PySem.W.Frag) : RC := fun vs H Q => ∃ (a : Addr) (ns : List Int), vs = [V.ref a] ∧ SqT K H a (ns.map V.int) ∧ ns ≠ [] ∧ ∀ m ∈ ns, Q (.int m) H
section
variable {X : Cx} {k : Nat}
theorem cr_minT (hc : X.calm = true) (hr : Room k X.A) : CallR X (.builtin "min") (rMinT X.K) := by
  intro pins s σ H vs us Q I r h
  obtain ⟨a, ns, rfl, hs, hne, q⟩ := h
  obtain ⟨its, rv, hl, _⟩ := I.tuple hs
  rw [Vals.ref1 r]
  cases ns with
  | nil => exact absurd rfl hne
  | cons n ns =>
    have hl2 : s.heap.IsTuple a its.toArray := hl
    refine PySem.W.min_tuple_datum (α := Int) (x := n) (xs := ns) (I.ok.hd hc) hl2 (by simpa using PySem.W.HoldAll.of_ints rv.ints) (by have := hr.units; show X.A.units + 1 + 0 < cLine; omega) fun i v h' tk hv _ hk => ?_
    obtain ⟨z, hz⟩ : ∃ z, ((n :: ns).map V.int)[i]? = some z := by
      have hi : i < its.toArray.size := (Array.getElem?_eq_some_iff.mp hv).1
      refine ⟨_, List.getElem?_eq_getElem ?_⟩
      rw [rv.length]
      simpa using hi
    obtain ⟨u, hu, ru⟩ := rv.get hz
    have e : u = v := by
      rw [show its.toArray[i]? = its[i]? by simp, hu] at hv
      exact Option.some.inj hv
    subst e
    rw [List.getElem?_map] at hz
    cases hm : (n :: ns)[i]? with
    | none =>
      rw [hm] at hz
      cases hz
    | some m =>
      rw [hm] at hz
      cases hz
      exact ⟨.int m, H, I.kept hk, ru, q m (List.mem_of_getElem? hm)⟩
end
section
variable {K : PySem.W.Frag} {H H' : Hp} {G : Sg} {σ : L2.St} {ta tb te tx tl : TE} {nx : L2.St → Hp → Prop} {rt : V → Hp → Prop} {bk ct : L2.St → Hp → Prop}
/-- min(t) < 0 for natural numbers -/
theorem gt_minT {ns : List Nat} (ha : Gv K ta σ H (.tup (ns.map nD))) (hn : ns ≠ []) : Gt (tTest (tOp (rI0 fun i j => .bl (decide (i < j))) (tCB (rMinT K) (tCons ta tNil)) (tC (.int 0)))) σ H false := fun H1 e Q q =>
  ha H1 e _ fun v H2 e2 r => by
    obtain ⟨a, xs, rfl, h1, h2⟩ := r
    rw [map_nI] at h2
    have ex := h2.ints_eq
    subst ex
    refine ⟨a, ns.map fun n : Nat => (n : Int), rfl, SqT.of h1, by simpa using hn, fun m hm => ?_⟩
    obtain ⟨n, _, rfl⟩ := List.mem_map.mp hm
    refine ⟨n, 0, rfl, rfl, false, ?_, q H2 e2⟩
    show V.bl (decide ((n : Int) < 0)) = V.bl false
    rw [decide_eq_false (by omega)]
theorem gt_minL {ns : List Nat} (ha : Gv K ta σ H (.lst (ns.map nD))) (hn : ns ≠ []) : Gt (tTest (tOp (rI0 fun i j => .bl (decide (i < j))) (tCB (rMin K) (tCons ta tNil)) (tC (.int 0)))) σ H false := by
  obtain ⟨m, h1, h2⟩ := min_ex (ns := ns.map fun n : Nat => (n : Int)) (by simpa using hn)
  have h3 : 0 ≤ m := by
    obtain ⟨n, _, rfl⟩ := List.mem_map.mp h1
    omega
  exact (gt_test (gv_Ib (f := fun i j => decide (i < j)) (gv_minL (ha.is (by rw [map_nI])) h1 h2) gv_int)).is (decide_eq_false (by omega))
theorem gv_isC {c : Str} {d : D} [h : IsIns d c] (ha : Gv K ta σ H d) : Gv K (tCB (fun xs H Q => ∃ a dx fs, xs = [.ref a, .ref (He.ga K c)] ∧ H a = some (.ins (He.ga K c) dx fs) ∧ Q (.bl true) H) (tCons ta (tCons (tC (.ref (He.ga K c))) tNil))) σ H (.bl true) := fun H1 e Q q =>
  ha H1 e _ fun v H2 e2 r => by
    obtain ⟨a, dx, fs, rfl, h1⟩ := h.is r
    exact ⟨a, dx, fs, rfl, h1, q _ H2 e2 rfl⟩
/-- xs.extend([..]) -/
theorem s_ext {i : Nat} {p : Addr} {xs : List V} {ds : List D} (E : Sl K H G σ) (hp : H p = some (.lst xs)) (hi : G[i]? = some (some (.adr p))) (h : GvN K te σ H ds) (hl : xs.length + ds.length ≤ 100000)
    (k : ∀ ys H1, Ext H H1 → Rps K H1 ds ys → Sl K H1 G σ → H1 p = some (.lst xs) → nx σ (upd H1 p (.lst (xs ++ ys)))) : tDrop (tBM K "list" rExtend (tVar i) (tCons te tNil)) ⟨nx, rt, bk, ct⟩ σ H := by
  obtain ⟨w, h1, h2⟩ := E.2 i _ hi
  have ew : w = .ref p := h2
  subst ew
  exact ⟨_, h1, .inl ⟨rfl, xs, SqL.of hp⟩, h H Ext.rfl' _ fun q ys H2 hq e2 h3 r => ⟨p, q, xs, ys, rfl, rfl, e2 _ _ hp, h3, sz_of (by rw [r.len]; exact hl), k ys H2 e2 r (E.ext e2) (e2 _ _ hp)⟩⟩
/-! sorted, natural numbers -/
def srtN (ns : List Nat) : List Nat := ns.mergeSort (fun a b => decide (a ≤ b))
theorem srtN_perm (ns : List Nat) : (srtN ns).Perm ns := List.mergeSort_perm _ _
theorem srtN_sorted (ns : List Nat) : (srtN ns).Pairwise (· ≤ ·) := by
  have h := List.pairwise_mergeSort (le := fun a b : Nat => decide (a ≤ b)) (by intro a b c h1 h2; simp at *; omega) (by intro a b; simp; omega) ns
  exact h.imp fun h => by simpa using h
theorem srt_nI (ns : List Nat) : srt (ns.map fun n : Nat => (n : Int)) = (srtN ns).map fun n : Nat => (n : Int) := by
  refine (srt_uniq ((srtN_perm ns).map _) ?_).symm
  rw [List.pairwise_map]
  exact (srtN_sorted ns).imp fun h => by omega
theorem gn_sortedN {ns : List Nat} (ha : Gv K ta σ H (.lst (ns.map nD))) : GvN K (tCB (rSortedI K) (tCons ta tNil)) σ H ((srtN ns).map nD) := (gn_sortedL (ns := ns.map fun n : Nat => (n : Int)) (ha.is (by rw [map_nI]))).is (by rw [srt_nI, ← map_nI])
end
end K38

set_option Elab.async false
set_option linter.all false
set_option maxRecDepth 100000
set_option maxHeartbeats 4000000
namespace K38
open PySem PySem.Spec PyProof.Rows L2
open PySem.W (Datum Tup)
/-! ### sorted votes -/
def encV (v : Nat × Sig) : PyData := .tuple [.int v.1, .tuple (v.2.map fun n : Nat => .int n)]
def srtV (l : Votes) : Votes := l.mergeSort (PySem.W.dataLe false encV)
theorem srtV_perm (l : Votes) : (srtV l).Perm l := List.mergeSort_perm _ _
theorem alike_ints : ∀ a b : List Nat, PySem.W.alikeAll (a.map fun n : Nat => PyData.int n) (b.map fun n : Nat => PyData.int n) = true
  | [], b => by cases b <;> rfl
  | _ :: _, [] => rfl
  | x :: a, y :: b => by
    show (true && PySem.W.alikeAll (a.map fun n : Nat => PyData.int n) (b.map fun n : Nat => PyData.int n)) = true
    rw [alike_ints a b]
    rfl
theorem alike_V (a b : Nat × Sig) : PySem.W.alike (encV a) (encV b) = true := by
  show (true && (PySem.W.alikeAll (a.2.map fun n : Nat => PyData.int n) (b.2.map fun n : Nat => PyData.int n) && true)) = true
  rw [alike_ints]
  rfl
theorem depth_ints : ∀ a : List Nat, PyData.depthAll (a.map fun n : Nat => PyData.int n) = 0
  | [] => rfl
  | x :: a => by
    rw [List.map_cons, PyData.depthAll, depth_ints a]
    rfl
theorem dp_V {K : PySem.W.Frag} {H : Hp} {a : Nat × Sig} {v : V} (r : Rp K H (vtD a) v) : Dp K H v (encV a) := by
  have h := (hd_pair hd_nat (hd_tup hd_nat)).dp (f := fun p : Nat × Tup Nat => D.tup [nD p.1, .tup (p.2.items.map nD)]) (a.1, ⟨a.2⟩) r
  exact h
def rSortV (K : PySem.W.Frag) : RC := fun vs H Q => ∃ (a : Addr) (xs : List V) (l : Votes), vs = [V.ref a] ∧ SqL K H a xs ∧ Rps K H (l.map vtD) xs ∧ ∀ ys p, Rps K H ((srtV l).map vtD) ys → H p = none → Q (.ref p) (upd H p (.lst ys))
theorem each_back {K : PySem.W.Frag} {H : Hp} {β : Type} {f : β → D} : ∀ {us : List Value} {bs : List β}, PySem.W.EachIs (fun v b => ∃ x, RelV x v ∧ Rp K H (f b) x) us bs → ∃ xs, Vals xs us ∧ Rps K H (bs.map f) xs
  | _, _, .nil => ⟨[], .nil, .nil⟩
  | _, _, .cons ⟨x, h1, h2⟩ t => by
    obtain ⟨xs, h3, h4⟩ := each_back t
    exact ⟨x :: xs, .cons h1 h3, .cons h2 h4⟩
theorem each_fwd {K : PySem.W.Frag} {H : Hp} {β : Type} {f : β → D} : ∀ {us : List Value} {xs : List V} {bs : List β}, Vals xs us → Rps K H (bs.map f) xs → PySem.W.EachIs (fun v b => ∃ x, RelV x v ∧ Rp K H (f b) x) us bs
  | _, _, [], h, r => by
    cases r
    cases h
    exact .nil
  | _, _, b :: bs, h, r => by
    obtain ⟨x, q, rfl, h1, h2⟩ := r
    cases h with
    | cons a1 a2 => exact .cons ⟨x, a1, h1⟩ (each_fwd a2 h2)
section
variable {X : Cx} {k : Nat}
theorem cr_sortedV (hr : Room k X.A) : CallR X (.builtin "sorted") (rSortV X.K) := by
  intro pins s σ H vs us Q I r h
  obtain ⟨a, xs, l, rfl, hs, rx, q⟩ := h
  obtain ⟨its, rv, hl, hz⟩ := I.list hs
  rw [Vals.ref1 r]
  have hlen : xs.length = l.length := by rw [rx.len, List.length_map]
  have e1 := each_fwd (f := vtD) rv rx
  refine PySem.W.sorted_data (R := fun v b => ∃ x, RelV x v ∧ Rp X.K H (vtD b) x) (enc := encV) (bs := l) hl.isList e1 (e1.mono fun v b h => ?_) (fun d hd d' hd' => ?_) (PySem.W.Sortable.tuples fun b => ⟨_, _, rfl⟩) (by rw [← hlen]; exact hz) (fun b _ => ?_) fun out h1 h2 => ?_
  · obtain ⟨x, h3, h4⟩ := h
    exact Dp.reads I _ x v (dp_V h4) h3
  · obtain ⟨b, _, rfl⟩ := List.mem_map.mp hd
    obtain ⟨b', _, rfl⟩ := List.mem_map.mp hd'
    exact alike_V b b'
  · have hu := hr.units
    have : (encV b).depth ≤ 2 := by
      show max 0 (max (PyData.depthAll _ + 1) 0) + 1 ≤ 2
      rw [depth_ints]
      decide
    omega
  · obtain ⟨ys, h3, h4⟩ := each_back (f := vtD) h2
    obtain ⟨ep, he'⟩ := PyProof.Rows.sortedAll_at s.heap its out.toArray
    have hlen2 : ys.length ≤ sizeLine := by
      rw [h3.length, h1, ← hlen]
      exact hz
    exact ⟨.ref _, upd H (s.heap.objs.size + 1) (.lst ys), I.laid (t' := s.toks) (fun _ _ => PyProof.Rows.sortedAll_old) (Nat.le_succ _) ⟨hlen2, out, ep, h3, he'⟩, rfl, q ys _ h4 (I.hok.fresh (Nat.le_succ _))⟩
end
section
variable {K : PySem.W.Frag} {H H' : Hp} {σ : L2.St} {ta : TE}
theorem gn_sortedV {l : Votes} (ha : Gv K ta σ H (.lst (l.map vtD))) : GvN K (tCB (rSortV K) (tCons ta tNil)) σ H ((srtV l).map vtD) := gn_cb (ga_cons ha ga_nil) fun H1 e vs rs Q q => by
  obtain ⟨v, rfl, a, xs, rfl, h1, h2⟩ := one_of rs
  exact ⟨a, xs, l, rfl, SqL.of h1, h2, fun ys p r hn => q p ys _ hn (Ext.upd hn) upd_same (r.ext (Ext.upd hn))⟩
/-! ### sorted members -/
def srtM (l : Mem) : Mem := l.mergeSort (fun a b => decide (a.1 ≤ b.1))
theorem srtM_perm (l : Mem) : (srtM l).Perm l := List.mergeSort_perm _ _
theorem srtM_sorted (l : Mem) : (srtM l).Pairwise (fun a b => a.1 ≤ b.1) := by
  have h := List.pairwise_mergeSort (le := fun a b : Nat × Nat => decide (a.1 ≤ b.1)) (by intro a b c h1 h2; simp at *; omega) (by intro a b; simp; omega) l
  exact h.imp fun h => by simpa using h
def kP (H : Hp) (x : V) : Int × Int := match x with
  | .ref t => match H t with
    | some (.tup [.int i, .int j]) => (i, j)
    | _ => (0, 0)
  | _ => (0, 0)
theorem kP_pr {p : Nat × Nat} {x : V} (r : Rp K H (prD p) x) : ∃ t, x = .ref t ∧ H t = some (.tup [.int p.1, .int p.2]) ∧ kP H x = ((p.1 : Int), (p.2 : Int)) := by
  obtain ⟨t, xs, rfl, h1, h2⟩ := r
  obtain ⟨v, w, rfl, rv, rw⟩ := two_of h2
  cases (show v = .int _ from rv)
  cases (show w = .int _ from rw)
  refine ⟨t, rfl, h1, ?_⟩
  unfold kP
  dsimp only
  rw [h1]
theorem rps_kP : ∀ {l : Mem} {xs : List V}, Rps K H (l.map prD) xs → xs.map (kP H) = l.map fun p => ((p.1 : Int), (p.2 : Int))
  | [], _, h => by
    cases h
    rfl
  | p :: l, _, h => by
    obtain ⟨x, r, rfl, h1, h2⟩ := h
    obtain ⟨_, _, _, h3⟩ := kP_pr h1
    rw [List.map_cons, List.map_cons, h3, rps_kP h2]
theorem rps_of_k : ∀ {ys : List V} {l : Mem}, (∀ y ∈ ys, ∃ p : Nat × Nat, Rp K H (prD p) y) → ys.map (kP H) = l.map (fun p => ((p.1 : Int), (p.2 : Int))) → Rps K H (l.map prD) ys
  | [], [], _, _ => .nil
  | [], _ :: _, _, e => by simp at e
  | _ :: _, [], _, e => by simp at e
  | y :: ys, p :: l, h, e => by
    rw [List.map_cons, List.map_cons] at e
    injection e with e1 e2
    obtain ⟨q, hq⟩ := h y List.mem_cons_self
    obtain ⟨_, _, _, h3⟩ := kP_pr hq
    rw [h3] at e1
    injection e1 with e3 e4
    have eq : q = p := Prod.ext (Int.ofNat_inj.mp e3) (Int.ofNat_inj.mp e4)
    subst eq
    exact .cons hq (rps_of_k (fun z hz => h z (List.mem_cons_of_mem _ hz)) e2)
theorem map_pI {l2 : List (Int × Int)} {l : Mem} (h : l2.Perm (l.map fun p => ((p.1 : Int), (p.2 : Int)))) : ∃ l3 : Mem, l2 = l3.map (fun p => ((p.1 : Int), (p.2 : Int))) ∧ l3.Perm l := by
  let g : Int × Int → Nat × Nat := fun p => (p.1.toNat, p.2.toNat)
  have hg : ∀ p ∈ l2, (((g p).1 : Int), ((g p).2 : Int)) = p := fun p hp => by
    obtain ⟨q, _, rfl⟩ := List.mem_map.mp (h.mem_iff.mp hp)
    rfl
  refine ⟨l2.map g, ?_, ?_⟩
  · rw [List.map_map]
    conv => lhs; rw [← List.map_id l2]
    exact List.map_congr_left fun p hp => (hg p hp).symm
  · have h2 := h.map g
    rw [List.map_map] at h2
    have e : (g ∘ fun p : Nat × Nat => ((p.1 : Int), (p.2 : Int))) = id := rfl
    rw [e, List.map_id] at h2
    exact h2
theorem gn_sortedM {l : Mem} (hn : (l.map (·.1)).Nodup) (ha : Gv K ta σ H (.lst (l.map prD))) : GvN K (tCB (rSortedPO K) (tCons ta tNil)) σ H ((srtM l).map prD) := gn_cb (ga_cons ha ga_nil) fun H1 e vs rs Q q => by
  obtain ⟨v, rfl, a, xs, rfl, h1, h2⟩ := one_of rs
  have hx : ∀ x ∈ xs, ∃ p : Nat × Nat, Rp K H1 (prD p) x := fun x hx => by
    obtain ⟨i, hi, rfl⟩ := List.getElem_of_mem hx
    obtain ⟨d, hd1, hd2⟩ := h2.got (List.getElem?_eq_getElem hi)
    obtain ⟨p, _, rfl⟩ := map_got hd1
    exact ⟨p, hd2⟩
  refine ⟨a, xs, kP H1, rfl, SqL.of h1, fun x hx2 => ?_, fun ys p hs hb hp => ?_⟩
  · obtain ⟨p, hp⟩ := hx x hx2
    obtain ⟨t, h3, h4, h5⟩ := kP_pr hp
    exact ⟨t, h3, by rw [h5]; exact h4⟩
  · have hperm : (ys.map (kP H1)).Perm (l.map fun p => ((p.1 : Int), (p.2 : Int))) := by
      rw [← rps_kP h2]
      exact hb.perm.map _
    obtain ⟨l3, e3, hp3⟩ := map_pI hperm
    have hsort : l3.Pairwise (fun a b => a.1 ≤ b.1) := by
      have h3 : (ys.map (kP H1)).Pairwise (fun a b => SrtO.lexB b a = false) := List.pairwise_map.mpr hs
      rw [e3, List.pairwise_map] at h3
      exact h3.imp fun {a b} h => by
        have h4 := SrtO.lexB_no.mp h
        omega
    have el : l3 = srtM l := by
      refine List.Perm.eq_of_pairwise (le := fun a b : Nat × Nat => a.1 ≤ b.1) (fun a b ha hb2 h3 h4 => ?_) hsort (srtM_sorted l) (hp3.trans (srtM_perm l).symm)
      have ha2 := hp3.mem_iff.mp ha
      have hb3 := (srtM_perm l).mem_iff.mp hb2
      obtain ⟨i, hi, rfl⟩ := List.getElem_of_mem ha2
      obtain ⟨j, hj, rfl⟩ := List.getElem_of_mem hb3
      have hij : i = j := by
        have hpw := List.pairwise_iff_getElem.mp hn
        have he : l[i].1 = l[j].1 := by omega
        rcases Nat.lt_trichotomy i j with q | q | q
        · have h5 := hpw i j (by rw [List.length_map]; exact hi) (by rw [List.length_map]; exact hj) q
          rw [List.getElem_map, List.getElem_map] at h5
          exact absurd he h5
        · exact q
        · have h5 := hpw j i (by rw [List.length_map]; exact hj) (by rw [List.length_map]; exact hi) q
          rw [List.getElem_map, List.getElem_map] at h5
          exact absurd he.symm h5
      subst hij
      rfl
    rw [el] at e3
    refine q p ys _ hp (Ext.upd hp) upd_same ((rps_of_k (fun y hy => hx y (hb.perm.mem_iff.mp hy)) e3).ext (Ext.upd hp))
end
end K38

set_option Elab.async false
set_option linter.all false
set_option maxRecDepth 100000
set_option maxHeartbeats 4000000
namespace K38
open PySem PySem.Spec PyProof.Rows L2
/-- a block and where it stands -/
abbrev BkA := Addr × Blk
def bkA (z : BkA) : D := .at z.1 (blkD z.2)
def stD (s : Nat × BkA) : D := .tup [nD s.1, bkA s.2]
instance {z} : Pu (bkA z) := (inferInstance : Pu (.at z.1 (blkD z.2)))
instance {s} : Pu (stD s) := (inferInstance : Pu (.tup [nD s.1, bkA s.2]))
instance {z} : IsIns (bkA z) "Block" := (inferInstance : IsIns (.at z.1 (blkD z.2)) "Block")
structure CSt where
  tr : List (Nat × BkA)
  st : List (Nat × BkA)
  hal : Bool
abbrev fCl : List Str := ["hasher", "policy", "trusted", "steps", "halted"]
def cliD (w p d : Nat) (c : CSt) : D := .ins "Client" fCl [hshD w, polD p d, dcD bkA c.tr, .lst (c.st.map stD), .bl c.hal]
/-- a client's cells beside the world B -/
structure ClX (K : PySem.W.Frag) (B H : Hp) (x dx pT pS : Addr) (v1 v2 : V) (m : List (L2.Key × V)) (xs : List V) (w p d : Nat) (c : CSt) : Prop where
  ce : Cell B H x dx (He.ga K "Client") (fCl.zip [v1, v2, .ref pT, .ref pS, .bl c.hal])
  rh : Rp K B (hshD w) v1
  rp : Rp K B (polD p d) v2
  fT : B pT = none
  aT : H pT = some (.dK m)
  kr : KR K B bkA c.tr m
  lc : LCell B H pS xs
  rs : Rps K B (c.st.map stD) xs
section
variable {K : PySem.W.Frag} {mg : Str → Option Value} {B B' H H' : Hp} {x dx pT pS : Addr} {v1 v2 : V} {m : List (L2.Key × V)} {xs : List V} {w p d : Nat} {c : CSt} {G : Sg} {σ : L2.St}
abbrev clL (x dx pT pS : Addr) : List Addr := [pT, pS, x, dx]
theorem ClX.view (h : ClX K B H x dx pT pS v1 v2 m xs w p d c) : Rp K H (cliD w p d c) (.ref x) :=
  ⟨x, dx, _, rfl, h.ce.at_, .cons (h.rh.ext h.ce.ext) (.cons (h.rp.ext h.ce.ext) (.cons (dcD_rp.mpr ⟨pT, m, rfl, h.aT, h.kr.ext h.ce.ext⟩) (.cons ⟨pS, xs, rfl, h.lc.at_, h.rs.ext h.ce.ext⟩ (.cons rfl .nil))))⟩
theorem ClX.mono (h : ClX K B H x dx pT pS v1 v2 m xs w p d c) (e : Ext H H') : ClX K B H' x dx pT pS v1 v2 m xs w p d c := ⟨h.ce.mono e, h.rh, h.rp, h.fT, e _ _ h.aT, h.kr, h.lc.mono e, h.rs⟩
theorem ClX.free (h : ClX K B H x dx pT pS v1 v2 m xs w p d c) : ∀ a ∈ clL x dx pT pS, B a = none := fun a ha => by
  rcases List.mem_cons.mp ha with rfl | ha
  · exact h.fT
  rcases List.mem_cons.mp ha with rfl | ha
  · exact h.lc.fx
  rcases List.mem_cons.mp ha with rfl | ha
  · exact h.ce.fx
  · rw [List.mem_singleton.mp ha]
    exact h.ce.fd
theorem ClX.ehid (h : ClX K B H x dx pT pS v1 v2 m xs w p d c) : Ext B (hide (clL x dx pT pS) H) := ext_hide h.ce.ext h.free
theorem ClX.wide (h : ClX K B H x dx pT pS v1 v2 m xs w p d c) : ClX K (hide (clL x dx pT pS) H) H x dx pT pS v1 v2 m xs w p d c :=
  ⟨⟨hide_ext, hide_in (by simp), hide_in (by simp), h.ce.ne, h.ce.at_, h.ce.own⟩, h.rh.ext h.ehid, h.rp.ext h.ehid, hide_in (by simp), h.aT, h.kr.ext h.ehid, ⟨hide_ext, hide_in (by simp), h.lc.at_⟩, h.rs.ext h.ehid⟩
theorem ClX.hok (h : ClX K B H x dx pT pS v1 v2 m xs w p d c) : HideOk H (clL x dx pT pS) := fun a ha => by
  rcases List.mem_cons.mp ha with rfl | ha
  · exact .inr (.inl ⟨m, h.aT⟩)
  rcases List.mem_cons.mp ha with rfl | ha
  · exact .inl ⟨xs, h.lc.at_⟩
  rcases List.mem_cons.mp ha with rfl | ha
  · exact .inr (.inr (.inl ⟨_, dx, _, h.ce.at_, by simp⟩))
  · rw [List.mem_singleton.mp ha]
    exact .inr (.inr (.inr ⟨x, _, _, h.ce.own, h.ce.at_, by simp⟩))
theorem ClX.gr (T : Txt K mg) (h : ClX K B H x dx pT pS v1 v2 m xs w p d c) : Gr K H (hide (clL x dx pT pS) H) := gr_hide h.hok fun a ha f hf dx' fs z => by
  rcases List.mem_cons.mp ha with rfl | ha
  · rw [h.aT] at z
    cases z
  rcases List.mem_cons.mp ha with rfl | ha
  · rw [h.lc.at_] at z
    cases z
  rcases List.mem_cons.mp ha with rfl | ha
  · rw [h.ce.at_] at z
    injection z with z
    injection z with z1
    exact (nf_of T 5 (by decide) rfl : NF K "Client").nf f hf z1.symm
  · rw [List.mem_singleton.mp ha, h.ce.own] at z
    cases z
theorem ClX.bs (h : ClX K B H x dx pT pS v1 v2 m xs w p d c) : Beside B H (clL x dx pT pS) := ⟨h.ce.ext, h.free, h.hok⟩
/-- a step noted -/
theorem ClX.app {v : V} {s : Nat × BkA} (h : ClX K B H x dx pT pS v1 v2 m xs w p d c) (r : Rp K B (stD s) v) : ClX K B (upd H pS (.lst (xs ++ [v]))) x dx pT pS v1 v2 m (xs ++ [v]) w p d ⟨c.tr, c.st ++ [s], c.hal⟩ := by
  obtain ⟨n1, n2⟩ := h.lc.nex h.ce
  have n3 : pT ≠ pS := fun e => by
    have := h.aT
    rw [e, h.lc.at_] at this
    cases this
  exact ⟨h.ce.keep n1 n2 h.lc.fx, h.rh, h.rp, h.fT, by rw [upd_ne n3]; exact h.aT, h.kr, h.lc.set, by rw [List.map_append]; exact h.rs.snoc r⟩
/-- a block kept -/
theorem ClX.put {v : V} {k : Nat} {z : BkA} (h : ClX K B H x dx pT pS v1 v2 m xs w p d c) (r : Rp K B (bkA z) v) : ClX K B (upd H pT (.dK (putK m (nK k) v))) x dx pT pS v1 v2 (putK m (nK k) v) xs w p d ⟨putN c.tr k z, c.st, c.hal⟩ := by
  have n1 : x ≠ pT := fun e => by
    have := h.ce.at_
    rw [e, h.aT] at this
    cases this
  have n2 : dx ≠ pT := fun e => by
    have := h.ce.own
    rw [e, h.aT] at this
    cases this
  have n3 : pS ≠ pT := fun e => by
    have := h.aT
    rw [← e, h.lc.at_] at this
    cases this
  exact ⟨h.ce.keep n1 n2 h.fT, h.rh, h.rp, h.fT, upd_same, h.kr.put r, h.lc.keep n3 h.fT, h.rs⟩
end
/-- a client at x -/
def ClAt (K : PySem.W.Frag) (B H : Hp) (x : Addr) (w p d : Nat) (c : CSt) : Prop := ∃ dx pT pS v1 v2 m xs, ClX K B H x dx pT pS v1 v2 m xs w p d c
theorem KR.get {K : PySem.W.Frag} {H : Hp} {α : Type} {emb : α → D} : ∀ {l : List (Nat × α)} {m : List (L2.Key × V)} {i : Nat} {a : Nat × α}, KR K H emb l m → l[i]? = some a → ∃ v, m[i]? = some (nK a.1, v)
  | [], _, i, a, _, e => by simp at e
  | p :: l, _, 0, a, ⟨v, r, h1, _, _⟩, e => by
    subst h1
    have e2 : p = a := by simpa using e
    subst e2
    exact ⟨v, rfl⟩
  | p :: l, _, i + 1, a, ⟨v, r, h1, _, h3⟩, e => by
    subst h1
    obtain ⟨w, h⟩ := KR.get (i := i) h3 (by simpa using e)
    exact ⟨w, by simpa using h⟩
section
variable {K : PySem.W.Frag} {H H' : Hp} {G G0 : Sg} {σ : L2.St} {tt : TT} {te : TE}
/-- the keys of a field's dict that a test keeps -/
theorem gn_keysF {α : Type} {emb : α → D} {l : List (Nat × α)} {p : Nat → Bool} {j i : Nat} {vs : List Nat} {c f : Str} {fs : List Str} {ds : List D} {n : Nat} (E : Sl K H G σ) (hi : G[i]? = some (some (.ins c fs ds))) (hc : Cls K (He.ga K c)) (hn : NoAttr K (He.ga K c) f) (hx : fs.idxOf f = n) (hlt : n < fs.length) (hd : ds[n]? = some (dcD emb l))
    (E0 : Sl K H G0 σ) [hp : PuG G0] (hvi : i ∉ vs) (hj : j ∈ vs) (hl : l.length ≤ 50000) (ht : ∀ a ∈ l, ∀ σ2 H2, Sl K H2 ((wipeG G0 vs).set j (some (nD a.1))) σ2 → Gt tt σ2 H2 (p a.1)) (hjl : j < G0.length) : GvN K (tLockE (tLc (iKeys (tFld K (tVar i) f)) (gName j) tt (tVar j) vs)) σ H (((l.map (·.1)).filter p).map nD) := fun H1 e Q q => by
  obtain ⟨v, h1, h2⟩ := (E.ext e).2 i _ hi
  obtain ⟨a, dx, us, rfl, h3, h4⟩ := h2
  obtain ⟨u, h5, h6⟩ := h4.get hd
  obtain ⟨pT, m, rfl, h7, h8⟩ := dcD_rp.mp h6
  have ne : a ≠ pT := fun z => by
    rw [z, h7] at h3
    cases h3
  refine ⟨pT, .dK m, h7, trivial, fun od => ?_⟩
  have eHL : (upd H1 pT (.frz od (.dK m))) a = _ := (upd_ne ne).trans h3
  refine ⟨.ref a, ?_, a, _, dx, _, .ref pT, rfl, eHL, hc, hn, lookup_zip hx hlt h5, pT, od, rfl, .inl ⟨m, upd_same, fun Dl hD => ?_⟩⟩
  · exact h1
  have g : Gr K H1 (upd H1 pT (.frz od (.dK m))) := Gr.updD h7
  have EL : Sl K (upd H1 pT (.frz od (.dK m))) G0 σ := (E0.ext e).gr g
  have nD' : Dl ≠ pT := fun z => by
    rw [z, upd_same] at hD
    cases hD
  have hD1 : H1 Dl = none := by rw [← hD, upd_ne nD']
  refine lc_core (Qd := fun v H' => H' pT = some (.frz od (.dK m)) ∧ Q v (upd H' pT (.dK m))) (J := Itk pT od m) (l := l) (emb := fun a : Nat × α => nD a.1) (f := fun a : Nat × α => nD a.1) (p := fun a => p a.1) (G' := fun a => (wipeG G0 vs).set j (some (nD a.1))) EL hD hl (fun i H2 e2 hi => ?_) (fun i H2 e2 hi => ?_) (fun i x H2 H3 e2 hy => ?_) (fun a _ => tg_name hj) (fun a ha σ2 H2 e2 E2 => ht a ha σ2 H2 E2) (fun a _ _ σ2 H2 e2 E2 => gv_var E2 (by
    have hw : (wipeG G0 vs).length = G0.length := by
      have : ∀ vs : List Nat, (wipeG G0 vs).length = G0.length := fun vs => by
        induction vs with
        | nil => rfl
        | cons v r ih =>
          show ((wipeG G0 r).set v none).length = _
          rw [List.length_set, ih]
      exact this vs
    rw [List.getElem?_set_self (by rw [hw]; exact hjl)])) fun ys H2 e2 h9 h10 => ⟨e2 _ _ upd_same, q Dl ys _ hD1 (fun b o hb => ?_) (by rw [upd_ne nD']; exact h9) ?_⟩
  · exact ⟨e2 _ _ upd_same, by rw [h8.len]; exact hi⟩
  · exact ⟨e2 _ _ upd_same, by rw [h8.len]; exact hi⟩
  · obtain ⟨rfl, k, v, hk, rfl⟩ := hy
    refine ⟨rfl, fun a ha => ?_⟩
    obtain ⟨v2, h11⟩ := h8.get ha
    rw [hk] at h11
    cases h11
    rfl
  · by_cases hb2 : b = pT
    · subst hb2
      rw [upd_same, ← h7]
      exact hb ▸ rfl
    · rw [upd_ne hb2]
      exact e2 _ _ (by rw [upd_ne hb2]; exact hb)
  · have e3 : ((l.map (·.1)).filter p).map nD = (l.filter fun a => p a.1).map fun a => nD a.1 := by
      rw [List.filter_map, List.map_map]
      rfl
    rw [e3]
    have e4 : ys = _ := h10.flat_eq (f := fun a : Nat × α => nD a.1) (g := fun a : Nat × α => V.int (a.1 : Int)) fun _ _ r => r
    rw [e4]
    clear h10 e4 e3 h9
    induction (l.filter fun a => p a.1) with
    | nil => exact .nil
    | cons a r ih => exact .cons rfl ih
end
end K38

set_option Elab.async false
set_option linter.all false
set_option maxRecDepth 100000
set_option maxHeartbeats 4000000
namespace K38
open PySem PySem.Spec PyProof.Rows L2
/-- d.update(e), dicts of ints and texts as keys -/
def rUpdD : V → List V → Hp → VK → Prop := fun x vs H Q => ∃ (d o : Addr) (kvs more : List (L2.Key × V)), x = .ref d ∧ vs = [.ref o] ∧ d ≠ o ∧ H d = some (.dK kvs) ∧ H o = some (.dK more) ∧ kvs.length + more.length ≤ sizeLine ∧ Q .non (upd H d (.dK (mergeK kvs more)))
theorem mt_updateD {X : Cx} : MtM X "dict.update" rUpdD := by
  intro pins s σ H x vs v us Q I rx rv h
  obtain ⟨d, o, kvs, more, rfl, rfl, hdo, hd, ho, hz, q⟩ := h
  cases rx
  obtain ⟨u, rfl, ru⟩ := rv.one
  cases ru
  obtain ⟨z1, s1, vs1, r1, d1⟩ := dk_of I.hok hd
  obtain ⟨z2, s2, vs2, r2, d2⟩ := dk_of I.hok ho
  refine call_meetsIn PySem.F.slot_dict_update d1.typeIs PySem.F.entry_dict_update (PySem.F.args_dict_update_2 _ _) (meets_dict_update (mixKind X.prog X.w) d o hdo s2) ⟨vs1, vs2, d1, d2, by rw [← r1.length, ← r2.length]; exact hz, fun h' dd' _ hs => ?_⟩
  have hlen : (mergeK kvs more).length ≤ sizeLine := by
    have h1 := length_mergeK more kvs
    omega
  have he : ∃ q, h'.get? d = some q := let ⟨q, _, _, hq, _⟩ := dd'; ⟨q, hq⟩
  exact ⟨.non, _, d_write I (by rw [hd]; exact True.intro) hs he (dk_new hlen s1 (r2.merge r1) dd'), rfl, q⟩
def mrgN {α : Type} (l l2 : List (Nat × α)) : List (Nat × α) := l2.foldl (fun acc p => putN acc p.1 p.2) l
section
variable {K : PySem.W.Frag} {H : Hp} {α : Type} {emb : α → D}
theorem KR.merge : ∀ {l2 l : List (Nat × α)} {m m2 : List (L2.Key × V)}, KR K H emb l m → KR K H emb l2 m2 → KR K H emb (mrgN l l2) (mergeK m m2)
  | [], _, _, _, h, h2 => by
    cases h2
    exact h
  | p :: l2, l, m, _, h, ⟨v, r, e, h3, h4⟩ => by
    subst e
    show KR K H emb (mrgN (putN l p.1 p.2) l2) (mergeK (putK m (nK p.1) v) _)
    exact KR.merge (l2 := l2) (l := putN l p.1 p.2) (m := putK m (nK p.1) v) (h.put h3) h4
end
end K38

set_option Elab.async false
set_option linter.all false
set_option maxRecDepth 100000
set_option maxHeartbeats 4000000
namespace K38
open PySem PySem.Spec PyProof.Rows L2
local macro_rules | `(tactic| walk_at "gv1") => `(tactic| first | exact gv_int | exact gv_str | exact gv_non | exact gv_bl | (refine gv_var (by assumption) ?_; exact rfl) | refine gv_I0 ?_ ?_ | refine gv_Ib ?_ ?_ | refine gv_eqI ?_ ?_ | refine gv_neI ?_ ?_ | refine gt_test ?_ | refine gt_B ?_ | exact ga_nil | refine ga_cons ?_ ?_)
local macro_rules | `(tactic| walk_at "gv") => `(tactic| repeat walk_at "gv1")

section
variable {P : Program} {w : World} {K : PySem.W.Frag} {mg : Str → Option Value} {base : Heap}
/-! ### limbs_of -/
abbrev n_limbs_of : List Str := ["numbers", "found", "number", "place"]
theorem sc_limbs_of : FnScope n_limbs_of ["numbers"] (defScope s_limbs_of) := ⟨rfl, rfl, rfl, by decide +kernel, rfl, by decide +kernel, by decide +kernel⟩
def spLimbs (K : PySem.W.Frag) : Sp := spN K (α := Bool × List Nat) (fun z => NsOk z.2) (fun z => [D.seq z.1 (z.2.map nD)]) (fun z => (limbs z.2).map nD)
theorem len1 {K : PySem.W.Frag} {H : Hp} {d : D} {vs : List V} (h : Rps K H [d] vs) : vs.length = 1 := h.len
abbrev nV (n : Nat) : V := .int (n : Int)
theorem rps_nat {K : PySem.W.Frag} {H : Hp} : ∀ (ns : List Nat), Rps K H (ns.map nD) (ns.map nV)
  | [] => .nil
  | _ :: r => .cons rfl (rps_nat r)
theorem rps_nat_eq {K : PySem.W.Frag} {H : Hp} {ns : List Nat} {xs : List V} (h : Rps K H (ns.map nD) xs) : xs = ns.map nV := h.flat_eq (f := nD) (g := nV) fun _ _ r => r
theorem rp_natl {K : PySem.W.Frag} {H : Hp} {p : Addr} {ns : List Nat} (h : H p = some (.lst (ns.map nV))) : Rp K H (.lst (ns.map nD)) (.ref p) := ⟨p, _, rfl, h, rps_nat ns⟩
theorem set_mid {a b : List V} {x y : V} : (a ++ x :: b).set a.length y = a ++ y :: b := by
  rw [List.set_append_right _ _ (Nat.le_refl _), Nat.sub_self]
  rfl
theorem cal_limbs_of (T : Txt K mg) : C8.Cal P w K mg base 1 "limbs_of" (spLimbs K) [] := by
  obtain ⟨fd, F⟩ := T.f_limbs_of
  refine calD F T.g_limbs_of (fun _ _ _ _ _ _ us hl => match us, hl with | [_], _ => rfl) sc_limbs_of (fun vs H Q E h => (by obtain ⟨z, _, h, _⟩ := h; exact h.len)) (fun cdv A outer s H vs Q E hr h => ?_)
  obtain ⟨⟨b, ns⟩, hlen, hvs, k⟩ := h
  dsimp only at hlen hvs k
  refine ⟨_, (pss_cons (ps_set (i := 1) sc_limbs_of.nd rfl (Or.inl rfl) (pe_lst (pa_cons (pe_callB call_len_seq (by rfl) T.b_len (by decide +kernel) (pa_cons (pv 0) pa_nil)) pa_nil)))
      (pss_cons (ps_for PassesOwn.never rfl (pi_seq (pv 0)) (pg_name (i := 2) sc_limbs_of.nd rfl (Or.inl rfl)) (pss_cons (ps_set (i := 3) sc_limbs_of.nd rfl (Or.inl rfl) (pe_callB call_len_seq (by rfl) T.b_len (by decide +kernel) (pa_cons (pv 1) pa_nil)))
      (pss_cons (ps_expr (pe_bm PySem.F.plainAttrs_list PySem.F.slot_list_append PySem.F.type_list_append mt_append (pv 1) (pa_cons pe_int pa_nil)))
      (pss_one (ps_while PassesOwn.never (pt_cmpR op_gt (pv 2) pe_int (nomark _)) (pss_cons (ps_expr (pe_bm PySem.F.plainAttrs_list PySem.F.slot_list_append PySem.F.type_list_append mt_append (pv 1) (pa_cons (pe_op op_and (pv 2) (C8.pe_gc rfl T.c_LIMB)) pa_nil)))
      (pss_cons (ps_augS (pv 1) (pv 3) pget_list pe_int ip_add set_list)
      (pss_one (ps_set (i := 2) sc_limbs_of.nd rfl (Or.inl rfl) (pe_op op_shr (pv 2) pe_int))))))))))
      (pss_one (ps_ret (pv 1))))), ?_⟩
  have E := Sl.start (N := n_limbs_of) hvs
  refine s_asgN E (gn_lst (ga_cons (gv_lenS (gv_var E rfl)) ga_nil) (by simp)) fun p xs H1 hp e1 h1 r1 _ => ?_
  have E1 := E.set (i := 1) (d := .adr p) (v := .ref p) rfl
  have ex : xs = [nV ns.length] := by
    obtain ⟨x, rfl, rx⟩ := one_of r1
    rw [show x = .int _ from rx, List.length_map]
  subst ex
  -- for number in numbers
  let fr : Nat → List Nat := fun i => ns.length :: (ns.take i).flatMap limbs1
  refine s_forSV E1 rfl fun v rv => ⟨fun i σ' H' => Ext H H' ∧ H' p = some (.lst ((fr i).map nV)) ∧ Sl K H [some (D.seq b (ns.map nD)), some (.adr p), none, none] σ', ⟨?_, ?_, ?_, ?_⟩⟩
  · rintro i σ' H' ⟨e, _⟩
    exact rv.ext e
  · exact ⟨e1, h1, E1⟩
  · rintro i n x σ' H' hn ⟨e, hpp, E'⟩ rx
    refine g_name (E'.ext e) rx fun _ => ?_
    have E2 := E'.set (i := 2) (d := nD n) (v := x) rx
    have hni : i < ns.length := (List.getElem?_eq_some_iff.mp hn).1
    have lf : (fr i).length ≤ 90000 := by
      show (ns.length :: (ns.take i).flatMap limbs1).length ≤ 90000
      rw [List.length_cons]
      have q1 := limbs_len (ns := ns.take i) fun m hm => hlen.lt m (List.mem_of_mem_take hm)
      have q2 := hlen.len
      rw [List.length_take] at q1
      omega
    refine s_asg (E2.ext e) (gv_lenL (gv_view (gv_var (E2.ext e) rfl) (rp_natl hpp))) fun pl H3 e3 r3 _ => ?_
    have E3 := E2.set (i := 3) (d := nD (fr i).length) (v := pl) (by rw [List.length_map] at r3; exact r3)
    have e03 := e.trans e3
    refine s_app (E3.ext e03) (e3 _ _ hpp) (gv_var (E3.ext e03) rfl) gv_int (by rw [List.length_map]; omega) fun z H4 e4 r4 _ h4 => ?_
    have ez : z = nV 0 := r4
    subst ez
    have e04 : Ext H (upd H4 p (.lst ((fr i).map nV ++ [nV 0]))) := fun a o ha => by
      rw [upd_ne (ne_of_none ha hp)]
      exact e4 _ _ (e03 _ _ ha)
    -- while number > 0
    refine s_while (fun m σ' H' => ∃ (r : Nat) (L : List Nat), m = r ∧ lims n = L ++ lims r ∧ Ext H H' ∧ H' p = some (.lst ((fr i).map nV ++ nV L.length :: L.map nV)) ∧ Sl K H [some (D.seq b (ns.map nD)), some (.adr p), some (nD r), some (nD (fr i).length)] σ') n ⟨n, [], rfl, rfl, e04, upd_same, E3⟩ ?_
    rintro m σ5 H5 ⟨r, L, rfl, hL, e5, h5, E5⟩
    refine ⟨_, gt_test (gv_Ib (gv_var (E5.ext e5) rfl) gv_int), fun hb H6 e6 => ?_, fun hb H6 e6 => ?_⟩
    · have hm : 0 < m := by
        have := of_decide_eq_true hb
        omega
      have e06 := e5.trans e6
      have l1 : L.length < (lims n).length := by
        rw [hL, lims_pos hm, List.length_append, List.length_cons]
        omega
      have l2 := lims_len (hlen.lt n (List.mem_of_getElem? hn))
      refine ⟨fun σ' H' => ∃ m', m' < m ∧ ∃ (r : Nat) (L : List Nat), m' = r ∧ lims n = L ++ lims r ∧ Ext H H' ∧ H' p = some (.lst ((fr i).map nV ++ nV L.length :: L.map nV)) ∧ Sl K H [some (D.seq b (ns.map nD)), some (.adr p), some (nD r), some (nD (fr i).length)] σ', fun _ _ h => h, ?_⟩
      refine s_app (E5.ext e06) (e6 _ _ h5) (gv_var (E5.ext e06) rfl) (gv_I0 (gv_var (E5.ext e06) rfl) gv_int) (by simp; omega) fun z H7 e7 r7 _ h7 => ?_
      have ez : z = nV (m % 4294967296) := by
        have q1 : z = .int (Builtin.bitAnd (m : Int) 4294967295) := r7
        rw [q1, bitAnd_m32]
        rfl
      subst ez
      have e07 := e06.trans e7
      have e08 : Ext H (upd H7 p (.lst (((fr i).map nV ++ nV L.length :: L.map nV) ++ [nV (m % 4294967296)]))) := fun a o ha => by
        rw [upd_ne (ne_of_none ha hp)]
        exact e07 _ _ ha
      have hx : (((fr i).map nV ++ nV L.length :: L.map nV) ++ [nV (m % 4294967296)])[(fr i).length]? = some (.int (L.length : Int)) := by
        rw [List.append_assoc, List.getElem?_append_right (by rw [List.length_map]; exact Nat.le_refl _), List.length_map, Nat.sub_self]
        rfl
      refine s_augL (E5.ext e08) upd_same (gv_var (E5.ext e08) rfl) (gv_var (E5.ext e08) rfl) hx gv_int fun H9 e9 _ h9 => ?_
      have e010 : Ext H (upd H9 p (.lst ((((fr i).map nV ++ nV L.length :: L.map nV) ++ [nV (m % 4294967296)]).set (fr i).length (.int ((L.length : Int) + 1))))) := fun a o ha => by
        rw [upd_ne (ne_of_none ha hp)]
        exact e9 _ _ (e08 _ _ ha)
      refine s_asg (E5.ext e010) (gv_I (gv_var (E5.ext e010) rfl) gv_int (by decide)) fun u H11 e11 r11 _ => ?_
      have eu : u = nV (m / 4294967296) := r11
      refine ⟨m / 4294967296, by omega, m / 4294967296, L ++ [m % 4294967296], rfl, ?_, e010.trans e11, ?_, E5.set (i := 2) (d := nD (m / 4294967296)) eu⟩
      · rw [hL, lims_pos hm, List.append_assoc]
        rfl
      · rw [e11 _ _ upd_same]
        congr 2
        rw [List.append_assoc, List.cons_append, show (fr i).length = ((fr i).map nV).length by rw [List.length_map], set_mid, List.length_append, List.map_append]
        rfl
    · have hm : m = 0 := by
        have := of_decide_eq_false hb
        omega
      subst hm
      rw [lims_zero, List.append_nil] at hL
      refine ⟨e5.trans e6, ?_, E5.wk ⟨.inr rfl, .inr rfl, .inl rfl, .inl rfl, trivial⟩⟩
      · rw [e6 _ _ h5]
        congr 2
        have tk : ns.take (i + 1) = ns.take i ++ [n] := by rw [List.take_add_one, hn]; rfl
        show _ = List.map nV (ns.length :: (ns.take (i + 1)).flatMap limbs1)
        rw [tk, List.flatMap_append, ← List.cons_append, List.map_append]
        congr 1
        rw [List.flatMap_cons, List.flatMap_nil, List.append_nil, limbs1, hL]
        rfl
  · rintro σ' H' ⟨e, hpp, E'⟩
    refine s_ret (gv_var (E'.ext e) rfl) fun v H2 e2 rv2 => ?_
    have ev : v = .ref p := rv2
    subst ev
    refine k p _ H2 hp (e.trans e2) (e2 _ _ hpp) ?_
    rw [show fr ns.length = limbs ns by show _ :: (ns.take ns.length).flatMap limbs1 = _; rw [List.take_length]; rfl]
    exact rps_nat _
theorem ok_limbs {H : Hp} {b : Bool} {ns : List Nat} (h : NsOk ns) : SpN K (spLimbs K) [D.seq b (ns.map nD)] H ((limbs ns).map nD) := spN_ok (b, ns) h

/-! ### Hasher -/
abbrev n_Hasher_init : List Str := ["self", "width"]
theorem sc_Hasher_init : FnScope n_Hasher_init ["self", "width"] (defScope s_Hasher_init) := ⟨rfl, rfl, rfl, by decide +kernel, rfl, by decide +kernel, by decide +kernel⟩
abbrev spHasher (K : PySem.W.Frag) : Sp := spMk K "Hasher" (α := Nat) (fun _ => True) (fun w => [nD w]) hshD
theorem mak_Hasher (T : Txt K mg) : C8.Mak P w K mg base 1 "Hasher" (He.ga K "Hasher") (spHasher K) [] := by
  obtain ⟨fd, F⟩ := T.f_Hasher_init
  refine makD T.mk_Hasher T.g_Hasher F (fun _ _ _ _ _ _ us hl => match us, hl with | [_, _], _ => rfl) sc_Hasher_init (fun vs H Q E h => (by obtain ⟨z, x, dx, us, B, _, rfl, _, r, _⟩ := h; rw [List.length_cons, r.len]; rfl)) (fun cdv A outer s H vs Q E hr h => ?_)
  obtain ⟨z, x, dx, us, B, _, rfl, cl, r, k⟩ := h
  refine ⟨_, (pss_one (ps_fld (pv 0) (pe_fr (pv 1)) rfl)), ?_⟩
  have E := Sl.start (N := n_Hasher_init) (Rps.cons (d := .adr x) rfl r)
  refine s_ini (fs := []) (us := []) E rfl cl rfl (gv_var E rfl) T.cl_Hasher T.na_Hasher_width rfl (by decide) fun v1 B1 H1 b1 E1 c1 l1 r1 => ?_
  exact k _ (b1.trans c1.ext) (c1.rp (fs := ["width"]) (.cons r1 .nil))
abbrev n_Hasher_digest : List Str := ["self", "tag", "numbers", "first", "second", "limb"]
theorem sc_Hasher_digest : FnScope n_Hasher_digest ["self", "tag", "numbers"] (defScope s_Hasher_digest) := ⟨rfl, rfl, rfl, by decide +kernel, rfl, by decide +kernel, by decide +kernel⟩
abbrev spDig (K : PySem.W.Frag) : Sp := spD K (α := Nat × Nat × Bool × List Nat) (fun z => WOk z.1 ∧ NsOk z.2.2.2) (fun z => [hshD z.1, nD z.2.1, D.seq z.2.2.1 (z.2.2.2.map nD)]) (fun z => nD (dg z.1 z.2.1 z.2.2.2))
theorem ok_dig {H : Hp} {w tag : Nat} {b : Bool} {ns : List Nat} (h : WOk w) (h2 : NsOk ns) : SpOk K (spDig K) [hshD w, nD tag, D.seq b (ns.map nD)] H (nD (dg w tag ns)) := spD_ok (w, tag, b, ns) ⟨h, h2⟩
theorem mixAll_snoc (l : List Nat) (a : Nat) : mixAll (l ++ [a]) = mix (mixAll l) a := by
  unfold mixAll
  rw [List.foldl_append]
  rfl
theorem take_snoc {α : Type} {l : List α} {i : Nat} {a : α} (h : l[i]? = some a) : l.take (i + 1) = l.take i ++ [a] := by
  rw [List.take_add_one, h]
  rfl
theorem met_Hasher_digest (T : Txt K mg) : C8.Met P w K mg base 2 (He.ga K "Hasher") "digest" (spDig K) [] := by
  obtain ⟨fd, F⟩ := T.f_Hasher_digest
  refine metD T.cl_Hasher T.me_Hasher_digest F (fun _ _ _ _ _ _ us hl => match us, hl with | [_, _, _], _ => rfl) sc_Hasher_digest (fun vs H Q E h => (by obtain ⟨z, _, h, _⟩ := h; exact h.len)) (fun cdv A outer s H vs Q E hr h => ?_)
  obtain ⟨⟨wd, tag, b, ns⟩, ⟨hw, hns⟩, hvs, k⟩ := h
  dsimp only at hw hns hvs k
  refine ⟨_, (pss_cons (ps_set (i := 3) sc_Hasher_digest.nd rfl (Or.inl rfl) (C8.pe_gc rfl T.c_FIRST))
      (pss_cons (ps_set (i := 4) sc_Hasher_digest.nd rfl (Or.inl rfl) (C8.pe_gc rfl T.c_SECOND))
      (pss_cons (ps_for PassesOwn.never rfl (pi_list (pe_op op_cat (pe_op op_cat (pe_lst (pa_cons (pv 1) pa_nil)) (C8.pe_c (cal_limbs_of T) hr (by decide) rfl (pa_cons (pv 2) pa_nil))) (pe_lst (pa_cons (pe_fld (pv 0) rfl) (pa_cons (pe_fld (pv 0) rfl) pa_nil))))) (pg_name (i := 5) sc_Hasher_digest.nd rfl (Or.inl rfl)) (pss_cons (ps_set (i := 3) sc_Hasher_digest.nd rfl (Or.inl rfl) (pe_op op_and (pe_op op_mul (pe_op op_xor (pv 3) (pv 5)) (C8.pe_gc rfl T.c_ONE)) (C8.pe_gc rfl T.c_MASK)))
      (pss_cons (ps_set (i := 3) sc_Hasher_digest.nd rfl (Or.inl rfl) (pe_op op_xor (pv 3) (pe_op op_shr (pv 3) pe_int)))
      (pss_cons (ps_set (i := 4) sc_Hasher_digest.nd rfl (Or.inl rfl) (pe_op op_and (pe_op op_mul (pe_op op_add (pv 4) (pv 3)) (C8.pe_gc rfl T.c_OTHER)) (C8.pe_gc rfl T.c_MASK)))
      (pss_cons (ps_set (i := 4) sc_Hasher_digest.nd rfl (Or.inl rfl) (pe_op op_xor (pv 4) (pe_op op_shr (pv 4) pe_int)))
      (pss_one (ps_set (i := 3) sc_Hasher_digest.nd rfl (Or.inl rfl) (pe_op op_and (pe_op op_add (pv 3) (pv 4)) (C8.pe_gc rfl T.c_MASK)))))))))
      (pss_one (ps_ret (pe_op op_shr (pe_op op_or (pe_op op_shl (pv 3) pe_int) (pv 4)) (pe_op op_sub (C8.pe_gc rfl T.c_WHOLE) (pe_fld (pv 0) rfl)))))))), ?_⟩
  have E := Sl.start (N := n_Hasher_digest) hvs
  refine s_asg E gv_int fun v1 H1 e1 _ E1 => ?_
  refine s_asg E1 gv_int fun v2 H2 e2 _ E2 => ?_
  have el : ([nD tag] ++ (limbs ns).map nD) ++ [nD wd, nD wd] = (limbAll wd tag ns).map nD := by simp [limbAll]
  have ll : (limbs ns).length ≤ 3001 := by
    have q1 := limbs_len hns.lt
    have q2 := hns.len
    show (ns.flatMap limbs1).length + 1 ≤ 3001
    omega
  refine s_forL (l := limbAll wd tag ns) (emb := nD) ((gn_cat ((gn_cat ((gn_lst (ga_cons (gv_var E2 rfl) ga_nil) (by simp)).gv) ((gn_call (ga_cons (gv_var E2 rfl) ga_nil) (ok_limbs hns)).gv) (by simp; omega)).gv)
    ((gn_lst (ga_cons (gv_Hasher_width T (gv_var E2 rfl)) (ga_cons (gv_Hasher_width T (gv_var E2 rfl)) ga_nil)) (by simp)).gv) (by simp; omega)).is el).gv fun v H3 e3 rv =>
    ⟨fun i σ' H' => Ext H3 H' ∧ Sl K H' [some (hshD wd), none, none, some (.int (mixAll ((limbAll wd tag ns).take i)).1), some (.int (mixAll ((limbAll wd tag ns).take i)).2), none] σ', ?_, ?_, ?_, ?_⟩
  · rintro i σ' H' ⟨e, _⟩
    exact rv.ext e
  · exact ⟨Ext.rfl', (E2.ext e3).wk ⟨.inr rfl, .inl rfl, .inl rfl, .inr rfl, .inr rfl, .inl rfl, trivial⟩⟩
  · rintro i a x σ' H' ha ⟨e, E'⟩ rx
    refine g_name E' rx fun E5 => ?_
    refine s_asg E5 (gv_I0 (gv_I (gv_I0 (gv_var E5 rfl) (gv_var E5 rfl)) gv_int (.inr ⟨by decide, by decide⟩)) gv_int) fun v6 H6 e6 _ E6 => ?_
    refine s_asg E6 (gv_I0 (gv_var E6 rfl) (gv_I (gv_var E6 rfl) gv_int (by decide))) fun v7 H7 e7 _ E7 => ?_
    refine s_asg E7 (gv_I0 (gv_I (gv_I0 (gv_var E7 rfl) (gv_var E7 rfl)) gv_int (.inr ⟨by decide, by decide⟩)) gv_int) fun v8 H8 e8 _ E8 => ?_
    refine s_asg E8 (gv_I0 (gv_var E8 rfl) (gv_I (gv_var E8 rfl) gv_int (by decide))) fun v9 H9 e9 _ E9 => ?_
    refine s_asg E9 (gv_I0 (gv_I0 (gv_var E9 rfl) (gv_var E9 rfl)) gv_int) fun v10 H10 e10 _ E10 => ?_
    refine ⟨((((e.trans e6).trans e7).trans e8).trans e9).trans e10, ?_⟩
    rw [take_snoc ha, mixAll_snoc]
    exact E10.wk ⟨.inr rfl, .inl rfl, .inl rfl, .inr rfl, .inr rfl, .inl rfl, trivial⟩
  · rintro σ' H' ⟨e, E'⟩
    rw [List.take_length] at E'
    have hin := mixAll_in (limbAll wd tag ns)
    have hwl := hw.le
    have q1 : (mixAll (limbAll wd tag ns)).1.natAbs < 2 ^ 64 := by
      have := hin.1
      omega
    have q2 : (0 : Int) ≤ 128 - (wd : Int) := by omega
    refine s_ret (d := nD (dg wd tag ns)) ((gv_I (gv_I0 (gv_I (gv_var E' rfl) gv_int ⟨by decide, by decide, q1⟩) (gv_var E' rfl)) (gv_I0 gv_int (gv_Hasher_width T (gv_var E' rfl))) q2).is ?_) fun v2 H2' e2' r2 => k v2 H2' ((((e1.trans e2).trans e3).trans e).trans e2') r2
    show D.int _ = D.int _
    rw [dg_cast hwl, dgI, show ((128 : Int) - (wd : Int)).toNat = 128 - wd by omega]
    rfl
abbrev n_Hasher_is_digest : List Str := ["self", "number"]
theorem sc_Hasher_is_digest : FnScope n_Hasher_is_digest ["self", "number"] (defScope s_Hasher_is_digest) := ⟨rfl, rfl, rfl, by decide +kernel, rfl, by decide +kernel, by decide +kernel⟩
abbrev spIsD (K : PySem.W.Frag) : Sp := spD K (α := Nat × Nat) (fun z => WOk z.1) (fun z => [hshD z.1, nD z.2]) (fun z => .bl (decide (z.2 < 2 ^ z.1)))
theorem met_Hasher_is_digest (T : Txt K mg) : C8.Met P w K mg base 1 (He.ga K "Hasher") "is_digest" (spIsD K) [] := by
  obtain ⟨fd, F⟩ := T.f_Hasher_is_digest
  refine metD T.cl_Hasher T.me_Hasher_is_digest F (fun _ _ _ _ _ _ us hl => match us, hl with | [_, _], _ => rfl) sc_Hasher_is_digest (fun vs H Q E h => (by obtain ⟨z, _, h, _⟩ := h; exact h.len)) (fun cdv A outer s H vs Q E hr h => ?_)
  obtain ⟨⟨wd, n⟩, hw, hvs, k⟩ := h
  dsimp only at hw hvs k
  refine ⟨_, (pss_one (ps_ret (pe_chain op_le op_lt pe_int (pv 1) (pe_op op_shl pe_int (pe_fld (pv 0) rfl))))), ?_⟩
  have E := Sl.start (N := n_Hasher_is_digest) hvs
  have hw2 : wd ≤ 12 := hw.2
  refine s_ret (d := .bl (decide (n < 2 ^ wd))) ((gv_chainI gv_int (gv_var E rfl) (gv_I gv_int (gv_Hasher_width T (gv_var E rfl)) ⟨by omega, by omega, by decide⟩)).is ?_) fun v2 H2 e2 r2 => k v2 H2 e2 r2
  have e : ((2 ^ wd : Nat) : Int) = 2 ^ wd := by simp
  have h0 : decide ((0 : Int) ≤ (n : Int)) = true := decide_eq_true (by omega)
  rw [h0, Bool.true_and, Int.toNat_natCast, Int.one_mul, ← e]
  show D.bl (decide ((n : Int) < ((2 ^ wd : Nat) : Int))) = _
  simp only [Int.ofNat_lt]
end
end K38

set_option Elab.async false
set_option linter.all false
set_option maxRecDepth 100000
set_option maxHeartbeats 4000000
namespace K38
open PySem PySem.Spec PyProof.Rows L2
local macro_rules | `(tactic| walk_at "gv1") => `(tactic| first | exact gv_int | exact gv_str | exact gv_non | exact gv_bl | (refine gv_var (by assumption) ?_; exact rfl) | refine gv_I0 ?_ ?_ | refine gv_Ib ?_ ?_ | refine gv_eqI ?_ ?_ | refine gv_neI ?_ ?_ | refine gt_test ?_ | refine gt_B ?_ | exact ga_nil | refine ga_cons ?_ ?_)
local macro_rules | `(tactic| walk_at "gv") => `(tactic| repeat walk_at "gv1")

section
variable {P : Program} {w : World} {K : PySem.W.Frag} {mg : Str → Option Value} {base : Heap}
/-! ### collision -/
abbrev Inp := Nat × List Nat
def inD (z : Inp) : D := .tup [nD z.1, .tup (z.2.map nD)]
def insD (b : Bool) (z : Inp) : D := .tup [nD z.1, D.seq b (z.2.map nD)]
def colD (x y : Inp) : D := .tup [.str "collision", inD x, inD y]
instance {z} : Pu (inD z) := (inferInstance : Pu (.tup [nD z.1, .tup (z.2.map nD)]))
instance {x y} : Pu (colD x y) := (inferInstance : Pu (.tup [.str "collision", inD x, inD y]))
abbrev n_collision : List Str := ["first", "second"]
theorem sc_collision : FnScope n_collision ["first", "second"] (defScope s_collision) := ⟨rfl, rfl, rfl, by decide +kernel, rfl, by decide +kernel, by decide +kernel⟩
def spCol (K : PySem.W.Frag) : Sp := spD K (α := (Bool × Inp) × Bool × Inp) (fun _ => True) (fun z => [insD z.1.1 z.1.2, insD z.2.1 z.2.2]) (fun z => colD z.1.2 z.2.2)
theorem cal_collision (T : Txt K mg) : C8.Cal P w K mg base 1 "collision" (spCol K) [] := by
  obtain ⟨fd, F⟩ := T.f_collision
  refine calD F T.g_collision (fun _ _ _ _ _ _ us hl => match us, hl with | [_, _], _ => rfl) sc_collision (fun vs H Q E h => (by obtain ⟨z, _, h, _⟩ := h; exact h.len)) (fun cdv A outer s H vs Q E hr h => ?_)
  obtain ⟨⟨⟨b, x⟩, ⟨c, y⟩⟩, -, hvs, k⟩ := h
  dsimp only at hvs k
  refine ⟨_, (pss_one (ps_ret (pe_tup (pa_cons pe_str (pa_cons (pe_tup (pa_cons (pe_ix (ix_tup : IxR _ (rIxT K)) (pv 0) pe_int (fun _ _ => rfl)) (pa_cons (pe_callTy call_tuple_of (by rfl) T.b_tuple (by decide +kernel) (pa_cons (pe_ix (ix_tup : IxR _ (rIxT K)) (pv 0) pe_int (fun _ _ => rfl)) pa_nil)) pa_nil))) (pa_cons (pe_tup (pa_cons (pe_ix (ix_tup : IxR _ (rIxT K)) (pv 1) pe_int (fun _ _ => rfl)) (pa_cons (pe_callTy call_tuple_of (by rfl) T.b_tuple (by decide +kernel) (pa_cons (pe_ix (ix_tup : IxR _ (rIxT K)) (pv 1) pe_int (fun _ _ => rfl)) pa_nil)) pa_nil))) pa_nil)))))), ?_⟩
  have E := Sl.start (N := n_collision) hvs
  exact s_ret (gv_tup (ga_cons gv_str (ga_cons (gv_tup (ga_cons (gv_ixTN (gv_var E rfl) (gv_nat 0) rfl) (ga_cons (gv_tupS (gv_ixTN (gv_var E rfl) (gv_nat 1) rfl)) ga_nil)) (by simp)) (ga_cons (gv_tup (ga_cons (gv_ixTN (gv_var E rfl) (gv_nat 0) rfl) (ga_cons (gv_tupS (gv_ixTN (gv_var E rfl) (gv_nat 1) rfl)) ga_nil)) (by simp)) ga_nil))) (by simp)) k
theorem ok_col {H : Hp} {b c : Bool} {x y : Inp} : SpOk K (spCol K) [insD b x, insD c y] H (colD x y) := spD_ok ((b, x), c, y) trivial
abbrev n_is_input : List Str := ["answer", "tag", "numbers", "number"]
theorem sc_is_input : FnScope n_is_input ["answer"] (defScope s_is_input) := ⟨rfl, rfl, rfl, by decide +kernel, rfl, by decide +kernel, by decide +kernel⟩
def spIsIn (K : PySem.W.Frag) : Sp := spD K (α := Inp) (fun z => z.1 < 16 ∧ z.2.length ≤ 1000) (fun z => [inD z]) (fun z => .bl true)
theorem cal_is_input (T : Txt K mg) : C8.Cal P w K mg base 1 "is_input" (spIsIn K) [] := by
  obtain ⟨fd, F⟩ := T.f_is_input
  refine calD F T.g_is_input (fun _ _ _ _ _ _ us hl => match us, hl with | [_], _ => rfl) sc_is_input (fun vs H Q E h => (by obtain ⟨z, _, h, _⟩ := h; exact h.len)) (fun cdv A outer s H vs Q E hr h => ?_)
  obtain ⟨⟨t, ns⟩, ⟨ht, hl⟩, hvs, k⟩ := h
  dsimp only at hvs k ht hl
  refine ⟨_, (pss_cons (ps_asg (pv 0) (pg_tup (by rfl) (pgs_cons (pg_name (i := 1) sc_is_input.nd rfl (Or.inl rfl)) (pgs_cons (pg_name (i := 2) sc_is_input.nd rfl (Or.inl rfl)) pgs_nil))))
      (pss_one (ps_ret (pe_and (pe_chain op_le op_lt pe_int (pv 1) pe_int) (pe_one (pe_callB (cr_all rfl) (by rfl) T.b_all (by decide +kernel) (pa_cons (pe_lc (own := [("number", 3)]) (by rfl) sc_is_input.nd (pi_tup (pv 2)) (blkOk_by (own := [("number", 3)]) (N := n_is_input) (sc := defScope s_is_input) (by decide +kernel)) (fun _ _ _ _ _ => (pg_name (i := 3) sc_is_input.nd rfl (Or.inl rfl))) (fun _ _ _ _ _ => pts_nil) (fun _ _ _ _ _ => (pe_cmpR op_ge (pv 3) pe_int (nomark _)))) pa_nil))))))), ?_⟩
  have E := Sl.start (N := n_is_input) hvs
  refine s_pair E (gv_var E rfl) fun v w H1 e1 E1 => ?_
  refine s_ret ((gv_andV (gv_chainN (gv_nat 0) (gv_var E1 rfl) (gv_nat 16)) (fun _ => gv_all (bs := ns.map fun _ => true) ((gn_lcT (f := fun _ => .bl true) (p := fun _ => true) E1 (gv_var E1 rfl) (Nat.le_trans hl (by decide)) (fun a _ => tg_name (by simp)) (fun _ _ _ _ _ _ => gt_yes) (fun a _ _ σ2 H2 e2 E2 => (gv_geN (gv_var E2 rfl) (gv_nat 0)).is (by simp))).is ?_).gv)).is ?_) fun v2 H2 e2 r2 => k v2 H2 (e1.trans e2) r2
  · rw [filter_yes, List.map_map]
    rfl
  · simp [ht]
theorem ok_isIn {H : Hp} {z : Inp} (h : z.1 < 16) (h2 : z.2.length ≤ 1000) : SpOk K (spIsIn K) [inD z] H (.bl true) := spD_ok z ⟨h, h2⟩
/-- what makes a collision good -/
structure ColOk (w : Nat) (x y : Inp) : Prop where
  hw : WOk w
  hx : x.1 < 16
  hy : y.1 < 16
  nx : NsOk x.2
  ny : NsOk y.2
  ne : x ≠ y
  eq : dg w x.1 x.2 = dg w y.1 y.2
theorem hd_in : HD (fun z : Nat × PySem.W.Tup Nat => D.tup [nD z.1, .tup (z.2.items.map nD)]) := hd_pair hd_nat (hd_tup hd_nat)
abbrev n_is_collision : List Str := ["hasher", "answer", "first", "second"]
theorem sc_is_collision : FnScope n_is_collision ["hasher", "answer"] (defScope s_is_collision) := ⟨rfl, rfl, rfl, by decide +kernel, rfl, by decide +kernel, by decide +kernel⟩
def spIsCol (K : PySem.W.Frag) : Sp := spD K (α := Nat × Inp × Inp) (fun z => ColOk z.1 z.2.1 z.2.2) (fun z => [hshD z.1, colD z.2.1 z.2.2]) (fun _ => .bl true)
theorem cal_is_collision (T : Txt K mg) : C8.Cal P w K mg base 7 "is_collision" (spIsCol K) [] := by
  obtain ⟨fd, F⟩ := T.f_is_collision
  refine calD F T.g_is_collision (fun _ _ _ _ _ _ us hl => match us, hl with | [_, _], _ => rfl) sc_is_collision (fun vs H Q E h => (by obtain ⟨z, _, h, _⟩ := h; exact h.len)) (fun cdv A outer s H vs Q E hr h => ?_)
  obtain ⟨⟨wd, x, y⟩, hc, hvs, k⟩ := h
  dsimp only at hvs k hc
  refine ⟨_, (pss_cons (ps_if (PW.pt (pw_or (pt_cmpR op_isN1 (pv 1) pe_non (nomark _)) (pw_or1 (pt_cmpR op_ne (pe_ix (ix_tup : IxR _ (rIxT K)) (pv 1) pe_int (fun _ _ => rfl)) pe_str (nomark _))))) (pss_one (ps_ret pe_bl)) pss_nil)
      (pss_cons (ps_asg (pe_slice sl_tup (pv 1) (po_some pe_int) po_none) (pg_tup (by rfl) (pgs_cons (pg_name (i := 2) sc_is_collision.nd rfl (Or.inl rfl)) (pgs_cons (pg_name (i := 3) sc_is_collision.nd rfl (Or.inl rfl)) pgs_nil))))
      (pss_cons (ps_if (PW.pt (pw_or (pt_not (pt_val (C8.pe_c (cal_is_input T) hr (by decide) rfl (pa_cons (pv 2) pa_nil)))) (pw_or (pt_not (pt_val (C8.pe_c (cal_is_input T) hr (by decide) rfl (pa_cons (pv 3) pa_nil)))) (pw_or1 (pt_cmpR (op_eqH (α := Nat × PySem.W.Tup Nat) hr (by decide)) (pv 2) (pv 3) (nomark _)))))) (pss_one (ps_ret pe_bl)) pss_nil)
      (pss_one (ps_ret (pe_cmpR op_eq (C8.pe_mt (met_Hasher_digest T) hr (by decide) (pv 0) (pa_cons (pe_ix (ix_tup : IxR _ (rIxT K)) (pv 2) pe_int (fun _ _ => rfl)) (pa_cons (pe_ix (ix_tup : IxR _ (rIxT K)) (pv 2) pe_int (fun _ _ => rfl)) pa_nil))) (C8.pe_mt (met_Hasher_digest T) hr (by decide) (pv 0) (pa_cons (pe_ix (ix_tup : IxR _ (rIxT K)) (pv 3) pe_int (fun _ _ => rfl)) (pa_cons (pe_ix (ix_tup : IxR _ (rIxT K)) (pv 3) pe_int (fun _ _ => rfl)) pa_nil))) (nomark _))))))), ?_⟩
  have E := Sl.start (N := n_is_collision) hvs
  refine s_if E (Gt.is (b := false) (gt_or (gt_test (gv_isN (gv_var E rfl) rfl)) fun _ => (gt_test (gv_neStr (gv_ixTN (gv_var E rfl) (gv_nat 0) rfl) gv_str))) (by simp)) (fun z => nomatch z) fun _ H1 e1 E1 => ?_
  refine s_nop ?_
  refine s_pair E1 (gv_slT (es := [inD x, inD y]) (gv_var E1 rfl) (go_some (K := K) gv_int) go_none (n := 3) rfl (by decide) rfl) fun v w H2 e2 E2 => ?_
  refine s_if E2 (Gt.is (b := false) (gt_or (gt_not (gt_B (gv_call (ga_cons (gv_var E2 rfl) ga_nil) (ok_isIn (by first | exact hc.hx | exact hc.hy) (by first | exact hc.nx.len | exact hc.ny.len))))) fun _ => (gt_or (gt_not (gt_B (gv_call (ga_cons (gv_var E2 rfl) ga_nil) (ok_isIn (by first | exact hc.hx | exact hc.hy) (by first | exact hc.nx.len | exact hc.ny.len))))) fun _ => (gt_test (gv_eqH hd_in (x := (x.1, ⟨x.2⟩)) (y := (y.1, ⟨y.2⟩)) (gv_var E2 rfl) (gv_var E2 rfl))))) ?_) (fun z => nomatch z) fun _ H3 e3 E3 => ?_
  · have q : ¬ ((x.1, (⟨x.2⟩ : PySem.W.Tup Nat)) = (y.1, ⟨y.2⟩)) := fun z => hc.ne (by
      injection z with z1 z2
      injection z2 with z2
      exact Prod.ext z1 z2)
    simp [q]
  refine s_nop ?_
  refine s_ret (Gv.is (gv_eqN (gv_meth (gv_var E3 rfl) rfl (ga_cons (gv_ixTN (gv_var E3 rfl) (gv_nat 0) rfl) (ga_cons (gv_ixTN (gv_var E3 rfl) (gv_nat 1) rfl) ga_nil)) (ok_dig (b := false) hc.hw (by first | exact hc.nx | exact hc.ny))) (gv_meth (gv_var E3 rfl) rfl (ga_cons (gv_ixTN (gv_var E3 rfl) (gv_nat 0) rfl) (ga_cons (gv_ixTN (gv_var E3 rfl) (gv_nat 1) rfl) ga_nil)) (ok_dig (b := false) hc.hw (by first | exact hc.nx | exact hc.ny)))) ?_) fun v2 H4 e4 r4 => k v2 H4 (((e1.trans e2).trans e3).trans e4) r4
  rw [hc.eq]
  simp
theorem ok_isCol {H : Hp} {w : Nat} {x y : Inp} (h : ColOk w x y) : SpOk K (spIsCol K) [hshD w, colD x y] H (.bl true) := spD_ok (w, x, y) h
end
end K38

set_option Elab.async false
set_option linter.all false
set_option maxRecDepth 100000
set_option maxHeartbeats 4000000
namespace K38
open PySem PySem.Spec PyProof.Rows L2
local macro_rules | `(tactic| walk_at "gv1") => `(tactic| first | exact gv_int | exact gv_str | exact gv_non | exact gv_bl | (refine gv_var (by assumption) ?_; exact rfl) | refine gv_I0 ?_ ?_ | refine gv_Ib ?_ ?_ | refine gv_eqI ?_ ?_ | refine gv_neI ?_ ?_ | refine gt_test ?_ | refine gt_B ?_ | exact ga_nil | refine ga_cons ?_ ?_)
local macro_rules | `(tactic| walk_at "gv") => `(tactic| repeat walk_at "gv1")

/-! ### what signing computes -/
def cnt (w : Nat) : Nat := (w + 3) / 4
def chk (w : Nat) : Nat := if 16 ≤ 15 * cnt w then 2 else 1
def chs (w : Nat) : Nat := cnt w + chk w
theorem cnt_in {w : Nat} (h : WOk w) : 1 ≤ cnt w ∧ cnt w ≤ 3 := by
  unfold WOk at h
  unfold cnt
  omega
theorem chk_in (w : Nat) : 1 ≤ chk w ∧ chk w ≤ 2 := by
  unfold chk
  split <;> omega
theorem chs_in {w : Nat} (h : WOk w) : 2 ≤ chs w ∧ chs w ≤ 5 := by
  have := cnt_in h
  have := chk_in w
  unfold chs
  omega
def nibs (n m : Nat) : List Nat := (List.range n).map fun k => m / 2 ^ (4 * k) % 16
def digs (w m : Nat) : List Nat := nibs (cnt w) m ++ nibs (chk w) ((nibs (cnt w) m).map (15 - ·)).sum
theorem nibs_lt {n m x : Nat} (h : x ∈ nibs n m) : x < 16 := by
  obtain ⟨k, _, rfl⟩ := List.mem_map.mp h
  omega
theorem nibs_len (n m : Nat) : (nibs n m).length = n := by rw [nibs, List.length_map, List.length_range]
theorem digs_len (w m : Nat) : (digs w m).length = chs w := by rw [digs, List.length_append, nibs_len, nibs_len, chs]
theorem digs_lt {w m x : Nat} (h : x ∈ digs w m) : x < 16 := (List.mem_append.mp h).elim nibs_lt nibs_lt
/-- the words of a chain from first on -/
def cw (w ix ch first word : Nat) : Nat → Nat
  | 0 => word
  | i + 1 => dg w 4 [ix, ch, first + i, cw w ix ch first word i]
theorem two_pow_le {w : Nat} (h : WOk w) : 2 ^ w ≤ 4096 := by
  have h2 : w ≤ 12 := h.2
  calc 2 ^ w ≤ 2 ^ 12 := Nat.pow_le_pow_right (by decide) h2
    _ = 4096 := by decide
theorem dg_small {w : Nat} (h : WOk w) (tag : Nat) (ns : List Nat) : dg w tag ns < 4096 := Nat.lt_of_lt_of_le (dg_lt h.le tag ns) (two_pow_le h)
theorem cw_lt {w ix ch first word : Nat} (h : WOk w) (hw : word < 18446744073709551616) : ∀ i, cw w ix ch first word i < 18446744073709551616
  | 0 => hw
  | i + 1 => Nat.lt_trans (dg_small h 4 _) (by decide)
theorem nsOk_of {ns : List Nat} (h1 : ns.length ≤ 1000) (h2 : ∀ n ∈ ns, n < 18446744073709551616) : NsOk ns := ⟨h1, h2⟩
section
variable {P : Program} {w : World} {K : PySem.W.Frag} {mg : Str → Option Value} {base : Heap}
abbrev n_digit_counts : List Str := ["width", "count", "check"]
theorem sc_digit_counts : FnScope n_digit_counts ["width"] (defScope s_digit_counts) := ⟨rfl, rfl, rfl, by decide +kernel, rfl, by decide +kernel, by decide +kernel⟩
def spDC (K : PySem.W.Frag) : Sp := spD K (α := Nat) WOk (fun w => [nD w]) (fun w => .tup [nD (cnt w), nD (chk w)])
theorem cal_digit_counts (T : Txt K mg) : C8.Cal P w K mg base 1 "digit_counts" (spDC K) [] := by
  obtain ⟨fd, F⟩ := T.f_digit_counts
  refine calD F T.g_digit_counts (fun _ _ _ _ _ _ us hl => match us, hl with | [_], _ => rfl) sc_digit_counts (fun vs H Q E h => (by obtain ⟨z, _, h, _⟩ := h; exact h.len)) (fun cdv A outer s H vs Q E hr h => ?_)
  obtain ⟨wd, hw, hvs, k⟩ := h
  dsimp only at hvs k
  refine ⟨_, (pss_cons (ps_set (i := 1) sc_digit_counts.nd rfl (Or.inl rfl) (pe_op op_fdiv (pe_op op_add (pv 0) pe_int) pe_int))
      (pss_cons (ps_set (i := 2) sc_digit_counts.nd rfl (Or.inl rfl) pe_int)
      (pss_cons (ps_while PassesOwn.never (pt_cmpR op_ge (pe_op op_mul (pe_op op_sub (C8.pe_gc rfl T.c_BASE) pe_int) (pv 1)) (pe_op op_shl pe_int (pe_op op_mul pe_int (pv 2))) (nomark _)) (pss_one (ps_aug (i := 2) sc_digit_counts.nd rfl (Or.inl rfl) pe_int ip_add)))
      (pss_one (ps_ret (pe_tup (pa_cons (pv 1) (pa_cons (pv 2) pa_nil)))))))), ?_⟩
  have E := Sl.start (N := n_digit_counts) hvs
  have hc := cnt_in hw
  refine s_asg E (gv_divN (gv_addN (gv_var E rfl) (gv_nat 3)) (gv_nat 4) (by omega) (by omega)) fun v1 H1 e1 _ E1 => ?_
  refine s_asg E1 (gv_nat 1) fun v2 H2 e2 _ E2 => ?_
  refine s_while (fun m σ' H' => ∃ c, m = 2 - c ∧ 1 ≤ c ∧ c ≤ chk wd ∧ Ext H2 H' ∧ Sl K H' [some (nD wd), some (nD (cnt wd)), some (nD c)] σ') 1 ⟨1, rfl, by decide, (chk_in wd).1, Ext.rfl', E2⟩ ?_
  rintro m σ' H' ⟨c, rfl, h1, h2, e, E3⟩
  have hk := chk_in wd
  refine ⟨_, (gt_test (gv_geN (gv_mulN (gv_subN (gv_nat 16) (gv_nat 1) (by omega)) (gv_var E3 rfl) (by omega)) (gv_shlN (gv_nat 1) (gv_mulN (gv_nat 4) (gv_var E3 rfl) (by omega)) (by omega) (by omega)))), fun hb H4 e4 => ?_, fun hb H4 e4 => ?_⟩
  · have hb2 := of_decide_eq_true hb
    have c1 : c = 1 := by
      rcases (by omega : c = 1 ∨ c = 2) with q | q
      · exact q
      · subst q
        have : (2 : Nat) ^ (4 * 2) = 256 := by decide
        omega
    subst c1
    have p4 : (2 : Nat) ^ (4 * 1) = 16 := by decide
    have hk2 : chk wd = 2 := by
      unfold chk
      rw [if_pos (by show 16 ≤ 15 * cnt wd; omega)]
    refine ⟨fun σ' H' => ∃ m', m' < 2 - 1 ∧ ∃ c, m' = 2 - c ∧ 1 ≤ c ∧ c ≤ chk wd ∧ Ext H2 H' ∧ Sl K H' [some (nD wd), some (nD (cnt wd)), some (nD c)] σ', fun _ _ h => h, ?_⟩
    refine s_aug (E3.ext e4) rfl (gv_nat 1) fun H5 e5 E5 => ⟨0, by decide, 2, rfl, by decide, by omega, (e.trans e4).trans e5, E5⟩
  · have hb2 := of_decide_eq_false hb
    have ec : chk wd = c := by
      rcases (by omega : c = 1 ∨ c = 2) with q | q
      · subst q
        have p4 : (2 : Nat) ^ (4 * 1) = 16 := by decide
        unfold chk
        rw [if_neg (by show ¬ 16 ≤ 15 * cnt wd; omega)]
      · omega
    subst ec
    have E4 := E3.ext e4
    exact s_ret (gv_tup (ga_cons (gv_var E4 rfl) (ga_cons (gv_var E4 rfl) ga_nil)) (by simp)) fun v H5 e5 r => k v H5 ((((e1.trans e2).trans e).trans e4).trans e5) r
theorem ok_DC {H : Hp} {w : Nat} (h : WOk w) : SpOk K (spDC K) [nD w] H (.tup [nD (cnt w), nD (chk w)]) := spD_ok w h
abbrev n_digits_of : List Str := ["width", "message", "digits", "rest", "count", "check", "k", "digit"]
theorem sc_digits_of : FnScope n_digits_of ["width", "message"] (defScope s_digits_of) := ⟨rfl, rfl, rfl, by decide +kernel, rfl, by decide +kernel, by decide +kernel⟩
def spDigs (K : PySem.W.Frag) : Sp := spN K (α := Nat × Nat) (fun z => WOk z.1) (fun z => [nD z.1, nD z.2]) (fun z => (digs z.1 z.2).map nD)
theorem cal_digits_of (T : Txt K mg) : C8.Cal P w K mg base 2 "digits_of" (spDigs K) [] := by
  obtain ⟨fd, F⟩ := T.f_digits_of
  refine calD F T.g_digits_of (fun _ _ _ _ _ _ us hl => match us, hl with | [_, _], _ => rfl) sc_digits_of (fun vs H Q E h => (by obtain ⟨z, _, h, _⟩ := h; exact h.len)) (fun cdv A outer s H vs Q E hr h => ?_)
  obtain ⟨⟨wd, m⟩, hw, hvs, k⟩ := h
  dsimp only at hvs k hw
  have hc := cnt_in hw
  have hk := chk_in wd
  refine ⟨_, (pss_cons (ps_asg (C8.pe_c (cal_digit_counts T) hr (by decide) rfl (pa_cons (pv 0) pa_nil)) (pg_tup (by rfl) (pgs_cons (pg_name (i := 4) sc_digits_of.nd rfl (Or.inl rfl)) (pgs_cons (pg_name (i := 5) sc_digits_of.nd rfl (Or.inl rfl)) pgs_nil))))
      (pss_cons (ps_setLc (i := 2) (own := [("k", 6)]) (by rfl) sc_digits_of.nd rfl rfl (sw_true rfl rfl rfl (by decide +kernel)) (pi_range1 rfl T.b_range (pa_cons (pv 4) pa_nil)) (blkOk_by (own := [("k", 6)]) (N := n_digits_of) (sc := defScope s_digits_of) (by decide +kernel)) (fun _ _ _ _ _ => (pg_name (i := 6) sc_digits_of.nd rfl (Or.inl rfl))) (fun _ _ _ _ _ => pts_nil) (fun _ _ _ _ _ => (pe_op op_and (pe_op op_shr (pv 1) (pe_op op_mul pe_int (pv 6))) pe_int)))
      (pss_cons (ps_set (i := 3) sc_digits_of.nd rfl (Or.inr rfl) (pe_callB (cr_sum rfl) (by rfl) T.b_sum (by decide +kernel) (pa_cons (pe_lc (own := [("digit", 7)]) (by rfl) sc_digits_of.nd (pi_list (pv 2)) (blkOk_by (own := [("digit", 7)]) (N := n_digits_of) (sc := defScope s_digits_of) (by decide +kernel)) (fun _ _ _ _ _ => (pg_name (i := 7) sc_digits_of.nd rfl (Or.inl rfl))) (fun _ _ _ _ _ => pts_nil) (fun _ _ _ _ _ => (pe_op op_sub (pe_op op_sub (C8.pe_gc rfl T.c_BASE) pe_int) (pv 7)))) pa_nil)))
      (pss_one (ps_ret (pe_op op_cat (pv 2) (pe_lc (own := [("k", 6)]) (by rfl) sc_digits_of.nd (pi_range1 rfl T.b_range (pa_cons (pv 5) pa_nil)) (blkOk_by (own := [("k", 6)]) (N := n_digits_of) (sc := defScope s_digits_of) (by decide +kernel)) (fun _ _ _ _ _ => (pg_name (i := 6) sc_digits_of.nd rfl (Or.inl rfl))) (fun _ _ _ _ _ => pts_nil) (fun _ _ _ _ _ => (pe_op op_and (pe_op op_shr (pv 3) (pe_op op_mul pe_int (pv 6))) pe_int))))))))), ?_⟩
  have E := Sl.start (N := n_digits_of) hvs
  refine s_pair E (gv_call (ga_cons (gv_var E rfl) ga_nil) (ok_DC hw)) fun v w H1 e1 E1 => ?_
  refine s_asg (d := .lst ((nibs (cnt wd) m).map nD)) E1 ((gn_mapR (f := fun k => nD (m / 2 ^ (4 * k) % 16)) E1 (ga_cons (gv_var E1 rfl) ga_nil) (by omega) (by simp) fun k hk σ2 H2 e2 E2 => (gv_and15 (gv_shrN (gv_var E2 rfl) (gv_mulN (gv_nat 4) (gv_var E2 rfl) (by omega))))).is (by rw [nibs, List.map_map]; rfl)).gv fun v2 H2 e2 r2 E2 => ?_
  refine s_asg E2 (gv_sumN (ns := (nibs (cnt wd) m).map (15 - ·)) ((gn_mapL (f := fun d => nD (15 - min d 15)) E2 (gv_var E2 rfl) (by rw [nibs_len]; omega) (by simp) fun d hd σ3 H3 e3 E3 => ?_).is ?_).gv) fun v3 H3 e3 r3 E3 => ?_
  · have h16 := nibs_lt hd
    exact Gv.is (gv_subN (gv_subN (gv_nat 16) (gv_nat 1) (by omega)) (gv_var E3 rfl) (by omega)) (by rw [Nat.min_eq_left (by omega)])
  · rw [List.map_map]
    refine List.map_congr_left fun d hd => ?_
    have h16 := nibs_lt hd
    show nD (15 - min d 15) = nD (15 - d)
    rw [Nat.min_eq_left (by omega)]
  refine s_retN (ds := (digs wd m).map nD) ((gn_cat (gv_var E3 rfl) (gn_mapR (f := fun k => nD (((nibs (cnt wd) m).map (15 - ·)).sum / 2 ^ (4 * k) % 16)) E3 (ga_cons (gv_var E3 rfl) ga_nil) (by omega) (by simp) fun k hk σ2 H2 e2 E2 => (gv_and15 (gv_shrN (gv_var E2 rfl) (gv_mulN (gv_nat 4) (gv_var E2 rfl) (by omega))))).gv ?_).is ?_) fun p xs H4 hp e4 h4 r4 => k p xs H4 (fresh_back ((e1.trans e2).trans e3) hp) (((e1.trans e2).trans e3).trans e4) h4 r4
  · rw [List.length_map, List.length_map, nibs_len, List.length_range]
    omega
  · rw [digs, List.map_append]
    congr 1
    show _ = List.map nD (List.map _ (List.range _))
    rw [List.map_map]
    rfl
theorem ok_digs {H : Hp} {w m : Nat} (h : WOk w) : SpN K (spDigs K) [nD w, nD m] H ((digs w m).map nD) := spN_ok (w, m) h
abbrev n_stepped : List Str := ["hasher", "index", "chain", "word", "first", "last", "found", "step"]
theorem sc_stepped : FnScope n_stepped ["hasher", "index", "chain", "word", "first", "last"] (defScope s_stepped) := ⟨rfl, rfl, rfl, by decide +kernel, rfl, by decide +kernel, by decide +kernel⟩
structure StA where
  w : Nat
  ix : Nat
  ch : Nat
  wd : Nat
  fi : Nat
  n : Nat
structure StOk (z : StA) : Prop where
  w : WOk z.w
  ix : z.ix < 4294967296
  ch : z.ch < 4294967296
  wd : z.wd < 18446744073709551616
  fi : z.fi ≤ 1000
  n : z.n ≤ 1000
def StA.out (z : StA) : List Nat := (List.range (z.n + 1)).map (cw z.w z.ix z.ch z.fi z.wd)
def spStep (K : PySem.W.Frag) : Sp := spN K (α := StA) StOk (fun z => [hshD z.w, nD z.ix, nD z.ch, nD z.wd, nD z.fi, nD (z.fi + z.n)]) (fun z => z.out.map nD)
theorem range_snoc {α : Type} (f : Nat → α) (i : Nat) : (List.range (i + 1)).map f = (List.range i).map f ++ [f i] := by rw [List.range_succ, List.map_append]; rfl
theorem atI_last {α : Type} {l : List α} {a : α} : atI (l ++ [a]) (-1) = some a := by
  unfold atI ixN
  rw [List.length_append, List.length_singleton]
  rw [if_neg (by omega), if_pos (by omega)]
  show (l ++ [a])[((l.length + 1 : Nat) : Int) + -1 |>.toNat]? = some a
  rw [show (((l.length + 1 : Nat) : Int) + -1).toNat = l.length by omega, List.getElem?_append_right (Nat.le_refl _), Nat.sub_self]
  rfl
theorem rps_nat' {K : PySem.W.Frag} {H : Hp} (f : Nat → Nat) : ∀ (l : List Nat), Rps K H (l.map fun i => nD (f i)) (l.map fun i => nV (f i))
  | [] => .nil
  | _ :: r => .cons rfl (rps_nat' f r)
theorem rp_cw {K : PySem.W.Frag} {H : Hp} {p : Addr} {f : Nat → Nat} {l : List Nat} (h : H p = some (.lst (l.map fun i => nV (f i)))) : Rp K H (.lst (l.map fun i => nD (f i))) (.ref p) := ⟨p, _, rfl, h, rps_nat' f l⟩
theorem cal_stepped (T : Txt K mg) : C8.Cal P w K mg base 3 "stepped" (spStep K) [] := by
  obtain ⟨fd, F⟩ := T.f_stepped
  refine calD F T.g_stepped (fun _ _ _ _ _ _ us hl => match us, hl with | [_, _, _, _, _, _], _ => rfl) sc_stepped (fun vs H Q E h => (by obtain ⟨z, _, h, _⟩ := h; exact h.len)) (fun cdv A outer s H vs Q E hr h => ?_)
  obtain ⟨z, hz, hvs, k⟩ := h
  obtain ⟨wd, ix, ch, w0, fi, n⟩ := z
  obtain ⟨hw, hix, hch, hwd, hfi, hn⟩ := hz
  dsimp only at hvs k hw hix hch hwd hfi hn
  refine ⟨_, (pss_cons (ps_set (i := 6) sc_stepped.nd rfl (Or.inl rfl) (pe_lst (pa_cons (pv 3) pa_nil)))
      (pss_cons (ps_for PassesOwn.never rfl (pi_range2 rfl T.b_range (pa_cons (pv 4) (pa_cons (pv 5) pa_nil))) (pg_name (i := 7) sc_stepped.nd rfl (Or.inl rfl)) (pss_one (ps_expr (pe_bm PySem.F.plainAttrs_list PySem.F.slot_list_append PySem.F.type_list_append mt_append (pv 6) (pa_cons (C8.pe_mt (met_Hasher_digest T) hr (by decide) (pv 0) (pa_cons (C8.pe_gc rfl T.c_CHAIN) (pa_cons (pe_tup (pa_cons (pv 1) (pa_cons (pv 2) (pa_cons (pv 7) (pa_cons (pe_ix (ix_list : IxR _ (rIxL K)) (pv 6) (pe_un un_neg pe_int) (fun _ _ => rfl)) pa_nil))))) pa_nil))) pa_nil)))))
      (pss_one (ps_ret (pv 6))))), ?_⟩
  have E := Sl.start (N := n_stepped) hvs
  refine s_asgN E (gn_lst (ga_cons (gv_var E rfl) ga_nil) (by simp)) fun p xs H1 hp e1 h1 r1 E1 => ?_
  refine s_forR2 (j := 7) (lo := fi) (n := fi + n) (ga_cons (gv_var E1 rfl) (ga_cons (gv_var E1 rfl) ga_nil)) (by omega) (by omega) (fun i σ' H' => i ≤ n ∧ Ext H H' ∧ H' p = some (.lst ((List.range (i + 1)).map fun i => nV (cw wd ix ch fi w0 i))) ∧ Sl K H' [some (hshD wd), some (nD ix), some (nD ch), some (nD w0), some (nD fi), some (nD (fi + n)), some (.adr p), none] σ') (fun H2 e2 => ⟨Nat.zero_le _, e1.trans e2, ?_, E1.ext e2⟩) ?_ ?_
  · rw [e2 _ _ h1]
    obtain ⟨x, rfl, rx⟩ := one_of r1
    rw [show x = nV w0 from rx]
    rfl
  · rintro i σ' H' hi ⟨hin, e, hpp, E2⟩
    have E3 := E2.set (i := 7) (d := nD (fi + i)) (v := .int ((fi + i : Nat) : Int)) rfl
    have hl : cw wd ix ch fi w0 i < 18446744073709551616 := cw_lt hw hwd i
    have hns : NsOk [ix, ch, fi + i, cw wd ix ch fi w0 i] := nsOk_of (by simp) (by simp; omega)
    refine s_app E3 hpp (gv_var E3 rfl) (d := nD (cw wd ix ch fi w0 (i + 1))) (gv_meth (gv_var E3 rfl) rfl (ga_cons (gv_nat 4) (ga_cons (gv_tup (ga_cons (gv_var E3 rfl) (ga_cons (gv_var E3 rfl) (ga_cons (gv_var E3 rfl) (ga_cons (gv_ixL (ds := (List.range (i + 1)).map fun i => nD (cw wd ix ch fi w0 i)) (gv_view (gv_var E3 rfl) (rp_cw hpp)) gv_neg1 (by rw [range_snoc]; exact atI_last)) ga_nil)))) (by simp)) ga_nil)) (ok_dig (b := false) (ns := [ix, ch, fi + i, cw wd ix ch fi w0 i]) hw hns)) (by rw [List.length_map, List.length_range]; omega) fun v H4 e4 r4 E4 h4 => ⟨by omega, ?_, ?_, ?_⟩
    · intro a o ha
      rw [upd_ne (ne_of_none ha hp)]
      exact e4 _ _ (e _ _ ha)
    · rw [upd_same, range_snoc _ (i + 1)]
      rw [show v = nV (cw wd ix ch fi w0 (i + 1)) from r4]
    · exact (E4.gr (Gr.updL h4)).wk ⟨.inr rfl, .inr rfl, .inr rfl, .inr rfl, .inr rfl, .inr rfl, .inr rfl, .inl rfl, trivial⟩
  · rintro σ' H' ⟨_, e, hpp, E2⟩
    rw [Nat.add_sub_cancel_left] at hpp
    refine s_ret (gv_var E2 rfl) fun v H3 e3 r3 => ?_
    have ev : v = .ref p := r3
    subst ev
    exact k p _ H3 hp (e.trans e3) (e3 _ _ hpp) (by rw [StA.out, List.map_map]; exact (rps_nat' _ _).ext e3)
theorem ok_step {H : Hp} (z : StA) (h : StOk z) : SpN K (spStep K) [hshD z.w, nD z.ix, nD z.ch, nD z.wd, nD z.fi, nD (z.fi + z.n)] H (z.out.map nD) := spN_ok z h
end
end K38

set_option Elab.async false
set_option linter.all false
set_option maxRecDepth 100000
set_option maxHeartbeats 4000000
namespace K38
open PySem PySem.Spec PyProof.Rows L2
local macro_rules | `(tactic| walk_at "gv1") => `(tactic| first | exact gv_int | exact gv_str | exact gv_non | exact gv_bl | (refine gv_var (by assumption) ?_; exact rfl) | refine gv_I0 ?_ ?_ | refine gv_Ib ?_ ?_ | refine gv_eqI ?_ ?_ | refine gv_neI ?_ ?_ | refine gt_test ?_ | refine gt_B ?_ | exact ga_nil | refine ga_cons ?_ ?_)
local macro_rules | `(tactic| walk_at "gv") => `(tactic| repeat walk_at "gv1")

structure Sgn where
  w : Nat
  sec : Nat
  L : Nat
  deriving DecidableEq
structure Sgn.Ok (s : Sgn) : Prop where
  hw : WOk s.w
  hs : s.sec < 4294967296
  hL : s.L = 2 ∨ s.L = 3
def Sgn.wrd (s : Sgn) (ix ch st : Nat) : Nat := cw s.w ix ch 0 (dg s.w 7 [s.sec, ix, ch]) st
def Sgn.top (s : Sgn) (ix : Nat) : List Nat := (List.range (chs s.w)).map fun ch => s.wrd ix ch 15
def Sgn.row (s : Sgn) : Nat → Nat → Nat
  | 0, k => dg s.w 5 (k :: s.top k)
  | l + 1, k => dg s.w 6 [l, s.row l (2 * k), s.row l (2 * k + 1)]
def Sgn.pub (s : Sgn) : Nat := dg s.w 6 [s.L, s.row s.L 0]
def Sgn.path (s : Sgn) (ix : Nat) : List Nat := (List.range s.L).map fun l => s.row l ((ix / 2 ^ l) ^^^ 1)
def Sgn.sig (s : Sgn) (ix m : Nat) : Sig := ix :: ((List.range (chs s.w)).map fun ch => s.wrd ix ch ((digs s.w m).getD ch 0)) ++ s.path ix
def Sgn.kw (s : Sgn) (ix : Nat) : List D := (List.range (chs s.w)).map fun ch => .lst ((List.range 16).map fun st => nD (s.wrd ix ch st))
def Sgn.wordsD (s : Sgn) : D := .lst ((List.range (2 ^ s.L)).map fun ix => .lst (s.kw ix))
def Sgn.rowD (s : Sgn) (l : Nat) : D := .lst ((List.range (2 ^ (s.L - l))).map fun k => nD (s.row l k))
def Sgn.rowsD (s : Sgn) : D := .lst ((List.range (s.L + 1)).map s.rowD)
def sgX (s : Sgn) (fs : List Str) (ds : List D) : D := .ins "Signer" ((["hasher", "secret", "levels", "words"] : List Str) ++ fs) ([hshD s.w, nD s.sec, nD s.L, s.wordsD] ++ ds)
def sgD (s : Sgn) : D := .ins "Signer" ["hasher", "secret", "levels", "words", "rows", "public"] [hshD s.w, nD s.sec, nD s.L, s.wordsD, s.rowsD, nD s.pub]
theorem rng_get {α : Type} {f : Nat → α} {n m : Nat} (h : n < m) : ((List.range m).map f)[n]? = some (f n) := by
  rw [List.getElem?_map, List.getElem?_range h]
  rfl
theorem wrd_lt {s : Sgn} (h : WOk s.w) (ix ch st : Nat) : s.wrd ix ch st < 4096 := by
  unfold Sgn.wrd
  cases st with
  | zero => exact dg_small h _ _
  | succ n => exact dg_small h _ _
theorem row_lt {s : Sgn} (h : WOk s.w) (l k : Nat) : s.row l k < 4096 := by
  cases l <;> exact dg_small h _ _
theorem top_len (s : Sgn) (ix : Nat) : (s.top ix).length = chs s.w := by rw [Sgn.top, List.length_map, List.length_range]
theorem top_ok {s : Sgn} (h : WOk s.w) {ix : Nat} (hi : ix < 4294967296) : NsOk (ix :: s.top ix) := by
  have hc := chs_in h
  refine nsOk_of (by rw [List.length_cons, top_len]; omega) fun n hn => ?_
  rcases List.mem_cons.mp hn with rfl | hn
  · omega
  · obtain ⟨c, _, rfl⟩ := List.mem_map.mp hn
    have := wrd_lt h (s := s) ix c 15
    omega
section
variable {P : Program} {w : World} {K : PySem.W.Frag} {mg : Str → Option Value} {base : Heap}
theorem gv_fldA {H : Hp} {σ : L2.St} {ta : TE} {c f : Str} {fs0 fs : List Str} {ds0 ds : List D} {n : Nat} {d : D} (ho : Gv K ta σ H (.ins c (fs0 ++ fs) (ds0 ++ ds))) (hc : Cls K (He.ga K c)) (hn : NoAttr K (He.ga K c) f) (hi : fs0.idxOf f = n) (hl : n < fs0.length) (hd : ds0[n]? = some d) : Gv K (tFld K ta f) σ H d := by
  have hm : f ∈ fs0 := by
    have h2 := List.idxOf_lt_length_iff.mp (by rw [hi]; exact hl)
    exact h2
  refine gv_fld ho hc hn (n := n) (by rw [List.idxOf_append, if_pos hm, hi]) (by rw [List.length_append]; omega) ?_
  rw [List.getElem?_append_left (List.getElem?_eq_some_iff.mp hd).1, hd]
abbrev n_key_digest : List Str := ["hasher", "index", "tops"]
theorem sc_key_digest : FnScope n_key_digest ["hasher", "index", "tops"] (defScope s_key_digest) := ⟨rfl, rfl, rfl, by decide +kernel, rfl, by decide +kernel, by decide +kernel⟩
def spKD (K : PySem.W.Frag) : Sp := spD K (α := Nat × Nat × List Nat) (fun z => WOk z.1 ∧ NsOk (z.2.1 :: z.2.2)) (fun z => [hshD z.1, nD z.2.1, .lst (z.2.2.map nD)]) (fun z => nD (dg z.1 5 (z.2.1 :: z.2.2)))
theorem cal_key_digest (T : Txt K mg) : C8.Cal P w K mg base 3 "key_digest" (spKD K) [] := by
  obtain ⟨fd, F⟩ := T.f_key_digest
  refine calD F T.g_key_digest (fun _ _ _ _ _ _ us hl => match us, hl with | [_, _, _], _ => rfl) sc_key_digest (fun vs H Q E h => (by obtain ⟨z, _, h, _⟩ := h; exact h.len)) (fun cdv A outer s H vs Q E hr h => ?_)
  obtain ⟨⟨wd, ix, tops⟩, ⟨hw, hn⟩, hvs, k⟩ := h
  dsimp only at hvs k hw hn
  refine ⟨_, (pss_one (ps_ret (C8.pe_mt (met_Hasher_digest T) hr (by decide) (pv 0) (pa_cons (C8.pe_gc rfl T.c_KEY) (pa_cons (pe_op op_cat (pe_lst (pa_cons (pv 1) pa_nil)) (pe_callTy call_list_of (by rfl) T.b_list (by decide +kernel) (pa_cons (pv 2) pa_nil))) pa_nil))))), ?_⟩
  have E := Sl.start (N := n_key_digest) hvs
  have hl : tops.length < 1000 := hn.len
  exact s_ret (gv_meth (gv_var E rfl) rfl (ga_cons (gv_nat 5) (ga_cons ((gn_cat (gn_lst (ga_cons (gv_var E rfl) ga_nil) (by simp)).gv (gn_lstL (gv_var E rfl)).gv (by simp; omega)).gv) ga_nil)) (ok_dig (b := true) (ns := ix :: tops) hw hn)) k
theorem ok_KD {H : Hp} {w ix : Nat} {tops : List Nat} (h : WOk w) (h2 : NsOk (ix :: tops)) : SpOk K (spKD K) [hshD w, nD ix, .lst (tops.map nD)] H (nD (dg w 5 (ix :: tops))) := spD_ok (w, ix, tops) ⟨h, h2⟩
abbrev n_Signer_chains : List Str := ["self"]
theorem sc_Signer_chains : FnScope n_Signer_chains ["self"] (defScope s_Signer_chains) := ⟨rfl, rfl, rfl, by decide +kernel, rfl, by decide +kernel, by decide +kernel⟩
def spCh (K : PySem.W.Frag) : Sp := spD K (α := Nat × List Str × List D) (fun z => WOk z.1) (fun z => [.ins "Signer" ((["hasher"] : List Str) ++ z.2.1) ([hshD z.1] ++ z.2.2)]) (fun z => nD (chs z.1))
theorem met_Signer_chains (T : Txt K mg) : C8.Met P w K mg base 2 (He.ga K "Signer") "chains" (spCh K) [] := by
  obtain ⟨fd, F⟩ := T.f_Signer_chains
  refine metD T.cl_Signer T.me_Signer_chains F (fun _ _ _ _ _ _ us hl => match us, hl with | [_], _ => rfl) sc_Signer_chains (fun vs H Q E h => (by obtain ⟨z, _, h, _⟩ := h; exact h.len)) (fun cdv A outer s H vs Q E hr h => ?_)
  obtain ⟨⟨wd, fs, ds⟩, hw, hvs, k⟩ := h
  dsimp only at hvs k hw
  refine ⟨_, (pss_one (ps_ret (pe_callB (cr_sumT rfl) (by rfl) T.b_sum (by decide +kernel) (pa_cons (C8.pe_c (cal_digit_counts T) hr (by decide) rfl (pa_cons (pe_fld (pe_fld (pv 0) rfl) rfl) pa_nil)) pa_nil)))), ?_⟩
  have E := Sl.start (N := n_Signer_chains) hvs
  exact s_ret ((gv_sumTN (ns := [cnt wd, chk wd]) (gv_call (ga_cons (gv_Hasher_width T (gv_fldA (fs0 := ["hasher"]) (ds0 := [hshD wd]) (gv_var E rfl) T.cl_Signer T.na_Signer_hasher (n := 0) (by decide +kernel) (by decide) rfl)) ga_nil) (ok_DC hw))).is (by simp [chs])) k
theorem ok_ch {H : Hp} {w : Nat} {fs : List Str} {ds : List D} (h : WOk w) : SpOk K (spCh K) [.ins "Signer" ((["hasher"] : List Str) ++ fs) ([hshD w] ++ ds)] H (nD (chs w)) := spD_ok (w, fs, ds) h
abbrev n_Signer_key_words : List Str := ["self", "index", "found", "chain", "first"]
theorem sc_Signer_key_words : FnScope n_Signer_key_words ["self", "index"] (defScope s_Signer_key_words) := ⟨rfl, rfl, rfl, by decide +kernel, rfl, by decide +kernel, by decide +kernel⟩
def sg3 (s : Sgn) : D := .ins "Signer" ["hasher", "secret", "levels"] [hshD s.w, nD s.sec, nD s.L]
def spKW (K : PySem.W.Frag) : Sp := spN K (α := Sgn × Nat) (fun z => z.1.Ok ∧ z.2 < 4294967296) (fun z => [sg3 z.1, nD z.2]) (fun z => z.1.kw z.2)
theorem met_Signer_key_words (T : Txt K mg) : C8.Met P w K mg base 4 (He.ga K "Signer") "key_words" (spKW K) [] := by
  obtain ⟨fd, F⟩ := T.f_Signer_key_words
  refine metD T.cl_Signer T.me_Signer_key_words F (fun _ _ _ _ _ _ us hl => match us, hl with | [_, _], _ => rfl) sc_Signer_key_words (fun vs H Q E h => (by obtain ⟨z, _, h, _⟩ := h; exact h.len)) (fun cdv A outer s H vs Q E hr h => ?_)
  obtain ⟨⟨sg, ix⟩, ⟨ho, hi⟩, hvs, k⟩ := h
  dsimp only at hvs k ho hi
  have hw := ho.hw
  have hs := ho.hs
  have hc := chs_in hw
  refine ⟨_, (pss_cons (ps_set (i := 2) sc_Signer_key_words.nd rfl (Or.inl rfl) (pe_lst pa_nil))
      (pss_cons (ps_for PassesOwn.never rfl (pi_range1 rfl T.b_range (pa_cons (C8.pe_mt0 (met_Signer_chains T) hr (by decide) (pv 0)) pa_nil)) (pg_name (i := 3) sc_Signer_key_words.nd rfl (Or.inl rfl)) (pss_cons (ps_set (i := 4) sc_Signer_key_words.nd rfl (Or.inl rfl) (C8.pe_mt (met_Hasher_digest T) hr (by decide) (pe_fld (pv 0) rfl) (pa_cons (C8.pe_gc rfl T.c_SECRET) (pa_cons (pe_tup (pa_cons (pe_fld (pv 0) rfl) (pa_cons (pv 1) (pa_cons (pv 3) pa_nil)))) pa_nil))))
      (pss_one (ps_expr (pe_bm PySem.F.plainAttrs_list PySem.F.slot_list_append PySem.F.type_list_append mt_append (pv 2) (pa_cons (pe_fr (C8.pe_c (cal_stepped T) hr (by decide) rfl (pa_cons (pe_fld (pv 0) rfl) (pa_cons (pv 1) (pa_cons (pv 3) (pa_cons (pv 4) (pa_cons pe_int (pa_cons (pe_op op_sub (C8.pe_gc rfl T.c_BASE) pe_int) pa_nil)))))))) pa_nil))))))
      (pss_one (ps_ret (pv 2))))), ?_⟩
  have E := Sl.start (N := n_Signer_key_words) hvs
  refine s_new E fun p H1 hp cl1 E1 => ?_
  refine s_forR1 (j := 3) (n := chs sg.w) (ga_cons (gv_meth (gv_var (E1.ext cl1.ext) rfl) rfl ga_nil (ok_ch (fs := ["secret", "levels"]) (ds := [nD sg.sec, nD sg.L]) hw)) ga_nil) (by omega) (fun i σ' H' => ∃ B xs, i ≤ chs sg.w ∧ Ext H B ∧ LCell B H' p xs ∧ Rps K B ((sg.kw ix).take i) xs ∧ Sl K B [some (sg3 sg), some (nD ix), some (.adr p), none, none] σ') (fun H2 e2 => ⟨H, [], Nat.zero_le _, Ext.rfl', cl1.mono e2, .nil, E1⟩) ?_ ?_
  · rintro i σ' H' hi2 ⟨B, xs, hin, e, cl, rs, E2⟩
    have E3 := E2.set (i := 3) (d := nD i) (v := .int ((i : Nat) : Int)) rfl
    have E4 := E3.ext cl.ext
    have hl : xs.length = i := by
      rw [rs.len, List.length_take, Sgn.kw, List.length_map, List.length_range]
      omega
    refine s_asg E4 (gv_meth (gv_fld (gv_var E4 rfl) T.cl_Signer T.na_Signer_hasher (n := 0) (by decide +kernel) (by decide) rfl) rfl (ga_cons (gv_nat 7) (ga_cons (gv_tup (ga_cons (gv_fld (gv_var E4 rfl) T.cl_Signer T.na_Signer_secret (n := 1) (by decide +kernel) (by decide) rfl) (ga_cons (gv_var E4 rfl) (ga_cons (gv_var E4 rfl) ga_nil))) (by simp)) ga_nil)) (ok_dig (b := false) (ns := [sg.sec, ix, i]) hw (nsOk_of (by simp) (by simp; omega)))) fun v H3 e3 r3 _ => ?_
    have E5 := E3.set (i := 4) (d := nD (dg sg.w 7 [sg.sec, ix, i])) (v := v) r3
    have hlt := dg_small hw 7 [sg.sec, ix, i]
    refine s_appFN (es := (List.range 16).map fun st => nD (sg.wrd ix i st)) E5 (cl.mono e3) rfl ((gn_call (ga_cons (gv_fld (gv_var E5 rfl) T.cl_Signer T.na_Signer_hasher (n := 0) (by decide +kernel) (by decide) rfl) (ga_cons (gv_var E5 rfl) (ga_cons (gv_var E5 rfl) (ga_cons (gv_var E5 rfl) (ga_cons (gv_nat 0) (ga_cons (gv_subN (gv_nat 16) (gv_nat 1) (by omega)) ga_nil)))))) (ok_step ⟨sg.w, ix, i, dg sg.w 7 [sg.sec, ix, i], 0, 15⟩ ⟨hw, hi, by show i < 4294967296; omega, by show dg sg.w 7 [sg.sec, ix, i] < 18446744073709551616; omega, by show 0 ≤ 1000; decide, by show 15 ≤ 1000; decide⟩)).is (by rw [StA.out, List.map_map]; rfl)) (by omega) fun v2 B' H4 b4 E6 r4 cl4 => ⟨B', xs ++ [v2], by omega, e.trans b4, cl4, ?_, E6.wk ⟨.inr rfl, .inr rfl, .inr rfl, .inl rfl, .inl rfl, trivial⟩⟩
    have tk : (sg.kw ix).take (i + 1) = (sg.kw ix).take i ++ [.lst ((List.range 16).map fun st => nD (sg.wrd ix i st))] := by
      rw [List.take_add_one, Sgn.kw, rng_get hi2]
      rfl
    rw [tk]
    exact (rs.ext b4).snoc r4
  · rintro σ' H' ⟨B, xs, hin, e, cl, rs, E2⟩
    rw [List.take_of_length_le (by rw [Sgn.kw, List.length_map, List.length_range]; omega)] at rs
    refine s_ret (gv_var (E2.ext cl.ext) rfl) fun v H3 e3 r3 => ?_
    have ev : v = .ref p := r3
    subst ev
    exact k p xs H3 hp (e.trans (cl.ext.trans e3)) (e3 _ _ cl.at_) ((rs.ext cl.ext).ext e3)
theorem ok_KW {H : Hp} {s : Sgn} {ix : Nat} (h : s.Ok) (h2 : ix < 4294967296) : SpN K (spKW K) [sg3 s, nD ix] H (s.kw ix) := spN_ok (s, ix) ⟨h, h2⟩
abbrev n_Signer_word : List Str := ["self", "index", "chain", "step"]
theorem sc_Signer_word : FnScope n_Signer_word ["self", "index", "chain", "step"] (defScope s_Signer_word) := ⟨rfl, rfl, rfl, by decide +kernel, rfl, by decide +kernel, by decide +kernel⟩
def spWd (K : PySem.W.Frag) : Sp := spD K (α := (Sgn × List Str × List D) × Nat × Nat × Nat) (fun z => z.2.1 < 2 ^ z.1.1.L ∧ z.2.2.1 < chs z.1.1.w ∧ z.2.2.2 < 16) (fun z => [sgX z.1.1 z.1.2.1 z.1.2.2, nD z.2.1, nD z.2.2.1, nD z.2.2.2]) (fun z => nD (z.1.1.wrd z.2.1 z.2.2.1 z.2.2.2))
theorem met_Signer_word (T : Txt K mg) : C8.Met P w K mg base 1 (He.ga K "Signer") "word" (spWd K) [] := by
  obtain ⟨fd, F⟩ := T.f_Signer_word
  refine metD T.cl_Signer T.me_Signer_word F (fun _ _ _ _ _ _ us hl => match us, hl with | [_, _, _, _], _ => rfl) sc_Signer_word (fun vs H Q E h => (by obtain ⟨z, _, h, _⟩ := h; exact h.len)) (fun cdv A outer s H vs Q E hr h => ?_)
  obtain ⟨⟨⟨sg, fs, ds⟩, ix, ch, st⟩, ⟨h1, h2, h3⟩, hvs, k⟩ := h
  dsimp only at hvs k h1 h2 h3
  refine ⟨_, (pss_one (ps_ret (pe_ix (ix_list : IxR _ (rIxL K)) (pe_ix (ix_list : IxR _ (rIxL K)) (pe_ix (ix_list : IxR _ (rIxL K)) (pe_fld (pv 0) rfl) (pv 1) (fun _ _ => rfl)) (pv 2) (fun _ _ => rfl)) (pv 3) (fun _ _ => rfl)))), ?_⟩
  have E := Sl.start (N := n_Signer_word) hvs
  exact s_ret (gv_ixLN (gv_ixLN (gv_ixLN (gv_fldA (fs0 := ["hasher", "secret", "levels", "words"]) (ds0 := [hshD sg.w, nD sg.sec, nD sg.L, sg.wordsD]) (d := sg.wordsD) (gv_var E rfl) T.cl_Signer T.na_Signer_words (n := 3) (by decide +kernel) (by decide) rfl) (gv_var E rfl) (rng_get h1)) (gv_var E rfl) (rng_get h2)) (gv_var E rfl) (rng_get h3)) k
theorem ok_wd {H : Hp} {s : Sgn} {fs : List Str} {ds : List D} {ix ch st : Nat} (h1 : ix < 2 ^ s.L) (h2 : ch < chs s.w) (h3 : st < 16) : SpOk K (spWd K) [sgX s fs ds, nD ix, nD ch, nD st] H (nD (s.wrd ix ch st)) := spD_ok ((s, fs, ds), ix, ch, st) ⟨h1, h2, h3⟩
abbrev n_Signer_tops : List Str := ["self", "index", "chain"]
theorem sc_Signer_tops : FnScope n_Signer_tops ["self", "index"] (defScope s_Signer_tops) := ⟨rfl, rfl, rfl, by decide +kernel, rfl, by decide +kernel, by decide +kernel⟩
def spTops (K : PySem.W.Frag) : Sp := spN K (α := Sgn × Nat) (fun z => z.1.Ok ∧ z.2 < 2 ^ z.1.L) (fun z => [sgX z.1 [] [], nD z.2]) (fun z => (z.1.top z.2).map nD)
theorem met_Signer_tops (T : Txt K mg) : C8.Met P w K mg base 3 (He.ga K "Signer") "tops" (spTops K) [] := by
  obtain ⟨fd, F⟩ := T.f_Signer_tops
  refine metD T.cl_Signer T.me_Signer_tops F (fun _ _ _ _ _ _ us hl => match us, hl with | [_, _], _ => rfl) sc_Signer_tops (fun vs H Q E h => (by obtain ⟨z, _, h, _⟩ := h; exact h.len)) (fun cdv A outer s H vs Q E hr h => ?_)
  obtain ⟨⟨sg, ix⟩, ⟨ho, hi⟩, hvs, k⟩ := h
  dsimp only at hvs k ho hi
  have hc := chs_in ho.hw
  refine ⟨_, (pss_one (ps_ret (pe_lc (own := [("chain", 2)]) (by rfl) sc_Signer_tops.nd (pi_range1 rfl T.b_range (pa_cons (C8.pe_mt0 (met_Signer_chains T) hr (by decide) (pv 0)) pa_nil)) (blkOk_by (own := [("chain", 2)]) (N := n_Signer_tops) (sc := defScope s_Signer_tops) (by decide +kernel)) (fun _ _ _ _ _ => (pg_name (i := 2) sc_Signer_tops.nd rfl (Or.inl rfl))) (fun _ _ _ _ _ => pts_nil) (fun _ _ _ _ _ => (C8.pe_mt (met_Signer_word T) hr (by decide) (pv 0) (pa_cons (pv 1) (pa_cons (pv 2) (pa_cons (pe_op op_sub (C8.pe_gc rfl T.c_BASE) pe_int) pa_nil)))))))), ?_⟩
  have E := Sl.start (N := n_Signer_tops) hvs
  refine s_retN (ds := (sg.top ix).map nD) ((gn_mapR (f := fun ch => nD (sg.wrd ix ch 15)) E (ga_cons (gv_meth (gv_var E rfl) rfl ga_nil (ok_ch (fs := ["secret", "levels", "words"]) (ds := [nD sg.sec, nD sg.L, sg.wordsD]) ho.hw)) ga_nil) (by omega) (by simp) fun ch hch σ2 H2 e2 E2 => ?_).is (by rw [Sgn.top, List.map_map]; rfl)) k
  exact gv_meth (gv_var E2 rfl) rfl (ga_cons (gv_var E2 rfl) (ga_cons (gv_var E2 rfl) (ga_cons (gv_subN (gv_nat 16) (gv_nat 1) (by omega)) ga_nil))) (ok_wd (fs := []) (ds := []) hi hch (by omega))
theorem ok_tops {H : Hp} {s : Sgn} {ix : Nat} (h : s.Ok) (h2 : ix < 2 ^ s.L) : SpN K (spTops K) [sgX s [] [], nD ix] H ((s.top ix).map nD) := spN_ok (s, ix) ⟨h, h2⟩
theorem path_in {L l ix : Nat} (hi : ix < 2 ^ L) (hl : l < L) : (ix / 2 ^ l) ^^^ 1 < 2 ^ (L - l) := by
  have e : 2 ^ L = 2 ^ l * 2 ^ (L - l) := by rw [← Nat.pow_add, show l + (L - l) = L by omega]
  refine Nat.xor_lt_two_pow ?_ ?_
  · rw [Nat.div_lt_iff_lt_mul (Nat.pow_pos (by decide)), Nat.mul_comm, ← e]
    exact hi
  · exact Nat.one_lt_two_pow (by omega)
abbrev n_Signer_path : List Str := ["self", "index", "level"]
theorem sc_Signer_path : FnScope n_Signer_path ["self", "index"] (defScope s_Signer_path) := ⟨rfl, rfl, rfl, by decide +kernel, rfl, by decide +kernel, by decide +kernel⟩
def spPath (K : PySem.W.Frag) : Sp := spN K (α := Sgn × Nat) (fun z => z.1.Ok ∧ z.2 < 2 ^ z.1.L) (fun z => [sgD z.1, nD z.2]) (fun z => (z.1.path z.2).map nD)
theorem met_Signer_path (T : Txt K mg) : C8.Met P w K mg base 1 (He.ga K "Signer") "path" (spPath K) [] := by
  obtain ⟨fd, F⟩ := T.f_Signer_path
  refine metD T.cl_Signer T.me_Signer_path F (fun _ _ _ _ _ _ us hl => match us, hl with | [_, _], _ => rfl) sc_Signer_path (fun vs H Q E h => (by obtain ⟨z, _, h, _⟩ := h; exact h.len)) (fun cdv A outer s H vs Q E hr h => ?_)
  obtain ⟨⟨sg, ix⟩, ⟨ho, hi⟩, hvs, k⟩ := h
  dsimp only at hvs k ho hi
  have hL := ho.hL
  refine ⟨_, (pss_one (ps_ret (pe_lc (own := [("level", 2)]) (by rfl) sc_Signer_path.nd (pi_range1 rfl T.b_range (pa_cons (pe_fld (pv 0) rfl) pa_nil)) (blkOk_by (own := [("level", 2)]) (N := n_Signer_path) (sc := defScope s_Signer_path) (by decide +kernel)) (fun _ _ _ _ _ => (pg_name (i := 2) sc_Signer_path.nd rfl (Or.inl rfl))) (fun _ _ _ _ _ => pts_nil) (fun _ _ _ _ _ => (pe_ix (ix_list : IxR _ (rIxL K)) (pe_ix (ix_list : IxR _ (rIxL K)) (show PE _ _ (tFld K _ _) from pe_fld (pv 0) rfl) (pv 2) (fun _ _ => rfl)) (pe_op op_xor (pe_op op_shr (pv 1) (pv 2)) pe_int) (fun _ _ => rfl)))))), ?_⟩
  have E := Sl.start (N := n_Signer_path) hvs
  refine s_retN (ds := (sg.path ix).map nD) ((gn_mapR (f := fun l => nD (sg.row l ((ix / 2 ^ l) ^^^ 1))) E (ga_cons (gv_fld (gv_var E rfl) T.cl_Signer T.na_Signer_levels (n := 2) (by decide +kernel) (by decide) rfl) ga_nil) (by omega) (by simp) fun l hl σ2 H2 e2 E2 => ?_).is (by rw [Sgn.path, List.map_map]; rfl)) k
  exact gv_ixLN (gv_ixLN (d := sg.rowD l) (gv_fld (d := sg.rowsD) (gv_var E2 rfl) T.cl_Signer T.na_Signer_rows (n := 4) (by decide +kernel) (by decide) rfl) (gv_var E2 rfl) (rng_get (by omega))) (gv_xorN (gv_shrN (gv_var E2 rfl) (gv_var E2 rfl)) (gv_nat 1)) (rng_get (path_in hi hl))
theorem ok_path {H : Hp} {s : Sgn} {ix : Nat} (h : s.Ok) (h2 : ix < 2 ^ s.L) : SpN K (spPath K) [sgD s, nD ix] H ((s.path ix).map nD) := spN_ok (s, ix) ⟨h, h2⟩
abbrev n_Signer_sign : List Str := ["self", "index", "message", "digits", "words", "chain"]
theorem sc_Signer_sign : FnScope n_Signer_sign ["self", "index", "message"] (defScope s_Signer_sign) := ⟨rfl, rfl, rfl, by decide +kernel, rfl, by decide +kernel, by decide +kernel⟩
def spSign (K : PySem.W.Frag) : Sp := spD K (α := Sgn × Nat × Nat) (fun z => z.1.Ok ∧ z.2.1 < 2 ^ z.1.L) (fun z => [sgD z.1, nD z.2.1, nD z.2.2]) (fun z => sigD (z.1.sig z.2.1 z.2.2))
theorem met_Signer_sign (T : Txt K mg) : C8.Met P w K mg base 3 (He.ga K "Signer") "sign" (spSign K) [] := by
  obtain ⟨fd, F⟩ := T.f_Signer_sign
  refine metD T.cl_Signer T.me_Signer_sign F (fun _ _ _ _ _ _ us hl => match us, hl with | [_, _, _], _ => rfl) sc_Signer_sign (fun vs H Q E h => (by obtain ⟨z, _, h, _⟩ := h; exact h.len)) (fun cdv A outer s H vs Q E hr h => ?_)
  obtain ⟨⟨sg, ix, m⟩, ⟨ho, hi⟩, hvs, k⟩ := h
  dsimp only at hvs k ho hi
  have hL := ho.hL
  have hc := chs_in ho.hw
  refine ⟨_, (pss_cons (ps_set (i := 3) sc_Signer_sign.nd rfl (Or.inr rfl) (C8.pe_c (cal_digits_of T) hr (by decide) rfl (pa_cons (pe_fld (pe_fld (pv 0) rfl) rfl) (pa_cons (pv 2) pa_nil))))
      (pss_cons (ps_setLc (i := 4) (own := [("chain", 5)]) (by rfl) sc_Signer_sign.nd rfl rfl (sw_true rfl rfl rfl (by decide +kernel)) (pi_range1 rfl T.b_range (pa_cons (pe_callB call_len_seq (by rfl) T.b_len (by decide +kernel) (pa_cons (pv 3) pa_nil)) pa_nil)) (blkOk_by (own := [("chain", 5)]) (N := n_Signer_sign) (sc := defScope s_Signer_sign) (by decide +kernel)) (fun _ _ _ _ _ => (pg_name (i := 5) sc_Signer_sign.nd rfl (Or.inl rfl))) (fun _ _ _ _ _ => pts_nil) (fun _ _ _ _ _ => (C8.pe_mt (met_Signer_word T) hr (by decide) (pv 0) (pa_cons (pv 1) (pa_cons (pv 5) (pa_cons (pe_ix (ix_list : IxR _ (rIxL K)) (pv 3) (pv 5) (fun _ _ => rfl)) pa_nil))))))
      (pss_one (ps_ret (pe_callTy call_tuple_of (by rfl) T.b_tuple (by decide +kernel) (pa_cons (pe_op op_cat (pe_op op_cat (pe_lst (pa_cons (pv 1) pa_nil)) (pv 4)) (C8.pe_mt (met_Signer_path T) hr (by decide) (pv 0) (pa_cons (pv 1) pa_nil))) pa_nil)))))), ?_⟩
  have E := Sl.start (N := n_Signer_sign) hvs
  refine s_asg E (gn_call (ga_cons (gv_Hasher_width T (gv_fld (gv_var E rfl) T.cl_Signer T.na_Signer_hasher (n := 0) (by decide +kernel) (by decide) rfl)) (ga_cons (gv_var E rfl) ga_nil)) (ok_digs ho.hw)).gv fun v1 H1 e1 r1 E1 => ?_
  refine s_asg (d := .lst ((List.range (chs sg.w)).map fun ch => nD (sg.wrd ix ch ((digs sg.w m).getD ch 0)))) E1 ((gn_mapR (f := fun ch => nD (sg.wrd ix ch ((digs sg.w m).getD ch 0))) E1 (ga_cons ((gv_lenL (gv_var E1 rfl)).is (by rw [List.length_map, digs_len])) ga_nil) (by omega) (by simp) fun ch hch σ2 H2 e2 E2 => ?_)).gv fun v2 H2 e2 r2 E2 => ?_
  · have hl : ch < (digs sg.w m).length := by rw [digs_len]; exact hch
    have eg : (digs sg.w m)[ch]? = some ((digs sg.w m).getD ch 0) := by rw [List.getD_eq_getElem?_getD, List.getElem?_eq_getElem hl]; rfl
    exact gv_meth (gv_var E2 rfl) rfl (ga_cons (gv_var E2 rfl) (ga_cons (gv_var E2 rfl) (ga_cons (gv_ixLN (gv_var E2 rfl) (gv_var E2 rfl) (by rw [List.getElem?_map, eg]; rfl)) ga_nil))) (ok_wd (fs := ["rows", "public"]) (ds := [sg.rowsD, nD sg.pub]) hi hch (digs_lt (List.mem_of_getElem? eg)))
  refine s_ret (d := sigD (sg.sig ix m)) ((gv_tupL ((gn_cat (gn_cat (gn_lst (ga_cons (gv_var E2 rfl) ga_nil) (by simp)).gv (gv_var E2 rfl) (by simp; omega)).gv (gn_meth (gv_var E2 rfl) rfl (ga_cons (gv_var E2 rfl) ga_nil) (ok_path ho hi)).gv (by simp [Sgn.path]; omega)).gv)).is ?_) fun v H3 e3 r3 => k v H3 ((e1.trans e2).trans e3) r3
  rw [sigD, Sgn.sig, List.map_append, List.map_cons, List.map_map]
  rfl
theorem ok_sign {H : Hp} {s : Sgn} {ix m : Nat} (h : s.Ok) (h2 : ix < 2 ^ s.L) : SpOk K (spSign K) [sgD s, nD ix, nD m] H (sigD (s.sig ix m)) := spD_ok (s, ix, m) ⟨h, h2⟩
end
end K38

set_option Elab.async false
set_option linter.all false
set_option maxRecDepth 100000
set_option maxHeartbeats 4000000
namespace K38
open PySem PySem.Spec PyProof.Rows L2
local macro_rules | `(tactic| walk_at "gv1") => `(tactic| first | exact gv_int | exact gv_str | exact gv_non | exact gv_bl | (refine gv_var (by assumption) ?_; exact rfl) | refine gv_I0 ?_ ?_ | refine gv_Ib ?_ ?_ | refine gv_eqI ?_ ?_ | refine gv_neI ?_ ?_ | refine gt_test ?_ | refine gt_B ?_ | exact ga_nil | refine ga_cons ?_ ?_)
local macro_rules | `(tactic| walk_at "gv") => `(tactic| repeat walk_at "gv1")

section
variable {P : Program} {w : World} {K : PySem.W.Frag} {mg : Str → Option Value} {base : Heap}
abbrev fSg5 : List Str := ["hasher", "secret", "levels", "words", "rows"]
theorem sq_words (s : Sgn) : D.sq s.wordsD := sqs_map (f := fun ix => D.lst (s.kw ix)) fun ix => sqs_map (f := fun ch => D.lst ((List.range 16).map fun st => nD (s.wrd ix ch st))) fun ch => sqs_map (f := fun st => nD (s.wrd ix ch st)) fun st => trivial
theorem pow_L {s : Sgn} (h : s.Ok) : 2 ^ s.L ≤ 8 := by
  rcases h.hL with e | e <;> rw [e] <;> decide
theorem pow_l {s : Sgn} (h : s.Ok) {l : Nat} (hl : l < s.L) : 2 ^ (s.L - l) = 2 ∨ 2 ^ (s.L - l) = 4 ∨ 2 ^ (s.L - l) = 8 := by
  have : s.L - l = 1 ∨ s.L - l = 2 ∨ s.L - l = 3 := by
    have := h.hL
    omega
  rcases this with e | e | e <;> rw [e] <;> decide
/-- the rows behind some levels -/
structure RowsAt (K : PySem.W.Frag) (B : Hp) (s : Sgn) (n : Nat) (as : List Addr) : Prop where
  len : as.length = n
  at_ : ∀ l a, as[l]? = some a → Rp K B (s.rowD l) (.ref a)
theorem RowsAt.ext {B B' : Hp} {s : Sgn} {n : Nat} {as : List Addr} (h : RowsAt K B s n as) (e : Ext B B') : RowsAt K B' s n as := ⟨h.len, fun l a q => (h.at_ l a q).ext e⟩
theorem RowsAt.snoc {B : Hp} {s : Sgn} {n : Nat} {as : List Addr} {a : Addr} (h : RowsAt K B s n as) (r : Rp K B (s.rowD n) (.ref a)) : RowsAt K B s (n + 1) (as ++ [a]) := ⟨by rw [List.length_append, h.len]; rfl, fun l b q => by
  by_cases hl : l < as.length
  · rw [List.getElem?_append_left hl] at q
    exact h.at_ l b q
  · have q2 := (List.getElem?_eq_some_iff.mp q).1
    rw [List.length_append, List.length_singleton] at q2
    have e : l = as.length := by omega
    subst e
    rw [List.getElem?_append_right (Nat.le_refl _), Nat.sub_self] at q
    have e2 : a = b := by simpa using q
    subst e2
    rw [h.len]
    exact r⟩
theorem RowsAt.rps {B : Hp} {s : Sgn} {n : Nat} {as : List Addr} (h : RowsAt K B s n as) : Rps K B ((List.range n).map s.rowD) (as.map V.ref) := Rps.of (by rw [List.length_map, List.length_map, List.length_range, h.len]) fun i d x h1 h2 => by
  rw [List.getElem?_map] at h1 h2
  cases q : as[i]? with
  | none =>
    rw [q] at h2
    cases h2
  | some a =>
    rw [q] at h2
    cases h2
    have hi : i < n := by
      rw [← h.len]
      exact (List.getElem?_eq_some_iff.mp q).1
    rw [List.getElem?_range hi] at h1
    cases h1
    exact h.at_ i a q
theorem rps_adr {H : Hp} : ∀ {as : List Addr}, Rps K H (as.map D.adr) (as.map V.ref)
  | [] => .nil
  | _ :: _ => .cons rfl rps_adr
theorem last_split {α : Type} {as : List α} {n : Nat} {a : α} (hl : as.length = n + 1) (h : as[n]? = some a) : as = as.take n ++ [a] := by
  have h2 : as.drop n = [a] := by
    refine List.ext_getElem? fun m => ?_
    rw [List.getElem?_drop]
    cases m with
    | zero => exact h
    | succ m => rw [List.getElem?_eq_none (by omega), List.getElem?_eq_none (by simp)]
  conv => lhs; rw [← List.take_append_drop n as, h2]
theorem last_map {α β : Type} {f : α → β} {as : List α} {n : Nat} {a : α} (hl : as.length = n + 1) (h : as[n]? = some a) : as.map f = (as.take n).map f ++ [f a] := by
  conv => lhs; rw [last_split hl h]
  rw [List.map_append]
  rfl
abbrev n_Signer_init : List Str := ["self", "hasher", "secret", "levels", "level", "row", "pairs", "index", "k", "left", "right"]
theorem sc_Signer_init : FnScope n_Signer_init ["self", "hasher", "secret", "levels"] (defScope s_Signer_init) := ⟨rfl, rfl, rfl, by decide +kernel, rfl, by decide +kernel, by decide +kernel⟩
def spSgn (K : PySem.W.Frag) : Sp := spMk K "Signer" (α := Sgn) Sgn.Ok (fun s => [hshD s.w, nD s.sec, nD s.L]) sgD
/-- a new row joins -/
theorem s_rowApp {nx : L2.St → Hp → Prop} {rt : V → Hp → Prop} {bk ct : L2.St → Hp → Prop} {B H : Hp} {G : Sg} {σ : L2.St} {te : TE} {ds : List D} {x dx p : Addr} {fs : List (Str × V)} {xs : List V} {ta : TE} (E : Sl K B G σ) (cl : Cell B H x dx (He.ga K "Signer") fs) (lc : LCell B H p xs) (hf : Gv K ta σ H (.adr p)) (h : GvN K te σ B ds) (hl : xs.length < 1000)
    (k : ∀ a B' H', Ext B B' → Sl K B' G σ → Rp K B' (.lst ds) (.ref a) → Cell B' H' x dx (He.ga K "Signer") fs → LCell B' H' p (xs ++ [.ref a]) → nx σ H') : tDrop (tBM K "list" rAppend ta (tCons (tFr te) tNil)) ⟨nx, rt, bk, ct⟩ σ H :=
  hf H Ext.rfl' _ fun v H1 e1 rv => by
    have ev : v = .ref p := rv
    subst ev
    have cl1 := cl.mono e1
    have lc1 := lc.mono e1
    refine ⟨.inl ⟨rfl, xs, SqL.of lc1.at_⟩, fr_gn (bs_add cl1.bs lc1) h fun q ys B' H2 hq a h2 r2 => ?_⟩
    have cl2 := cl1.afterL a (by simp) (by simp)
    have lc2 := lc1.afterL a (by simp)
    obtain ⟨n1, n2⟩ := lc2.nex cl2
    exact ⟨p, xs, _, rfl, rfl, lc2.at_, sz_lt (by omega), k q B' _ a.b (E.ext a.b) ⟨q, ys, rfl, h2, r2⟩ (cl2.keep n1 n2 lc2.fx) lc2.set⟩
theorem mak_Signer (T : Txt K mg) : C8.Mak P w K mg base 5 "Signer" (He.ga K "Signer") (spSgn K) [] := by
  obtain ⟨fd, F⟩ := T.f_Signer_init
  refine makD T.mk_Signer T.g_Signer F (fun _ _ _ _ _ _ us hl => match us, hl with | [_, _, _, _], _ => rfl) sc_Signer_init (fun vs H Q E h => (by obtain ⟨z, x, dx, us, B, _, rfl, _, r, _⟩ := h; rw [List.length_cons, r.len]; rfl)) (fun cdv A outer s H vs Q E hr h => ?_)
  obtain ⟨sg, x, dx, us, B, ho, rfl, cl, r, k⟩ := h
  have hw := ho.hw
  have hL := ho.hL
  have hp8 := pow_L ho
  haveI : NF K "Signer" := nf_of T 4 (by decide) rfl
  refine ⟨_, (pss_cons (ps_fld (pv 0) (pv 1) rfl)
      (pss_cons (ps_fld (pv 0) (pv 2) rfl)
      (pss_cons (ps_fld (pv 0) (pv 3) rfl)
      (pss_cons (ps_fld (pv 0) (pe_lc (own := [("index", 7)]) (by rfl) sc_Signer_init.nd (pi_range1 rfl T.b_range (pa_cons (pe_op op_shl pe_int (pv 3)) pa_nil)) (blkOk_by (own := [("index", 7)]) (N := n_Signer_init) (sc := defScope s_Signer_init) (by decide +kernel)) (fun _ _ _ _ _ => (pg_name (i := 7) sc_Signer_init.nd rfl (Or.inl rfl))) (fun _ _ _ _ _ => pts_nil) (fun _ _ _ _ _ => (pe_fr (C8.pe_mt (met_Signer_key_words T) hr (by decide) (pv 0) (pa_cons (pv 7) pa_nil))))) rfl)
      (pss_cons (ps_fld (pv 0) (pe_lst (pa_cons (pe_lc (own := [("index", 7)]) (by rfl) sc_Signer_init.nd (pi_range1 rfl T.b_range (pa_cons (pe_op op_shl pe_int (pv 3)) pa_nil)) (blkOk_by (own := [("index", 7)]) (N := n_Signer_init) (sc := defScope s_Signer_init) (by decide +kernel)) (fun _ _ _ _ _ => (pg_name (i := 7) sc_Signer_init.nd rfl (Or.inl rfl))) (fun _ _ _ _ _ => pts_nil) (fun _ _ _ _ _ => (C8.pe_c (cal_key_digest T) hr (by decide) rfl (pa_cons (pv 1) (pa_cons (pv 7) (pa_cons (C8.pe_mt (met_Signer_tops T) hr (by decide) (pv 0) (pa_cons (pv 7) pa_nil)) pa_nil)))))) pa_nil)) rfl)
      (pss_cons (ps_for PassesOwn.never rfl (pi_range1 rfl T.b_range (pa_cons (pv 3) pa_nil)) (pg_name (i := 4) sc_Signer_init.nd rfl (Or.inr rfl)) (pss_cons (ps_set (i := 5) sc_Signer_init.nd rfl (Or.inr rfl) (pe_ix (ix_list : IxR _ (rIxL K)) (pe_fld (pv 0) rfl) (pe_un un_neg pe_int) (fun _ _ => rfl)))
      (pss_cons (ps_setLc (i := 6) (own := [("k", 8)]) (by rfl) sc_Signer_init.nd rfl rfl (sw_true rfl rfl rfl (by decide +kernel)) (pi_range3 rfl T.b_range (pa_cons pe_int (pa_cons (pe_callB call_len_seq (by rfl) T.b_len (by decide +kernel) (pa_cons (pv 5) pa_nil)) (pa_cons pe_int pa_nil)))) (blkOk_by (own := [("k", 8)]) (N := n_Signer_init) (sc := defScope s_Signer_init) (by decide +kernel)) (fun _ _ _ _ _ => (pg_name (i := 8) sc_Signer_init.nd rfl (Or.inl rfl))) (fun _ _ _ _ _ => pts_nil) (fun _ _ _ _ _ => (pe_tup (pa_cons (pe_ix (ix_list : IxR _ (rIxL K)) (pv 5) (pv 8) (fun _ _ => rfl)) (pa_cons (pe_ix (ix_list : IxR _ (rIxL K)) (pv 5) (pe_op op_add (pv 8) pe_int) (fun _ _ => rfl)) pa_nil)))))
      (pss_one (ps_expr (pe_bm PySem.F.plainAttrs_list PySem.F.slot_list_append PySem.F.type_list_append mt_append (pe_fld (pv 0) rfl) (pa_cons (pe_fr (pe_lc (own := [("left", 9), ("right", 10)]) (by rfl) sc_Signer_init.nd (pi_list (pv 6)) (blkOk_by (own := [("left", 9), ("right", 10)]) (N := n_Signer_init) (sc := defScope s_Signer_init) (by decide +kernel)) (fun _ _ _ _ _ => (show PG _ _ (gTup K 2 _) from (pg_tup (by rfl) (pgs_cons (pg_name (i := 9) sc_Signer_init.nd rfl (Or.inl rfl)) (pgs_cons (pg_name (i := 10) sc_Signer_init.nd rfl (Or.inl rfl)) pgs_nil))))) (fun _ _ _ _ _ => pts_nil) (fun _ _ _ _ _ => (C8.pe_mt (met_Hasher_digest T) hr (by decide) (pv 1) (pa_cons (C8.pe_gc rfl T.c_TREE) (pa_cons (pe_tup (pa_cons (pv 4) (pa_cons (pv 9) (pa_cons (pv 10) pa_nil)))) pa_nil)))))) pa_nil)))))))
      (pss_one (ps_fld (pv 0) (C8.pe_mt (met_Hasher_digest T) hr (by decide) (pv 1) (pa_cons (C8.pe_gc rfl T.c_TREE) (pa_cons (pe_tup (pa_cons (pv 3) (pa_cons (pe_ix (ix_list : IxR _ (rIxL K)) (pe_ix (ix_list : IxR _ (rIxL K)) (pe_fld (pv 0) rfl) (pe_un un_neg pe_int) (fun _ _ => rfl)) pe_int (fun _ _ => rfl)) pa_nil))) pa_nil))) rfl)))))))), ?_⟩
  have E := Sl.start (N := n_Signer_init) (Rps.cons (d := .adr x) rfl r)
  refine s_iniH (K := K) (fs := []) (us := []) E rfl cl rfl (gv_var (E.ext cl.ext) rfl) ⟨by simp [frozen], trivial, trivial⟩ T.cl_Signer T.na_Signer_hasher rfl (by decide) fun v1 B1 H1 b1 E1 c1 l1 r1 => ?_
  refine s_iniH (K := K) (fs := ["hasher"]) (us := [v1]) E1 rfl c1 rfl (gv_var (E1.ext c1.ext) rfl) trivial T.cl_Signer T.na_Signer_secret (by decide) (by decide) fun v2 B2 H2 b2 E2 c2 l2 r2 => ?_
  refine s_iniH (K := K) (fs := ["hasher", "secret"]) (us := [v1, v2]) E2 rfl c2 rfl (gv_var (E2.ext c2.ext) rfl) trivial T.cl_Signer T.na_Signer_levels (by decide +kernel) (by decide) fun v3 B3 H3 b3 E3 c3 l3 r3 => ?_
  have s3 : Rp K H3 (sg3 sg) (.ref x) := c3.rp (fs := ["hasher", "secret", "levels"]) (.cons ((r1.ext b2).ext b3) (.cons (r2.ext b3) (.cons r3 .nil)))
  have E3' := E3.ext c3.ext
  refine s_iniH (K := K) (d := sg.wordsD) (fs := ["hasher", "secret", "levels"]) (us := [v1, v2, v3]) E3 rfl c3 rfl ((gn_mapRF (f := fun ix => .lst (sg.kw ix)) E3' (ga_cons ((gv_shlN (gv_nat 1) (gv_var E3' rfl) (by omega) (by omega)).is (by rw [Nat.one_mul])) ga_nil) (by omega) (by simp) fun ix hix σ2 H4 e4 E4 => ?_).gv) (sq_words sg) T.cl_Signer T.na_Signer_words (by decide +kernel) (by decide) fun v4 B4 H4 b4 E4 c4 l4 r4 => ?_
  · exact (gn_meth (gv_view (gv_var E4 rfl) (s3.ext e4)) rfl (ga_cons (gv_var E4 rfl) ga_nil) (ok_KW ho (by omega))).gv
  have rs4 : Rps K B4 [hshD sg.w, nD sg.sec, nD sg.L, sg.wordsD] [v1, v2, v3, v4] := .cons (((r1.ext b2).ext b3).ext b4) (.cons ((r2.ext b3).ext b4) (.cons (r3.ext b4) (.cons r4 .nil)))
  have s4 : Rp K H4 (sgX sg [] []) (.ref x) := c4.rp (fs := ["hasher", "secret", "levels", "words"]) rs4
  have E4' := E4.ext c4.ext
  -- self.rows = [[..]]
  refine s_iniR (K := K) (ds := [sg.rowD 0]) (fs := ["hasher", "secret", "levels", "words"]) (us := [v1, v2, v3, v4]) E4 rfl c4 rfl (gn_lst (ga_cons (d := sg.rowD 0) ((gn_mapR (f := fun ix => nD (sg.row 0 ix)) E4' (ga_cons ((gv_shlN (gv_nat 1) (gv_var E4' rfl) (by omega) (by omega)).is (by rw [Nat.one_mul])) ga_nil) (by omega) (by simp) fun ix hix σ2 H5 e5 E5 => gv_call (ga_cons (gv_var E5 rfl) (ga_cons (gv_var E5 rfl) (ga_cons (gn_meth (gv_view (gv_var E5 rfl) (s4.ext e5)) rfl (ga_cons (gv_var E5 rfl) ga_nil) (ok_tops ho hix)).gv ga_nil))) (ok_KD hw (top_ok hw (by omega)))).gv) ga_nil) (by simp)) T.cl_Signer T.na_Signer_rows (by decide +kernel) (by decide) fun p xs H5 hp e5 h5 r5 => ?_
  obtain ⟨vr, rfl, rr⟩ := one_of r5
  obtain ⟨a0, ys0, rfl, ha0, rr0⟩ := rr
  have hpa : a0 ≠ p := by
    intro e
    rw [e, h5] at ha0
    have e2 : [V.ref a0] = ys0 := HO.lst.inj (Option.some.inj ha0)
    subst e2
    have hp0 : 0 < 2 ^ (sg.L - 0) := Nat.pow_pos (by decide)
    obtain ⟨d, hd1, hd2⟩ := rr0.got (i := 0) (x := V.ref a0) rfl
    rw [List.getElem?_map, List.getElem?_range hp0] at hd1
    have e3 : nD (sg.row 0 0) = d := Option.some.inj hd1
    subst e3
    exact nomatch (show V.ref a0 = V.int _ from hd2)
  have cl5 := c4.mono e5
  -- the world beside
  let B5 : Hp := hide [p, x, dx] H5
  have b45 : Ext B4 B5 := ext_hide (c4.ext.trans e5) fun a ha => by
    rcases List.mem_cons.mp ha with rfl | ha
    · exact fresh_back c4.ext hp
    rcases List.mem_cons.mp ha with rfl | ha
    · exact c4.fx
    · rw [List.mem_singleton.mp ha]
      exact c4.fd
  have npx : p ≠ x := fun e => by rw [e, c4.at_] at hp; cases hp
  have npd : p ≠ dx := fun e => by rw [e, c4.own] at hp; cases hp
  have cl6 : Cell B5 H5 x dx (He.ga K "Signer") _ := ⟨hide_ext, hide_in (by simp), hide_in (by simp), cl5.ne, cl5.at_, cl5.own⟩
  have lc6 : LCell B5 H5 p [V.ref a0] := ⟨hide_ext, hide_in (by simp), h5⟩
  have ra0 : RowsAt K B5 sg 1 [a0] := by
    refine ⟨rfl, fun l a q => ?_⟩
    have hl : l < 1 := (List.getElem?_eq_some_iff.mp q).1
    have e : l = 0 := by omega
    subst e
    have e2 : a0 = a := Option.some.inj q
    subst e2
    refine ⟨a0, ys0, rfl, ?_, ?_⟩
    · show hide [p, x, dx] H5 a0 = _
      rw [hide_out]
      · exact ha0
      · intro ha
        rcases List.mem_cons.mp ha with e | ha
        · exact hpa e
        rcases List.mem_cons.mp ha with e | ha
        · rw [e, cl5.at_] at ha0
          cases ha0
        · rw [List.mem_singleton.mp ha, cl5.own] at ha0
          cases ha0
    · have e3 : ys0 = _ := rr0.flat_eq (f := fun k => nD (sg.row 0 k)) (g := fun k => nV (sg.row 0 k)) fun _ _ r => r
      rw [e3]
      exact rps_nat' _ _
  -- the levels
  have E5 := E4.ext b45
  have cl7 := cl6.set (fSg5.zip [v1, v2, v3, v4, .ref p])
  have lc7 := lc6.keep npx cl6.fx (o := .ins (He.ga K "Signer") dx (fSg5.zip [v1, v2, v3, v4, .ref p]))
  have rs5 : Rps K B5 [hshD sg.w, nD sg.sec, nD sg.L, sg.wordsD] [v1, v2, v3, v4] := rs4.ext b45
  have view : ∀ {B' H' : Hp}, Ext B5 B' → Cell B' H' x dx (He.ga K "Signer") (fSg5.zip [v1, v2, v3, v4, V.ref p]) → Rp K H' (.ins "Signer" fSg5 [hshD sg.w, nD sg.sec, nD sg.L, sg.wordsD, .adr p]) (.ref x) := fun e c => c.rp (fs := fSg5) ((rs5.ext e).snoc (d := .adr p) rfl)
  refine s_forR1 (j := 4) (n := sg.L) (ga_cons (gv_var (E5.ext cl7.ext) rfl) ga_nil) (by omega) (fun i σ' H' => ∃ B' as, i ≤ sg.L ∧ Ext B5 B' ∧ Cell B' H' x dx (He.ga K "Signer") (fSg5.zip [v1, v2, v3, v4, V.ref p]) ∧ LCell B' H' p (as.map V.ref) ∧ RowsAt K B' sg (i + 1) as ∧ Sl K B' [some (.adr x), some (hshD sg.w), some (nD sg.sec), some (nD sg.L), none, none, none, none, none, none, none] σ') (fun H7 e7 => ⟨B5, [a0], Nat.zero_le _, Ext.rfl', cl7.mono e7, lc7.mono e7, ra0, E5⟩) ?_ ?_
  · rintro i σ' H' hi ⟨B', as, hin, e, cl, lc, ra, E6⟩
    have E7 := E6.set (i := 4) (d := nD i) (v := .int ((i : Nat) : Int)) rfl
    have E7' := E7.ext cl.ext
    obtain ⟨al, hal⟩ : ∃ a, as[i]? = some a := ⟨_, List.getElem?_eq_getElem (by rw [ra.len]; omega)⟩
    have hsnoc : as.map D.adr = (as.take i).map D.adr ++ [D.adr al] := last_map ra.len hal
    have hrows : ∀ {σ2 : L2.St} {H2 : Hp} {t : TE}, Ext H' H2 → Gv K t σ2 H2 (.adr x) → Gv K (tFld K t "rows") σ2 H2 (.adr p) := fun e2 g => gv_fld (gv_view g ((view e cl).ext e2)) T.cl_Signer T.na_Signer_rows (n := 4) (by decide +kernel) (by decide) rfl
    refine s_asg (d := .adr al) E7' (gv_ixL (ds := as.map D.adr) (gv_view (hrows Ext.rfl' (gv_var E7' rfl)) (lc.rp rps_adr)) gv_neg1 (by rw [hsnoc]; exact atI_last)) fun v5 H8 e8 r8 _ => ?_
    have ev5 : v5 = .ref al := r8
    subst ev5
    have E8 := E7.set (i := 5) (d := sg.rowD i) (v := .ref al) (ra.at_ i al hal)
    have cl8 := cl.mono e8
    have lc8 := lc.mono e8
    have E8' := E8.ext cl8.ext
    have hpw := pow_l ho hi
    refine s_asgN (ds := (List.range (2 ^ (sg.L - i) / 2)).map fun k => .tup [nD (sg.row i (2 * k)), nD (sg.row i (2 * k + 1))]) E8' (gn_mapR3 (n := 2 ^ (sg.L - i)) (f := fun k => .tup [nD (sg.row i (2 * k)), nD (sg.row i (2 * k + 1))]) E8' (ga_cons (gv_nat 0) (ga_cons ((gv_lenL (gv_var E8' rfl)).is (by rw [List.length_map, List.length_range])) (ga_cons (gv_nat 2) ga_nil))) hpw (by simp) fun k hk σ2 H2 e2 E2 => gv_tup (ga_cons (gv_ixLN (gv_var E2 rfl) (gv_var E2 rfl) (rng_get (by omega))) (ga_cons (gv_ixLN (gv_var E2 rfl) (gv_addN (gv_var E2 rfl) (gv_nat 1)) (rng_get (by omega))) ga_nil)) (by simp)) fun q ys H9 hq e9 h9 r9 _ => ?_
    have cl9 := cl8.mono e9
    have lc9 := lc8.mono e9
    obtain ⟨c9, l9, b9⟩ := cl9.hidL lc9
    have nfz : ∀ a ∈ [p, x, dx], ∀ c ∈ frozen, ∀ dx' fs, H9 a ≠ some (.ins (He.ga K c) dx' fs) := fun a ha c hc dx' fs z => by
      rcases List.mem_cons.mp ha with rfl | ha
      · rw [lc9.at_] at z
        cases z
      rcases List.mem_cons.mp ha with rfl | ha
      · rw [cl9.at_] at z
        injection z with z
        injection z with z1
        exact (nf_of T 4 (by decide) rfl : NF K "Signer").nf c hc z1.symm
      · rw [List.mem_singleton.mp ha, cl9.own] at z
        cases z
    have g9 := gr_hide (bs_add c9.bs l9).ok nfz
    have hBq : hide [p, x, dx] H9 q = some (.lst ys) := by
      rw [hide_out]
      · exact h9
      · intro ha
        rcases List.mem_cons.mp ha with rfl | ha
        · rw [lc8.at_] at hq
          cases hq
        rcases List.mem_cons.mp ha with rfl | ha
        · rw [cl8.at_] at hq
          cases hq
        · rw [List.mem_singleton.mp ha, cl8.own] at hq
          cases hq
    have E9 := (E8.ext b9).set (i := 6) (d := .lst ((List.range (2 ^ (sg.L - i) / 2)).map fun k => .tup [nD (sg.row i (2 * k)), nD (sg.row i (2 * k + 1))])) (v := .ref q) ⟨q, ys, rfl, hBq, r9.gr g9 _ (pus_iff.mpr fun d hd => by
      obtain ⟨k, _, rfl⟩ := List.mem_map.mp hd
      exact ⟨trivial, trivial, trivial⟩)⟩
    have E9' := E9.ext c9.ext
    have hns : ∀ k, NsOk [i, sg.row i (2 * k), sg.row i (2 * k + 1)] := fun k => nsOk_of (by simp) (by
      have h1 := row_lt hw (s := sg) i (2 * k)
      have h2 := row_lt hw (s := sg) i (2 * k + 1)
      simp
      omega)
    refine s_rowApp (K := K) (ds := (List.range (2 ^ (sg.L - i) / 2)).map fun k => nD (sg.row (i + 1) k)) E9 c9 l9 (hrows (e8.trans e9) (gv_var E9' rfl)) (gn_mapLP (e1 := fun k => nD (sg.row i (2 * k))) (e2 := fun k => nD (sg.row i (2 * k + 1))) (f := fun k => nD (sg.row (i + 1) k)) E9 (gv_var E9 rfl) (by rw [List.length_range]; omega) (by simp) (by simp) fun k hk σ2 H2 e2 E2 => gv_meth (gv_var E2 rfl) rfl (ga_cons (gv_nat 6) (ga_cons (gv_tup (ga_cons (gv_var E2 rfl) (ga_cons (gv_var E2 rfl) (ga_cons (gv_var E2 rfl) ga_nil))) (by simp)) ga_nil)) (ok_dig (b := false) (ns := [i, sg.row i (2 * k), sg.row i (2 * k + 1)]) hw (hns k))) (by rw [List.length_map, ra.len]; omega) fun a B2 H2 b2 E2 rA cl2 lc2 => ⟨B2, as ++ [a], by omega, (e.trans b9).trans b2, cl2, by rw [List.map_append]; exact lc2, ((ra.ext b9).ext b2).snoc ?_, E2.wk ⟨.inr rfl, .inr rfl, .inr rfl, .inr rfl, .inl rfl, .inl rfl, .inl rfl, .inl rfl, .inl rfl, .inl rfl, .inl rfl, trivial⟩⟩
    have e2 : 2 ^ (sg.L - i) / 2 = 2 ^ (sg.L - (i + 1)) := by
      rw [show sg.L - i = (sg.L - (i + 1)) + 1 by omega, Nat.pow_succ]
      omega
    rw [e2] at rA
    exact rA
  · rintro σ' H' ⟨B', as, hin, e, cl, lc, ra, E6⟩
    have E6' := E6.ext cl.ext
    obtain ⟨al, hal⟩ : ∃ a, as[sg.L]? = some a := ⟨_, List.getElem?_eq_getElem (by rw [ra.len]; omega)⟩
    have hg : as.map D.adr = (as.take sg.L).map D.adr ++ [D.adr al] := last_map ra.len hal
    have hlast : Rp K H' (sg.rowD sg.L) (.ref al) := (ra.at_ sg.L _ hal).ext cl.ext
    have hns : NsOk [sg.L, sg.row sg.L 0] := nsOk_of (by simp) (by
      have h1 := row_lt hw (s := sg) sg.L 0
      simp
      omega)
    have hfld : Gv K (tFld K (tVar 0) "rows") σ' H' (.adr p) := gv_fld (gv_view (gv_var E6' rfl) (view e cl)) T.cl_Signer T.na_Signer_rows (n := 4) (by decide +kernel) (by decide) rfl
    refine s_iniV (K := K) (d := nD sg.pub) (fs := fSg5) (us := [v1, v2, v3, v4, .ref p]) E6 rfl cl rfl (gv_meth (gv_var E6' rfl) rfl (ga_cons (gv_nat 6) (ga_cons (gv_tup (ga_cons (gv_var E6' rfl) (ga_cons (gv_ixLN (ds := (List.range (2 ^ (sg.L - sg.L))).map fun k => nD (sg.row sg.L k)) (gv_view (gv_ixL (ds := as.map D.adr) (gv_view hfld (lc.rp rps_adr)) gv_neg1 (by rw [hg]; exact atI_last)) hlast) (gv_nat 0) (rng_get (by rw [Nat.sub_self]; decide))) ga_nil)) (by simp)) ga_nil)) (ok_dig (b := false) (ns := [sg.L, sg.row sg.L 0]) hw hns)) T.cl_Signer T.na_Signer_public (by decide +kernel) (by decide) fun v6 H7 e7 r7 => ?_
    have bx : Ext B' (upd H7 x (.ins (He.ga K "Signer") dx ((fSg5 ++ (["public"] : List Str)).zip ([v1, v2, v3, v4, V.ref p] ++ [v6])))) := ((cl.mono e7).set _).ext
    refine k _ ((((((b1.trans b2).trans b3).trans b4).trans b45).trans e).trans bx) ⟨x, dx, [v1, v2, v3, v4, V.ref p] ++ [v6], rfl, upd_same, ?_⟩
    refine Rps.append ((rs5.ext (e.trans bx)).snoc (d := sg.rowsD) ⟨p, as.map V.ref, rfl, ?_, (ra.rps).ext bx⟩) (.cons r7 .nil)
    rw [upd_ne npx]
    exact e7 _ _ lc.at_
theorem ok_Sgn {s : Sgn} (h : s.Ok) : s.Ok := h
end
end K38

set_option Elab.async false
set_option linter.all false
set_option maxRecDepth 100000
set_option maxHeartbeats 4000000
namespace K38
open PySem PySem.Spec PyProof.Rows L2
local macro_rules | `(tactic| walk_at "gv1") => `(tactic| first | exact gv_int | exact gv_str | exact gv_non | exact gv_bl | (refine gv_var (by assumption) ?_; exact rfl) | refine gv_I0 ?_ ?_ | refine gv_Ib ?_ ?_ | refine gv_eqI ?_ ?_ | refine gv_neI ?_ ?_ | refine gt_test ?_ | refine gt_B ?_ | exact ga_nil | refine ga_cons ?_ ?_)
local macro_rules | `(tactic| walk_at "gv") => `(tactic| repeat walk_at "gv1")

/-- a signature's shape -/
structure SigOk (w L : Nat) (s : Sig) : Prop where
  hw : WOk w
  len : s.length = 1 + chs w + L
  ix : s.getD 0 0 < 2 ^ L
  lt : ∀ n ∈ s.drop 1, n < 2 ^ w
  hL : L = 2 ∨ L = 3
def vTop (w : Nat) (s : Sig) (m k : Nat) : Nat := cw w (s.getD 0 0) k ((digs w m).getD k 0) (s.getD (1 + k) 0) (15 - (digs w m).getD k 0)
def vTops (w : Nat) (s : Sig) (m : Nat) : List Nat := (List.range (chs w)).map (vTop w s m)
def vInp (w : Nat) (s : Sig) (m : Nat) : Nat → Inp
  | 0 => (5, s.getD 0 0 :: vTops w s m)
  | l + 1 =>
    let d := dg w (vInp w s m l).1 (vInp w s m l).2
    let p := s.getD (1 + chs w + l) 0
    (6, if s.getD 0 0 / 2 ^ l % 2 = 0 then [l, d, p] else [l, p, d])
def vDg (w : Nat) (s : Sig) (m l : Nat) : Nat := dg w (vInp w s m l).1 (vInp w s m l).2
def vIns (w L : Nat) (s : Sig) (m : Nat) : List Inp := (List.range (L + 1)).map (vInp w s m) ++ [(6, [L, vDg w s m L])]
def vfy (w L : Nat) (pub m : Nat) (s : Sig) : Bool := decide (dg w 6 [L, vDg w s m L] = pub)
theorem getD_of {l : List Nat} {i : Nat} (h : i < l.length) : l[i]? = some (l.getD i 0) := by
  rw [List.getD_eq_getElem?_getD, List.getElem?_eq_getElem h]
  rfl
theorem SigOk.w_lt {w L : Nat} {s : Sig} (h : SigOk w L s) {i : Nat} (h1 : 1 ≤ i) : s.getD i 0 < 4096 := by
  by_cases hi : i < s.length
  · have e := getD_of hi
    have m : s.getD i 0 ∈ s.drop 1 := by
      refine List.mem_of_getElem? (i := i - 1) ?_
      rw [List.getElem?_drop, show 1 + (i - 1) = i by omega]
      exact e
    exact Nat.lt_of_lt_of_le (h.lt _ m) (two_pow_le h.hw)
  · rw [List.getD_eq_getElem?_getD, List.getElem?_eq_none (by omega)]
    decide
theorem SigOk.ix8 {w L : Nat} {s : Sig} (h : SigOk w L s) : s.getD 0 0 < 8 := by
  have h1 := h.ix
  rcases h.hL with e | e <;> subst e <;> exact Nat.lt_of_lt_of_le h1 (by decide)
theorem vTops_len (w : Nat) (s : Sig) (m : Nat) : (vTops w s m).length = chs w := by rw [vTops, List.length_map, List.length_range]
theorem vInp_ok {w L : Nat} {s : Sig} (h : SigOk w L s) (m : Nat) : ∀ {l : Nat}, l ≤ 3 → NsOk (vInp w s m l).2
  | 0, _ => by
    have hc := chs_in h.hw
    have h8 := h.ix8
    refine nsOk_of (by show (_ :: vTops w s m).length ≤ 1000; rw [List.length_cons, vTops_len]; omega) fun n hn => ?_
    rcases List.mem_cons.mp hn with rfl | hn
    · omega
    · obtain ⟨k, _, rfl⟩ := List.mem_map.mp hn
      have := h.w_lt (i := 1 + k) (by omega)
      exact cw_lt h.hw (by omega) _
  | l + 1, hl => by
    have h1 : vDg w s m l < 4096 := dg_small h.hw _ _
    have h2 := h.w_lt (i := 1 + chs w + l) (by omega)
    have e : vInp w s m (l + 1) = (6, if s.getD 0 0 / 2 ^ l % 2 = 0 then [l, vDg w s m l, s.getD (1 + chs w + l) 0] else [l, s.getD (1 + chs w + l) 0, vDg w s m l]) := rfl
    rw [e]
    dsimp only
    split
    · refine nsOk_of (by simp) fun n hn => ?_
      simp only [List.mem_cons, List.not_mem_nil, or_false] at hn
      rcases hn with rfl | rfl | rfl <;> omega
    · refine nsOk_of (by simp) fun n hn => ?_
      simp only [List.mem_cons, List.not_mem_nil, or_false] at hn
      rcases hn with rfl | rfl | rfl <;> omega
section
variable {P : Program} {w : World} {K : PySem.W.Frag} {mg : Str → Option Value} {base : Heap}
theorem ok_isD {H : Hp} {w n : Nat} (h : WOk w) : SpOk K (spIsD K) [hshD w, nD n] H (.bl (decide (n < 2 ^ w))) := spD_ok (w, n) h
abbrev n_levels_of : List Str := ["hasher", "signature", "levels", "word"]
theorem sc_levels_of : FnScope n_levels_of ["hasher", "signature"] (defScope s_levels_of) := ⟨rfl, rfl, rfl, by decide +kernel, rfl, by decide +kernel, by decide +kernel⟩
def spLev (K : PySem.W.Frag) : Sp := spD K (α := Nat × Nat × Sig) (fun z => SigOk z.1 z.2.1 z.2.2) (fun z => [hshD z.1, sigD z.2.2]) (fun z => nD z.2.1)
theorem cal_levels_of (T : Txt K mg) : C8.Cal P w K mg base 2 "levels_of" (spLev K) [] := by
  obtain ⟨fd, F⟩ := T.f_levels_of
  refine calD F T.g_levels_of (fun _ _ _ _ _ _ us hl => match us, hl with | [_, _], _ => rfl) sc_levels_of (fun vs H Q E h => (by obtain ⟨z, _, h, _⟩ := h; exact h.len)) (fun cdv A outer s H vs Q E hr h => ?_)
  obtain ⟨⟨wd, L, sg⟩, hs, hvs, k⟩ := h
  dsimp only at hvs k hs
  have hw := hs.hw
  have hL := hs.hL
  have hl := hs.len
  have hc := chs_in hw
  have hix := hs.ix
  refine ⟨_, (pss_cons (ps_set (i := 2) sc_levels_of.nd rfl (Or.inl rfl) (pe_op op_sub (pe_op op_sub (pe_callB call_len_seq (by rfl) T.b_len (by decide +kernel) (pa_cons (pv 1) pa_nil)) pe_int) (pe_callB (cr_sumT rfl) (by rfl) T.b_sum (by decide +kernel) (pa_cons (C8.pe_c (cal_digit_counts T) hr (by decide) rfl (pa_cons (pe_fld (pv 0) rfl) pa_nil)) pa_nil))))
      (pss_cons (ps_if (PW.pt (pw_or (pt_not (pt_chain op_le op_le pe_int (pv 2) (C8.pe_gc rfl T.c_MOST_LEVELS))) (pw_or1 (pt_not (pt_chain op_le op_lt pe_int (pe_ix (ix_tup : IxR _ (rIxT K)) (pv 1) pe_int (fun _ _ => rfl)) (pe_op op_shl pe_int (pv 2))))))) (pss_one (ps_ret pe_non)) pss_nil)
      (pss_cons (ps_if (pt_not (pt_val (pe_callB (cr_all rfl) (by rfl) T.b_all (by decide +kernel) (pa_cons (pe_lc (own := [("word", 3)]) (by rfl) sc_levels_of.nd (pi_tup (pe_slice sl_tup (pv 1) (po_some pe_int) po_none)) (blkOk_by (own := [("word", 3)]) (N := n_levels_of) (sc := defScope s_levels_of) (by decide +kernel)) (fun _ _ _ _ _ => (pg_name (i := 3) sc_levels_of.nd rfl (Or.inl rfl))) (fun _ _ _ _ _ => pts_nil) (fun _ _ _ _ _ => (C8.pe_mt (met_Hasher_is_digest T) hr (by decide) (pv 0) (pa_cons (pv 3) pa_nil)))) pa_nil)))) (pss_one (ps_ret pe_non)) pss_nil)
      (pss_one (ps_ret (pv 2)))))), ?_⟩
  have E := Sl.start (N := n_levels_of) hvs
  have el : (sg.map nD).length = 1 + chs wd + L := by rw [List.length_map, hl]
  refine s_asg (d := nD L) E ((gv_subN (m := 1 + chs wd + L - 1) (n := chs wd) (gv_subN (m := 1 + chs wd + L) (n := 1) ((gv_lenT (gv_var E rfl)).is (by rw [el])) (gv_nat 1) (by omega)) ((gv_sumTN (ns := [cnt wd, chk wd]) (gv_call (ga_cons (gv_Hasher_width T (gv_var E rfl)) ga_nil) (ok_DC hw))).is (by simp [chs])) (by omega)).is (by rw [show 1 + chs wd + L - 1 - chs wd = L by omega])) fun v1 H1 e1 _ E1 => ?_
  have g0 : (sg.map nD)[0]? = some (nD (sg.getD 0 0)) := by rw [List.getElem?_map, getD_of (by omega)]; rfl
  refine s_if E1 (Gt.is (b := false) (gt_or (gt_not (gt_test (gv_chainNN (gv_nat 0) (gv_var E1 rfl) (gv_nat 6)))) fun _ => gt_not (gt_test (gv_chainN (gv_nat 0) (gv_ixTN (gv_var E1 rfl) (gv_nat 0) g0) (gv_shlN (gv_nat 1) (gv_var E1 rfl) (by omega) (by omega))))) ?_) (fun z => nomatch z) fun _ H2 e2 E2 => ?_
  · have h6 : L ≤ 6 := by omega
    have hix2 : sg.getD 0 0 < 1 * 2 ^ L := by omega
    rw [decide_eq_true h6, decide_eq_true hix2]
    simp
  refine s_nop ?_
  refine s_if E2 (Gt.is (b := false) (gt_not (gt_B (gv_all (bs := (sg.drop 1).map fun n => decide (n < 2 ^ wd)) ((gn_mapT (l := sg.drop 1) (emb := nD) (f := fun n => .bl (decide (n < 2 ^ wd))) E2 ((gv_slFrom (gv_var E2 rfl) (gv_nat 1) (by decide) (by rw [el]; omega)).is (by rw [List.map_drop])) (by rw [List.length_drop]; omega) (by simp) fun n hn σ3 H3 e3 E3 => gv_meth (gv_var E3 rfl) rfl (ga_cons (gv_var E3 rfl) ga_nil) (ok_isD hw)).is (by rw [List.map_map]; rfl)).gv))) ?_) (fun z => nomatch z) fun _ H3 e3 E3 => ?_
  · rw [Bool.not_eq_false', List.all_map, List.all_eq_true]
    intro n hn
    exact decide_eq_true (hs.lt n hn)
  refine s_nop ?_
  exact s_ret (gv_var E3 rfl) fun v H4 e4 r4 => k v H4 (((e1.trans e2).trans e3).trans e4) r4
theorem ok_lev {H : Hp} {w L : Nat} {s : Sig} (h : SigOk w L s) : SpOk K (spLev K) [hshD w, sigD s] H (nD L) := spD_ok (w, L, s) h
abbrev n_inputs_of : List Str := ["hasher", "message", "signature", "index", "digits", "words", "tops", "found", "path", "level", "digest", "both", "k"]
theorem sc_inputs_of : FnScope n_inputs_of ["hasher", "message", "signature"] (defScope s_inputs_of) := ⟨rfl, rfl, rfl, by decide +kernel, rfl, by decide +kernel, by decide +kernel⟩
def spInp (K : PySem.W.Frag) : Sp := spN K (α := Nat × Nat × Nat × Sig) (fun z => SigOk z.1 z.2.1 z.2.2.2) (fun z => [hshD z.1, nD z.2.2.1, sigD z.2.2.2]) (fun z => (vIns z.1 z.2.1 z.2.2.2 z.2.2.1).map inD)
theorem cal_inputs_of (T : Txt K mg) : C8.Cal P w K mg base 7 "inputs_of" (spInp K) [] := by
  obtain ⟨fd, F⟩ := T.f_inputs_of
  refine calD F T.g_inputs_of (fun _ _ _ _ _ _ us hl => match us, hl with | [_, _, _], _ => rfl) sc_inputs_of (fun vs H Q E h => (by obtain ⟨z, _, h, _⟩ := h; exact h.len)) (fun cdv A outer s H vs Q E hr h => ?_)
  obtain ⟨⟨wd, L, m, sg⟩, hs, hvs, k⟩ := h
  dsimp only at hvs k hs
  have hw := hs.hw
  have hL := hs.hL
  have hl := hs.len
  have hc := chs_in hw
  have hix := hs.ix8
  refine ⟨_, (pss_cons (ps_set (i := 3) sc_inputs_of.nd rfl (Or.inr rfl) (pe_ix (ix_tup : IxR _ (rIxT K)) (pv 2) pe_int (fun _ _ => rfl)))
      (pss_cons (ps_set (i := 4) sc_inputs_of.nd rfl (Or.inr rfl) (C8.pe_c (cal_digits_of T) hr (by decide) rfl (pa_cons (pe_fld (pv 0) rfl) (pa_cons (pv 1) pa_nil))))
      (pss_cons (ps_set (i := 5) sc_inputs_of.nd rfl (Or.inr rfl) (pe_slice sl_tup (pv 2) (po_some pe_int) (po_some (pe_op op_add (pe_callB call_len_seq (by rfl) T.b_len (by decide +kernel) (pa_cons (pv 4) pa_nil)) pe_int))))
      (pss_cons (ps_setLc (i := 6) (own := [("k", 12)]) (by rfl) sc_inputs_of.nd rfl rfl (sw_true rfl rfl rfl (by decide +kernel)) (pi_range1 rfl T.b_range (pa_cons (pe_callB call_len_seq (by rfl) T.b_len (by decide +kernel) (pa_cons (pv 4) pa_nil)) pa_nil)) (blkOk_by (own := [("k", 12)]) (N := n_inputs_of) (sc := defScope s_inputs_of) (by decide +kernel)) (fun _ _ _ _ _ => (pg_name (i := 12) sc_inputs_of.nd rfl (Or.inl rfl))) (fun _ _ _ _ _ => pts_nil) (fun _ _ _ _ _ => (pe_ix (ix_list : IxR _ (rIxL K)) (C8.pe_c (cal_stepped T) hr (by decide) rfl (pa_cons (pv 0) (pa_cons (pv 3) (pa_cons (pv 12) (pa_cons (pe_ix (ix_tup : IxR _ (rIxT K)) (pv 5) (pv 12) (fun _ _ => rfl)) (pa_cons (pe_ix (ix_list : IxR _ (rIxL K)) (pv 4) (pv 12) (fun _ _ => rfl)) (pa_cons (pe_op op_sub (C8.pe_gc rfl T.c_BASE) pe_int) pa_nil))))))) (pe_un un_neg pe_int) (fun _ _ => rfl))))
      (pss_cons (ps_set (i := 7) sc_inputs_of.nd rfl (Or.inl rfl) (pe_lst (pa_cons (pe_tup (pa_cons (C8.pe_gc rfl T.c_KEY) (pa_cons (pe_callTy call_tuple_of (by rfl) T.b_tuple (by decide +kernel) (pa_cons (pe_op op_cat (pe_lst (pa_cons (pv 3) pa_nil)) (pv 6)) pa_nil)) pa_nil))) pa_nil)))
      (pss_cons (ps_set (i := 8) sc_inputs_of.nd rfl (Or.inl rfl) (pe_slice sl_tup (pv 2) (po_some (pe_op op_add (pe_callB call_len_seq (by rfl) T.b_len (by decide +kernel) (pa_cons (pv 4) pa_nil)) pe_int)) po_none))
      (pss_cons (ps_for PassesOwn.never rfl (pi_range1 rfl T.b_range (pa_cons (pe_callB call_len_seq (by rfl) T.b_len (by decide +kernel) (pa_cons (pv 8) pa_nil)) pa_nil)) (pg_name (i := 9) sc_inputs_of.nd rfl (Or.inl rfl)) (pss_cons (ps_set (i := 10) sc_inputs_of.nd rfl (Or.inl rfl) (C8.pe_mt (met_Hasher_digest T) hr (by decide) (pv 0) (pa_cons (pe_ix (ix_tup : IxR _ (rIxT K)) (pe_ix (ix_list : IxR _ (rIxL K)) (pv 7) (pe_un un_neg pe_int) (fun _ _ => rfl)) pe_int (fun _ _ => rfl)) (pa_cons (pe_ix (ix_tup : IxR _ (rIxT K)) (pe_ix (ix_list : IxR _ (rIxL K)) (pv 7) (pe_un un_neg pe_int) (fun _ _ => rfl)) pe_int (fun _ _ => rfl)) pa_nil))))
      (pss_cons (ps_set (i := 11) sc_inputs_of.nd rfl (Or.inl rfl) (pe_ifExp (pt_cmpR op_eq (pe_op op_and (pe_op op_shr (pv 3) (pv 9)) pe_int) pe_int (nomark _)) (pe_tup (pa_cons (pv 10) (pa_cons (pe_ix (ix_tup : IxR _ (rIxT K)) (pv 8) (pv 9) (fun _ _ => rfl)) pa_nil))) (pe_tup (pa_cons (pe_ix (ix_tup : IxR _ (rIxT K)) (pv 8) (pv 9) (fun _ _ => rfl)) (pa_cons (pv 10) pa_nil)))))
      (pss_one (ps_expr (pe_bm PySem.F.plainAttrs_list PySem.F.slot_list_append PySem.F.type_list_append mt_append (pv 7) (pa_cons (pe_tup (pa_cons (C8.pe_gc rfl T.c_TREE) (pa_cons (pe_op op_catT (pe_tup (pa_cons (pv 9) pa_nil)) (pv 11)) pa_nil))) pa_nil)))))))
      (pss_cons (ps_set (i := 10) sc_inputs_of.nd rfl (Or.inl rfl) (C8.pe_mt (met_Hasher_digest T) hr (by decide) (pv 0) (pa_cons (pe_ix (ix_tup : IxR _ (rIxT K)) (pe_ix (ix_list : IxR _ (rIxL K)) (pv 7) (pe_un un_neg pe_int) (fun _ _ => rfl)) pe_int (fun _ _ => rfl)) (pa_cons (pe_ix (ix_tup : IxR _ (rIxT K)) (pe_ix (ix_list : IxR _ (rIxL K)) (pv 7) (pe_un un_neg pe_int) (fun _ _ => rfl)) pe_int (fun _ _ => rfl)) pa_nil))))
      (pss_one (ps_ret (pe_op op_cat (pv 7) (pe_lst (pa_cons (pe_tup (pa_cons (C8.pe_gc rfl T.c_TREE) (pa_cons (pe_tup (pa_cons (pe_callB call_len_seq (by rfl) T.b_len (by decide +kernel) (pa_cons (pv 8) pa_nil)) (pa_cons (pv 10) pa_nil))) pa_nil))) pa_nil))))))))))))), ?_⟩
  have E := Sl.start (N := n_inputs_of) hvs
  have g0 : (sg.map nD)[0]? = some (nD (sg.getD 0 0)) := by rw [List.getElem?_map, getD_of (by omega)]; rfl
  have el : (sg.map nD).length = 1 + chs wd + L := by rw [List.length_map, hl]
  refine s_asg E (gv_ixTN (gv_var E rfl) (gv_nat 0) g0) fun v1 H1 e1 _ E1 => ?_
  refine s_asg E1 (gn_call (ga_cons (gv_Hasher_width T (gv_var E1 rfl)) (ga_cons (gv_var E1 rfl) ga_nil)) (ok_digs hw)).gv fun v2 H2 e2 _ E2 => ?_
  have gl : ∀ {σ H}, Sl K H _ σ → Gv K _ σ H (nD (chs wd)) := fun {σ H} (E : Sl K H [some (hshD wd), some (nD m), some (sigD sg), some (nD (sg.getD 0 0)), some (.lst ((digs wd m).map nD)), none, none, none, none, none, none, none, none] σ) => (gv_lenL (gv_var (i := 4) E rfl)).is (by rw [List.length_map, digs_len])
  refine s_asg (d := .tup (((sg.drop 1).take (chs wd)).map nD)) E2 ((gv_slBtw (gv_var E2 rfl) (gv_nat 1) (gv_addN (gl E2) (gv_nat 1)) (by decide) (by omega) (by rw [el]; omega)).is (by rw [List.map_take, List.map_drop, Nat.add_sub_cancel])) fun v3 H3 e3 _ E3 => ?_
  refine s_asg (d := .lst ((vTops wd sg m).map nD)) E3 ((gn_mapR (f := fun k => nD (vTop wd sg m k)) E3 (ga_cons (gl (E3.wk ⟨.inr rfl, .inr rfl, .inr rfl, .inr rfl, .inr rfl, .inl rfl, .inr rfl, .inr rfl, .inr rfl, .inr rfl, .inr rfl, .inr rfl, .inr rfl, trivial⟩)) ga_nil) (by omega) (by simp) fun k hk σ2 H4 e4 E4 => ?_).is (by rw [vTops, List.map_map]; rfl)).gv fun v4 H4 e4 _ E4 => ?_
  · have hd16 : (digs wd m).getD k 0 < 16 := digs_lt (List.mem_of_getElem? (getD_of (by rw [digs_len]; exact hk)))
    have hz : StOk ⟨wd, sg.getD 0 0, k, sg.getD (1 + k) 0, (digs wd m).getD k 0, 15 - (digs wd m).getD k 0⟩ := ⟨hw, by show sg.getD 0 0 < 4294967296; omega, by show k < 4294967296; omega, by show sg.getD (1 + k) 0 < 18446744073709551616; have := hs.w_lt (i := 1 + k) (by omega); omega, by show (digs wd m).getD k 0 ≤ 1000; omega, by show 15 - (digs wd m).getD k 0 ≤ 1000; omega⟩
    have gw : (((sg.drop 1).take (chs wd)).map nD)[k]? = some (nD (sg.getD (1 + k) 0)) := by
      rw [List.getElem?_map, List.getElem?_take_of_lt hk, List.getElem?_drop, getD_of (by omega)]
      rfl
    have gd : ((digs wd m).map nD)[k]? = some (nD ((digs wd m).getD k 0)) := by
      rw [List.getElem?_map, getD_of (by rw [digs_len]; exact hk)]
      rfl
    refine gv_ixL (gn_call (ga_cons (gv_var E4 rfl) (ga_cons (gv_var E4 rfl) (ga_cons (gv_var E4 rfl) (ga_cons (gv_ixTN (gv_var E4 rfl) (gv_var E4 rfl) gw) (ga_cons (gv_ixLN (gv_var E4 rfl) (gv_var E4 rfl) gd) (ga_cons (Gv.is (gv_subN (gv_nat 16) (gv_nat 1) (by omega)) (show nD (16 - 1) = nD ((digs wd m).getD k 0 + (15 - (digs wd m).getD k 0)) by rw [show (digs wd m).getD k 0 + (15 - (digs wd m).getD k 0) = 16 - 1 by omega])) ga_nil)))))) (ok_step ⟨wd, sg.getD 0 0, k, sg.getD (1 + k) 0, (digs wd m).getD k 0, 15 - (digs wd m).getD k 0⟩ hz)).gv gv_neg1 ?_
    rw [StA.out, range_snoc, List.map_append]
    exact atI_last
  have hv0 : NsOk (vInp wd sg m 0).2 := vInp_ok hs m (by decide)
  refine s_asgN (ds := [inD (vInp wd sg m 0)]) E4 (gn_lst (ga_cons (gv_tup (ga_cons (gv_nat 5) (ga_cons (Gv.is (gv_tupL (gn_cat (gn_lst (ga_cons (gv_var E4 rfl) ga_nil) (by simp)).gv (gv_var E4 rfl) (by rw [List.length_map, vTops_len]; simp; omega)).gv) (by rfl)) ga_nil)) (by simp)) ga_nil) (by simp)) fun p xs H5 hp e5 h5 r5 E5 => ?_
  refine s_asg (d := .tup ((sg.drop (chs wd + 1)).map nD)) E5 ((gv_slFrom (gv_var E5 rfl) (gv_addN (gl (E5.wk ⟨.inr rfl, .inr rfl, .inr rfl, .inr rfl, .inr rfl, .inl rfl, .inl rfl, .inl rfl, .inr rfl, .inr rfl, .inr rfl, .inr rfl, .inr rfl, trivial⟩)) (gv_nat 1)) (by omega) (by rw [el]; omega)).is (by rw [List.map_drop])) fun v6 H6 e6 _ E6 => ?_
  have e06 : Ext H H6 := ((((e1.trans e2).trans e3).trans e4).trans e5).trans e6
  have hp0 : H p = none := fresh_back (((e1.trans e2).trans e3).trans e4) hp
  have lp : (sg.drop (chs wd + 1)).length = L := by rw [List.length_drop]; omega
  let GI : Sg := [some (hshD wd), some (nD m), some (sigD sg), some (nD (sg.getD 0 0)), none, none, none, some (.adr p), some (.tup ((sg.drop (chs wd + 1)).map nD)), none, none, none, none]
  have dgst : ∀ {i : Nat} {σ' : L2.St} {H' : Hp} {xs : List V}, i ≤ L → Sl K H' GI σ' → H' p = some (.lst xs) → Rps K H' ((List.range (i + 1)).map fun l => inD (vInp wd sg m l)) xs → Gv K (tMeth (He.ga K "Hasher") "digest" (spDig K) [] E0 (tVar 0) (tCons (tOp (rIxT K) (tOp (rIxL K) (tVar 7) (tUn (rU fun i => V.int (-i)) (tC (.int 1)))) (tC (.int 0))) (tCons (tOp (rIxT K) (tOp (rIxL K) (tVar 7) (tUn (rU fun i => V.int (-i)) (tC (.int 1)))) (tC (.int 1))) tNil))) σ' H' (nD (vDg wd sg m i)) := fun {i σ' H' xs} hi E h r => by
    have gf : Gv K (tOp (rIxL K) (tVar 7) (tUn (rU fun i => V.int (-i)) (tC (.int 1)))) σ' H' (inD (vInp wd sg m i)) := gv_ixL (ds := (List.range (i + 1)).map fun l => inD (vInp wd sg m l)) (gv_view (gv_var E rfl) ⟨p, xs, rfl, h, r⟩) gv_neg1 (by rw [range_snoc]; exact atI_last)
    exact gv_meth (gv_var E rfl) rfl (ga_cons (gv_ixTN gf (gv_nat 0) rfl) (ga_cons (gv_ixTN gf (gv_nat 1) rfl) ga_nil)) (ok_dig (b := false) hw (vInp_ok hs m (by omega)))
  refine s_forR1 (j := 9) (n := L) (ga_cons ((gv_lenT (gv_var E6 rfl)).is (by rw [List.length_map, lp])) ga_nil) (by omega) (fun i σ' H' => i ≤ L ∧ Ext H H' ∧ ∃ xs, H' p = some (.lst xs) ∧ Rps K H' ((List.range (i + 1)).map fun l => inD (vInp wd sg m l)) xs ∧ Sl K H' GI σ') (fun H7 e7 => ⟨Nat.zero_le _, e06.trans e7, xs, e7 _ _ (e6 _ _ h5), (r5.ext e6).ext e7, (E6.ext e7).wk ⟨.inr rfl, .inr rfl, .inr rfl, .inr rfl, .inl rfl, .inl rfl, .inl rfl, .inr rfl, .inr rfl, .inl rfl, .inl rfl, .inl rfl, .inl rfl, trivial⟩⟩) ?_ ?_
  · rintro i σ' H' hi ⟨hin, e, xs, hpp, rs, E7⟩
    have E8 := E7.set (i := 9) (d := nD i) (v := .int ((i : Nat) : Int)) rfl
    refine s_asg (d := nD (vDg wd sg m i)) E8 (dgst hin (E8.wk ⟨.inr rfl, .inr rfl, .inr rfl, .inr rfl, .inr rfl, .inr rfl, .inr rfl, .inr rfl, .inr rfl, .inl rfl, .inr rfl, .inr rfl, .inr rfl, trivial⟩) hpp rs) fun v9 H9 e9 _ E9 => ?_
    have gp : ((sg.drop (chs wd + 1)).map nD)[i]? = some (nD (sg.getD (1 + chs wd + i) 0)) := by
      rw [List.getElem?_map, List.getElem?_drop, show chs wd + 1 + i = 1 + chs wd + i by omega, getD_of (by omega)]
      rfl
    refine s_asg (d := .tup [nD (if sg.getD 0 0 / 2 ^ i % 2 = 0 then vDg wd sg m i else sg.getD (1 + chs wd + i) 0), nD (if sg.getD 0 0 / 2 ^ i % 2 = 0 then sg.getD (1 + chs wd + i) 0 else vDg wd sg m i)]) E9 (gv_if (a := decide (sg.getD 0 0 / 2 ^ i % 2 = 0)) (gt_test (gv_eqN (gv_and1 (gv_shrN (gv_var E9 rfl) (gv_var E9 rfl))) (gv_nat 0))) (fun hc => ?_) (fun hc => ?_)) fun v10 H10 e10 _ E10 => ?_
    · rw [if_pos (of_decide_eq_true hc), if_pos (of_decide_eq_true hc)]
      exact gv_tup (ga_cons (gv_var E9 rfl) (ga_cons (gv_ixTN (gv_var E9 rfl) (gv_var E9 rfl) gp) ga_nil)) (by simp)
    · rw [if_neg (of_decide_eq_false hc), if_neg (of_decide_eq_false hc)]
      exact gv_tup (ga_cons (gv_ixTN (gv_var E9 rfl) (gv_var E9 rfl) gp) (ga_cons (gv_var E9 rfl) ga_nil)) (by simp)
    have h10 := e10 _ _ (e9 _ _ hpp)
    have r10 := (rs.ext e9).ext e10
    have lxs : xs.length ≤ 4 := by rw [rs.len, List.length_map, List.length_range]; omega
    refine s_app (d := inD (vInp wd sg m (i + 1))) E10 h10 (gv_var E10 rfl) (gv_tup (ga_cons (gv_nat 6) (ga_cons (Gv.is (gv_catT (gv_tup (ga_cons (gv_var E10 rfl) ga_nil) (by simp)) (gv_var E10 rfl) (by simp) (by simp) (by simp)) ?_) ga_nil)) (by simp)) (by omega) fun v11 H11 e11 r11 E11 h11 => ⟨by omega, ?_, xs ++ [v11], upd_same, ?_, ?_⟩
    · show D.tup _ = D.tup ((if sg.getD 0 0 / 2 ^ i % 2 = 0 then [i, vDg wd sg m i, sg.getD (1 + chs wd + i) 0] else [i, sg.getD (1 + chs wd + i) 0, vDg wd sg m i]).map nD)
      split <;> rfl
    · intro a o ha
      rw [upd_ne (ne_of_none ha hp0)]
      exact e11 _ _ (e10 _ _ (e9 _ _ (e _ _ ha)))
    · rw [range_snoc _ (i + 1)]
      have g := Gr.updL (K := K) (u := .lst (xs ++ [v11])) h11
      exact ((r10.ext e11).gr g _ (pus_iff.mpr fun d hd => by
        obtain ⟨l, _, rfl⟩ := List.mem_map.mp hd
        exact (inferInstance : Pu (inD (vInp wd sg m l))).pu)).snoc (r11.gr g _ (inferInstance : Pu (inD (vInp wd sg m (i + 1)))).pu)
    · exact (E11.wk (G' := GI) ⟨.inr rfl, .inr rfl, .inr rfl, .inr rfl, .inl rfl, .inl rfl, .inl rfl, .inr rfl, .inr rfl, .inl rfl, .inl rfl, .inl rfl, .inl rfl, trivial⟩).gr (Gr.updL h11)
  · rintro σ' H' ⟨hin, e, xs, hpp, rs, E7⟩
    refine s_asg (d := nD (vDg wd sg m L)) E7 (dgst (Nat.le_refl _) E7 hpp rs) fun v9 H9 e9 _ E9 => ?_
    have rl : Rp K H9 (.lst ((List.range (L + 1)).map fun l => inD (vInp wd sg m l))) (.ref p) := ⟨p, xs, rfl, e9 _ _ hpp, rs.ext e9⟩
    refine s_retN (ds := (vIns wd L sg m).map inD) ((gn_cat (gv_view (gv_var E9 rfl) rl) (gn_lst (ga_cons (d := inD (6, [L, vDg wd sg m L])) (gv_tup (ga_cons (gv_nat 6) (ga_cons (gv_tup (ga_cons ((gv_lenT (gv_var E9 rfl)).is (by rw [List.length_map, lp])) (ga_cons (gv_var E9 rfl) ga_nil)) (by simp)) ga_nil)) (by simp)) ga_nil) (by simp)).gv (by simp; omega)).is ?_) fun p2 ys H10 hp2 e10 h10 r10 => k p2 ys H10 (fresh_back (e.trans e9) hp2) ((e.trans e9).trans e10) h10 r10
    rw [vIns, List.map_append, List.map_map]
    rfl
theorem ok_inp {H : Hp} {w L m : Nat} {s : Sig} (h : SigOk w L s) : SpN K (spInp K) [hshD w, nD m, sigD s] H ((vIns w L s m).map inD) := spN_ok (w, L, m, s) h
abbrev n_verify : List Str := ["hasher", "public", "message", "signature", "tag", "numbers"]
theorem sc_verify : FnScope n_verify ["hasher", "public", "message", "signature"] (defScope s_verify) := ⟨rfl, rfl, rfl, by decide +kernel, rfl, by decide +kernel, by decide +kernel⟩
def spVer (K : PySem.W.Frag) : Sp := spD K (α := Nat × Nat × Nat × Nat × Sig) (fun z => SigOk z.1 z.2.1 z.2.2.2.2) (fun z => [hshD z.1, nD z.2.2.1, nD z.2.2.2.1, sigD z.2.2.2.2]) (fun z => .bl (vfy z.1 z.2.1 z.2.2.1 z.2.2.2.1 z.2.2.2.2))
theorem cal_verify (T : Txt K mg) : C8.Cal P w K mg base 8 "verify" (spVer K) [] := by
  obtain ⟨fd, F⟩ := T.f_verify
  refine calD F T.g_verify (fun _ _ _ _ _ _ us hl => match us, hl with | [_, _, _, _], _ => rfl) sc_verify (fun vs H Q E h => (by obtain ⟨z, _, h, _⟩ := h; exact h.len)) (fun cdv A outer s H vs Q E hr h => ?_)
  obtain ⟨⟨wd, L, pub, m, sg⟩, hs, hvs, k⟩ := h
  dsimp only at hvs k hs
  have hw := hs.hw
  have hL := hs.hL
  refine ⟨_, (pss_cons (ps_if (pt_cmpR op_isN1 (C8.pe_c (cal_levels_of T) hr (by decide) rfl (pa_cons (pv 0) (pa_cons (pv 3) pa_nil))) pe_non (nomark _)) (pss_one (ps_ret pe_bl)) pss_nil)
      (pss_cons (ps_asg (pe_ix (ix_list : IxR _ (rIxL K)) (C8.pe_c (cal_inputs_of T) hr (by decide) rfl (pa_cons (pv 0) (pa_cons (pv 2) (pa_cons (pv 3) pa_nil)))) (pe_un un_neg pe_int) (fun _ _ => rfl)) (pg_tup (by rfl) (pgs_cons (pg_name (i := 4) sc_verify.nd rfl (Or.inl rfl)) (pgs_cons (pg_name (i := 5) sc_verify.nd rfl (Or.inl rfl)) pgs_nil))))
      (pss_one (ps_ret (pe_cmpR op_eq (C8.pe_mt (met_Hasher_digest T) hr (by decide) (pv 0) (pa_cons (pv 4) (pa_cons (pv 5) pa_nil))) (pv 1) (nomark _)))))), ?_⟩
  have E := Sl.start (N := n_verify) hvs
  refine s_if E (Gt.is (b := false) (gt_test (gv_isN (x := nD L) (gv_call (ga_cons (gv_var E rfl) (ga_cons (gv_var E rfl) ga_nil)) (ok_lev hs)) rfl)) rfl) (fun z => nomatch z) fun _ H1 e1 E1 => ?_
  refine s_nop ?_
  refine s_pair E1 (d1 := nD 6) (d2 := .tup ([L, vDg wd sg m L].map nD)) (gv_ixL (d := inD (6, [L, vDg wd sg m L])) (gn_call (ga_cons (gv_var E1 rfl) (ga_cons (gv_var E1 rfl) (ga_cons (gv_var E1 rfl) ga_nil))) (ok_inp hs)).gv gv_neg1 (by rw [vIns, List.map_append]; exact atI_last)) fun v w H2 e2 E2 => ?_
  have hns : NsOk [L, vDg wd sg m L] := nsOk_of (by simp) (by
    have h1 : vDg wd sg m L < 4096 := dg_small hw _ _
    simp
    omega)
  exact s_ret (gv_eqN (gv_meth (gv_var E2 rfl) rfl (ga_cons (gv_var E2 rfl) (ga_cons (gv_var E2 rfl) ga_nil)) (ok_dig (b := false) (ns := [L, vDg wd sg m L]) hw hns)) (gv_var E2 rfl)) fun v2 H4 e4 r4 => k v2 H4 ((e1.trans e2).trans e4) r4
theorem ok_ver {H : Hp} {w L pub m : Nat} {s : Sig} (h : SigOk w L s) : SpOk K (spVer K) [hshD w, nD pub, nD m, sigD s] H (.bl (vfy w L pub m s)) := spD_ok (w, L, pub, m, s) h
end
end K38

set_option Elab.async false
set_option linter.all false
set_option maxRecDepth 100000
set_option maxHeartbeats 4000000
namespace K38
open PySem PySem.Spec PyProof.Rows L2
local macro_rules | `(tactic| walk_at "gv1") => `(tactic| first | exact gv_int | exact gv_str | exact gv_non | exact gv_bl | (refine gv_var (by assumption) ?_; exact rfl) | refine gv_I0 ?_ ?_ | refine gv_Ib ?_ ?_ | refine gv_eqI ?_ ?_ | refine gv_neI ?_ ?_ | refine gt_test ?_ | refine gt_B ?_ | exact ga_nil | refine ga_cons ?_ ?_)
local macro_rules | `(tactic| walk_at "gv") => `(tactic| repeat walk_at "gv1")

/-! ### member lists -/
def pubs (m : Mem) : List Nat := m.map (·.1)
structure MemOk (m : Mem) : Prop where
  ne : 1 ≤ m.length
  le : m.length ≤ 64
  asc : (pubs m).Pairwise (· < ·)
  wt : ∀ p ∈ m, 1 ≤ p.2 ∧ p.2 ≤ 1000000
  lt : ∀ p ∈ m, p.1 < 4294967296
def nums (m : Mem) : List Nat := m.length :: m.flatMap fun p => [p.1, p.2]
def tot (m : Mem) : Nat := (m.map (·.2)).sum
def wof (m : Mem) (ps : List Nat) : Nat := ((m.filter fun p => decide (p.1 ∈ ps)).map (·.2)).sum
def mth (m : Mem) (ps : List Nat) (a b : Nat) : Bool := decide (tot m * a < wof m ps * b)
def sgStep (w L msg : Nat) (known : List Nat) (found : List Nat) (v : Nat × Sig) : List Nat := if v.1 ∈ known ∧ v.1 ∉ found ∧ vfy w L v.1 msg v.2 = true then found ++ [v.1] else found
def sgFold (w L msg : Nat) (m : Mem) (vs : Votes) : List Nat := vs.foldl (sgStep w L msg (pubs m)) []
def sgs (w L msg : Nat) (m : Mem) (vs : Votes) : List Nat := srtN (sgFold w L msg m vs)
def VotesOk (w L : Nat) (vs : Votes) : Prop := vs.length ≤ 1000 ∧ ∀ v ∈ vs, SigOk w L v.2
theorem nums_len (m : Mem) : (nums m).length = 1 + 2 * m.length := by
  unfold nums
  rw [List.length_cons, List.length_flatMap]
  induction m with
  | nil => rfl
  | cons p r ih => simp at ih ⊢; omega
theorem nums_ok {m : Mem} (h : MemOk m) : NsOk (nums m) := by
  have hl := h.le
  refine nsOk_of (by rw [nums_len]; omega) fun n hn => ?_
  rcases List.mem_cons.mp hn with rfl | hn
  · omega
  · obtain ⟨p, hp, hn⟩ := List.mem_flatMap.mp hn
    have h1 := h.lt p hp
    have h2 := h.wt p hp
    simp at hn
    rcases hn with rfl | rfl <;> omega
section
variable {P : Program} {w : World} {K : PySem.W.Frag} {mg : Str → Option Value} {base : Heap}
theorem mem_rw (m : Mem) : memD m = .tup (m.map fun p => .tup [nD p.1, nD p.2]) := rfl
abbrev n_members_fault : List Str := ["members", "publics", "public", "weight", "k"]
theorem sc_members_fault : FnScope n_members_fault ["members"] (defScope s_members_fault) := ⟨rfl, rfl, rfl, by decide +kernel, rfl, by decide +kernel, by decide +kernel⟩
def spMF (K : PySem.W.Frag) : Sp := spD K (α := Mem) MemOk (fun m => [memD m]) (fun _ => .non)
theorem cal_members_fault (T : Txt K mg) : C8.Cal P w K mg base 1 "members_fault" (spMF K) [] := by
  obtain ⟨fd, F⟩ := T.f_members_fault
  refine calD F T.g_members_fault (fun _ _ _ _ _ _ us hl => match us, hl with | [_], _ => rfl) sc_members_fault (fun vs H Q E h => (by obtain ⟨z, _, h, _⟩ := h; exact h.len)) (fun cdv A outer s H vs Q E hr h => ?_)
  obtain ⟨m, hm, hvs, k⟩ := h
  dsimp only at hvs k
  have h1 := hm.ne
  have h2 := hm.le
  refine ⟨_, (pss_cons (ps_if (pt_not (pt_chain op_le op_le pe_int (pe_callB call_len_seq (by rfl) T.b_len (by decide +kernel) (pa_cons (pv 0) pa_nil)) (C8.pe_gc rfl T.c_MOST_MEMBERS))) (pss_one (ps_ret pe_str)) pss_nil)
      (pss_cons (ps_set (i := 1) sc_members_fault.nd rfl (Or.inr rfl) (pe_lc (own := [("public", 2), ("weight", 3)]) (by rfl) sc_members_fault.nd (pi_tup (pv 0)) (blkOk_by (own := [("public", 2), ("weight", 3)]) (N := n_members_fault) (sc := defScope s_members_fault) (by decide +kernel)) (fun _ _ _ _ _ => (show PG _ _ (gTup K 2 _) from (pg_tup (by rfl) (pgs_cons (pg_name (i := 2) sc_members_fault.nd rfl (Or.inl rfl)) (pgs_cons (pg_name (i := 3) sc_members_fault.nd rfl (Or.inl rfl)) pgs_nil))))) (fun _ _ _ _ _ => pts_nil) (fun _ _ _ _ _ => (pv 2))))
      (pss_cons (ps_if (PW.pt (pw_or (pt_cmpR op_lt (pe_callB (cr_min rfl) (by rfl) T.b_min (by decide +kernel) (pa_cons (pv 1) pa_nil)) pe_int (nomark _)) (pw_or1 (pt_val (pe_callB (cr_any rfl) (by rfl) T.b_any (by decide +kernel) (pa_cons (pe_lc (own := [("k", 4)]) (by rfl) sc_members_fault.nd (pi_range1 rfl T.b_range (pa_cons (pe_op op_sub (pe_callB call_len_seq (by rfl) T.b_len (by decide +kernel) (pa_cons (pv 1) pa_nil)) pe_int) pa_nil)) (blkOk_by (own := [("k", 4)]) (N := n_members_fault) (sc := defScope s_members_fault) (by decide +kernel)) (fun _ _ _ _ _ => (pg_name (i := 4) sc_members_fault.nd rfl (Or.inl rfl))) (fun _ _ _ _ _ => pts_nil) (fun _ _ _ _ _ => (pe_cmpR op_ge (pe_ix (ix_list : IxR _ (rIxL K)) (pv 1) (pv 4) (fun _ _ => rfl)) (pe_ix (ix_list : IxR _ (rIxL K)) (pv 1) (pe_op op_add (pv 4) pe_int) (fun _ _ => rfl)) (nomark _)))) pa_nil)))))) (pss_one (ps_ret pe_str)) pss_nil)
      (pss_cons (ps_if (pt_not (pt_val (pe_callB (cr_all rfl) (by rfl) T.b_all (by decide +kernel) (pa_cons (pe_lc (own := [("public", 2), ("weight", 3)]) (by rfl) sc_members_fault.nd (pi_tup (pv 0)) (blkOk_by (own := [("public", 2), ("weight", 3)]) (N := n_members_fault) (sc := defScope s_members_fault) (by decide +kernel)) (fun _ _ _ _ _ => (show PG _ _ (gTup K 2 _) from (pg_tup (by rfl) (pgs_cons (pg_name (i := 2) sc_members_fault.nd rfl (Or.inl rfl)) (pgs_cons (pg_name (i := 3) sc_members_fault.nd rfl (Or.inl rfl)) pgs_nil))))) (fun _ _ _ _ _ => pts_nil) (fun _ _ _ _ _ => (pe_chain op_le op_le pe_int (pv 3) (C8.pe_gc rfl T.c_MOST_WEIGHT)))) pa_nil)))) (pss_one (ps_ret pe_str)) pss_nil)
      (pss_one (ps_ret pe_non)))))), ?_⟩
  have E := Sl.start (N := n_members_fault) hvs
  refine s_if E (Gt.is (b := false) (gt_not (gt_test (gv_chainNN (gv_nat 1) (gv_lenT (gv_var E rfl)) (gv_nat 64)))) (by rw [List.length_map, decide_eq_true h1, decide_eq_true h2]; rfl)) (fun z => nomatch z) fun _ H1 e1 E1 => ?_
  refine s_nop ?_
  refine s_asg (d := .lst ((pubs m).map nD)) E1 ((gn_mapTP (e1 := fun p : Nat × Nat => nD p.1) (e2 := fun p : Nat × Nat => nD p.2) (f := fun p : Nat × Nat => nD p.1) E1 (gv_var E1 rfl) (by omega) (by simp) (by simp) fun p _ σ2 H2 e2 E2 => gv_var E2 rfl).is (by rw [pubs, List.map_map]; rfl)).gv fun v2 H2 e2 _ E2 => ?_
  have lp : (pubs m).length = m.length := by rw [pubs, List.length_map]
  refine s_if E2 (Gt.is (b := false) (gt_or (gt_minL (gv_var E2 rfl) (by intro z; rw [z] at lp; simp at lp; omega)) fun _ => gt_B (gv_any (bs := (List.range (m.length - 1)).map fun k => decide ((pubs m).getD (k + 1) 0 ≤ (pubs m).getD k 0)) ((gn_mapR (n := m.length - 1) (f := fun k => .bl (decide ((pubs m).getD (k + 1) 0 ≤ (pubs m).getD k 0))) E2 (ga_cons (gv_subN (gv_lenL (gv_var E2 rfl) |>.is (by rw [List.length_map, lp])) (gv_nat 1) (by omega)) ga_nil) (by omega) (by simp) fun k hk σ3 H3 e3 E3 => gv_geN (gv_ixLN (gv_var E3 rfl) (gv_var E3 rfl) (by rw [List.getElem?_map, getD_of (by omega)]; rfl)) (gv_ixLN (gv_var E3 rfl) (gv_addN (gv_var E3 rfl) (gv_nat 1)) (by rw [List.getElem?_map, getD_of (by omega)]; rfl))).is (by rw [List.map_map]; rfl)).gv)) ?_) (fun z => nomatch z) fun _ H3 e3 E3 => ?_
  · rw [Bool.false_or, List.any_map, List.any_eq_false]
    intro k hk
    have hk := List.mem_range.mp hk
    have hlt := List.pairwise_iff_getElem.mp hm.asc k (k + 1) (by omega) (by omega) (by omega)
    rw [Function.comp, id, decide_eq_true_iff, List.getD_eq_getElem?_getD, List.getD_eq_getElem?_getD, List.getElem?_eq_getElem (by omega), List.getElem?_eq_getElem (by omega)]
    show ¬ _ ≤ _
    exact Nat.not_le_of_lt hlt
  refine s_nop ?_
  refine s_if E3 (Gt.is (b := false) (gt_not (gt_B (gv_all (bs := m.map fun p => decide (1 ≤ p.2) && decide (p.2 ≤ 1000000)) ((gn_mapTP (e1 := fun p : Nat × Nat => nD p.1) (e2 := fun p : Nat × Nat => nD p.2) (f := fun p : Nat × Nat => .bl (decide (1 ≤ p.2) && decide (p.2 ≤ 1000000))) E3 (gv_var E3 rfl) (by omega) (by simp) (by simp) fun p _ σ2 H4 e4 E4 => gv_chainNN (gv_nat 1) (gv_var E4 rfl) (gv_nat 1000000)).is (by rw [List.map_map]; rfl)).gv))) ?_) (fun z => nomatch z) fun _ H4 e4 E4 => ?_
  · rw [Bool.not_eq_false', List.all_map, List.all_eq_true]
    intro p hp
    obtain ⟨q1, q2⟩ := hm.wt p hp
    show (decide (1 ≤ p.2) && decide (p.2 ≤ 1000000)) = true
    rw [decide_eq_true q1, decide_eq_true q2]
    rfl
  refine s_nop ?_
  exact s_ret gv_non fun v H5 e5 r5 => k v H5 ((((e1.trans e2).trans e3).trans e4).trans e5) r5
theorem ok_MF {H : Hp} {m : Mem} (h : MemOk m) : SpOk K (spMF K) [memD m] H .non := spD_ok m h
abbrev n_members_numbers : List Str := ["members", "found", "public", "weight"]
theorem sc_members_numbers : FnScope n_members_numbers ["members"] (defScope s_members_numbers) := ⟨rfl, rfl, rfl, by decide +kernel, rfl, by decide +kernel, by decide +kernel⟩
def spMN (K : PySem.W.Frag) : Sp := spN K (α := Mem) (fun m => m.length ≤ 64) (fun m => [memD m]) (fun m => (nums m).map nD)
theorem cal_members_numbers (T : Txt K mg) : C8.Cal P w K mg base 1 "members_numbers" (spMN K) [] := by
  obtain ⟨fd, F⟩ := T.f_members_numbers
  refine calD F T.g_members_numbers (fun _ _ _ _ _ _ us hl => match us, hl with | [_], _ => rfl) sc_members_numbers (fun vs H Q E h => (by obtain ⟨z, _, h, _⟩ := h; exact h.len)) (fun cdv A outer s H vs Q E hr h => ?_)
  obtain ⟨m, hm, hvs, k⟩ := h
  dsimp only at hvs k hm
  refine ⟨_, (pss_cons (ps_set (i := 1) sc_members_numbers.nd rfl (Or.inl rfl) (pe_lst (pa_cons (pe_callB call_len_seq (by rfl) T.b_len (by decide +kernel) (pa_cons (pv 0) pa_nil)) pa_nil)))
      (pss_cons (ps_for PassesOwn.never rfl (pi_tup (pv 0)) (pg_tup (by rfl) (pgs_cons (pg_name (i := 2) sc_members_numbers.nd rfl (Or.inl rfl)) (pgs_cons (pg_name (i := 3) sc_members_numbers.nd rfl (Or.inl rfl)) pgs_nil))) (pss_one (ps_expr (pe_bm PySem.F.plainAttrs_list PySem.F.slot_list_extend PySem.F.type_list_extend mt_extend (pv 1) (pa_cons (pe_lst (pa_cons (pv 2) (pa_cons (pv 3) pa_nil))) pa_nil)))))
      (pss_one (ps_ret (pv 1))))), ?_⟩
  have E := Sl.start (N := n_members_numbers) hvs
  refine s_asgN (ds := [nD m.length]) E (gn_lst (ga_cons ((gv_lenT (gv_var E rfl)).is (by rw [List.length_map])) ga_nil) (by simp)) fun p xs H1 hp e1 h1 r1 E1 => ?_
  have ex : xs = [nV m.length] := by
    obtain ⟨x, rfl, rx⟩ := one_of r1
    rw [show x = .int _ from rx]
  subst ex
  let fr : Nat → List Nat := fun i => m.length :: (m.take i).flatMap fun p => [p.1, p.2]
  have EB := E.set (i := 1) (d := .adr p) (v := .ref p) rfl
  refine s_forTV (l := m) (emb := prD) EB rfl fun v rv => ⟨fun i σ' H' => i ≤ m.length ∧ Ext H H' ∧ H' p = some (.lst ((fr i).map nV)) ∧ Sl K H [some (memD m), some (.adr p), none, none] σ', ⟨?_, ⟨Nat.zero_le _, e1, h1, EB⟩, ?_, ?_⟩⟩
  · rintro i σ' H' ⟨_, e, _⟩
    exact rv.ext e
  · rintro i a x σ' H' ha ⟨hi, e, hpp, E'⟩ rx
    have hil : i < m.length := (List.getElem?_eq_some_iff.mp ha).1
    refine g_pair (E'.ext e) rx fun v1 v2 rv1 rv2 E2 => ?_
    have lf : (fr i).length ≤ 200 := by
      have q1 := nums_len (m.take i)
      rw [nums, List.length_cons] at q1
      show (m.length :: _).length ≤ 200
      rw [List.length_cons]
      rw [List.length_take] at q1
      omega
    refine s_ext E2 hpp rfl (gn_lst (ga_cons (gv_var E2 rfl) (ga_cons (gv_var E2 rfl) ga_nil)) (by simp)) (by rw [List.length_map]; simp; omega) fun ys H3 e3 r3 E3 h3 => ⟨hil, ?_, ?_, (E'.set (i := 2) (d := nD a.1) rv1).set (i := 3) (d := nD a.2) rv2 |>.wk ⟨.inr rfl, .inr rfl, .inl rfl, .inl rfl, trivial⟩⟩
    · intro b o hb
      rw [upd_ne (ne_of_none hb hp)]
      exact e3 _ _ (e _ _ hb)
    · rw [upd_same]
      obtain ⟨y1, y2, rfl, ry1, ry2⟩ := two_of r3
      rw [show y1 = nV a.1 from ry1, show y2 = nV a.2 from ry2]
      have tk : m.take (i + 1) = m.take i ++ [a] := take_snoc ha
      show _ = some (HO.lst (List.map nV (m.length :: (m.take (i + 1)).flatMap fun p => [p.1, p.2])))
      rw [tk, List.flatMap_append, ← List.cons_append, List.map_append]
      rfl
  · rintro σ' H' ⟨_, e, hpp, E'⟩
    have hf : fr m.length = nums m := by
      show (m.length :: (m.take m.length).flatMap fun p => [p.1, p.2]) = nums m
      rw [List.take_length]
      rfl
    rw [hf] at hpp
    refine s_ret (gv_var (E'.ext e) rfl) fun v H3 e3 r3 => ?_
    have ev : v = .ref p := r3
    subst ev
    exact k p _ H3 hp (e.trans e3) (e3 _ _ hpp) (rps_nat _)
theorem ok_MN {H : Hp} {m : Mem} (h : m.length ≤ 64) : SpN K (spMN K) [memD m] H ((nums m).map nD) := spN_ok m h
abbrev n_members_root : List Str := ["hasher", "members"]
theorem sc_members_root : FnScope n_members_root ["hasher", "members"] (defScope s_members_root) := ⟨rfl, rfl, rfl, by decide +kernel, rfl, by decide +kernel, by decide +kernel⟩
def spMR (K : PySem.W.Frag) : Sp := spD K (α := Nat × Mem) (fun z => WOk z.1 ∧ MemOk z.2) (fun z => [hshD z.1, memD z.2]) (fun z => nD (dg z.1 9 (nums z.2)))
theorem cal_members_root (T : Txt K mg) : C8.Cal P w K mg base 3 "members_root" (spMR K) [] := by
  obtain ⟨fd, F⟩ := T.f_members_root
  refine calD F T.g_members_root (fun _ _ _ _ _ _ us hl => match us, hl with | [_, _], _ => rfl) sc_members_root (fun vs H Q E h => (by obtain ⟨z, _, h, _⟩ := h; exact h.len)) (fun cdv A outer s H vs Q E hr h => ?_)
  obtain ⟨⟨wd, m⟩, ⟨hw, hm⟩, hvs, k⟩ := h
  dsimp only at hvs k hm hw
  refine ⟨_, (pss_one (ps_ret (C8.pe_mt (met_Hasher_digest T) hr (by decide) (pv 0) (pa_cons (C8.pe_gc rfl T.c_MEMBERS_TAG) (pa_cons (C8.pe_c (cal_members_numbers T) hr (by decide) rfl (pa_cons (pv 1) pa_nil)) pa_nil))))), ?_⟩
  have E := Sl.start (N := n_members_root) hvs
  exact s_ret (gv_meth (gv_var E rfl) rfl (ga_cons (gv_nat 9) (ga_cons (gn_call (ga_cons (gv_var E rfl) ga_nil) (ok_MN hm.le)).gv ga_nil)) (ok_dig (b := true) hw (nums_ok hm))) k
theorem ok_MR {H : Hp} {w : Nat} {m : Mem} (h : WOk w) (h2 : MemOk m) : SpOk K (spMR K) [hshD w, memD m] H (nD (dg w 9 (nums m))) := spD_ok (w, m) ⟨h, h2⟩
abbrev n_total : List Str := ["members", "public", "weight"]
theorem sc_total : FnScope n_total ["members"] (defScope s_total) := ⟨rfl, rfl, rfl, by decide +kernel, rfl, by decide +kernel, by decide +kernel⟩
def spTot (K : PySem.W.Frag) : Sp := spD K (α := Mem) (fun m => m.length ≤ 64) (fun m => [memD m]) (fun m => nD (tot m))
theorem cal_total (T : Txt K mg) : C8.Cal P w K mg base 1 "total" (spTot K) [] := by
  obtain ⟨fd, F⟩ := T.f_total
  refine calD F T.g_total (fun _ _ _ _ _ _ us hl => match us, hl with | [_], _ => rfl) sc_total (fun vs H Q E h => (by obtain ⟨z, _, h, _⟩ := h; exact h.len)) (fun cdv A outer s H vs Q E hr h => ?_)
  obtain ⟨m, hm, hvs, k⟩ := h
  dsimp only at hvs k hm
  refine ⟨_, (pss_one (ps_ret (pe_callB (cr_sum rfl) (by rfl) T.b_sum (by decide +kernel) (pa_cons (pe_lc (own := [("public", 1), ("weight", 2)]) (by rfl) sc_total.nd (pi_tup (pv 0)) (blkOk_by (own := [("public", 1), ("weight", 2)]) (N := n_total) (sc := defScope s_total) (by decide +kernel)) (fun _ _ _ _ _ => (show PG _ _ (gTup K 2 _) from (pg_tup (by rfl) (pgs_cons (pg_name (i := 1) sc_total.nd rfl (Or.inl rfl)) (pgs_cons (pg_name (i := 2) sc_total.nd rfl (Or.inl rfl)) pgs_nil))))) (fun _ _ _ _ _ => pts_nil) (fun _ _ _ _ _ => (pv 2))) pa_nil)))), ?_⟩
  have E := Sl.start (N := n_total) hvs
  exact s_ret (d := nD (tot m)) (gv_sumN (ns := m.map (·.2)) ((gn_mapTP (e1 := fun p : Nat × Nat => nD p.1) (e2 := fun p : Nat × Nat => nD p.2) (f := fun p : Nat × Nat => nD p.2) E (gv_var E rfl) (by omega) (by simp) (by simp) fun p _ σ2 H2 e2 E2 => gv_var E2 rfl).is (by rw [List.map_map]; rfl)).gv) k
theorem ok_tot {H : Hp} {m : Mem} (h : m.length ≤ 64) : SpOk K (spTot K) [memD m] H (nD (tot m)) := spD_ok m h
abbrev n_weight_of : List Str := ["members", "publics", "public", "weight"]
theorem sc_weight_of : FnScope n_weight_of ["members", "publics"] (defScope s_weight_of) := ⟨rfl, rfl, rfl, by decide +kernel, rfl, by decide +kernel, by decide +kernel⟩
def spWof (K : PySem.W.Frag) : Sp := spD K (α := Mem × List Nat) (fun z => z.1.length ≤ 64) (fun z => [memD z.1, .tup (z.2.map nD)]) (fun z => nD (wof z.1 z.2))
theorem cal_weight_of (T : Txt K mg) : C8.Cal P w K mg base 1 "weight_of" (spWof K) [] := by
  obtain ⟨fd, F⟩ := T.f_weight_of
  refine calD F T.g_weight_of (fun _ _ _ _ _ _ us hl => match us, hl with | [_, _], _ => rfl) sc_weight_of (fun vs H Q E h => (by obtain ⟨z, _, h, _⟩ := h; exact h.len)) (fun cdv A outer s H vs Q E hr h => ?_)
  obtain ⟨⟨m, ps⟩, hm, hvs, k⟩ := h
  dsimp only at hvs k hm
  refine ⟨_, (pss_one (ps_ret (pe_callB (cr_sum rfl) (by rfl) T.b_sum (by decide +kernel) (pa_cons (pe_lc (own := [("public", 2), ("weight", 3)]) (by rfl) sc_weight_of.nd (pi_tup (pv 0)) (blkOk_by (own := [("public", 2), ("weight", 3)]) (N := n_weight_of) (sc := defScope s_weight_of) (by decide +kernel)) (fun _ _ _ _ _ => (show PG _ _ (gTup K 2 _) from (pg_tup (by rfl) (pgs_cons (pg_name (i := 2) sc_weight_of.nd rfl (Or.inl rfl)) (pgs_cons (pg_name (i := 3) sc_weight_of.nd rfl (Or.inl rfl)) pgs_nil))))) (fun _ _ _ _ _ => (pts_one (pt_cmpR (op_in_seq : OpR _ (compareOp .In) (rIn K false)) (pv 2) (pv 1) (by rfl)))) (fun _ _ _ _ _ => (pv 3))) pa_nil)))), ?_⟩
  have E := Sl.start (N := n_weight_of) hvs
  exact s_ret (d := nD (wof m ps)) (gv_sumN (ns := (m.filter fun p => decide (p.1 ∈ ps)).map (·.2)) ((gn_filTP (e1 := fun p : Nat × Nat => nD p.1) (e2 := fun p : Nat × Nat => nD p.2) (f := fun p : Nat × Nat => nD p.2) (p := fun p => decide (p.1 ∈ ps)) E (gv_var E rfl) (by omega) (by simp) (by simp) (fun p _ σ2 H2 e2 E2 => gt_test (gv_inTN (gv_var E2 rfl) (gv_var E2 rfl))) fun p _ _ σ2 H2 e2 E2 => gv_var E2 rfl).is (by rw [List.map_map]; rfl)).gv) k
theorem ok_wof {H : Hp} {m : Mem} {ps : List Nat} (h : m.length ≤ 64) : SpOk K (spWof K) [memD m, .tup (ps.map nD)] H (nD (wof m ps)) := spD_ok (m, ps) h
abbrev n_more_than : List Str := ["members", "publics", "parts", "whole"]
theorem sc_more_than : FnScope n_more_than ["members", "publics", "parts", "whole"] (defScope s_more_than) := ⟨rfl, rfl, rfl, by decide +kernel, rfl, by decide +kernel, by decide +kernel⟩
def spMth (K : PySem.W.Frag) : Sp := spD K (α := Mem × List Nat × Nat × Nat) (fun z => z.1.length ≤ 64 ∧ z.2.2.1 ≤ 3 ∧ z.2.2.2 ≤ 3) (fun z => [memD z.1, .tup (z.2.1.map nD), nD z.2.2.1, nD z.2.2.2]) (fun z => .bl (mth z.1 z.2.1 z.2.2.1 z.2.2.2))
theorem cal_more_than (T : Txt K mg) : C8.Cal P w K mg base 2 "more_than" (spMth K) [] := by
  obtain ⟨fd, F⟩ := T.f_more_than
  refine calD F T.g_more_than (fun _ _ _ _ _ _ us hl => match us, hl with | [_, _, _, _], _ => rfl) sc_more_than (fun vs H Q E h => (by obtain ⟨z, _, h, _⟩ := h; exact h.len)) (fun cdv A outer s H vs Q E hr h => ?_)
  obtain ⟨⟨m, ps, a, b⟩, ⟨hm, ha, hb⟩, hvs, k⟩ := h
  dsimp only at hvs k hm ha hb
  refine ⟨_, (pss_one (ps_ret (pe_cmpR op_gt (pe_op op_mul (C8.pe_c (cal_weight_of T) hr (by decide) rfl (pa_cons (pv 0) (pa_cons (pv 1) pa_nil))) (pv 3)) (pe_op op_mul (C8.pe_c (cal_total T) hr (by decide) rfl (pa_cons (pv 0) pa_nil)) (pv 2)) (nomark _)))), ?_⟩
  have E := Sl.start (N := n_more_than) hvs
  exact s_ret (gv_gtN (gv_mulN (gv_call (ga_cons (gv_var E rfl) (ga_cons (gv_var E rfl) ga_nil)) (ok_wof hm)) (gv_var E rfl) (by omega)) (gv_mulN (gv_call (ga_cons (gv_var E rfl) ga_nil) (ok_tot hm)) (gv_var E rfl) (by omega))) k
theorem ok_mth {H : Hp} {m : Mem} {ps : List Nat} {a b : Nat} (h : m.length ≤ 64) (ha : a ≤ 3) (hb : b ≤ 3) : SpOk K (spMth K) [memD m, .tup (ps.map nD), nD a, nD b] H (.bl (mth m ps a b)) := spD_ok (m, ps, a, b) ⟨h, ha, hb⟩
end
end K38

set_option Elab.async false
set_option linter.all false
set_option maxRecDepth 100000
set_option maxHeartbeats 4000000
namespace K38
open PySem PySem.Spec PyProof.Rows L2
open PySem.W (Datum Tup)
local macro_rules | `(tactic| walk_at "gv1") => `(tactic| first | exact gv_int | exact gv_str | exact gv_non | exact gv_bl | (refine gv_var (by assumption) ?_; exact rfl) | refine gv_I0 ?_ ?_ | refine gv_Ib ?_ ?_ | refine gv_eqI ?_ ?_ | refine gv_neI ?_ ?_ | refine gt_test ?_ | refine gt_B ?_ | exact ga_nil | refine ga_cons ?_ ?_)
local macro_rules | `(tactic| walk_at "gv") => `(tactic| repeat walk_at "gv1")

theorem sgFold_len (w L msg : Nat) (m : Mem) : ∀ (vs : Votes), (sgFold w L msg m vs).length ≤ vs.length := by
  have : ∀ (vs : Votes) (f : List Nat), (vs.foldl (sgStep w L msg (pubs m)) f).length ≤ f.length + vs.length := by
    intro vs
    induction vs with
    | nil => intro f; exact Nat.le_refl _
    | cons v r ih =>
      intro f
      rw [List.foldl_cons, List.length_cons]
      refine Nat.le_trans (ih _) ?_
      unfold sgStep
      split
      · rw [List.length_append, List.length_singleton]
        omega
      · omega
  intro vs
  have q := this vs []
  simpa [sgFold] using q
theorem sgFold_snoc {w L msg : Nat} {m : Mem} {vs : Votes} {v : Nat × Sig} : sgFold w L msg m (vs ++ [v]) = sgStep w L msg (pubs m) (sgFold w L msg m vs) v := by
  unfold sgFold
  rw [List.foldl_append]
  rfl
section
variable {P : Program} {w : World} {K : PySem.W.Frag} {mg : Str → Option Value} {base : Heap}
abbrev n_signers : List Str := ["hasher", "message", "members", "votes", "known", "found", "public", "signature", "weight"]
theorem sc_signers : FnScope n_signers ["hasher", "message", "members", "votes"] (defScope s_signers) := ⟨rfl, rfl, rfl, by decide +kernel, rfl, by decide +kernel, by decide +kernel⟩
def spSg (K : PySem.W.Frag) : Sp := spD K (α := Nat × Nat × Nat × Mem × Votes) (fun z => WOk z.1 ∧ z.2.2.2.1.length ≤ 64 ∧ VotesOk z.1 z.2.1 z.2.2.2.2) (fun z => [hshD z.1, nD z.2.2.1, memD z.2.2.2.1, votD z.2.2.2.2]) (fun z => .tup ((sgs z.1 z.2.1 z.2.2.1 z.2.2.2.1 z.2.2.2.2).map nD))
theorem cal_signers (T : Txt K mg) : C8.Cal P w K mg base 9 "signers" (spSg K) [] := by
  obtain ⟨fd, F⟩ := T.f_signers
  refine calD F T.g_signers (fun _ _ _ _ _ _ us hl => match us, hl with | [_, _, _, _], _ => rfl) sc_signers (fun vs H Q E h => (by obtain ⟨z, _, h, _⟩ := h; exact h.len)) (fun cdv A outer s H vs Q E hr h => ?_)
  obtain ⟨⟨wd, L, msg, m, vt⟩, ⟨hw, hm, hv⟩, hvs, k⟩ := h
  dsimp only at hvs k hw hm hv
  have hv1 := hv.1
  refine ⟨_, (pss_cons (ps_setLc (i := 4) (own := [("public", 6), ("weight", 8)]) (by rfl) sc_signers.nd rfl rfl (sw_true rfl rfl rfl (by decide +kernel)) (pi_tup (pv 2)) (blkOk_by (own := [("public", 6), ("weight", 8)]) (N := n_signers) (sc := defScope s_signers) (by decide +kernel)) (fun _ _ _ _ _ => (show PG _ _ (gTup K 2 _) from (pg_tup (by rfl) (pgs_cons (pg_name (i := 6) sc_signers.nd rfl (Or.inl rfl)) (pgs_cons (pg_name (i := 8) sc_signers.nd rfl (Or.inl rfl)) pgs_nil))))) (fun _ _ _ _ _ => pts_nil) (fun _ _ _ _ _ => (pv 6)))
      (pss_cons (ps_set (i := 5) sc_signers.nd rfl (Or.inl rfl) (pe_lst pa_nil))
      (pss_cons (ps_for PassesOwn.never rfl (pi_tup (pv 3)) (pg_tup (by rfl) (pgs_cons (pg_name (i := 6) sc_signers.nd rfl (Or.inl rfl)) (pgs_cons (pg_name (i := 7) sc_signers.nd rfl (Or.inl rfl)) pgs_nil))) (pss_one (ps_if (PW.pt (pw_and (pt_cmpR (op_in_seq : OpR _ (compareOp .In) (rIn K false)) (pv 6) (pv 4) (by rfl)) (pw_and (pt_cmpR (op_notIn_seq : OpR _ (compareOp .NotIn) (rIn K true)) (pv 6) (pv 5) (by rfl)) (pw_and1 (pt_val (C8.pe_c (cal_verify T) hr (by decide) rfl (pa_cons (pv 0) (pa_cons (pv 6) (pa_cons (pv 1) (pa_cons (pv 7) pa_nil)))))))))) (pss_one (ps_expr (pe_bm PySem.F.plainAttrs_list PySem.F.slot_list_append PySem.F.type_list_append mt_append (pv 5) (pa_cons (pv 6) pa_nil)))) pss_nil)))
      (pss_one (ps_ret (pe_callTy call_tuple_of (by rfl) T.b_tuple (by decide +kernel) (pa_cons (pe_callB cr_sortedI (by rfl) T.b_sorted (by decide +kernel) (pa_cons (pv 5) pa_nil)) pa_nil))))))), ?_⟩
  have E := Sl.start (N := n_signers) hvs
  refine s_asg (d := .lst ((pubs m).map nD)) E ((gn_mapTP (e1 := fun p : Nat × Nat => nD p.1) (e2 := fun p : Nat × Nat => nD p.2) (f := fun p : Nat × Nat => nD p.1) E (gv_var E rfl) (by omega) (by simp) (by simp) fun p _ σ2 H2 e2 E2 => gv_var E2 rfl).is (by rw [pubs, List.map_map]; rfl)).gv fun v1 H1 e1 _ E1 => ?_
  refine s_asgN (ds := []) E1 (gn_none (ds := [])) fun p xs H2 hp e2 h2 r2 E2 => ?_
  have ex : xs = [] := r2
  subst ex
  have hp0 := fresh_back e1 hp
  have EB := E1.set (i := 5) (d := .adr p) (v := .ref p) rfl
  refine s_forTV (l := vt) (emb := vtD) EB rfl fun v rv => ⟨fun i σ' H' => i ≤ vt.length ∧ Ext H1 H' ∧ H' p = some (.lst ((sgFold wd L msg m (vt.take i)).map nV)) ∧ Sl K H1 [some (hshD wd), some (nD msg), some (memD m), some (votD vt), some (.lst ((pubs m).map nD)), some (.adr p), none, none, none] σ', ⟨?_, ⟨Nat.zero_le _, e2, h2, EB⟩, ?_, ?_⟩⟩
  · rintro i σ' H' ⟨_, e, _⟩
    exact rv.ext e
  · rintro i a x σ' H' ha ⟨hi, e, hpp, E'⟩ rx
    have hil : i < vt.length := (List.getElem?_eq_some_iff.mp ha).1
    have hs := hv.2 a (List.mem_of_getElem? ha)
    refine g_pair (E'.ext e) rx fun v1 v2 rv1 rv2 E3 => ?_
    have lf := sgFold_len wd L msg m (vt.take i)
    rw [List.length_take] at lf
    have tk : vt.take (i + 1) = vt.take i ++ [a] := take_snoc ha
    have rl : ∀ {H2 : Hp}, Ext H' H2 → Rp K H2 (.lst ((sgFold wd L msg m (vt.take i)).map nD)) (.ref p) := fun e2 => (rp_natl hpp).ext e2
    refine s_if E3 (gt_and (gt_test (gv_inLN (gv_var E3 rfl) (gv_var E3 rfl))) fun _ => gt_and (gt_test (gv_ninLN (gv_var E3 rfl) (gv_view (gv_var E3 rfl) (rl Ext.rfl')))) fun _ => gt_B (gv_call (ga_cons (gv_var E3 rfl) (ga_cons (gv_var E3 rfl) (ga_cons (gv_var E3 rfl) (ga_cons (gv_var E3 rfl) ga_nil)))) (ok_ver hs))) (fun hc H4 e4 E4 => ?_) (fun hc H4 e4 E4 => ?_)
    · have hc2 : a.1 ∈ pubs m ∧ a.1 ∉ sgFold wd L msg m (vt.take i) ∧ vfy wd L a.1 msg a.2 = true := by simpa using hc
      have ef : sgFold wd L msg m (vt.take (i + 1)) = sgFold wd L msg m (vt.take i) ++ [a.1] := by rw [tk, sgFold_snoc, sgStep, if_pos hc2]
      refine s_app E4 (e4 _ _ hpp) (gv_var E4 rfl) (gv_var E4 rfl) (by rw [List.length_map]; omega) fun v3 H5 e5 r5 E5 h5 => ⟨hil, ?_, ?_, ?_⟩
      · intro b o hb
        rw [upd_ne (ne_of_none hb hp)]
        exact e5 _ _ (e4 _ _ (e _ _ hb))
      · rw [upd_same, ef, List.map_append, show v3 = nV a.1 from r5]
        rfl
      · exact (E'.set (i := 6) (d := nD a.1) rv1).set (i := 7) (d := .any) trivial |>.wk ⟨.inr rfl, .inr rfl, .inr rfl, .inr rfl, .inr rfl, .inr rfl, .inl rfl, .inl rfl, .inl rfl, trivial⟩
    · have hc2 : ¬ (a.1 ∈ pubs m ∧ a.1 ∉ sgFold wd L msg m (vt.take i) ∧ vfy wd L a.1 msg a.2 = true) := fun z => by simp [z.1, z.2.1, z.2.2] at hc
      have ef : sgFold wd L msg m (vt.take (i + 1)) = sgFold wd L msg m (vt.take i) := by rw [tk, sgFold_snoc, sgStep, if_neg hc2]
      refine s_nop ⟨hil, e.trans e4, by rw [ef]; exact e4 _ _ hpp, (E'.set (i := 6) (d := nD a.1) rv1).set (i := 7) (d := .any) trivial |>.wk ⟨.inr rfl, .inr rfl, .inr rfl, .inr rfl, .inr rfl, .inr rfl, .inl rfl, .inl rfl, .inl rfl, trivial⟩⟩
  · rintro σ' H' ⟨_, e, hpp, E'⟩
    rw [List.take_length] at hpp
    exact s_ret (gv_tupL (gn_sortedN (gv_view (gv_var (E'.ext e) rfl) (rp_natl hpp))).gv) fun v3 H3 e3 r3 => k v3 H3 ((e1.trans e).trans e3) r3
theorem ok_sg {H : Hp} {w L msg : Nat} {m : Mem} {vs : Votes} (h : WOk w) (hm : m.length ≤ 64) (hv : VotesOk w L vs) : SpOk K (spSg K) [hshD w, nD msg, memD m, votD vs] H (.tup ((sgs w L msg m vs).map nD)) := spD_ok (w, L, msg, m, vs) ⟨h, hm, hv⟩
/-! ### headers -/
abbrev n_Header_init : List Str := ["self", "chain", "height", "time", "previous", "state", "members", "following"]
theorem sc_Header_init : FnScope n_Header_init ["self", "chain", "height", "time", "previous", "state", "members", "following"] (defScope s_Header_init) := ⟨rfl, rfl, rfl, by decide +kernel, rfl, by decide +kernel, by decide +kernel⟩
def spHdr (K : PySem.W.Frag) : Sp := spMk K "Header" (α := Hdr) (fun _ => True) (fun h => h.list.map nD) hdrD
theorem mak_Header (T : Txt K mg) : C8.Mak P w K mg base 1 "Header" (He.ga K "Header") (spHdr K) [] := by
  obtain ⟨fd, F⟩ := T.f_Header_init
  refine makD T.mk_Header T.g_Header F (fun _ _ _ _ _ _ us hl => match us, hl with | [_, _, _, _, _, _, _, _], _ => rfl) sc_Header_init (fun vs H Q E h => (by obtain ⟨z, x, dx, us, B, _, rfl, _, r, _⟩ := h; rw [List.length_cons, r.len]; rfl)) (fun cdv A outer s H vs Q E hr h => ?_)
  obtain ⟨z, x, dx, us, B, _, rfl, cl, r, k⟩ := h
  refine ⟨_, (pss_cons (ps_fld (pv 0) (pe_fr (pv 1)) rfl)
      (pss_cons (ps_fld (pv 0) (pe_fr (pv 2)) rfl)
      (pss_cons (ps_fld (pv 0) (pe_fr (pv 3)) rfl)
      (pss_cons (ps_fld (pv 0) (pe_fr (pv 4)) rfl)
      (pss_cons (ps_fld (pv 0) (pe_fr (pv 5)) rfl)
      (pss_cons (ps_fld (pv 0) (pe_fr (pv 6)) rfl)
      (pss_one (ps_fld (pv 0) (pe_fr (pv 7)) rfl)))))))), ?_⟩
  have E := Sl.start (N := n_Header_init) (Rps.cons (d := .adr x) rfl r)
  refine s_ini (K := K) (fs := []) (us := []) E rfl cl rfl (gv_var E rfl) T.cl_Header T.na_Header_chain rfl (by decide) fun v1 B1 H1 b1 E1 c1 l1 r1 => ?_
  refine s_ini (K := K) (fs := ["chain"]) (us := [v1]) E1 rfl c1 rfl (gv_var E1 rfl) T.cl_Header T.na_Header_height (by decide +kernel) (by decide) fun v2 B2 H2 b2 E2 c2 l2 r2 => ?_
  refine s_ini (K := K) (fs := ["chain", "height"]) (us := [v1, v2]) E2 rfl c2 rfl (gv_var E2 rfl) T.cl_Header T.na_Header_time (by decide +kernel) (by decide) fun v3 B3 H3 b3 E3 c3 l3 r3 => ?_
  refine s_ini (K := K) (fs := ["chain", "height", "time"]) (us := [v1, v2, v3]) E3 rfl c3 rfl (gv_var E3 rfl) T.cl_Header T.na_Header_previous (by decide +kernel) (by decide) fun v4 B4 H4 b4 E4 c4 l4 r4 => ?_
  refine s_ini (K := K) (fs := ["chain", "height", "time", "previous"]) (us := [v1, v2, v3, v4]) E4 rfl c4 rfl (gv_var E4 rfl) T.cl_Header T.na_Header_state (by decide +kernel) (by decide) fun v5 B5 H5 b5 E5 c5 l5 r5 => ?_
  refine s_ini (K := K) (fs := ["chain", "height", "time", "previous", "state"]) (us := [v1, v2, v3, v4, v5]) E5 rfl c5 rfl (gv_var E5 rfl) T.cl_Header T.na_Header_members (by decide +kernel) (by decide) fun v6 B6 H6 b6 E6 c6 l6 r6 => ?_
  refine s_ini (K := K) (fs := ["chain", "height", "time", "previous", "state", "members"]) (us := [v1, v2, v3, v4, v5, v6]) E6 rfl c6 rfl (gv_var E6 rfl) T.cl_Header T.na_Header_following (by decide +kernel) (by decide) fun v7 B7 H7 b7 E7 c7 l7 r7 => ?_
  exact k _ (((((((b1.trans b2).trans b3).trans b4).trans b5).trans b6).trans b7).trans c7.ext) (c7.rp (fs := fHdr) (.cons r1 (.cons r2 (.cons r3 (.cons r4 (.cons r5 (.cons r6 (.cons r7 .nil))))))))
abbrev n_Header_fields : List Str := ["self"]
theorem sc_Header_fields : FnScope n_Header_fields ["self"] (defScope s_Header_fields) := ⟨rfl, rfl, rfl, by decide +kernel, rfl, by decide +kernel, by decide +kernel⟩
def spFl (K : PySem.W.Frag) : Sp := spD K (α := Hdr) (fun _ => True) (fun h => [hdrD h]) (fun h => .tup (h.list.map nD))
theorem met_Header_fields (T : Txt K mg) : C8.Met P w K mg base 1 (He.ga K "Header") "fields" (spFl K) [] := by
  obtain ⟨fd, F⟩ := T.f_Header_fields
  refine metD T.cl_Header T.me_Header_fields F (fun _ _ _ _ _ _ us hl => match us, hl with | [_], _ => rfl) sc_Header_fields (fun vs H Q E h => (by obtain ⟨z, _, h, _⟩ := h; exact h.len)) (fun cdv A outer s H vs Q E hr h => ?_)
  obtain ⟨z, -, hvs, k⟩ := h
  dsimp only at hvs k
  refine ⟨_, (pss_one (ps_ret (pe_tup (pa_cons (pe_fld (pv 0) rfl) (pa_cons (pe_fld (pv 0) rfl) (pa_cons (pe_fld (pv 0) rfl) (pa_cons (pe_fld (pv 0) rfl) (pa_cons (pe_fld (pv 0) rfl) (pa_cons (pe_fld (pv 0) rfl) (pa_cons (pe_fld (pv 0) rfl) pa_nil)))))))))), ?_⟩
  have E := Sl.start (N := n_Header_fields) hvs
  exact s_ret (gv_tup (ga_cons (gv_Header_chain T (gv_var E rfl)) (ga_cons (gv_Header_height T (gv_var E rfl)) (ga_cons (gv_Header_time T (gv_var E rfl)) (ga_cons (gv_Header_previous T (gv_var E rfl)) (ga_cons (gv_Header_state T (gv_var E rfl)) (ga_cons (gv_Header_members T (gv_var E rfl)) (ga_cons (gv_Header_following T (gv_var E rfl)) ga_nil))))))) (by simp)) k
theorem ok_fl {H : Hp} {h : Hdr} : SpOk K (spFl K) [hdrD h] H (.tup (h.list.map nD)) := spD_ok h trivial
theorem hdr_inj {a b : Hdr} (h : (⟨a.list⟩ : Tup Nat) = ⟨b.list⟩) : a = b := by
  injection h with h
  unfold Hdr.list at h
  cases a
  cases b
  simpa using h
abbrev n_Header_eq : List Str := ["self", "other"]
theorem sc_Header_eq : FnScope n_Header_eq ["self", "other"] (defScope s_Header_eq) := ⟨rfl, rfl, rfl, by decide +kernel, rfl, by decide +kernel, by decide +kernel⟩
def spHe (K : PySem.W.Frag) : Sp := spD K (α := Hdr × Hdr) (fun _ => True) (fun z => [hdrD z.1, hdrD z.2]) (fun z => .bl (decide (z.1 = z.2)))
theorem met_Header_eq (T : Txt K mg) : C8.Met P w K mg base 2 (He.ga K "Header") "__eq__" (spHe K) [] := by
  obtain ⟨fd, F⟩ := T.f_Header_eq
  refine metD T.cl_Header T.me_Header_eq F (fun _ _ _ _ _ _ us hl => match us, hl with | [_, _], _ => rfl) sc_Header_eq (fun vs H Q E h => (by obtain ⟨z, _, h, _⟩ := h; exact h.len)) (fun cdv A outer s H vs Q E hr h => ?_)
  obtain ⟨⟨a, b⟩, -, hvs, k⟩ := h
  dsimp only at hvs k
  refine ⟨_, (pss_cons (ps_if (pt_not (pt_val (pe_callB (C8.call_isC T.is_Header) (by rfl) T.b_isinstance (by decide +kernel) (pa_cons (pv 1) (pa_cons (C8.pe_gc rfl T.gc_Header) pa_nil))))) (pss_one (ps_ret pe_bl)) pss_nil)
      (pss_one (ps_ret (pe_cmpR (op_eqH (α := PySem.W.Tup Nat) hr (by decide)) (C8.pe_mt0 (met_Header_fields T) hr (by decide) (pv 0)) (C8.pe_mt0 (met_Header_fields T) hr (by decide) (pv 1)) (nomark _))))), ?_⟩
  have E := Sl.start (N := n_Header_eq) hvs
  refine s_if E (Gt.is (b := false) (gt_not (gt_B (gv_isC (gv_var E rfl)))) rfl) (fun z => nomatch z) fun _ H1 e1 E1 => ?_
  refine s_nop ?_
  refine s_ret ((gv_eqH (hd_tup hd_nat) (x := ⟨a.list⟩) (y := ⟨b.list⟩) (gv_meth (gv_var E1 rfl) rfl ga_nil ok_fl) (gv_meth (gv_var E1 rfl) rfl ga_nil ok_fl)).is ?_) fun v H2 e2 r2 => k v H2 (e1.trans e2) r2
  congr 1
  exact decide_eq_decide.mpr ⟨hdr_inj, fun e => by rw [e]⟩
theorem ok_he {H : Hp} {a b : Hdr} : SpOk K (spHe K) [hdrD a, hdrD b] H (.bl (decide (a = b))) := spD_ok (a, b) trivial
abbrev n_Block_init : List Str := ["self", "header", "members", "following", "votes"]
theorem sc_Block_init : FnScope n_Block_init ["self", "header", "members", "following", "votes"] (defScope s_Block_init) := ⟨rfl, rfl, rfl, by decide +kernel, rfl, by decide +kernel, by decide +kernel⟩
def spBlk (K : PySem.W.Frag) : Sp := spMk K "Block" (α := Blk) (fun _ => True) (fun b => [hdrD b.h, memD b.mem, memD b.fol, .lst (b.votes.map vtD)]) blkD
theorem mak_Block (T : Txt K mg) : C8.Mak P w K mg base 1 "Block" (He.ga K "Block") (spBlk K) [] := by
  obtain ⟨fd, F⟩ := T.f_Block_init
  refine makD T.mk_Block T.g_Block F (fun _ _ _ _ _ _ us hl => match us, hl with | [_, _, _, _, _], _ => rfl) sc_Block_init (fun vs H Q E h => (by obtain ⟨z, x, dx, us, B, _, rfl, _, r, _⟩ := h; rw [List.length_cons, r.len]; rfl)) (fun cdv A outer s H vs Q E hr h => ?_)
  obtain ⟨z, x, dx, us, B, _, rfl, cl, r, k⟩ := h
  refine ⟨_, (pss_cons (ps_fld (pv 0) (pe_fr (pv 1)) rfl)
      (pss_cons (ps_fld (pv 0) (pe_fr (pe_callTy call_tuple_of (by rfl) T.b_tuple (by decide +kernel) (pa_cons (pv 2) pa_nil))) rfl)
      (pss_cons (ps_fld (pv 0) (pe_fr (pe_callTy call_tuple_of (by rfl) T.b_tuple (by decide +kernel) (pa_cons (pv 3) pa_nil))) rfl)
      (pss_one (ps_fld (pv 0) (pe_fr (pe_callTy call_tuple_of (by rfl) T.b_tuple (by decide +kernel) (pa_cons (pv 4) pa_nil))) rfl))))), ?_⟩
  have E := Sl.start (N := n_Block_init) (Rps.cons (d := .adr x) rfl r)
  refine s_ini (K := K) (fs := []) (us := []) E rfl cl rfl (gv_var E rfl) T.cl_Block T.na_Block_header rfl (by decide) fun v1 B1 H1 b1 E1 c1 l1 r1 => ?_
  refine s_ini (K := K) (fs := ["header"]) (us := [v1]) E1 rfl c1 rfl (gv_tupT (gv_var E1 rfl)) T.cl_Block T.na_Block_members (by decide +kernel) (by decide) fun v2 B2 H2 b2 E2 c2 l2 r2 => ?_
  refine s_ini (K := K) (fs := ["header", "members"]) (us := [v1, v2]) E2 rfl c2 rfl (gv_tupT (gv_var E2 rfl)) T.cl_Block T.na_Block_following (by decide +kernel) (by decide) fun v3 B3 H3 b3 E3 c3 l3 r3 => ?_
  refine s_ini (K := K) (fs := ["header", "members", "following"]) (us := [v1, v2, v3]) E3 rfl c3 rfl (gv_tupL (gv_var E3 rfl)) T.cl_Block T.na_Block_votes (by decide +kernel) (by decide) fun v4 B4 H4 b4 E4 c4 l4 r4 => ?_
  exact k _ ((((b1.trans b2).trans b3).trans b4).trans c4.ext) (c4.rp (fs := fBlk) (.cons (((r1.ext b2).ext b3).ext b4) (.cons ((r2.ext b3).ext b4) (.cons (r3.ext b4) (.cons r4 .nil)))))
end
end K38

set_option Elab.async false
set_option linter.all false
set_option maxRecDepth 100000
set_option maxHeartbeats 4000000
namespace K38
open PySem PySem.Spec PyProof.Rows L2
open PySem.W (Datum Tup)
local macro_rules | `(tactic| walk_at "gv1") => `(tactic| first | exact gv_int | exact gv_str | exact gv_non | exact gv_bl | (refine gv_var (by assumption) ?_; exact rfl) | refine gv_I0 ?_ ?_ | refine gv_Ib ?_ ?_ | refine gv_eqI ?_ ?_ | refine gv_neI ?_ ?_ | refine gt_test ?_ | refine gt_B ?_ | exact ga_nil | refine ga_cons ?_ ?_)
local macro_rules | `(tactic| walk_at "gv") => `(tactic| repeat walk_at "gv1")

def hdg (w : Nat) (h : Hdr) : Nat := dg w 8 h.list
def vmsg (w : Nat) (h : Hdr) : Nat := dg w 10 [hdg w h]
def bsg (w L : Nat) (b : Blk) : List Nat := sgs w L (vmsg w b.h) b.mem b.votes
def HdrOk (h : Hdr) : Prop := ∀ n ∈ h.list, n < 4294967296
structure BlkOk (w L : Nat) (b : Blk) : Prop where
  hw : WOk w
  h : HdrOk b.h
  mem : MemOk b.mem
  fol : MemOk b.fol
  vt : VotesOk w L b.votes
theorem HdrOk.ns {h : Hdr} (k : HdrOk h) : NsOk h.list := nsOk_of (by simp [Hdr.list]) fun n hn => by have := k n hn; omega
def lsF (w : Nat) (b : Blk) : Option Str := if dg w 9 (nums b.mem) = b.h.mb then (if dg w 9 (nums b.fol) = b.h.fo then none else some "following") else some "members"
def bkF (w L ch : Nat) (b : Blk) : Option Str := if b.h.ch = ch then (match lsF w b with | some f => some f | none => if mth b.mem (bsg w L b) 2 3 = true then none else some "votes") else some "chain"
def exF (p : Nat) (h : Hdr) (now : Nat) : Bool := decide (h.tm + p ≤ now)
def orF (d : Nat) (t h : Hdr) (now : Nat) : Option Str := if h.ht ≤ t.ht then some "height" else if h.tm ≤ t.tm then some "time" else if now + d < h.tm then some "future" else none
def lkF (w L : Nat) (t b : Blk) : Option Str := if b.h.ht = t.h.ht + 1 then (if b.h.pv = hdg w t.h then (if b.h.mb = t.h.fo then none else some "next") else some "previous") else if mth t.fol (bsg w L b) 1 3 = true then none else some "overlap"
def stF (w L p d : Nat) (t b : Blk) (now : Nat) : Option Str := if exF p t.h now = true then some "expired" else match bkF w L t.h.ch b with
  | some f => some f
  | none => match orF d t.h b.h now with
    | some f => some f
    | none => lkF w L t b
abbrev oS (o : Option Str) : D := opD D.str o
theorem oS_isN (o : Option Str) : (oS o).isN = some o.isNone := by cases o <;> rfl
instance {o} : Pu (oS o) := by cases o <;> exact ⟨trivial⟩
section
variable {P : Program} {w : World} {K : PySem.W.Frag} {mg : Str → Option Value} {base : Heap}
abbrev n_Block_eq : List Str := ["self", "other", "mine"]
theorem sc_Block_eq : FnScope n_Block_eq ["self", "other"] (defScope s_Block_eq) := ⟨rfl, rfl, rfl, by decide +kernel, rfl, by decide +kernel, by decide +kernel⟩
/-- the same block -/
def spBe (K : PySem.W.Frag) : Sp := spD K (α := Addr × Blk) (fun _ => True) (fun z => [.at z.1 (blkD z.2), .at z.1 (blkD z.2)]) (fun _ => .bl true)
theorem met_Block_eq (T : Txt K mg) : C8.Met P w K mg base 6 (He.ga K "Block") "__eq__" (spBe K) [] := by
  obtain ⟨fd, F⟩ := T.f_Block_eq
  refine metD T.cl_Block T.me_Block_eq F (fun _ _ _ _ _ _ us hl => match us, hl with | [_, _], _ => rfl) sc_Block_eq (fun vs H Q E h => (by obtain ⟨z, _, h, _⟩ := h; exact h.len)) (fun cdv A outer s H vs Q E hr h => ?_)
  obtain ⟨⟨p, b⟩, -, hvs, k⟩ := h
  dsimp only at hvs k
  refine ⟨_, (pss_cons (ps_if (pt_not (pt_val (pe_callB (C8.call_isC T.is_Block) (by rfl) T.b_isinstance (by decide +kernel) (pa_cons (pv 1) (pa_cons (C8.pe_gc rfl T.gc_Block) pa_nil))))) (pss_one (ps_ret pe_bl)) pss_nil)
      (pss_cons (ps_set (i := 2) sc_Block_eq.nd rfl (Or.inl rfl) (pe_tup (pa_cons (pe_fld (pv 0) rfl) (pa_cons (pe_fld (pv 0) rfl) (pa_cons (pe_fld (pv 0) rfl) (pa_cons (pe_fld (pv 0) rfl) pa_nil))))))
      (pss_one (ps_ret (pe_cmpR (op_eqS hr) (pv 2) (pe_tup (pa_cons (pe_fld (pv 1) rfl) (pa_cons (pe_fld (pv 1) rfl) (pa_cons (pe_fld (pv 1) rfl) (pa_cons (pe_fld (pv 1) rfl) pa_nil))))) (nomark _)))))), ?_⟩
  obtain ⟨v1, _, rfl, q1, v2, _, rfl, q2, rfl⟩ := hvs
  obtain ⟨rfl, a, dx, xs, e0, h1, h2⟩ := q1
  cases e0
  obtain ⟨rfl, -⟩ := q2
  obtain ⟨x1, _, rfl, ⟨a1, _, _, rfl, _⟩, x2, _, rfl, ⟨a2, _, rfl, _⟩, x3, _, rfl, ⟨a3, _, rfl, _⟩, x4, _, rfl, ⟨a4, _, rfl, _⟩, rfl⟩ := h2
  have hb : Rp K H (.ins "Block" fBlk [.adr a1, .adr a2, .adr a3, .adr a4]) (.ref p) := ⟨p, dx, _, rfl, h1, .cons rfl (.cons rfl (.cons rfl (.cons rfl .nil)))⟩
  have E := Sl.start (N := n_Block_eq) (Rps.cons hb (Rps.cons hb .nil))
  refine s_if E (Gt.is (b := false) (gt_not (gt_B (gv_isC (gv_var E rfl)))) rfl) (fun z => nomatch z) fun _ H1 e1 E1 => ?_
  refine s_nop ?_
  have f : ∀ {i : Nat} {H2 : Hp} {σ : L2.St} {G : Sg} (E : Sl K H2 G σ) (hi : G[i]? = some (some (.ins "Block" fBlk [.adr a1, .adr a2, .adr a3, .adr a4]))), GvA K (tCons (tFld K (tVar i) "header") (tCons (tFld K (tVar i) "members") (tCons (tFld K (tVar i) "following") (tCons (tFld K (tVar i) "votes") tNil)))) σ H2 [.adr a1, .adr a2, .adr a3, .adr a4] := fun {i H2 σ G} E hi =>
    ga_cons (gv_fld (gv_var E hi) T.cl_Block T.na_Block_header (n := 0) (by decide +kernel) (by decide) rfl) (ga_cons (gv_fld (gv_var E hi) T.cl_Block T.na_Block_members (n := 1) (by decide +kernel) (by decide) rfl) (ga_cons (gv_fld (gv_var E hi) T.cl_Block T.na_Block_following (n := 2) (by decide +kernel) (by decide) rfl) (ga_cons (gv_fld (gv_var E hi) T.cl_Block T.na_Block_votes (n := 3) (by decide +kernel) (by decide) rfl) ga_nil)))
  refine s_asg E1 (gv_tup (f E1 rfl) (by simp)) fun v3 H2 e2 _ E2 => ?_
  exact s_ret (gv_eqST (ds := [.adr a1, .adr a2, .adr a3, .adr a4]) rfl (by simp [D.deps, D.dep]) (gv_var E2 rfl) (gv_tup (f E2 rfl) (by simp))) fun v4 H3 e3 r3 => k v4 H3 ((e1.trans e2).trans e3) r3
theorem ok_be {H : Hp} {p : Addr} {b : Blk} : SpOk K (spBe K) [.at p (blkD b), .at p (blkD b)] H (.bl true) := spD_ok (p, b) trivial
abbrev n_header_digest : List Str := ["hasher", "header"]
theorem sc_header_digest : FnScope n_header_digest ["hasher", "header"] (defScope s_header_digest) := ⟨rfl, rfl, rfl, by decide +kernel, rfl, by decide +kernel, by decide +kernel⟩
def spHd (K : PySem.W.Frag) : Sp := spD K (α := Nat × Hdr) (fun z => WOk z.1 ∧ HdrOk z.2) (fun z => [hshD z.1, hdrD z.2]) (fun z => nD (hdg z.1 z.2))
theorem cal_header_digest (T : Txt K mg) : C8.Cal P w K mg base 3 "header_digest" (spHd K) [] := by
  obtain ⟨fd, F⟩ := T.f_header_digest
  refine calD F T.g_header_digest (fun _ _ _ _ _ _ us hl => match us, hl with | [_, _], _ => rfl) sc_header_digest (fun vs H Q E h => (by obtain ⟨z, _, h, _⟩ := h; exact h.len)) (fun cdv A outer s H vs Q E hr h => ?_)
  obtain ⟨⟨wd, h⟩, ⟨hw, hh⟩, hvs, k⟩ := h
  dsimp only at hvs k hw hh
  refine ⟨_, (pss_one (ps_ret (C8.pe_mt (met_Hasher_digest T) hr (by decide) (pv 0) (pa_cons (C8.pe_gc rfl T.c_HEADER_TAG) (pa_cons (C8.pe_mt0 (met_Header_fields T) hr (by decide) (pv 1)) pa_nil))))), ?_⟩
  have E := Sl.start (N := n_header_digest) hvs
  exact s_ret (gv_meth (gv_var E rfl) rfl (ga_cons (gv_nat 8) (ga_cons (gv_meth (gv_var E rfl) rfl ga_nil (ok_fl)) ga_nil)) (ok_dig (b := false) (ns := h.list) hw hh.ns)) k
theorem ok_hd {H : Hp} {w : Nat} {h : Hdr} (hw : WOk w) (hh : HdrOk h) : SpOk K (spHd K) [hshD w, hdrD h] H (nD (hdg w h)) := spD_ok (w, h) ⟨hw, hh⟩
abbrev n_vote_message : List Str := ["hasher", "header"]
theorem sc_vote_message : FnScope n_vote_message ["hasher", "header"] (defScope s_vote_message) := ⟨rfl, rfl, rfl, by decide +kernel, rfl, by decide +kernel, by decide +kernel⟩
def spVm (K : PySem.W.Frag) : Sp := spD K (α := Nat × Hdr) (fun z => WOk z.1 ∧ HdrOk z.2) (fun z => [hshD z.1, hdrD z.2]) (fun z => nD (vmsg z.1 z.2))
theorem cal_vote_message (T : Txt K mg) : C8.Cal P w K mg base 4 "vote_message" (spVm K) [] := by
  obtain ⟨fd, F⟩ := T.f_vote_message
  refine calD F T.g_vote_message (fun _ _ _ _ _ _ us hl => match us, hl with | [_, _], _ => rfl) sc_vote_message (fun vs H Q E h => (by obtain ⟨z, _, h, _⟩ := h; exact h.len)) (fun cdv A outer s H vs Q E hr h => ?_)
  obtain ⟨⟨wd, h⟩, ⟨hw, hh⟩, hvs, k⟩ := h
  dsimp only at hvs k hw hh
  refine ⟨_, (pss_one (ps_ret (C8.pe_mt (met_Hasher_digest T) hr (by decide) (pv 0) (pa_cons (C8.pe_gc rfl T.c_VOTE_TAG) (pa_cons (pe_lst (pa_cons (C8.pe_c (cal_header_digest T) hr (by decide) rfl (pa_cons (pv 0) (pa_cons (pv 1) pa_nil))) pa_nil)) pa_nil))))), ?_⟩
  have E := Sl.start (N := n_vote_message) hvs
  have hns : NsOk [hdg wd h] := nsOk_of (by simp) (by have : hdg wd h < 4096 := dg_small hw _ _; simp; omega)
  exact s_ret (d := nD (vmsg wd h)) (gv_meth (gv_var E rfl) rfl (ga_cons (gv_nat 10) (ga_cons (gn_lst (ga_cons (gv_call (ga_cons (gv_var E rfl) (ga_cons (gv_var E rfl) ga_nil)) (ok_hd hw hh)) ga_nil) (by simp)).gv ga_nil)) (ok_dig (b := true) (ns := [hdg wd h]) hw hns)) k
theorem ok_vm {H : Hp} {w : Nat} {h : Hdr} (hw : WOk w) (hh : HdrOk h) : SpOk K (spVm K) [hshD w, hdrD h] H (nD (vmsg w h)) := spD_ok (w, h) ⟨hw, hh⟩
abbrev n_block_signers : List Str := ["hasher", "block"]
theorem sc_block_signers : FnScope n_block_signers ["hasher", "block"] (defScope s_block_signers) := ⟨rfl, rfl, rfl, by decide +kernel, rfl, by decide +kernel, by decide +kernel⟩
def spBs (K : PySem.W.Frag) : Sp := spD K (α := Nat × Nat × Blk) (fun z => BlkOk z.1 z.2.1 z.2.2) (fun z => [hshD z.1, blkD z.2.2]) (fun z => .tup ((bsg z.1 z.2.1 z.2.2).map nD))
theorem cal_block_signers (T : Txt K mg) : C8.Cal P w K mg base 10 "block_signers" (spBs K) [] := by
  obtain ⟨fd, F⟩ := T.f_block_signers
  refine calD F T.g_block_signers (fun _ _ _ _ _ _ us hl => match us, hl with | [_, _], _ => rfl) sc_block_signers (fun vs H Q E h => (by obtain ⟨z, _, h, _⟩ := h; exact h.len)) (fun cdv A outer s H vs Q E hr h => ?_)
  obtain ⟨⟨wd, L, b⟩, hb, hvs, k⟩ := h
  dsimp only at hvs k hb
  refine ⟨_, (pss_one (ps_ret (C8.pe_c (cal_signers T) hr (by decide) rfl (pa_cons (pv 0) (pa_cons (C8.pe_c (cal_vote_message T) hr (by decide) rfl (pa_cons (pv 0) (pa_cons (pe_fld (pv 1) rfl) pa_nil))) (pa_cons (pe_fld (pv 1) rfl) (pa_cons (pe_fld (pv 1) rfl) pa_nil))))))), ?_⟩
  have E := Sl.start (N := n_block_signers) hvs
  exact s_ret (d := .tup ((bsg wd L b).map nD)) (gv_call (ga_cons (gv_var E rfl) (ga_cons (gv_call (ga_cons (gv_var E rfl) (ga_cons (gv_Block_header T (gv_var E rfl)) ga_nil)) (ok_vm hb.hw hb.h)) (ga_cons (gv_Block_members T (gv_var E rfl)) (ga_cons (gv_Block_votes T (gv_var E rfl)) ga_nil)))) (ok_sg hb.hw hb.mem.le hb.vt)) k
theorem ok_bs {H : Hp} {w L : Nat} {b : Blk} (h : BlkOk w L b) : SpOk K (spBs K) [hshD w, blkD b] H (.tup ((bsg w L b).map nD)) := spD_ok (w, L, b) h
abbrev n_lists_fault : List Str := ["hasher", "block"]
theorem sc_lists_fault : FnScope n_lists_fault ["hasher", "block"] (defScope s_lists_fault) := ⟨rfl, rfl, rfl, by decide +kernel, rfl, by decide +kernel, by decide +kernel⟩
def spLf (K : PySem.W.Frag) : Sp := spD K (α := Nat × Nat × Blk) (fun z => BlkOk z.1 z.2.1 z.2.2) (fun z => [hshD z.1, blkD z.2.2]) (fun z => oS (lsF z.1 z.2.2))
theorem cal_lists_fault (T : Txt K mg) : C8.Cal P w K mg base 7 "lists_fault" (spLf K) [] := by
  obtain ⟨fd, F⟩ := T.f_lists_fault
  refine calD F T.g_lists_fault (fun _ _ _ _ _ _ us hl => match us, hl with | [_, _], _ => rfl) sc_lists_fault (fun vs H Q E h => (by obtain ⟨z, _, h, _⟩ := h; exact h.len)) (fun cdv A outer s H vs Q E hr h => ?_)
  obtain ⟨⟨wd, L, b⟩, hb, hvs, k⟩ := h
  dsimp only at hvs k hb
  refine ⟨_, (pss_cons (ps_if (PW.pt (pw_or (pt_cmpR op_notN1 (C8.pe_c (cal_members_fault T) hr (by decide) rfl (pa_cons (pe_fld (pv 1) rfl) pa_nil)) pe_non (nomark _)) (pw_or1 (pt_cmpR op_ne (C8.pe_c (cal_members_root T) hr (by decide) rfl (pa_cons (pv 0) (pa_cons (pe_fld (pv 1) rfl) pa_nil))) (pe_fld (pe_fld (pv 1) rfl) rfl) (nomark _))))) (pss_one (ps_ret pe_str)) pss_nil)
      (pss_cons (ps_if (PW.pt (pw_or (pt_cmpR op_notN1 (C8.pe_c (cal_members_fault T) hr (by decide) rfl (pa_cons (pe_fld (pv 1) rfl) pa_nil)) pe_non (nomark _)) (pw_or1 (pt_cmpR op_ne (C8.pe_c (cal_members_root T) hr (by decide) rfl (pa_cons (pv 0) (pa_cons (pe_fld (pv 1) rfl) pa_nil))) (pe_fld (pe_fld (pv 1) rfl) rfl) (nomark _))))) (pss_one (ps_ret pe_str)) pss_nil)
      (pss_one (ps_ret pe_non)))), ?_⟩
  have E := Sl.start (N := n_lists_fault) hvs
  refine s_if E (Gt.is (b := !decide (dg wd 9 (nums b.mem) = b.h.mb)) (gt_or (gt_test (gv_notN (x := .non) (gv_call (ga_cons (gv_Block_members T (gv_var E rfl)) ga_nil) (ok_MF hb.mem)) rfl)) fun _ => (gt_test (gv_neN (gv_call (ga_cons (gv_var E rfl) (ga_cons (gv_Block_members T (gv_var E rfl)) ga_nil)) (ok_MR hb.hw hb.mem)) (gv_Header_members T (gv_Block_header T (gv_var E rfl)))))) (by simp)) (fun hc H1 e1 E1 => ?_) fun hc H1 e1 E1 => ?_
  · have h1 : ¬ dg wd 9 (nums b.mem) = b.h.mb := by simpa using hc
    exact s_ret (gv_str.is (by rw [lsF, if_neg h1]; rfl)) fun v H2 e2 r2 => k v H2 (e1.trans e2) r2
  have h1 : dg wd 9 (nums b.mem) = b.h.mb := by simpa using hc
  refine s_nop ?_
  refine s_if E1 (Gt.is (b := !decide (dg wd 9 (nums b.fol) = b.h.fo)) (gt_or (gt_test (gv_notN (x := .non) (gv_call (ga_cons (gv_Block_following T (gv_var E1 rfl)) ga_nil) (ok_MF hb.fol)) rfl)) fun _ => (gt_test (gv_neN (gv_call (ga_cons (gv_var E1 rfl) (ga_cons (gv_Block_following T (gv_var E1 rfl)) ga_nil)) (ok_MR hb.hw hb.fol)) (gv_Header_following T (gv_Block_header T (gv_var E1 rfl)))))) (by simp)) (fun hc2 H2 e2 E2 => ?_) fun hc2 H2 e2 E2 => ?_
  · have h2 : ¬ dg wd 9 (nums b.fol) = b.h.fo := by simpa using hc2
    exact s_ret (gv_str.is (by rw [lsF, if_pos h1, if_neg h2]; rfl)) fun v H3 e3 r3 => k v H3 ((e1.trans e2).trans e3) r3
  have h2 : dg wd 9 (nums b.fol) = b.h.fo := by simpa using hc2
  refine s_nop ?_
  exact s_ret (gv_non.is (by rw [lsF, if_pos h1, if_pos h2]; rfl)) fun v H3 e3 r3 => k v H3 ((e1.trans e2).trans e3) r3
theorem ok_lf {H : Hp} {w L : Nat} {b : Blk} (h : BlkOk w L b) : SpOk K (spLf K) [hshD w, blkD b] H (oS (lsF w b)) := spD_ok (w, L, b) h
abbrev n_block_fault : List Str := ["hasher", "chain", "block", "fault"]
theorem sc_block_fault : FnScope n_block_fault ["hasher", "chain", "block"] (defScope s_block_fault) := ⟨rfl, rfl, rfl, by decide +kernel, rfl, by decide +kernel, by decide +kernel⟩
def spBf (K : PySem.W.Frag) : Sp := spD K (α := Nat × Nat × Nat × Blk) (fun z => BlkOk z.1 z.2.1 z.2.2.2) (fun z => [hshD z.1, nD z.2.2.1, blkD z.2.2.2]) (fun z => oS (bkF z.1 z.2.1 z.2.2.1 z.2.2.2))
theorem cal_block_fault (T : Txt K mg) : C8.Cal P w K mg base 11 "block_fault" (spBf K) [] := by
  obtain ⟨fd, F⟩ := T.f_block_fault
  refine calD F T.g_block_fault (fun _ _ _ _ _ _ us hl => match us, hl with | [_, _, _], _ => rfl) sc_block_fault (fun vs H Q E h => (by obtain ⟨z, _, h, _⟩ := h; exact h.len)) (fun cdv A outer s H vs Q E hr h => ?_)
  obtain ⟨⟨wd, L, ch, b⟩, hb, hvs, k⟩ := h
  dsimp only at hvs k hb
  refine ⟨_, (pss_cons (ps_if (pt_cmpR op_lt (pe_callB (cr_minT rfl hr) (by rfl) T.b_min (by decide +kernel) (pa_cons (C8.pe_mt0 (met_Header_fields T) hr (by decide) (pe_fld (pv 2) rfl)) pa_nil)) pe_int (nomark _)) (pss_one (ps_ret pe_str)) pss_nil)
      (pss_cons (ps_if (pt_cmpR op_ne (pe_fld (pe_fld (pv 2) rfl) rfl) (pv 1) (nomark _)) (pss_one (ps_ret pe_str)) pss_nil)
      (pss_cons (ps_set (i := 3) sc_block_fault.nd rfl (Or.inl rfl) (C8.pe_c (cal_lists_fault T) hr (by decide) rfl (pa_cons (pv 0) (pa_cons (pv 2) pa_nil))))
      (pss_cons (ps_if (pt_cmpR op_notN1 (pv 3) pe_non (nomark _)) (pss_one (ps_ret (pv 3))) pss_nil)
      (pss_cons (ps_if (pt_not (pt_val (C8.pe_c (cal_more_than T) hr (by decide) rfl (pa_cons (pe_fld (pv 2) rfl) (pa_cons (C8.pe_c (cal_block_signers T) hr (by decide) rfl (pa_cons (pv 0) (pa_cons (pv 2) pa_nil))) (pa_cons pe_int (pa_cons pe_int pa_nil))))))) (pss_one (ps_ret pe_str)) pss_nil)
      (pss_one (ps_ret pe_non))))))), ?_⟩
  have E := Sl.start (N := n_block_fault) hvs
  refine s_if E (gt_minT (ns := b.h.list) (gv_meth (gv_Block_header T (gv_var E rfl)) rfl ga_nil (ok_fl)) (by simp [Hdr.list])) (fun z => nomatch z) fun _ H1 e1 E1 => ?_
  refine s_nop ?_
  refine s_if E1 (gt_test (gv_neN (gv_Header_chain T (gv_Block_header T (gv_var E1 rfl))) (gv_var E1 rfl))) (fun hc H2 e2 E2 => ?_) fun hc H2 e2 E2 => ?_
  · have h1 : ¬ b.h.ch = ch := by simpa using hc
    exact s_ret (gv_str.is (by rw [bkF, if_neg h1]; rfl)) fun v H3 e3 r3 => k v H3 ((e1.trans e2).trans e3) r3
  have h1 : b.h.ch = ch := by simpa using hc
  refine s_nop ?_
  refine s_asg (d := oS (lsF wd b)) E2 (gv_call (ga_cons (gv_var E2 rfl) (ga_cons (gv_var E2 rfl) ga_nil)) (ok_lf hb)) fun v3 H3 e3 _ E3 => ?_
  refine s_if E3 (gt_test (gv_notN (gv_var E3 rfl) (oS_isN _))) (fun hc3 H4 e4 E4 => ?_) fun hc3 H4 e4 E4 => ?_
  · refine s_ret ((gv_var E4 rfl).is ?_) fun v H5 e5 r5 => k v H5 ((((e1.trans e2).trans e3).trans e4).trans e5) r5
    rw [bkF, if_pos h1]
    cases q : lsF wd b with
    | none =>
      rw [q] at hc3
      cases hc3
    | some f => rfl
  have h3 : lsF wd b = none := by
    cases q : lsF wd b with
    | none => rfl
    | some f =>
      rw [q] at hc3
      cases hc3
  refine s_nop ?_
  refine s_if E4 (gt_not (gt_B (gv_call (ga_cons (gv_Block_members T (gv_var E4 rfl)) (ga_cons (gv_call (ga_cons (gv_var E4 rfl) (ga_cons (gv_var E4 rfl) ga_nil)) (ok_bs hb)) (ga_cons (gv_nat 2) (ga_cons (gv_nat 3) ga_nil)))) (ok_mth hb.mem.le (by decide) (by decide))))) (fun hc4 H5 e5 E5 => ?_) fun hc4 H5 e5 E5 => ?_
  · have h4 : ¬ mth b.mem (bsg wd L b) 2 3 = true := by simpa using hc4
    exact s_ret (gv_str.is (by rw [bkF, if_pos h1, h3]; dsimp only; rw [if_neg h4]; rfl)) fun v H6 e6 r6 => k v H6 (((((e1.trans e2).trans e3).trans e4).trans e5).trans e6) r6
  have h4 : mth b.mem (bsg wd L b) 2 3 = true := by simpa using hc4
  refine s_nop ?_
  exact s_ret (gv_non.is (by rw [bkF, if_pos h1, h3]; dsimp only; rw [if_pos h4]; rfl)) fun v H6 e6 r6 => k v H6 (((((e1.trans e2).trans e3).trans e4).trans e5).trans e6) r6
theorem ok_bf {H : Hp} {w L ch : Nat} {b : Blk} (h : BlkOk w L b) : SpOk K (spBf K) [hshD w, nD ch, blkD b] H (oS (bkF w L ch b)) := spD_ok (w, L, ch, b) h
abbrev n_Policy_init : List Str := ["self", "period", "drift"]
theorem sc_Policy_init : FnScope n_Policy_init ["self", "period", "drift"] (defScope s_Policy_init) := ⟨rfl, rfl, rfl, by decide +kernel, rfl, by decide +kernel, by decide +kernel⟩
def spPol (K : PySem.W.Frag) : Sp := spMk K "Policy" (α := Nat × Nat) (fun _ => True) (fun z => [nD z.1, nD z.2]) (fun z => polD z.1 z.2)
theorem mak_Policy (T : Txt K mg) : C8.Mak P w K mg base 1 "Policy" (He.ga K "Policy") (spPol K) [] := by
  obtain ⟨fd, F⟩ := T.f_Policy_init
  refine makD T.mk_Policy T.g_Policy F (fun _ _ _ _ _ _ us hl => match us, hl with | [_, _, _], _ => rfl) sc_Policy_init (fun vs H Q E h => (by obtain ⟨z, x, dx, us, B, _, rfl, _, r, _⟩ := h; rw [List.length_cons, r.len]; rfl)) (fun cdv A outer s H vs Q E hr h => ?_)
  obtain ⟨z, x, dx, us, B, _, rfl, cl, r, k⟩ := h
  refine ⟨_, (pss_cons (ps_fld (pv 0) (pe_fr (pv 1)) rfl)
      (pss_one (ps_fld (pv 0) (pe_fr (pv 2)) rfl))), ?_⟩
  have E := Sl.start (N := n_Policy_init) (Rps.cons (d := .adr x) rfl r)
  refine s_ini (K := K) (fs := []) (us := []) E rfl cl rfl (gv_var E rfl) T.cl_Policy T.na_Policy_period rfl (by decide) fun v1 B1 H1 b1 E1 c1 l1 r1 => ?_
  refine s_ini (K := K) (fs := ["period"]) (us := [v1]) E1 rfl c1 rfl (gv_var E1 rfl) T.cl_Policy T.na_Policy_drift (by decide +kernel) (by decide) fun v2 B2 H2 b2 E2 c2 l2 r2 => ?_
  exact k _ ((b1.trans b2).trans c2.ext) (c2.rp (fs := ["period", "drift"]) (.cons r1 (.cons r2 .nil)))
abbrev n_is_expired : List Str := ["policy", "header", "now"]
theorem sc_is_expired : FnScope n_is_expired ["policy", "header", "now"] (defScope s_is_expired) := ⟨rfl, rfl, rfl, by decide +kernel, rfl, by decide +kernel, by decide +kernel⟩
def spEx (K : PySem.W.Frag) : Sp := spD K (α := (Nat × Nat) × Hdr × Nat) (fun _ => True) (fun z => [polD z.1.1 z.1.2, hdrD z.2.1, nD z.2.2]) (fun z => .bl (exF z.1.1 z.2.1 z.2.2))
theorem cal_is_expired (T : Txt K mg) : C8.Cal P w K mg base 1 "is_expired" (spEx K) [] := by
  obtain ⟨fd, F⟩ := T.f_is_expired
  refine calD F T.g_is_expired (fun _ _ _ _ _ _ us hl => match us, hl with | [_, _, _], _ => rfl) sc_is_expired (fun vs H Q E h => (by obtain ⟨z, _, h, _⟩ := h; exact h.len)) (fun cdv A outer s H vs Q E hr h => ?_)
  obtain ⟨⟨⟨p, d⟩, h, now⟩, -, hvs, k⟩ := h
  dsimp only at hvs k
  refine ⟨_, (pss_one (ps_ret (pe_cmpR op_ge (pv 2) (pe_op op_add (pe_fld (pv 1) rfl) (pe_fld (pv 0) rfl)) (nomark _)))), ?_⟩
  have E := Sl.start (N := n_is_expired) hvs
  exact s_ret (d := .bl (exF p h now)) (gv_geN (gv_var E rfl) (gv_addN (gv_Header_time T (gv_var E rfl)) (gv_Policy_period T (gv_var E rfl)))) k
theorem ok_ex {H : Hp} {p d now : Nat} {h : Hdr} : SpOk K (spEx K) [polD p d, hdrD h, nD now] H (.bl (exF p h now)) := spD_ok ((p, d), h, now) trivial
abbrev n_order_fault : List Str := ["policy", "trusted", "header", "now"]
theorem sc_order_fault : FnScope n_order_fault ["policy", "trusted", "header", "now"] (defScope s_order_fault) := ⟨rfl, rfl, rfl, by decide +kernel, rfl, by decide +kernel, by decide +kernel⟩
def spOf (K : PySem.W.Frag) : Sp := spD K (α := (Nat × Nat) × Hdr × Hdr × Nat) (fun _ => True) (fun z => [polD z.1.1 z.1.2, hdrD z.2.1, hdrD z.2.2.1, nD z.2.2.2]) (fun z => oS (orF z.1.2 z.2.1 z.2.2.1 z.2.2.2))
theorem cal_order_fault (T : Txt K mg) : C8.Cal P w K mg base 1 "order_fault" (spOf K) [] := by
  obtain ⟨fd, F⟩ := T.f_order_fault
  refine calD F T.g_order_fault (fun _ _ _ _ _ _ us hl => match us, hl with | [_, _, _, _], _ => rfl) sc_order_fault (fun vs H Q E h => (by obtain ⟨z, _, h, _⟩ := h; exact h.len)) (fun cdv A outer s H vs Q E hr h => ?_)
  obtain ⟨⟨⟨p, d⟩, t, h, now⟩, -, hvs, k⟩ := h
  dsimp only at hvs k
  refine ⟨_, (pss_cons (ps_if (pt_cmpR op_le (pe_fld (pv 2) rfl) (pe_fld (pv 1) rfl) (nomark _)) (pss_one (ps_ret pe_str)) pss_nil)
      (pss_cons (ps_if (pt_cmpR op_le (pe_fld (pv 2) rfl) (pe_fld (pv 1) rfl) (nomark _)) (pss_one (ps_ret pe_str)) pss_nil)
      (pss_cons (ps_if (pt_cmpR op_gt (pe_fld (pv 2) rfl) (pe_op op_add (pv 3) (pe_fld (pv 0) rfl)) (nomark _)) (pss_one (ps_ret pe_str)) pss_nil)
      (pss_one (ps_ret pe_non))))), ?_⟩
  have E := Sl.start (N := n_order_fault) hvs
  refine s_if E (gt_test (gv_leN (gv_Header_height T (gv_var E rfl)) (gv_Header_height T (gv_var E rfl)))) (fun hc H1 e1 E1 => ?_) fun hc H1 e1 E1 => ?_
  · exact s_ret (gv_str.is (by rw [orF, if_pos (of_decide_eq_true hc)]; rfl)) fun v H2 e2 r2 => k v H2 (e1.trans e2) r2
  refine s_nop ?_
  refine s_if E1 (gt_test (gv_leN (gv_Header_time T (gv_var E1 rfl)) (gv_Header_time T (gv_var E1 rfl)))) (fun hc2 H2 e2 E2 => ?_) fun hc2 H2 e2 E2 => ?_
  · exact s_ret (gv_str.is (by rw [orF, if_neg (of_decide_eq_false hc), if_pos (of_decide_eq_true hc2)]; rfl)) fun v H3 e3 r3 => k v H3 ((e1.trans e2).trans e3) r3
  refine s_nop ?_
  refine s_if E2 (gt_test (gv_gtN (gv_Header_time T (gv_var E2 rfl)) (gv_addN (gv_var E2 rfl) (gv_Policy_drift T (gv_var E2 rfl))))) (fun hc3 H3 e3 E3 => ?_) fun hc3 H3 e3 E3 => ?_
  · exact s_ret (gv_str.is (by rw [orF, if_neg (of_decide_eq_false hc), if_neg (of_decide_eq_false hc2), if_pos (of_decide_eq_true hc3)]; rfl)) fun v H4 e4 r4 => k v H4 (((e1.trans e2).trans e3).trans e4) r4
  refine s_nop ?_
  exact s_ret (gv_non.is (by rw [orF, if_neg (of_decide_eq_false hc), if_neg (of_decide_eq_false hc2), if_neg (of_decide_eq_false hc3)]; rfl)) fun v H4 e4 r4 => k v H4 (((e1.trans e2).trans e3).trans e4) r4
theorem ok_of {H : Hp} {p d now : Nat} {t h : Hdr} : SpOk K (spOf K) [polD p d, hdrD t, hdrD h, nD now] H (oS (orF d t h now)) := spD_ok ((p, d), t, h, now) trivial
abbrev n_link_fault : List Str := ["hasher", "trusted", "block", "header"]
theorem sc_link_fault : FnScope n_link_fault ["hasher", "trusted", "block"] (defScope s_link_fault) := ⟨rfl, rfl, rfl, by decide +kernel, rfl, by decide +kernel, by decide +kernel⟩
def spLk (K : PySem.W.Frag) : Sp := spD K (α := Nat × Nat × Blk × Blk) (fun z => BlkOk z.1 z.2.1 z.2.2.1 ∧ BlkOk z.1 z.2.1 z.2.2.2) (fun z => [hshD z.1, blkD z.2.2.1, blkD z.2.2.2]) (fun z => oS (lkF z.1 z.2.1 z.2.2.1 z.2.2.2))
theorem cal_link_fault (T : Txt K mg) : C8.Cal P w K mg base 11 "link_fault" (spLk K) [] := by
  obtain ⟨fd, F⟩ := T.f_link_fault
  refine calD F T.g_link_fault (fun _ _ _ _ _ _ us hl => match us, hl with | [_, _, _], _ => rfl) sc_link_fault (fun vs H Q E h => (by obtain ⟨z, _, h, _⟩ := h; exact h.len)) (fun cdv A outer s H vs Q E hr h => ?_)
  obtain ⟨⟨wd, L, t, b⟩, ⟨ht, hb⟩, hvs, k⟩ := h
  dsimp only at hvs k ht hb
  refine ⟨_, (pss_cons (ps_set (i := 3) sc_link_fault.nd rfl (Or.inl rfl) (pe_fld (pv 2) rfl))
      (pss_cons (ps_if (pt_cmpR op_eq (pe_fld (pv 3) rfl) (pe_op op_add (pe_fld (pe_fld (pv 1) rfl) rfl) pe_int) (nomark _)) (pss_cons (ps_if (pt_cmpR op_ne (pe_fld (pv 3) rfl) (C8.pe_c (cal_header_digest T) hr (by decide) rfl (pa_cons (pv 0) (pa_cons (pe_fld (pv 1) rfl) pa_nil))) (nomark _)) (pss_one (ps_ret pe_str)) pss_nil)
      (pss_one (ps_ret (pe_ifExp (pt_cmpR op_ne (pe_fld (pv 3) rfl) (pe_fld (pe_fld (pv 1) rfl) rfl) (nomark _)) pe_str pe_non)))) pss_nil)
      (pss_cons (ps_if (pt_not (pt_val (C8.pe_c (cal_more_than T) hr (by decide) rfl (pa_cons (pe_fld (pv 1) rfl) (pa_cons (C8.pe_c (cal_block_signers T) hr (by decide) rfl (pa_cons (pv 0) (pa_cons (pv 2) pa_nil))) (pa_cons pe_int (pa_cons pe_int pa_nil))))))) (pss_one (ps_ret (C8.pe_gc rfl T.c_AGAIN))) pss_nil)
      (pss_one (ps_ret pe_non))))), ?_⟩
  have E := Sl.start (N := n_link_fault) hvs
  refine s_asg E (gv_Block_header T (gv_var E rfl)) fun v1 H1 e1 _ E1 => ?_
  refine s_if E1 (gt_test (gv_eqN (gv_Header_height T (gv_var E1 rfl)) (gv_addN (gv_Header_height T (gv_Block_header T (gv_var E1 rfl))) (gv_nat 1)))) (fun hc H2 e2 E2 => ?_) fun hc H2 e2 E2 => ?_
  · have h1 := of_decide_eq_true hc
    refine s_if E2 (gt_test (gv_neN (gv_Header_previous T (gv_var E2 rfl)) (gv_call (ga_cons (gv_var E2 rfl) (ga_cons (gv_Block_header T (gv_var E2 rfl)) ga_nil)) (ok_hd hb.hw ht.h)))) (fun hc2 H3 e3 E3 => ?_) fun hc2 H3 e3 E3 => ?_
    · have h2 : ¬ b.h.pv = hdg wd t.h := by simpa using hc2
      exact s_ret (gv_str.is (by rw [lkF, if_pos h1, if_neg h2]; rfl)) fun v H4 e4 r4 => k v H4 (((e1.trans e2).trans e3).trans e4) r4
    have h2 : b.h.pv = hdg wd t.h := by simpa using hc2
    refine s_nop ?_
    refine s_ret (d := oS (lkF wd L t b)) (gv_if (gt_test (gv_neN (gv_Header_members T (gv_var E3 rfl)) (gv_Header_following T (gv_Block_header T (gv_var E3 rfl))))) (fun hc3 => ?_) fun hc3 => ?_) fun v H4 e4 r4 => k v H4 (((e1.trans e2).trans e3).trans e4) r4
    · have h3 : ¬ b.h.mb = t.h.fo := by simpa using hc3
      exact gv_str.is (by rw [lkF, if_pos h1, if_pos h2, if_neg h3]; rfl)
    · have h3 : b.h.mb = t.h.fo := by simpa using hc3
      exact gv_non.is (by rw [lkF, if_pos h1, if_pos h2, if_pos h3]; rfl)
  have h1 := of_decide_eq_false hc
  refine s_nop ?_
  refine s_if E2 (gt_not (gt_B (gv_call (ga_cons (gv_Block_following T (gv_var E2 rfl)) (ga_cons (gv_call (ga_cons (gv_var E2 rfl) (ga_cons (gv_var E2 rfl) ga_nil)) (ok_bs hb)) (ga_cons (gv_nat 1) (ga_cons (gv_nat 3) ga_nil)))) (ok_mth ht.fol.le (by decide) (by decide))))) (fun hc2 H3 e3 E3 => ?_) fun hc2 H3 e3 E3 => ?_
  · have h2 : ¬ mth t.fol (bsg wd L b) 1 3 = true := by simpa using hc2
    exact s_ret (gv_str.is (by rw [lkF, if_neg h1, if_neg h2]; rfl)) fun v H4 e4 r4 => k v H4 (((e1.trans e2).trans e3).trans e4) r4
  have h2 : mth t.fol (bsg wd L b) 1 3 = true := by simpa using hc2
  refine s_nop ?_
  exact s_ret (gv_non.is (by rw [lkF, if_neg h1, if_pos h2]; rfl)) fun v H4 e4 r4 => k v H4 (((e1.trans e2).trans e3).trans e4) r4
theorem ok_lk {H : Hp} {w L : Nat} {t b : Blk} (h1 : BlkOk w L t) (h2 : BlkOk w L b) : SpOk K (spLk K) [hshD w, blkD t, blkD b] H (oS (lkF w L t b)) := spD_ok (w, L, t, b) ⟨h1, h2⟩
abbrev n_step_fault : List Str := ["hasher", "policy", "trusted", "block", "now", "fault"]
theorem sc_step_fault : FnScope n_step_fault ["hasher", "policy", "trusted", "block", "now"] (defScope s_step_fault) := ⟨rfl, rfl, rfl, by decide +kernel, rfl, by decide +kernel, by decide +kernel⟩
structure StpA where
  w : Nat
  L : Nat
  p : Nat
  d : Nat
  t : Blk
  b : Blk
  now : Nat
def spSf (K : PySem.W.Frag) : Sp := spD K (α := StpA) (fun z => BlkOk z.w z.L z.t ∧ BlkOk z.w z.L z.b) (fun z => [hshD z.w, polD z.p z.d, blkD z.t, blkD z.b, nD z.now]) (fun z => oS (stF z.w z.L z.p z.d z.t z.b z.now))
theorem oS_some {o : Option Str} (h : (!o.isNone) = true) : ∃ f, o = some f := by
  cases o with
  | none => cases h
  | some f => exact ⟨f, rfl⟩
theorem cal_step_fault (T : Txt K mg) : C8.Cal P w K mg base 12 "step_fault" (spSf K) [] := by
  obtain ⟨fd, F⟩ := T.f_step_fault
  refine calD F T.g_step_fault (fun _ _ _ _ _ _ us hl => match us, hl with | [_, _, _, _, _], _ => rfl) sc_step_fault (fun vs H Q E h => (by obtain ⟨z, _, h, _⟩ := h; exact h.len)) (fun cdv A outer s H vs Q E hr h => ?_)
  obtain ⟨⟨wd, L, p, d, t, b, now⟩, ⟨ht, hb⟩, hvs, k⟩ := h
  dsimp only at hvs k ht hb
  refine ⟨_, (pss_cons (ps_if (pt_val (C8.pe_c (cal_is_expired T) hr (by decide) rfl (pa_cons (pv 1) (pa_cons (pe_fld (pv 2) rfl) (pa_cons (pv 4) pa_nil))))) (pss_one (ps_ret pe_str)) pss_nil)
      (pss_cons (ps_set (i := 5) sc_step_fault.nd rfl (Or.inl rfl) (C8.pe_c (cal_block_fault T) hr (by decide) rfl (pa_cons (pv 0) (pa_cons (pe_fld (pe_fld (pv 2) rfl) rfl) (pa_cons (pv 3) pa_nil)))))
      (pss_cons (ps_if (pt_cmpR op_isN1 (pv 5) pe_non (nomark _)) (pss_one (ps_set (i := 5) sc_step_fault.nd rfl (Or.inl rfl) (C8.pe_c (cal_order_fault T) hr (by decide) rfl (pa_cons (pv 1) (pa_cons (pe_fld (pv 2) rfl) (pa_cons (pe_fld (pv 3) rfl) (pa_cons (pv 4) pa_nil))))))) pss_nil)
      (pss_cons (ps_if (pt_cmpR op_isN1 (pv 5) pe_non (nomark _)) (pss_one (ps_set (i := 5) sc_step_fault.nd rfl (Or.inl rfl) (C8.pe_c (cal_link_fault T) hr (by decide) rfl (pa_cons (pv 0) (pa_cons (pv 2) (pa_cons (pv 3) pa_nil)))))) pss_nil)
      (pss_one (ps_ret (pv 5))))))), ?_⟩
  have E := Sl.start (N := n_step_fault) hvs
  refine s_if E (gt_B (gv_call (ga_cons (gv_var E rfl) (ga_cons (gv_Block_header T (gv_var E rfl)) (ga_cons (gv_var E rfl) ga_nil))) (ok_ex))) (fun hc H1 e1 E1 => ?_) fun hc H1 e1 E1 => ?_
  · exact s_ret (gv_str.is (by rw [stF, if_pos hc]; rfl)) fun v H2 e2 r2 => k v H2 (e1.trans e2) r2
  have h1 : ¬ exF p t.h now = true := by rw [hc]; decide
  refine s_nop ?_
  refine s_asg (d := oS (bkF wd L t.h.ch b)) E1 (gv_call (ga_cons (gv_var E1 rfl) (ga_cons (gv_Header_chain T (gv_Block_header T (gv_var E1 rfl))) (ga_cons (gv_var E1 rfl) ga_nil))) (ok_bf hb)) fun v2 H2 e2 _ E2 => ?_
  have e02 := e1.trans e2
  -- fault is None
  refine s_if (G := _) E2 (gt_test (gv_isN (gv_var E2 rfl) (oS_isN _))) (fun hc2 H3 e3 E3 => ?_) fun hc2 H3 e3 E3 => ?_
  · have h2 := Option.isNone_iff_eq_none.mp hc2
    refine s_asg (d := oS (orF d t.h b.h now)) E3 (gv_call (ga_cons (gv_var E3 rfl) (ga_cons (gv_Block_header T (gv_var E3 rfl)) (ga_cons (gv_Block_header T (gv_var E3 rfl)) (ga_cons (gv_var E3 rfl) ga_nil)))) (ok_of)) fun v4 H4 e4 _ E4 => ?_
    refine s_if E4 (gt_test (gv_isN (gv_var E4 rfl) (oS_isN _))) (fun hc5 H5 e5 E5 => ?_) fun hc5 H5 e5 E5 => ?_
    · have h5 := Option.isNone_iff_eq_none.mp hc5
      refine s_asg (d := oS (lkF wd L t b)) E5 (gv_call (ga_cons (gv_var E5 rfl) (ga_cons (gv_var E5 rfl) (ga_cons (gv_var E5 rfl) ga_nil))) (ok_lk ht hb)) fun v6 H6 e6 _ E6 => ?_
      refine s_ret ((gv_var E6 rfl).is ?_) fun v H7 e7 r7 => k v H7 (((((e02.trans e3).trans e4).trans e5).trans e6).trans e7) r7
      rw [stF, if_neg h1, h2, h5]
    · obtain ⟨f, h5⟩ := oS_some (by rw [hc5]; rfl)
      refine s_nop ?_
      refine s_ret ((gv_var E5 rfl).is ?_) fun v H7 e7 r7 => k v H7 ((((e02.trans e3).trans e4).trans e5).trans e7) r7
      rw [stF, if_neg h1, h2, h5]
  · obtain ⟨f, h2⟩ := oS_some (by rw [hc2]; rfl)
    refine s_nop ?_
    refine s_if E3 (gt_test (gv_isN (gv_var E3 rfl) (oS_isN _))) (fun hc5 H5 e5 E5 => ?_) fun hc5 H5 e5 E5 => ?_
    · rw [hc2] at hc5
      cases hc5
    · refine s_nop ?_
      refine s_ret ((gv_var E5 rfl).is ?_) fun v H7 e7 r7 => k v H7 (((e02.trans e3).trans e5).trans e7) r7
      rw [stF, if_neg h1, h2]
theorem ok_sf {H : Hp} {w L p d now : Nat} {t b : Blk} (h1 : BlkOk w L t) (h2 : BlkOk w L b) : SpOk K (spSf K) [hshD w, polD p d, blkD t, blkD b, nD now] H (oS (stF w L p d t b now)) := spD_ok (⟨w, L, p, d, t, b, now⟩ : StpA) ⟨h1, h2⟩
end
end K38

set_option Elab.async false
set_option linter.all false
set_option maxRecDepth 100000
set_option maxHeartbeats 4000000
namespace K38
open PySem PySem.Spec PyProof.Rows L2
open PySem.W (Datum Tup)
local macro_rules | `(tactic| walk_at "gv1") => `(tactic| first | exact gv_int | exact gv_str | exact gv_non | exact gv_bl | (refine gv_var (by assumption) ?_; exact rfl) | refine gv_I0 ?_ ?_ | refine gv_Ib ?_ ?_ | refine gv_eqI ?_ ?_ | refine gv_neI ?_ ?_ | refine gt_test ?_ | refine gt_B ?_ | exact ga_nil | refine ga_cons ?_ ?_)
local macro_rules | `(tactic| walk_at "gv") => `(tactic| repeat walk_at "gv1")

def bsK (tr : List (Nat × BkA)) (h : Nat) : List Nat := (tr.map (·.1)).filter fun k => decide (k < h)
def mxN (l : List Nat) : Nat := l.foldr max 0
theorem mxN_ge : ∀ {l : List Nat} {y : Nat}, y ∈ l → y ≤ mxN l
  | x :: r, y, h => by
    show y ≤ max x (mxN r)
    rcases List.mem_cons.mp h with rfl | h
    · exact Nat.le_max_left _ _
    · exact Nat.le_trans (mxN_ge h) (Nat.le_max_right _ _)
theorem mxN_mem : ∀ {l : List Nat}, l ≠ [] → mxN l ∈ l
  | [x], _ => by simp [mxN]
  | x :: y :: r, _ => by
    have ih := mxN_mem (l := y :: r) (by simp)
    show max x (mxN (y :: r)) ∈ _
    rcases Nat.le_total x (mxN (y :: r)) with q | q
    · rw [Nat.max_eq_right q]
      exact List.mem_cons_of_mem _ ih
    · rw [Nat.max_eq_left q]
      exact List.mem_cons_self
theorem lk_mem {α : Type} : ∀ {l : List (Nat × α)} {k : Nat}, k ∈ l.map (·.1) → ∃ a, lk l k = some a
  | p :: l, k, h => by
    by_cases e : p.1 = k
    · exact ⟨p.2, by simp [lk, List.find?_cons, e]⟩
    · have e1 : lk (p :: l) k = lk l k := by simp [lk, List.find?_cons, e]
      rw [e1]
      rw [List.map_cons] at h
      rcases List.mem_cons.mp h with q | q
      · exact absurd q.symm e
      · exact lk_mem q
def bsF (tr : List (Nat × BkA)) (h : Nat) : Option BkA := if bsK tr h = [] then none else lk tr (mxN (bsK tr h))
def clF (w L p d : Nat) (t : Blk) (o : Option BkA) (h now : Nat) : Option Str := match o with
  | none => some "missing"
  | some z => if z.2.h.ht = h then stF w L p d t z.2 now else some "other"
def sfF (c : CSt) (h : Nat) : Option Str := if c.hal = true then some "halted" else if (bsF c.tr h).isNone = true then some "below" else none
section
variable {P : Program} {w : World} {K : PySem.W.Frag} {mg : Str → Option Value} {base : Heap} {H : Hp} {σ : L2.St} {ta te : TE}
theorem gv_maxN {ns : List Nat} (ha : Gv K ta σ H (.lst (ns.map nD))) (hn : ns ≠ []) : Gv K (tCB (rMax K) (tCons ta tNil)) σ H (nD (mxN ns)) :=
  gv_maxL (ns := ns.map fun n : Nat => (n : Int)) (ha.is (by rw [map_nI])) (mem_nI.mpr (mxN_mem hn)) fun y hy => by
    obtain ⟨n, hn, rfl⟩ := List.mem_map.mp hy
    have := mxN_ge hn
    omega
theorem s_asgL {G : Sg} {nx : L2.St → Hp → Prop} {rt : V → Hp → Prop} {bk ct : L2.St → Hp → Prop} {i : Nat} {ds : List D} (E : Sl K H G σ) (h : GvN K (tLockE te) σ H ds) (k : ∀ v H1, Ext H H1 → Rp K H1 (.lst ds) v → Sl K H1 (G.set i (some (.lst ds))) (σ.set i (some v)) → nx (σ.set i (some v)) H1) : tLock (tAsg te (gName i)) ⟨nx, rt, bk, ct⟩ σ H := by
  have q : tLockE te σ H fun v H1 => nx (σ.set i (some v)) H1 := h H Ext.rfl' _ fun p xs H1 _ e h1 r => k _ H1 e ⟨p, xs, rfl, h1, r⟩ ((E.ext e).set ⟨p, xs, rfl, h1, r⟩)
  exact q
theorem gv_Cl_hasher (T : Txt K mg) {w p d : Nat} {c : CSt} (h : Gv K ta σ H (cliD w p d c)) : Gv K (tFld K ta "hasher") σ H (hshD w) := gv_fld h T.cl_Client T.na_Client_hasher (n := 0) (by decide +kernel) (by decide) rfl
theorem gv_Cl_policy (T : Txt K mg) {w p d : Nat} {c : CSt} (h : Gv K ta σ H (cliD w p d c)) : Gv K (tFld K ta "policy") σ H (polD p d) := gv_fld h T.cl_Client T.na_Client_policy (n := 1) (by decide +kernel) (by decide) rfl
theorem gv_Cl_trusted (T : Txt K mg) {w p d : Nat} {c : CSt} (h : Gv K ta σ H (cliD w p d c)) : Gv K (tFld K ta "trusted") σ H (dcD bkA c.tr) := gv_fld h T.cl_Client T.na_Client_trusted (n := 2) (by decide +kernel) (by decide) rfl
theorem gv_Cl_steps (T : Txt K mg) {w p d : Nat} {c : CSt} (h : Gv K ta σ H (cliD w p d c)) : Gv K (tFld K ta "steps") σ H (.lst (c.st.map stD)) := gv_fld h T.cl_Client T.na_Client_steps (n := 3) (by decide +kernel) (by decide) rfl
theorem gv_Cl_halted (T : Txt K mg) {w p d : Nat} {c : CSt} (h : Gv K ta σ H (cliD w p d c)) : Gv K (tFld K ta "halted") σ H (.bl c.hal) := gv_fld h T.cl_Client T.na_Client_halted (n := 4) (by decide +kernel) (by decide) rfl
structure CliA where
  w : Nat
  p : Nat
  d : Nat
  c : CSt
def CliA.D (z : CliA) : D := cliD z.w z.p z.d z.c
abbrev n_Client_heights : List Str := ["self"]
theorem sc_Client_heights : FnScope n_Client_heights ["self"] (defScope s_Client_heights) := ⟨rfl, rfl, rfl, by decide +kernel, rfl, by decide +kernel, by decide +kernel⟩
def spHts (K : PySem.W.Frag) : Sp := spN K (α := CliA) (fun z => z.c.tr.length < 64) (fun z => [z.D]) (fun z => (srtN (z.c.tr.map (·.1))).map nD)
theorem met_Client_heights (T : Txt K mg) : C8.Met P w K mg base 1 (He.ga K "Client") "heights" (spHts K) [] := by
  obtain ⟨fd, F⟩ := T.f_Client_heights
  refine metD T.cl_Client T.me_Client_heights F (fun _ _ _ _ _ _ us hl => match us, hl with | [_], _ => rfl) sc_Client_heights (fun vs H Q E h => (by obtain ⟨z, _, h, _⟩ := h; exact h.len)) (fun cdv A outer s H vs Q E hr h => ?_)
  obtain ⟨z, hl, hvs, k⟩ := h
  dsimp only at hvs k hl
  refine ⟨_, (pss_one (ps_ret (pe_callB (call_sortedDI rfl) (by rfl) T.b_sorted (by decide +kernel) (pa_cons (pe_fld (pv 0) rfl) pa_nil)))), ?_⟩
  have E := Sl.start (N := n_Client_heights) hvs
  refine s_retN (ds := (srtN (z.c.tr.map (·.1))).map nD) ((gn_sortedD (gv_Cl_trusted T (gv_var E rfl)) hl).is ?_) k
  have e : z.c.tr.map (fun p => (p.1 : Int)) = (z.c.tr.map (·.1)).map fun n : Nat => (n : Int) := by
    rw [List.map_map]
    rfl
  rw [e, srt_nI, ← map_nI]
theorem ok_hts (z : CliA) (h : z.c.tr.length < 64) : SpN K (spHts K) [cliD z.w z.p z.d z.c] H ((srtN (z.c.tr.map (·.1))).map nD) := spN_ok z h
abbrev n_Client_block : List Str := ["self", "height"]
theorem sc_Client_block : FnScope n_Client_block ["self", "height"] (defScope s_Client_block) := ⟨rfl, rfl, rfl, by decide +kernel, rfl, by decide +kernel, by decide +kernel⟩
def spCb (K : PySem.W.Frag) : Sp := spD K (α := CliA × Nat) (fun _ => True) (fun z => [z.1.D, nD z.2]) (fun z => opD bkA (lk z.1.c.tr z.2))
theorem met_Client_block (T : Txt K mg) : C8.Met P w K mg base 1 (He.ga K "Client") "block" (spCb K) [] := by
  obtain ⟨fd, F⟩ := T.f_Client_block
  refine metD T.cl_Client T.me_Client_block F (fun _ _ _ _ _ _ us hl => match us, hl with | [_, _], _ => rfl) sc_Client_block (fun vs H Q E h => (by obtain ⟨z, _, h, _⟩ := h; exact h.len)) (fun cdv A outer s H vs Q E hr h => ?_)
  obtain ⟨⟨z, h⟩, -, hvs, k⟩ := h
  dsimp only at hvs k
  refine ⟨_, (pss_one (ps_ret (pe_dget1 (hu_of hr) (pe_fld (pv 0) rfl) (pv 1) ⟨rfl, rfl, rfl, rfl⟩))), ?_⟩
  have E := Sl.start (N := n_Client_block) hvs
  exact s_ret (gv_dget1 (gv_Cl_trusted T (gv_var E rfl)) (gv_var E rfl)) k
theorem ok_cb (z : CliA) {h : Nat} : SpOk K (spCb K) [cliD z.w z.p z.d z.c, nD h] H (opD bkA (lk z.c.tr h)) := spD_ok (z, h) trivial
abbrev n_Client_base : List Str := ["self", "height", "found", "k"]
theorem sc_Client_base : FnScope n_Client_base ["self", "height"] (defScope s_Client_base) := ⟨rfl, rfl, rfl, by decide +kernel, rfl, by decide +kernel, by decide +kernel⟩
def spBa (K : PySem.W.Frag) : Sp := spD K (α := CliA × Nat) (fun z => z.1.c.tr.length ≤ 50000) (fun z => [z.1.D, nD z.2]) (fun z => opD bkA (bsF z.1.c.tr z.2))
theorem met_Client_base (T : Txt K mg) : C8.Met P w K mg base 1 (He.ga K "Client") "base" (spBa K) [] := by
  obtain ⟨fd, F⟩ := T.f_Client_base
  refine metD T.cl_Client T.me_Client_base F (fun _ _ _ _ _ _ us hl => match us, hl with | [_, _], _ => rfl) sc_Client_base (fun vs H Q E h => (by obtain ⟨z, _, h, _⟩ := h; exact h.len)) (fun cdv A outer s H vs Q E hr h => ?_)
  obtain ⟨⟨z, h⟩, hl, hvs, k⟩ := h
  dsimp only at hvs k hl
  refine ⟨_, (pss_cons (ps_lock (ps_setLc (i := 2) (own := [("k", 3)]) (by rfl) sc_Client_base.nd rfl rfl (sw_true rfl rfl rfl (by decide +kernel)) (pi_keys (pe_fld (pv 0) rfl)) (blkOk_by (own := [("k", 3)]) (N := n_Client_base) (sc := defScope s_Client_base) (by decide +kernel)) (fun _ _ _ _ _ => (pg_name (i := 3) sc_Client_base.nd rfl (Or.inl rfl))) (fun _ _ _ _ _ => (pts_one (pt_cmpR op_lt (pv 3) (pv 1) (nomark _)))) (fun _ _ _ _ _ => (pv 3))))
      (pss_one (ps_ret (pe_ifExp (pt_cmpR op_gt (pe_callB call_len_seq (by rfl) T.b_len (by decide +kernel) (pa_cons (pv 2) pa_nil)) pe_int (nomark _)) (pe_dget (hu_of hr) (pe_fld (pv 0) rfl) (pe_callB (cr_max rfl) (by rfl) T.b_max (by decide +kernel) (pa_cons (pv 2) pa_nil)) (fun _ _ => rfl)) pe_non)))), ?_⟩
  have E := Sl.start (N := n_Client_base) hvs
  refine s_asgL (ds := (bsK z.c.tr h).map nD) E (gn_keysF (l := z.c.tr) (emb := bkA) (p := fun k => decide (k < h)) (G0 := [none, some (nD h), none, none]) E rfl T.cl_Client T.na_Client_trusted (n := 2) (by decide +kernel) (by decide) rfl (E.wk ⟨.inl rfl, .inr rfl, .inl rfl, .inl rfl, trivial⟩) (by simp) (by simp) hl (fun a _ σ2 H2 E2 => gt_test (gv_ltN (gv_var E2 rfl) (gv_var E2 rfl))) (by simp)) fun v1 H1 e1 _ E1 => ?_
  refine s_ret (d := opD bkA (bsF z.c.tr h)) (gv_if (gt_test (gv_gtN (gv_lenL (gv_var E1 rfl)) (gv_nat 0))) (fun hc => ?_) fun hc => ?_) fun v H2 e2 r2 => k v H2 (e1.trans e2) r2
  · have h0 : bsK z.c.tr h ≠ [] := fun z => by rw [z] at hc; cases hc
    obtain ⟨a, ha⟩ := lk_mem (l := z.c.tr) (k := mxN (bsK z.c.tr h)) ((List.mem_filter.mp (mxN_mem h0)).1)
    exact (gv_dget (gv_Cl_trusted T (gv_var E1 rfl)) (gv_maxN (gv_var E1 rfl) h0) ha).is (by rw [bsF, if_neg h0, ha]; rfl)
  · have h0 : bsK z.c.tr h = [] := by
      have := of_decide_eq_false hc
      rw [List.length_map] at this
      exact List.length_eq_zero_iff.mp (by omega)
    exact gv_non.is (by rw [bsF, if_pos h0]; rfl)
theorem ok_ba (z : CliA) {h : Nat} (hl : z.c.tr.length ≤ 50000) : SpOk K (spBa K) [cliD z.w z.p z.d z.c, nD h] H (opD bkA (bsF z.c.tr h)) := spD_ok (z, h) hl
abbrev n_Client_fault : List Str := ["self", "base", "block", "height", "now"]
theorem sc_Client_fault : FnScope n_Client_fault ["self", "base", "block", "height", "now"] (defScope s_Client_fault) := ⟨rfl, rfl, rfl, by decide +kernel, rfl, by decide +kernel, by decide +kernel⟩
structure CflA where
  z : CliA
  L : Nat
  t : BkA
  o : Option BkA
  h : Nat
  now : Nat
def spCf (K : PySem.W.Frag) : Sp := spD K (α := CflA) (fun a => BlkOk a.z.w a.L a.t.2 ∧ ∀ b, a.o = some b → BlkOk a.z.w a.L b.2) (fun a => [a.z.D, bkA a.t, opD bkA a.o, nD a.h, nD a.now]) (fun a => oS (clF a.z.w a.L a.z.p a.z.d a.t.2 a.o a.h a.now))
theorem opB_isN (o : Option BkA) (h : o = none) : (opD bkA o).isN = some true := by rw [h]; rfl
theorem gv_isNA {w : Nat} {b : BkA} (h : Gv K ta σ H (bkA b)) : Gv K (tOp rIsN ta (tC .non)) σ H (.bl false) := gv_isN (x := .adr b.1) (gv_weak h fun _ _ r => r.1) rfl
theorem met_Client_fault (T : Txt K mg) : C8.Met P w K mg base 13 (He.ga K "Client") "fault" (spCf K) [] := by
  obtain ⟨fd, F⟩ := T.f_Client_fault
  refine metD T.cl_Client T.me_Client_fault F (fun _ _ _ _ _ _ us hl => match us, hl with | [_, _, _, _, _], _ => rfl) sc_Client_fault (fun vs H Q E h => (by obtain ⟨z, _, h, _⟩ := h; exact h.len)) (fun cdv A outer s H vs Q E hr h => ?_)
  obtain ⟨⟨z, L, t, o, h, now⟩, ⟨ht, hb⟩, hvs, k⟩ := h
  dsimp only at hvs k ht hb
  refine ⟨_, (pss_cons (ps_if (pt_cmpR op_isN1 (pv 2) pe_non (nomark _)) (pss_one (ps_ret pe_str)) pss_nil)
      (pss_cons (ps_if (pt_cmpR op_ne (pe_fld (pe_fld (pv 2) rfl) rfl) (pv 3) (nomark _)) (pss_one (ps_ret pe_str)) pss_nil)
      (pss_one (ps_ret (C8.pe_c (cal_step_fault T) hr (by decide) rfl (pa_cons (pe_fld (pv 0) rfl) (pa_cons (pe_fld (pv 0) rfl) (pa_cons (pv 1) (pa_cons (pv 2) (pa_cons (pv 4) pa_nil)))))))))), ?_⟩
  cases o with
  | none =>
    have E := Sl.start (N := n_Client_fault) hvs
    refine s_if E (gt_test (gv_isN (x := .non) (gv_var E rfl) rfl)) (fun _ H1 e1 E1 => ?_) fun z => nomatch z
    exact s_ret gv_str fun v H2 e2 r2 => k v H2 (e1.trans e2) r2
  | some b =>
    have hb := hb b rfl
    have E : Sl K H [some z.D, some (bkA t), some (bkA b), some (nD h), some (nD now)] _ := Sl.start (N := n_Client_fault) hvs
    refine s_if E (gt_test (gv_isNA (w := 0) (gv_var E rfl))) (fun z => nomatch z) fun _ H1 e1 E1 => ?_
    refine s_nop ?_
    refine s_if E1 (gt_test (gv_neN (gv_Header_height T (gv_Block_header T (gv_un (gv_var E1 rfl)))) (gv_var E1 rfl))) (fun hc H2 e2 E2 => ?_) fun hc H2 e2 E2 => ?_
    · have h1 : ¬ b.2.h.ht = h := by simpa using hc
      exact s_ret (gv_str.is (by rw [clF, if_neg h1]; rfl)) fun v H3 e3 r3 => k v H3 ((e1.trans e2).trans e3) r3
    have h1 : b.2.h.ht = h := by simpa using hc
    refine s_nop ?_
    refine s_ret (d := oS (clF z.w L z.p z.d t.2 (some b) h now)) ((gv_call (ga_cons (gv_Cl_hasher T (gv_var E2 rfl)) (ga_cons (gv_Cl_policy T (gv_var E2 rfl)) (ga_cons (gv_un (gv_var E2 rfl)) (ga_cons (gv_un (gv_var E2 rfl)) (ga_cons (gv_var E2 rfl) ga_nil))))) (ok_sf ht hb)).is (by rw [clF, if_pos h1])) fun v H3 e3 r3 => k v H3 ((e1.trans e2).trans e3) r3
theorem ok_cf (z : CliA) {L : Nat} {t : BkA} {o : Option BkA} {h now : Nat} (h1 : BlkOk z.w L t.2) (h2 : ∀ b, o = some b → BlkOk z.w L b.2) : SpOk K (spCf K) [cliD z.w z.p z.d z.c, bkA t, opD bkA o, nD h, nD now] H (oS (clF z.w L z.p z.d t.2 o h now)) := spD_ok (⟨z, L, t, o, h, now⟩ : CflA) ⟨h1, h2⟩
abbrev n_Client_start_fault : List Str := ["self", "height"]
theorem sc_Client_start_fault : FnScope n_Client_start_fault ["self", "height"] (defScope s_Client_start_fault) := ⟨rfl, rfl, rfl, by decide +kernel, rfl, by decide +kernel, by decide +kernel⟩
def spStf (K : PySem.W.Frag) : Sp := spD K (α := CliA × Nat) (fun z => z.1.c.tr.length ≤ 50000) (fun z => [z.1.D, nD z.2]) (fun z => oS (sfF z.1.c z.2))
theorem gt_isNO {o : Option BkA} (h : Gv K ta σ H (opD bkA o)) : Gt (tTest (tOp rIsN ta (tC .non))) σ H o.isNone := by
  cases o with
  | none => exact gt_test (gv_isN (x := .non) h rfl)
  | some b => exact gt_test (gv_isNA (w := 0) h)
theorem met_Client_start_fault (T : Txt K mg) : C8.Met P w K mg base 2 (He.ga K "Client") "start_fault" (spStf K) [] := by
  obtain ⟨fd, F⟩ := T.f_Client_start_fault
  refine metD T.cl_Client T.me_Client_start_fault F (fun _ _ _ _ _ _ us hl => match us, hl with | [_, _], _ => rfl) sc_Client_start_fault (fun vs H Q E h => (by obtain ⟨z, _, h, _⟩ := h; exact h.len)) (fun cdv A outer s H vs Q E hr h => ?_)
  obtain ⟨⟨z, h⟩, hl, hvs, k⟩ := h
  dsimp only at hvs k hl
  refine ⟨_, (pss_cons (ps_if (pt_val (pe_fld (pv 0) rfl)) (pss_one (ps_ret pe_str)) pss_nil)
      (pss_one (ps_ret (pe_ifExp (pt_cmpR op_isN1 (C8.pe_mt (met_Client_base T) hr (by decide) (pv 0) (pa_cons (pv 1) pa_nil)) pe_non (nomark _)) pe_str pe_non)))), ?_⟩
  have E := Sl.start (N := n_Client_start_fault) hvs
  refine s_if E (gt_B (gv_Cl_halted T (gv_var E rfl))) (fun hc H1 e1 E1 => ?_) fun hc H1 e1 E1 => ?_
  · exact s_ret (gv_str.is (by rw [sfF, if_pos hc]; rfl)) fun v H2 e2 r2 => k v H2 (e1.trans e2) r2
  have h1 : ¬ z.c.hal = true := by rw [hc]; decide
  refine s_nop ?_
  refine s_ret (d := oS (sfF z.c h)) (gv_if (gt_isNO (gv_meth (gv_var E1 rfl) rfl (ga_cons (gv_var E1 rfl) ga_nil) (ok_ba z hl))) (fun hc2 => ?_) fun hc2 => ?_) fun v H2 e2 r2 => k v H2 (e1.trans e2) r2
  · exact gv_str.is (by rw [sfF, if_neg h1, if_pos hc2]; rfl)
  · exact gv_non.is (by rw [sfF, if_neg h1, if_neg (by rw [hc2]; decide)]; rfl)
theorem ok_stf (z : CliA) {h : Nat} (hl : z.c.tr.length ≤ 50000) : SpOk K (spStf K) [cliD z.w z.p z.d z.c, nD h] H (oS (sfF z.c h)) := spD_ok (z, h) hl
abbrev n_Client_step : List Str := ["self", "base", "block"]
theorem sc_Client_step : FnScope n_Client_step ["self", "base", "block"] (defScope s_Client_step) := ⟨rfl, rfl, rfl, by decide +kernel, rfl, by decide +kernel, by decide +kernel⟩
def spStp (K : PySem.W.Frag) : Sp := fun vs H Q _ => ∃ (B : Hp) (x : Addr) (z : CliA) (b : BkA) (y : BkA) (vb vy : V), (z.c.tr.length ≤ 50000 ∧ z.c.st.length ≤ 50000) ∧ vs = [.ref x, vb, vy] ∧ ClAt K B H x z.w z.p z.d z.c ∧ Rp K B (bkA b) vb ∧ Rp K B (bkA y) vy ∧
  ∀ B' H', Ext B B' → ClAt K B' H' x z.w z.p z.d ⟨putN z.c.tr y.2.h.ht y, z.c.st ++ [(b.2.h.ht, y)], z.c.hal⟩ → Q .non H'
theorem met_Client_step (T : Txt K mg) : C8.Met P w K mg base 1 (He.ga K "Client") "step" (spStp K) [] := by
  obtain ⟨fd, F⟩ := T.f_Client_step
  refine metD T.cl_Client T.me_Client_step F (fun _ _ _ _ _ _ us hl => match us, hl with | [_, _, _], _ => rfl) sc_Client_step (fun vs H Q E h => (by obtain ⟨B, x, z, b, y, vb, vy, _, rfl, _⟩ := h; rfl)) (fun cdv A outer s H vs Q E hr h => ?_)
  obtain ⟨B, x, ⟨wd, pd, dr, c⟩, b, y, vb, vy, ⟨hl1, hl2⟩, rfl, ⟨dx, pT, pS, v1, v2, m, xs, cl⟩, rb, ry, k⟩ := h
  dsimp only at hl1 hl2 cl k
  refine ⟨_, (pss_cons (ps_expr (pe_bm PySem.F.plainAttrs_list PySem.F.slot_list_append PySem.F.type_list_append mt_append (pe_fld (pv 0) rfl) (pa_cons (pe_tup (pa_cons (pe_fld (pe_fld (pv 1) rfl) rfl) (pa_cons (pv 2) pa_nil))) pa_nil)))
      (pss_one (ps_dput (hu_of hr) (pe_fld (pv 0) rfl) (pe_fld (pe_fld (pv 2) rfl) rfl) (pv 2) rfl))), ?_⟩
  have E : Sl K B [some (.adr x), some (bkA b), some (bkA y)] _ := Sl.start (N := n_Client_step) (.cons (d := .adr x) rfl (.cons rb (.cons ry .nil)))
  have E0 := E.ext cl.ce.ext
  have sl : Gv K (tFld K (tVar 0) "steps") _ H (.adr pS) := gv_fld (fs := fCl) (d0s := [.any, .any, .adr pT, .adr pS, .bl c.hal]) (gv_view (gv_var E0 rfl) ⟨x, dx, _, rfl, cl.ce.at_, .cons trivial (.cons trivial (.cons rfl (.cons rfl (.cons rfl .nil))))⟩) T.cl_Client T.na_Client_steps (n := 3) (by decide +kernel) (by decide) rfl
  refine s_app (xs := xs) E0 cl.lc.at_ sl (d := stD (b.2.h.ht, y)) (gv_tup (ga_cons (gv_Header_height T (gv_Block_header T (gv_un (gv_var E0 rfl)))) (ga_cons (gv_var E0 rfl) ga_nil)) (by simp)) (by rw [cl.rs.len, List.length_map]; omega) fun v H1 e1 r1 _ h1 => ?_
  have c1 := (cl.mono e1).wide
  have b1 := (cl.mono e1).ehid
  have c2 := c1.app (r1.gr ((cl.mono e1).gr T) _ (inferInstance : Pu (stD (b.2.h.ht, y))).pu)
  have E2 := (E.ext b1).ext c2.ce.ext
  have c2v : Rp K _ (.ins "Client" fCl [.any, .any, .adr pT, .adr pS, .bl c.hal]) (.ref x) := ⟨x, dx, _, rfl, c2.ce.at_, .cons trivial (.cons trivial (.cons rfl (.cons rfl (.cons rfl .nil))))⟩
  refine (gv_var E2 rfl : Gv K (tVar 2) _ _ (bkA y)) _ Ext.rfl' _ fun v3 H3 e3 r3 => ?_
  have E3 := E2.ext e3
  refine (gv_fld (gv_view (gv_var E3 rfl) (c2v.ext e3)) T.cl_Client T.na_Client_trusted (n := 2) (by decide +kernel) (by decide) rfl : Gv K (tFld K (tVar 0) "trusted") _ _ (.adr pT)) _ Ext.rfl' _ fun v4 H4 e4 r4 => ?_
  have E4 := E3.ext e4
  refine (gv_Header_height T (gv_Block_header T (gv_un (gv_var E4 rfl))) : Gv K _ _ _ (nD y.2.h.ht)) _ Ext.rfl' _ fun v5 H5 e5 r5 => ?_
  have ev4 : v4 = .ref pT := r4
  have ev5 : v5 = .int (y.2.h.ht : Int) := r5
  subst ev4 ev5
  have c5 := c2.mono ((e3.trans e4).trans e5)
  have ev3 : v3 = .ref y.1 := r3.1
  have hy : vy = .ref y.1 := ry.1
  subst ev3 hy
  exact ⟨pT, _, rfl, DPut.k (k := nK y.2.h.ht) c5.aT (sz_lt (by have hm : m.length = c.tr.length := cl.kr.len; omega)), k _ _ b1 ⟨dx, pT, pS, v1, v2, _, _, c5.put (ry.ext b1)⟩⟩
end
end K38

set_option Elab.async false
set_option linter.all false
set_option maxRecDepth 100000
set_option maxHeartbeats 4000000
namespace K38
open PySem PySem.Spec PyProof.Rows L2
open PySem.W (Datum Tup)
local macro_rules | `(tactic| walk_at "gv1") => `(tactic| first | exact gv_int | exact gv_str | exact gv_non | exact gv_bl | (refine gv_var (by assumption) ?_; exact rfl) | refine gv_I0 ?_ ?_ | refine gv_Ib ?_ ?_ | refine gv_eqI ?_ ?_ | refine gv_neI ?_ ?_ | refine gt_test ?_ | refine gt_B ?_ | exact ga_nil | refine ga_cons ?_ ?_)
local macro_rules | `(tactic| walk_at "gv") => `(tactic| repeat walk_at "gv1")

section
variable {K : PySem.W.Frag} {H H' B : Hp} {G : Sg} {σ : L2.St} {te tv ta : TE} {tA : TA} {d : D} {c f m : Str} {ds : List D} {nx : L2.St → Hp → Prop} {rt : V → Hp → Prop} {bk ct : L2.St → Hp → Prop}
/-- a method called for what it does -/
theorem s_meth {sp : Sp} {E0' : XK} {i : Nat} {x dx : Addr} {fs : List (Str × V)} (E : Sl K H G σ) (hi : G[i]? = some (some (.adr x))) (hx : H x = some (.ins (He.ga K c) dx fs)) (hm : fs.lookup m = none) (ha : GvA K tA σ H ds)
    (k : ∀ vs H1, Ext H H1 → Rps K H1 ds vs → sp (.ref x :: vs) H1 (fun _ H2 => nx σ H2) E0') : tDrop (tMeth (He.ga K c) m sp [] E0' (tVar i) tA) ⟨nx, rt, bk, ct⟩ σ H := by
  obtain ⟨v, h1, h2⟩ := E.2 i _ hi
  have ev : v = .ref x := h2
  subst ev
  exact ⟨_, h1, x, dx, fs, rfl, hx, hm, ha H Ext.rfl' _ fun vs H1 e1 r => by
    rw [List.append_nil]
    exact k vs H1 e1 r⟩
/-- .. for its value, into a name -/
theorem s_methA {sp : Sp} {E0' : XK} {i j : Nat} {x dx : Addr} {fs : List (Str × V)} (E : Sl K H G σ) (hi : G[i]? = some (some (.adr x))) (hx : H x = some (.ins (He.ga K c) dx fs)) (hm : fs.lookup m = none) (ha : GvA K tA σ H ds)
    (k : ∀ vs H1, Ext H H1 → Rps K H1 ds vs → sp (.ref x :: vs) H1 (fun v H2 => nx (σ.set j (some v)) H2) E0') : tAsg (tMeth (He.ga K c) m sp [] E0' (tVar i) tA) (gName j) ⟨nx, rt, bk, ct⟩ σ H := by
  obtain ⟨v, h1, h2⟩ := E.2 i _ hi
  have ev : v = .ref x := h2
  subst ev
  exact ⟨_, h1, x, dx, fs, rfl, hx, hm, ha H Ext.rfl' _ fun vs H1 e1 r => by
    rw [List.append_nil]
    exact k vs H1 e1 r⟩
/-- xs.pop() -/
theorem s_pop {i : Nat} {p : Addr} {xs : List V} {y : V} (E : Sl K H G σ) (hi : G[i]? = some (some (.adr p))) (hp : H p = some (.lst (xs ++ [y]))) (k : nx σ (upd H p (.lst xs))) : tDrop (tBM0 K "list" rPop (tVar i)) ⟨nx, rt, bk, ct⟩ σ H := by
  obtain ⟨v, h1, h2⟩ := E.2 i _ hi
  have ev : v = .ref p := h2
  subst ev
  refine ⟨_, h1, .inl ⟨rfl, _, SqL.of hp⟩, p, xs ++ [y], y, rfl, rfl, hp, ?_, ?_⟩
  · rw [List.length_append, List.length_singleton, Nat.add_sub_cancel, List.getElem?_append_right (Nat.le_refl _), Nat.sub_self]
    rfl
  · show nx σ _
    rw [List.dropLast_concat]
    exact k
theorem s_iniRD {α : Type} {emb : α → D} {l : List (Nat × α)} {x dx : Addr} {fs : List Str} {us : List V} (E : Sl K B G σ) (h0 : G[0]? = some (some (.adr x))) (cl : Cell B H x dx (He.ga K c) (fs.zip us)) (hl : us.length = fs.length) (hv : GvDN K tv σ H emb l)
    (hc : Cls K (He.ga K c)) (hn : NoAttr K (He.ga K c) f) (nf : fs.contains f = false) (h1 : fs.length < 1000)
    (k : ∀ p m H1, H p = none → Ext H H1 → H1 p = some (.dK m) → KR K H1 emb l m → nx σ (upd H1 x (.ins (He.ga K c) dx ((fs ++ [f]).zip (us ++ [V.ref p]))))) : sFld K (tVar 0) tv f ⟨nx, rt, bk, ct⟩ σ H :=
  hv H Ext.rfl' _ fun p m H1 hp e1 h2 r => by
    obtain ⟨w, h3, h4⟩ := E.2 0 _ h0
    have ew : w = .ref x := h4
    subst ew
    refine ⟨_, h3, x, _, dx, _, rfl, (cl.mono e1).at_, hc, hn, by rw [List.length_zip, hl, Nat.min_self]; exact h1, ?_⟩
    rw [putF_zip hl nf]
    exact k p m H1 hp e1 h2 r
end
section
variable {P : Program} {w : World} {K : PySem.W.Frag} {mg : Str → Option Value} {base : Heap} {H : Hp} {σ : L2.St} {ta te : TE}
abbrev fC1 : List Str := ["hasher"]
abbrev fC2 : List Str := ["hasher", "policy"]
abbrev fC3 : List Str := ["hasher", "policy", "trusted"]
abbrev fC4 : List Str := ["hasher", "policy", "trusted", "steps"]
theorem ne_at {p x : Addr} {o : HO} (h : H p = none) (h2 : H x = some o) : p ≠ x := fun z => by
  rw [z, h2] at h
  cases h
theorem cl_hok {x dx pT pS C : Addr} {fs : List (Str × V)} {m : List (L2.Key × V)} {xs : List V} (h1 : H x = some (.ins C dx fs)) (h2 : H dx = some (.own x)) (h3 : H pT = some (.dK m)) (h4 : H pS = some (.lst xs)) : HideOk H (clL x dx pT pS) := fun a ha => by
  rcases List.mem_cons.mp ha with rfl | ha
  · exact .inr (.inl ⟨m, h3⟩)
  rcases List.mem_cons.mp ha with rfl | ha
  · exact .inl ⟨xs, h4⟩
  rcases List.mem_cons.mp ha with rfl | ha
  · exact .inr (.inr (.inl ⟨_, dx, _, h1, by simp⟩))
  · rw [List.mem_singleton.mp ha]
    exact .inr (.inr (.inr ⟨x, _, _, h2, h1, by simp⟩))
theorem cl_gr [n : NF K "Client"] {x dx pT pS : Addr} {fs : List (Str × V)} {m : List (L2.Key × V)} {xs : List V} (h1 : H x = some (.ins (He.ga K "Client") dx fs)) (h2 : H dx = some (.own x)) (h3 : H pT = some (.dK m)) (h4 : H pS = some (.lst xs)) : Gr K H (hide (clL x dx pT pS) H) := gr_hide (cl_hok h1 h2 h3 h4) fun a ha f hf dx' fs z => by
  rcases List.mem_cons.mp ha with rfl | ha
  · rw [h3] at z
    cases z
  rcases List.mem_cons.mp ha with rfl | ha
  · rw [h4] at z
    cases z
  rcases List.mem_cons.mp ha with rfl | ha
  · rw [h1] at z
    injection z with z
    injection z with z1
    exact n.nf f hf z1.symm
  · rw [List.mem_singleton.mp ha, h2] at z
    cases z
theorem gr_cell [n : NF K "Client"] {x dx : Addr} {fs : List (Str × V)} {u : HO} (h1 : H x = some (.ins (He.ga K "Client") dx fs)) : Gr K H (upd H x u) := Gr.upd h1 (fun _ z => by cases z) fun f hf dx fs z => by
  injection z with z1
  exact n.nf f hf z1.symm
abbrev n_Client_init : List Str := ["self", "hasher", "policy", "block", "fault"]
theorem sc_Client_init : FnScope n_Client_init ["self", "hasher", "policy", "block"] (defScope s_Client_init) := ⟨rfl, rfl, rfl, by decide +kernel, rfl, by decide +kernel, by decide +kernel⟩
def spCi (K : PySem.W.Frag) : Sp := fun vs H Q _ => ∃ (x dx : Addr) (us : List V) (B : Hp) (w L p d : Nat) (b : BkA), (BlkOk w L b.2 ∧ lsF w b.2 = none) ∧ vs = .ref x :: us ∧ Cell B H x dx (He.ga K "Client") [] ∧ Rps K B [hshD w, polD p d, bkA b] us ∧
  ∀ B' H', Ext B B' → ClAt K B' H' x w p d ⟨[(b.2.h.ht, b)], [], false⟩ → Q .non H'
theorem mak_Client (T : Txt K mg) : C8.Mak P w K mg base 8 "Client" (He.ga K "Client") (spCi K) [] := by
  obtain ⟨fd, F⟩ := T.f_Client_init
  refine makD T.mk_Client T.g_Client F (fun _ _ _ _ _ _ us hl => match us, hl with | [_, _, _, _], _ => rfl) sc_Client_init (fun vs H Q E h => (by obtain ⟨x, dx, us, B, w, L, p, d, b, _, rfl, _, r, _⟩ := h; rw [List.length_cons, r.len]; rfl)) (fun cdv A outer s H vs Q E hr h => ?_)
  obtain ⟨x, dx, us, B, wd, L, pd, dr, b, ⟨hb, hl⟩, rfl, cl, r, k⟩ := h
  haveI : NF K "Client" := nf_of T 5 (by decide) rfl
  refine ⟨_, (pss_cons (ps_set (i := 4) sc_Client_init.nd rfl (Or.inl rfl) (C8.pe_c (cal_lists_fault T) hr (by decide) rfl (pa_cons (pv 1) (pa_cons (pv 3) pa_nil))))
      (pss_cons (ps_if (pt_cmpR op_notN1 (pv 4) pe_non (nomark _)) (pss_one ps_never) pss_nil)
      (pss_cons (ps_fld (pv 0) (pv 1) rfl)
      (pss_cons (ps_fld (pv 0) (pv 2) rfl)
      (pss_cons (ps_fld (pv 0) (pe_disp (pps_cons (pe_fld (pe_fld (pv 3) rfl) rfl) (pv 3) pps_nil) (by rfl) (by rfl) (fun z => by cases z) (by decide)) rfl)
      (pss_cons (ps_fld (pv 0) (pe_lst pa_nil) rfl)
      (pss_one (ps_fld (pv 0) pe_bl rfl)))))))), ?_⟩
  have E : Sl K B [some (.adr x), some (hshD wd), some (polD pd dr), some (bkA b), none] _ := Sl.start (N := n_Client_init) (Rps.cons (d := .adr x) rfl r)
  have E' := E.ext cl.ext
  refine s_asg (d := .non) E' ((gv_call (ga_cons (gv_var E' rfl) (ga_cons (gv_un (gv_var E' rfl)) ga_nil)) (ok_lf hb)).is (by rw [hl]; rfl)) fun v0 H0 e0 r0 _ => ?_
  have E1 := E.set (i := 4) (d := .non) (v := v0) r0
  have cl0 := cl.mono e0
  refine s_if (E1.ext cl0.ext) (Gt.is (b := false) (gt_test (gv_notN (x := .non) (gv_var (E1.ext cl0.ext) rfl) rfl)) rfl) (fun z => nomatch z) fun _ H1 e1 E1' => ?_
  refine s_nop ?_
  refine s_iniV (K := K) (d := hshD wd) (fs := []) (us := []) E1 rfl (cl0.mono e1) rfl (gv_var E1' rfl) T.cl_Client T.na_Client_hasher rfl (by decide) fun v1 H2 e2 r1 => ?_
  have c2 := ((cl0.mono e1).mono e2).set (fC1.zip [v1])
  refine s_iniV (K := K) (d := polD pd dr) (fs := ["hasher"]) (us := [v1]) E1 rfl c2 rfl (gv_var (E1.ext c2.ext) rfl) T.cl_Client T.na_Client_policy (by decide) (by decide) fun v2 H3 e3 r2 => ?_
  have c3 := (c2.mono e3).set (fC2.zip [v1, v2])
  refine s_iniRD (K := K) (emb := bkA) (l := [(b.2.h.ht, b)]) (fs := ["hasher", "policy"]) (us := [v1, v2]) E1 rfl c3 rfl (gd_disp (gv_Header_height T (gv_Block_header T (gv_un (gv_var (E1.ext c3.ext) rfl)))) (gv_var (E1.ext c3.ext) rfl)) T.cl_Client T.na_Client_trusted (by decide +kernel) (by decide) fun pT m H4 hpT e4 h4 r4 => ?_
  have c4 := (c3.mono e4).set (fC3.zip [v1, v2, .ref pT])
  refine s_iniR (K := K) (ds := []) (fs := ["hasher", "policy", "trusted"]) (us := [v1, v2, .ref pT]) E1 rfl c4 rfl (gn_none (ds := [])) T.cl_Client T.na_Client_steps (by decide +kernel) (by decide) fun pS xs H5 hpS e5 h5 r5 => ?_
  have c5 := (c4.mono e5).set (fC4.zip [v1, v2, .ref pT, .ref pS])
  refine s_iniV (K := K) (d := .bl false) (fs := ["hasher", "policy", "trusted", "steps"]) (us := [v1, v2, .ref pT, .ref pS]) E1 rfl c5 rfl gv_bl T.cl_Client T.na_Client_halted (by decide +kernel) (by decide) fun v6 H6 e6 r6 => ?_
  have c6 := (c5.mono e6).set (fCl.zip [v1, v2, .ref pT, .ref pS, v6])
  have ev6 : v6 = .bl false := r6
  subst ev6
  have exs : xs = [] := r5
  subst exs
  have nxT : pT ≠ x := ne_at hpT c3.at_
  have nxS : pS ≠ x := ne_at hpS c4.at_
  have h4' : (upd H4 x (.ins (He.ga K "Client") dx (fC3.zip [v1, v2, .ref pT]))) pT = some (.dK m) := by rw [upd_ne nxT]; exact h4
  have h5T : (upd H5 x (.ins (He.ga K "Client") dx (fC4.zip [v1, v2, .ref pT, .ref pS]))) pT = some (.dK m) := by rw [upd_ne nxT]; exact e5 _ _ h4'
  have h6T : (upd H6 x (.ins (He.ga K "Client") dx (fCl.zip [v1, v2, .ref pT, .ref pS, .bl false]))) pT = some (.dK m) := by rw [upd_ne nxT]; exact e6 _ _ h5T
  have h5S : (upd H5 x (.ins (He.ga K "Client") dx (fC4.zip [v1, v2, .ref pT, .ref pS]))) pS = some (.lst []) := by rw [upd_ne nxS]; exact h5
  have h6S : (upd H6 x (.ins (He.ga K "Client") dx (fCl.zip [v1, v2, .ref pT, .ref pS, .bl false]))) pS = some (.lst []) := by rw [upd_ne nxS]; exact e6 _ _ h5S
  have g2 : Gr K H2 _ := gr_cell (u := .ins (He.ga K "Client") dx (fC1.zip [v1])) ((cl0.mono e1).mono e2).at_
  have g3 : Gr K H3 _ := gr_cell (u := .ins (He.ga K "Client") dx (fC2.zip [v1, v2])) (c2.mono e3).at_
  have g4 : Gr K H4 _ := gr_cell (u := .ins (He.ga K "Client") dx (fC3.zip [v1, v2, .ref pT])) (c3.mono e4).at_
  have g5 : Gr K H5 _ := gr_cell (u := .ins (He.ga K "Client") dx (fC4.zip [v1, v2, .ref pT, .ref pS])) (c4.mono e5).at_
  have g6 : Gr K H6 _ := gr_cell (u := .ins (He.ga K "Client") dx (fCl.zip [v1, v2, .ref pT, .ref pS, .bl false])) (c5.mono e6).at_
  have gh := cl_gr (K := K) c6.at_ c6.own h6T h6S
  have k4 := g4.trans ((Gr.of e5).trans (g5.trans ((Gr.of e6).trans (g6.trans gh))))
  have k3 := g3.trans ((Gr.of e4).trans k4)
  have k2 := g2.trans ((Gr.of e3).trans k3)
  have fB : ∀ a ∈ clL x dx pT pS, B a = none := fun a ha => by
    rcases List.mem_cons.mp ha with rfl | ha
    · exact fresh_back c3.ext hpT
    rcases List.mem_cons.mp ha with rfl | ha
    · exact fresh_back c4.ext hpS
    rcases List.mem_cons.mp ha with rfl | ha
    · exact cl.fx
    · rw [List.mem_singleton.mp ha]
      exact cl.fd
  exact k _ _ (ext_hide c6.ext fB) ⟨dx, pT, pS, v1, v2, m, [], ⟨⟨hide_ext, hide_in (by simp), hide_in (by simp), c6.ne, c6.at_, c6.own⟩, r1.gr k2 _ (inferInstance : Pu (hshD wd)).pu, r2.gr k3 _ (inferInstance : Pu (polD pd dr)).pu, hide_in (by simp), h6T, r4.gr (fun a => inferInstance) k4, ⟨hide_ext, hide_in (by simp), h6S⟩, .nil⟩⟩
end
end K38

set_option Elab.async false
set_option linter.all false
set_option maxRecDepth 100000
set_option maxHeartbeats 4000000
namespace K38
open PySem PySem.Spec PyProof.Rows L2
open PySem.W (Datum Tup)
local macro_rules | `(tactic| walk_at "gv1") => `(tactic| first | exact gv_int | exact gv_str | exact gv_non | exact gv_bl | (refine gv_var (by assumption) ?_; exact rfl) | refine gv_I0 ?_ ?_ | refine gv_Ib ?_ ?_ | refine gv_eqI ?_ ?_ | refine gv_neI ?_ ?_ | refine gt_test ?_ | refine gt_B ?_ | exact ga_nil | refine ga_cons ?_ ?_)
local macro_rules | `(tactic| walk_at "gv") => `(tactic| repeat walk_at "gv1")

abbrev Res := Option (Str × Nat)
def resD : Res → D
  | none => .tup [.str "trusted"]
  | some z => .tup [.str "refused", .str z.1, nD z.2]
instance {r} : Pu (resD r) := match r with
  | none => (inferInstance : Pu (.tup [.str "trusted"]))
  | some z => (inferInstance : Pu (.tup [.str "refused", .str z.1, nD z.2]))
def stepC (c : CSt) (b y : BkA) : CSt := ⟨putN c.tr y.2.h.ht y, c.st ++ [(b.2.h.ht, y)], c.hal⟩
structure RP where
  w : Nat
  L : Nat
  p : Nat
  d : Nat
  now : Nat
  A : List (Nat × BkA)
def rgo (r : RP) : Nat → CSt → BkA → List Nat → Res × CSt
  | 0, c, _, _ => (none, c)
  | _ + 1, c, _, [] => (none, c)
  | n + 1, c, b, t :: st => match clF r.w r.L r.p r.d b.2 (lk r.A t) t r.now with
    | some f => if f = "overlap" then rgo r n c b ((b.2.h.ht + t) / 2 :: t :: st) else (some (f, t), c)
    | none => match lk r.A t with
      | some y => rgo r n (stepC c b y) y st
      | none => (none, c)
def rch (r : RP) (c : CSt) (h : Nat) : Res × CSt := if (lk c.tr h).isSome = true then (none, c) else match sfF c h with
  | some f => (some (f, h), c)
  | none => match bsF c.tr h with
    | some b => rgo r (2 * (h - b.2.h.ht) + 2) c b [h]
    | none => (none, c)
structure RP.Ok (r : RP) : Prop where
  A : ∀ k y, lk r.A k = some y → BlkOk r.w r.L y.2
structure TrOk (r : RP) (c : CSt) : Prop where
  tr : ∀ k y, lk c.tr k = some y → BlkOk r.w r.L y.2 ∧ y.2.h.ht = k
theorem clF_none {w L p d h now : Nat} {t : Blk} {o : Option BkA} (e : clF w L p d t o h now = none) : ∃ y, o = some y ∧ y.2.h.ht = h := by
  cases o with
  | none => cases e
  | some y =>
    unfold clF at e
    dsimp only at e
    split at e
    · rename_i q
      exact ⟨y, rfl, q⟩
    · cases e
theorem lsF_ne {w : Nat} {b : Blk} : lsF w b ≠ some ("overlap" : Str) := by
  unfold lsF
  split
  · split
    · exact fun z => by cases z
    · exact fun z => absurd (Option.some.inj z) (by decide +kernel)
  · exact fun z => absurd (Option.some.inj z) (by decide +kernel)
theorem bkF_ne {w L ch : Nat} {b : Blk} : bkF w L ch b ≠ some ("overlap" : Str) := by
  unfold bkF
  split
  · cases q : lsF w b with
    | some f =>
      dsimp only
      exact fun z => lsF_ne (q.trans z)
    | none =>
      dsimp only
      split
      · exact fun z => by cases z
      · exact fun z => absurd (Option.some.inj z) (by decide +kernel)
  · exact fun z => absurd (Option.some.inj z) (by decide +kernel)
theorem orF_ne {d : Nat} {t h : Hdr} {now : Nat} : orF d t h now ≠ some ("overlap" : Str) := by
  unfold orF
  repeat' split
  all_goals first
    | exact fun z => by cases z
    | exact fun z => absurd (Option.some.inj z) (by decide +kernel)
theorem orF_lt {d : Nat} {t h : Hdr} {now : Nat} (e : orF d t h now = none) : t.ht < h.ht := by
  unfold orF at e
  split at e
  · cases e
  · omega
theorem stF_none {w L p d now : Nat} {t b : Blk} (e : stF w L p d t b now = none) : t.h.ht < b.h.ht := by
  unfold stF at e
  split at e
  · cases e
  · split at e
    · cases e
    · split at e
      · cases e
      · rename_i q
        exact orF_lt q
theorem stF_over {w L p d now : Nat} {t b : Blk} (e : stF w L p d t b now = some ("overlap" : Str)) : t.h.ht + 2 ≤ b.h.ht := by
  unfold stF at e
  split at e
  · exact absurd (Option.some.inj e) (by decide +kernel)
  · split at e
    · rename_i q
      exact absurd (q.trans e) bkF_ne
    · split at e
      · rename_i q
        exact absurd (q.trans e) orF_ne
      · rename_i q
        have h1 := orF_lt q
        unfold lkF at e
        split at e
        · exfalso
          split at e
          · split at e
            · cases e
            · exact absurd (Option.some.inj e) (by decide +kernel)
          · exact absurd (Option.some.inj e) (by decide +kernel)
        · omega
theorem clF_over {w L p d h now : Nat} {t : Blk} {o : Option BkA} (e : clF w L p d t o h now = some ("overlap" : Str)) : t.h.ht + 2 ≤ h := by
  cases o with
  | none => exact absurd (Option.some.inj e) (by decide +kernel)
  | some y =>
    unfold clF at e
    dsimp only at e
    split at e
    · rename_i q
      rw [← q]
      exact stF_over e
    · exact absurd (Option.some.inj e) (by decide +kernel)
theorem clF_lt {w L p d h now : Nat} {t : Blk} {o : Option BkA} (e : clF w L p d t o h now = none) : t.h.ht < h := by
  cases o with
  | none => cases e
  | some y =>
    unfold clF at e
    dsimp only at e
    split at e
    · rename_i q
      rw [← q]
      exact stF_none e
    · cases e
theorem putN_len {α : Type} {l : List (Nat × α)} {k : Nat} {a : α} : (putN l k a).length ≤ l.length + 1 := by
  unfold putN
  split
  · rw [List.length_map]
    omega
  · rw [List.length_append]
    exact Nat.le_refl _
/-- the stack of targets above b -/
structure Stk (h bh : Nat) (st : List Nat) (n : Nat) : Prop where
  last : st.getLast? = some h
  asc : (bh :: st).Pairwise (· < ·)
  fuel : 2 * (h - bh) + 1 ≤ n + st.length
theorem asc_len : ∀ {st : List Nat} {b h : Nat}, st.getLast? = some h → (b :: st).Pairwise (· < ·) → b + st.length ≤ h
  | [t], b, h, e, p => by
    have e2 : t = h := by simpa using e
    have h1 := (List.pairwise_cons.mp p).1 t (by simp)
    simp
    omega
  | t :: u :: st, b, h, e, p => by
    have p2 := List.pairwise_cons.mp p
    have ih := asc_len (st := u :: st) (b := t) (h := h) (by rw [← e, List.getLast?_cons_cons]) p2.2
    have h1 := p2.1 t (by simp)
    rw [List.length_cons]
    omega
theorem Stk.pos {h bh n : Nat} {st : List Nat} (s : Stk h bh st n) (hs : st ≠ []) : 1 ≤ n ∧ bh < h := by
  have h1 := asc_len s.last s.asc
  have h2 := s.fuel
  have h3 : 1 ≤ st.length := List.length_pos_iff.mpr hs
  omega
theorem Stk.push {h bh n t : Nat} {st : List Nat} (s : Stk h bh (t :: st) (n + 1)) (h2 : bh + 2 ≤ t) : Stk h bh ((bh + t) / 2 :: t :: st) n := by
  refine ⟨by rw [List.getLast?_cons_cons]; exact s.last, ?_, by have q := s.fuel; simp only [List.length_cons] at q ⊢; omega⟩
  have p := List.pairwise_cons.mp s.asc
  have p2 := List.pairwise_cons.mp p.2
  refine List.pairwise_cons.mpr ⟨fun y hy => ?_, List.pairwise_cons.mpr ⟨fun y hy => ?_, p.2⟩⟩
  · rcases List.mem_cons.mp hy with rfl | hy
    · omega
    · exact p.1 y hy
  · rcases List.mem_cons.mp hy with rfl | hy
    · omega
    · have := p2.1 y hy
      omega
theorem Stk.pop {h bh n t u : Nat} {st : List Nat} (s : Stk h bh (t :: u :: st) (n + 1)) : Stk h t (u :: st) n := by
  have p := List.pairwise_cons.mp s.asc
  have h1 := p.1 t (by simp)
  have h2 := asc_len (st := u :: st) (b := t) (by rw [← s.last, List.getLast?_cons_cons]) p.2
  have h3 := s.fuel
  simp only [List.length_cons] at h2 h3
  exact ⟨by rw [← s.last, List.getLast?_cons_cons], p.2, by simp only [List.length_cons]; omega⟩
section
variable {P : Program} {w : World} {K : PySem.W.Frag} {mg : Str → Option Value} {base : Heap} {B H : Hp} {σ : L2.St} {ta te : TE}
theorem dc_at {A : List (Nat × BkA)} {v : V} {k : Nat} {y : BkA} (h : Rp K H (dcD bkA A) v) (e : lk A k = some y) : Rp K H (bkA y) (.ref y.1) := by
  obtain ⟨a, m, rfl, h1, h2⟩ := dcD_rp.mp h
  obtain ⟨v, _, h4⟩ := h2.val.1 y e
  have ev : v = .ref y.1 := h4.1
  rw [← ev]
  exact h4
theorem ClX.keepW {x dx pT pS pW : Addr} {v1 v2 : V} {m : List (L2.Key × V)} {xs ys : List V} {w p d : Nat} {c : CSt} {u : HO} (h : ClX K B H x dx pT pS v1 v2 m xs w p d c) (l : LCell B H pW ys) (hn : pS ≠ pW) : ClX K B (upd H pW u) x dx pT pS v1 v2 m xs w p d c := by
  obtain ⟨n1, n2⟩ := l.nex h.ce
  have n3 : pT ≠ pW := fun e => by
    have := h.aT
    rw [e, l.at_] at this
    cases this
  exact ⟨h.ce.keep n1 n2 l.fx, h.rh, h.rp, h.fT, by rw [upd_ne n3]; exact h.aT, h.kr, h.lc.keep hn l.fx, h.rs⟩
/-- a list put out of the world -/
theorem gr_hl {B : Hp} {pW : Addr} {ys : List V} (h : B pW = some (.lst ys)) : Gr K B (hide [pW] B) := gr_hide (fun a ha => by rw [List.mem_singleton.mp ha]; exact .inl ⟨ys, h⟩) fun a ha c _ dx fs z => by
  rw [List.mem_singleton.mp ha, h] at z
  cases z
theorem ClX.hideW {x dx pT pS pW : Addr} {v1 v2 : V} {m : List (L2.Key × V)} {xs ys : List V} {w p d : Nat} {c : CSt} (h : ClX K B H x dx pT pS v1 v2 m xs w p d c) (hw : B pW = some (.lst ys)) : ClX K (hide [pW] B) H x dx pT pS v1 v2 m xs w p d c := by
  have g := gr_hl (K := K) hw
  have e : Ext (hide [pW] B) H := Ext.trans hide_ext h.ce.ext
  have fr : ∀ a, B a = none → hide [pW] B a = none := fun a ha => by
    cases q : hide [pW] B a with
    | none => rfl
    | some o =>
      have := hide_ext a o q
      rw [ha] at this
      cases this
  refine ⟨⟨e, fr _ h.ce.fx, fr _ h.ce.fd, h.ce.ne, h.ce.at_, h.ce.own⟩, h.rh.gr g _ (inferInstance : Pu (hshD w)).pu, h.rp.gr g _ (inferInstance : Pu (polD p d)).pu, fr _ h.fT, h.aT, h.kr.gr (fun _ => inferInstance) g, ⟨e, fr _ h.lc.fx, h.lc.at_⟩, h.rs.gr g _ (pus_iff.mpr fun d hd => ?_)⟩
  obtain ⟨s, _, rfl⟩ := List.mem_map.mp hd
  exact (inferInstance : Pu (stD s)).pu
theorem rgo_nil (r : RP) (n : Nat) (c : CSt) (b : BkA) : rgo r n c b [] = (none, c) := by cases n <;> rfl
theorem oS_flat {H H' : Hp} {o : Option Str} {v : V} (h : Rp K H (oS o) v) : Rp K H' (oS o) v := by cases o <;> exact h
theorem rev_snoc {t : Nat} {st : List Nat} : (t :: st).reverse.map nV = st.reverse.map nV ++ [nV t] := by rw [List.reverse_cons, List.map_append]; rfl
abbrev n_Client_reach : List Str := ["self", "answers", "height", "now", "base", "wanted", "target", "block", "fault"]
theorem sc_Client_reach : FnScope n_Client_reach ["self", "answers", "height", "now"] (defScope s_Client_reach) := ⟨rfl, rfl, rfl, by decide +kernel, rfl, by decide +kernel, by decide +kernel⟩
structure RcA where
  x : Addr
  c : CSt
  r : RP
  h : Nat
def spRch (K : PySem.W.Frag) : Sp := fun vs H Q _ => ∃ (B : Hp) (a : RcA) (vA vh vn : V), (a.r.Ok ∧ TrOk a.r a.c ∧ a.c.tr.length + a.h ≤ 50000 ∧ a.c.st.length + a.h ≤ 50000) ∧ vs = [.ref a.x, vA, vh, vn] ∧ ClAt K B H a.x a.r.w a.r.p a.r.d a.c ∧ Rp K B (dcD bkA a.r.A) vA ∧ Rp K B (nD a.h) vh ∧ Rp K B (nD a.r.now) vn ∧
  ∀ v B' H', Ext B B' → ClAt K B' H' a.x a.r.w a.r.p a.r.d (rch a.r a.c a.h).2 → Rp K B' (resD (rch a.r a.c a.h).1) v → Q v H'
theorem cl_back (T : Txt K mg) {B H : Hp} {x : Addr} {w p d : Nat} {c : CSt} {r : Res} {v : V} {H' : Hp} (cl : ClAt K B H x w p d c) (e : Ext H H') (rv : Rp K H' (resD r) v) : ∃ B', Ext B B' ∧ ClAt K B' H' x w p d c ∧ Rp K B' (resD r) v := by
  obtain ⟨dx, pT, pS, v1, v2, m, xs, cl⟩ := cl
  have c1 := cl.mono e
  exact ⟨_, c1.ehid, ⟨dx, pT, pS, v1, v2, m, xs, c1.wide⟩, rv.gr (c1.gr T) _ (inferInstance : Pu (resD r)).pu⟩
theorem met_Client_reach (T : Txt K mg) : C8.Met P w K mg base 14 (He.ga K "Client") "reach" (spRch K) [] := by
  obtain ⟨fd, F⟩ := T.f_Client_reach
  refine metD T.cl_Client T.me_Client_reach F (fun _ _ _ _ _ _ us hl => match us, hl with | [_, _, _, _], _ => rfl) sc_Client_reach (fun vs H Q E h => (by obtain ⟨B, a, vA, vh, vn, _, rfl, _⟩ := h; rfl)) (fun cdv A outer s H vs Q E hr h => ?_)
  obtain ⟨B, ⟨x, c0, r, h⟩, vA, vh, vn, ⟨hr0, ht0, hs1, hs2⟩, rfl, cl0, rA, rh, rn, k⟩ := h
  dsimp only at hr0 ht0 hs1 hs2 cl0 rA rh rn k
  refine ⟨_, (pss_cons (ps_if (pt_cmp (pc_din (hu_of hr) (pv 2) (pe_fld (pv 0) rfl)) (by rfl)) (pss_one (ps_ret (pe_tup (pa_cons pe_str pa_nil)))) pss_nil)
      (pss_cons (ps_if (pt_cmpR op_notN1 (C8.pe_mt (met_Client_start_fault T) hr (by decide) (pv 0) (pa_cons (pv 2) pa_nil)) pe_non (nomark _)) (pss_one (ps_ret (pe_tup (pa_cons pe_str (pa_cons (C8.pe_mt (met_Client_start_fault T) hr (by decide) (pv 0) (pa_cons (pv 2) pa_nil)) (pa_cons (pv 2) pa_nil)))))) pss_nil)
      (pss_cons (ps_set (i := 4) sc_Client_reach.nd rfl (Or.inl rfl) (C8.pe_mt (met_Client_base T) hr (by decide) (pv 0) (pa_cons (pv 2) pa_nil)))
      (pss_cons (ps_set (i := 5) sc_Client_reach.nd rfl (Or.inl rfl) (pe_lst (pa_cons (pv 2) pa_nil)))
      (pss_cons (ps_while PassesOwn.never (pt_cmpR op_gt (pe_callB call_len_seq (by rfl) T.b_len (by decide +kernel) (pa_cons (pv 5) pa_nil)) pe_int (nomark _)) (pss_cons (ps_set (i := 6) sc_Client_reach.nd rfl (Or.inl rfl) (pe_ix (ix_list : IxR _ (rIxL K)) (pv 5) (pe_un un_neg pe_int) (fun _ _ => rfl)))
      (pss_cons (ps_set (i := 7) sc_Client_reach.nd rfl (Or.inl rfl) (pe_dget1 (hu_of hr) (pv 1) (pv 6) ⟨rfl, rfl, rfl, rfl⟩))
      (pss_cons (ps_set (i := 8) sc_Client_reach.nd rfl (Or.inl rfl) (C8.pe_mt (met_Client_fault T) hr (by decide) (pv 0) (pa_cons (pv 4) (pa_cons (pv 7) (pa_cons (pv 6) (pa_cons (pv 3) pa_nil))))))
      (pss_one (ps_if (pt_cmpR op_isN1 (pv 8) pe_non (nomark _)) (pss_cons (ps_expr (C8.pe_mt (met_Client_step T) hr (by decide) (pv 0) (pa_cons (pv 4) (pa_cons (pv 7) pa_nil))))
      (pss_cons (ps_set (i := 4) sc_Client_reach.nd rfl (Or.inl rfl) (pv 7))
      (pss_one (ps_expr (pe_bm0 PySem.F.plainAttrs_list PySem.F.slot_list_pop PySem.F.type_list_pop mt_pop (pv 5)))))) (pss_one (ps_if (pt_cmpR op_eq (pv 8) (C8.pe_gc rfl T.c_AGAIN) (nomark _)) (pss_one (ps_expr (pe_bm PySem.F.plainAttrs_list PySem.F.slot_list_append PySem.F.type_list_append mt_append (pv 5) (pa_cons (pe_op op_fdiv (pe_op op_add (pe_fld (pe_fld (pv 4) rfl) rfl) (pv 6)) pe_int) pa_nil)))) (pss_one (ps_ret (pe_tup (pa_cons pe_str (pa_cons (pv 8) (pa_cons (pv 6) pa_nil))))))))))))))
      (pss_one (ps_ret (pe_tup (pa_cons pe_str pa_nil))))))))), ?_⟩
  have EB : Sl K B [some (.adr x), some (dcD bkA r.A), some (nD h), some (nD r.now), none, none, none, none, none] _ := Sl.start (N := n_Client_reach) (.cons (d := .adr x) rfl (.cons rA (.cons rh (.cons rn .nil))))
  obtain ⟨dx0, pT0, pS0, u1, u2, m0, xs0, cx0⟩ := cl0
  have E := EB.ext cx0.ce.ext
  have self0 : Rp K H (cliD r.w r.p r.d c0) (.ref x) := cx0.view
  have gself : ∀ {H2 : Hp} {σ : L2.St} {G : Sg}, Sl K H2 G σ → G[0]? = some (some (.adr x)) → Ext H H2 → Gv K (tVar 0) σ H2 (cliD r.w r.p r.d c0) := fun E h0 e => gv_view (gv_var E h0) (self0.ext e)
  have fin : ∀ {v : V} {H' : Hp}, Ext H H' → Rp K H' (resD (rch r c0 h).1) v → (rch r c0 h).2 = c0 → Q v H' := fun {v H'} e rv hc => by
    obtain ⟨B', h1, h2, h3⟩ := cl_back T ⟨dx0, pT0, pS0, u1, u2, m0, xs0, cx0⟩ e rv
    exact k v B' H' h1 (by rw [hc]; exact h2) h3
  -- height in self.trusted
  refine s_if E (gt_test (gv_din (gv_var E rfl) (gv_Cl_trusted T (gself E rfl Ext.rfl')))) (fun hc H1 e1 E1 => ?_) fun hc H1 e1 E1 => ?_
  · have er : rch r c0 h = (none, c0) := by rw [rch, if_pos hc]
    exact s_ret (gv_tup (ga_cons gv_str ga_nil) (by simp)) fun v H2 e2 r2 => fin (e1.trans e2) (by rw [er]; exact r2) (by rw [er])
  have h1 : ¬ (lk c0.tr h).isSome = true := by rw [hc]; decide
  refine s_nop ?_
  have hl0 : c0.tr.length ≤ 50000 := by omega
  have gsf : ∀ {H2 : Hp} {σ : L2.St}, Sl K H2 [some (.adr x), some (dcD bkA r.A), some (nD h), some (nD r.now), none, none, none, none, none] σ → Ext H H2 → Gv K (tMeth (He.ga K "Client") "start_fault" (spStf K) [] E0 (tVar 0) (tCons (tVar 2) tNil)) σ H2 (oS (sfF c0 h)) := fun E e => gv_meth (gself E rfl e) rfl (ga_cons (gv_var E rfl) ga_nil) (ok_stf ⟨r.w, r.p, r.d, c0⟩ hl0)
  refine s_if E1 (gt_test (gv_notN (gsf E1 e1) (oS_isN _))) (fun hc2 H2 e2 E2 => ?_) fun hc2 H2 e2 E2 => ?_
  · obtain ⟨f, hf⟩ := oS_some hc2
    have er : rch r c0 h = (some (f, h), c0) := by rw [rch, if_neg h1, hf]
    refine s_ret (d := resD (some (f, h))) (gv_tup (ga_cons gv_str (ga_cons ((gsf E2 (e1.trans e2)).is (by rw [hf]; rfl)) (ga_cons (gv_var E2 rfl) ga_nil))) (by simp)) fun v H3 e3 r3 => fin ((e1.trans e2).trans e3) (by rw [er]; exact r3) (by rw [er])
  have h2 : sfF c0 h = none := by
    cases q : sfF c0 h with
    | none => rfl
    | some f =>
      rw [q] at hc2
      cases hc2
  -- the base
  obtain ⟨b0, hb0, hbn⟩ : ∃ b, bsF c0.tr h = some b ∧ bsK c0.tr h ≠ [] := by
    have h3 : ¬ (bsF c0.tr h).isNone = true := fun z => by
      unfold sfF at h2
      split at h2
      · cases h2
      · first
          | cases h2
          | (rw [if_pos z] at h2; cases h2)
    cases q : bsF c0.tr h with
    | none => rw [q] at h3; exact absurd rfl h3
    | some b => exact ⟨b, rfl, fun z => by rw [bsF, if_pos z] at q; cases q⟩
  have hb0' : lk c0.tr (mxN (bsK c0.tr h)) = some b0 := by
    rw [bsF, if_neg hbn] at hb0
    exact hb0
  obtain ⟨okb0, htb0⟩ := ht0.tr _ _ hb0'
  have hlt0 : b0.2.h.ht < h := by
    rw [htb0]
    exact of_decide_eq_true (List.mem_filter.mp (mxN_mem hbn)).2
  have er : rch r c0 h = rgo r (2 * (h - b0.2.h.ht) + 2) c0 b0 [h] := by rw [rch, if_neg h1, h2, hb0]
  have rb0 : Rp K B (bkA b0) (.ref b0.1) := by
    obtain ⟨v, _, h4⟩ := cx0.kr.val.1 b0 hb0'
    have ev : v = .ref b0.1 := h4.1
    rw [← ev]
    exact h4
  refine s_nop ?_
  refine s_asg (d := bkA b0) E2 ((gv_meth (gself E2 rfl (e1.trans e2)) rfl (ga_cons (gv_var E2 rfl) ga_nil) (ok_ba ⟨r.w, r.p, r.d, c0⟩ hl0)).is (by rw [hb0]; rfl)) fun v3 H3 e3 r3 E3 => ?_
  have ev3 : v3 = .ref b0.1 := r3.1
  subst ev3
  refine s_asgN (ds := [nD h]) E3 (gn_lst (ga_cons (gv_var E3 rfl) ga_nil) (by simp)) fun pW ys H4 hpW e4 h4 r4 _ => ?_
  have eys : ys = [nV h] := by
    obtain ⟨y, rfl, ry⟩ := one_of r4
    rw [show y = nV h from ry]
  subst eys
  have e04 := ((e1.trans e2).trans e3).trans e4
  have cx4 := cx0.mono e04
  have hpW0 : H pW = none := fresh_back ((e1.trans e2).trans e3) hpW
  have nW0 : pS0 ≠ pW := fun z => by rw [← z, cx0.lc.at_] at hpW0; cases hpW0
  have lw4 : LCell B H4 pW [nV h] := ⟨cx4.ce.ext, fresh_back cx0.ce.ext hpW0, h4⟩
  have E4 := (EB.set (i := 4) (d := bkA b0) (v := .ref b0.1) rb0).set (i := 5) (d := .adr pW) (v := .ref pW) rfl
  let W : Nat → L2.St → Hp → Prop := fun n σ' H' => ∃ (c : CSt) (b : BkA) (st : List Nat) (B' : Hp) (dx pT pS : Addr) (v1 v2 : V) (m : List (L2.Key × V)) (xs : List V), rgo r n c b st = rch r c0 h ∧ Ext B B' ∧ ClX K B' H' x dx pT pS v1 v2 m xs r.w r.p r.d c ∧ LCell B' H' pW (st.reverse.map nV) ∧ pS ≠ pW ∧ BlkOk r.w r.L b.2 ∧ (st ≠ [] → Stk h b.2.h.ht st n ∧ c.tr.length + (h - b.2.h.ht) ≤ 50000 ∧ c.st.length + (h - b.2.h.ht) ≤ 50000) ∧
    Sl K B' [some (.adr x), some (dcD bkA r.A), some (nD h), some (nD r.now), some (bkA b), some (.adr pW), none, none, none] σ'
  refine s_while W (2 * (h - b0.2.h.ht) + 2) ⟨c0, b0, [h], B, dx0, pT0, pS0, u1, u2, m0, xs0, er.symm, Ext.rfl', cx4, lw4, nW0, okb0, fun _ => ⟨⟨rfl, by simp; exact hlt0, by simp⟩, by omega, by omega⟩, E4⟩ ?_
  rintro n σ5 H5 ⟨c, b, st, B5, dx, pT, pS, v1, v2, m, xs, hgo, e5, cl, lw, nW, okb, hst, E5⟩
  have rw5 : ∀ {H2 : Hp}, Ext H5 H2 → Rp K H2 (.lst (st.reverse.map nD)) (.ref pW) := fun e => (lw.rp (rps_nat _)).ext e
  have E5' := E5.ext cl.ce.ext
  refine ⟨_, gt_test (gv_gtN (gv_lenL (gv_view (gv_var E5' rfl) (rw5 Ext.rfl'))) (gv_nat 0)), fun hb H6 e6 => ?_, fun hb H6 e6 => ?_⟩
  · have hne : st ≠ [] := fun z => by rw [z] at hb; cases hb
    obtain ⟨hsk, hz1, hz2⟩ := hst hne
    obtain ⟨hn, hbh⟩ := hsk.pos hne
    cases st with
    | nil => exact absurd rfl hne
    | cons t st =>
    cases n with
    | zero => omega
    | succ n =>
    refine ⟨fun σ' H' => ∃ m', m' < n + 1 ∧ W m' σ' H', fun _ _ h => h, ?_⟩
    have cl6 := cl.mono e6
    have lw6 := lw.mono e6
    have E6 := E5.ext cl6.ce.ext
    refine s_asg (d := nD t) E6 (gv_ixL (gv_view (gv_var E6 rfl) (rw5 e6)) gv_neg1 (by rw [List.reverse_cons, List.map_append]; exact atI_last)) fun v6 H7 e7 r6 _ => ?_
    have cl7 := cl6.mono e7
    have E7 := E5.set (i := 6) (d := nD t) (v := v6) r6
    have E7' := E7.ext cl7.ce.ext
    refine s_asg (d := opD bkA (lk r.A t)) E7' (gv_dget1 (gv_var E7' rfl) (gv_var E7' rfl)) fun v7 H8 e8 r7 _ => ?_
    have cl8 := cl7.mono e8
    obtain ⟨vA', _, rA'⟩ := E5.2 1 _ rfl
    have r7B : Rp K B5 (opD bkA (lk r.A t)) v7 := by
      cases q : lk r.A t with
      | none =>
        rw [q] at r7
        exact r7
      | some y =>
        rw [q] at r7
        have ev : v7 = .ref y.1 := r7.1
        rw [ev]
        exact dc_at rA' q
    have E8 := E7.set (i := 7) (d := opD bkA (lk r.A t)) (v := v7) r7B
    have E8' := E8.ext cl8.ce.ext
    refine s_asg (d := oS (clF r.w r.L r.p r.d b.2 (lk r.A t) t r.now)) E8' (gv_meth (gv_view (gv_var E8' rfl) cl8.view) rfl (ga_cons (gv_var E8' rfl) (ga_cons (gv_var E8' rfl) (ga_cons (gv_var E8' rfl) (ga_cons (gv_var E8' rfl) ga_nil)))) (ok_cf ⟨r.w, r.p, r.d, c⟩ okb fun y hy => hr0.A t y hy)) fun v8 H9 e9 r8 _ => ?_
    have cl9 := cl8.mono e9
    have lw9 := ((lw6.mono e7).mono e8).mono e9
    have E9 := E8.set (i := 8) (d := oS (clF r.w r.L r.p r.d b.2 (lk r.A t) t r.now)) (v := v8) (oS_flat r8)
    refine s_if (E9.ext cl9.ce.ext) (gt_test (gv_isN (gv_var (E9.ext cl9.ce.ext) rfl) (oS_isN _))) (fun hc3 H10 e10 E10 => ?_) fun hc3 H10 e10 E10 => ?_
    · -- the block is good
      have hf := Option.isNone_iff_eq_none.mp hc3
      obtain ⟨y, hy, hty⟩ := clF_none hf
      have cl10 := cl9.mono e10
      have lw10 := lw9.mono e10
      have hz3 : c.tr.length ≤ 50000 ∧ c.st.length ≤ 50000 := by omega
      have hgo2 : rgo r (n + 1) c b (t :: st) = rgo r n (stepC c b y) y st := by
        rw [rgo, hf, hy]
      refine s_meth E10 rfl cl10.ce.at_ (by exact lookup_zip_none (fs := fCl) (by decide +kernel)) (ga_cons (gv_var E10 rfl) (ga_cons (gv_var E10 rfl) ga_nil)) fun vs H11 e11 r11 => ?_
      obtain ⟨va, vb, rfl, ra, rb⟩ := two_of r11
      have cl11 := cl10.mono e11
      have lw11 := lw10.mono e11
      have eva : va = .ref b.1 := ra.1
      subst eva
      rw [hy] at rb
      have evb : vb = .ref y.1 := rb.1
      subst evb
      obtain ⟨_, _, rb5⟩ := E5.2 4 _ rfl
      have rbB : Rp K B5 (bkA b) (.ref b.1) := by rw [← rb5.1]; exact rb5
      have ryB : Rp K B5 (bkA y) (.ref y.1) := dc_at rA' hy
      have b11 := cl11.ehid
      have hWL : pW ∉ clL x dx pT pS := fun ha => by
        obtain ⟨n1, n2⟩ := lw11.nex cl11.ce
        rcases List.mem_cons.mp ha with e | ha
        · have := cl11.aT
          rw [← e, lw11.at_] at this
          cases this
        rcases List.mem_cons.mp ha with e | ha
        · exact nW e.symm
        rcases List.mem_cons.mp ha with e | ha
        · exact n1 e.symm
        · exact n2 (List.mem_singleton.mp ha).symm
      have hW2 : hide (clL x dx pT pS) H11 pW = some (.lst (((t :: st)).reverse.map nV)) := by
        rw [hide_out hWL]
        exact lw11.at_
      refine ⟨_, x, ⟨r.w, r.p, r.d, c⟩, b, y, _, _, hz3, rfl, ⟨dx, pT, pS, v1, v2, m, xs, cl11.wide⟩, rbB.ext b11, ryB.ext b11, fun B12 H12 b12 cl12 => ?_⟩
      obtain ⟨dx', pT', pS', v1', v2', m', xs', cx⟩ := cl12
      have hW3 := b12 _ _ hW2
      have cx2 := cx.hideW hW3
      have lw12 : LCell (hide [pW] B12) H12 pW _ := ⟨Ext.trans hide_ext cx.ce.ext, hide_in (by simp), cx.ce.ext _ _ hW3⟩
      have b5 : Ext B5 (hide [pW] B12) := ext_hide (b11.trans b12) fun a ha => by
        rw [List.mem_singleton.mp ha]
        exact lw.fx
      have nW' : pS' ≠ pW := fun z => by
        have := cx.lc.fx
        rw [z, hW3] at this
        cases this
      have E12 := E9.ext b5
      have E12' := E12.ext cx2.ce.ext
      refine s_asg (d := bkA y) E12' (gv_weak (gv_var (i := 7) E12' rfl) (by rw [hy]; exact fun _ _ r => r)) fun v13 H13 e13 r13 _ => ?_
      have ev13 : v13 = .ref y.1 := r13.1
      subst ev13
      have cx13 := cx2.mono e13
      have lw13 := lw12.mono e13
      have E13 := E12.set (i := 4) (d := bkA y) (v := .ref y.1) (ryB.ext b5)
      have ep : H13 pW = some (.lst (st.reverse.map nV ++ [nV t])) := by rw [← rev_snoc]; exact lw13.at_
      refine s_pop (E13.ext cx13.ce.ext) rfl ep ⟨n, by omega, stepC c b y, y, st, _, dx', pT', pS', v1', v2', m', xs', by rw [← hgo2]; exact hgo, e5.trans b5, cx13.keepW lw13 nW', lw13.set, nW', hr0.A t y hy, fun hne2 => ?_, E13.wk ⟨.inr rfl, .inr rfl, .inr rfl, .inr rfl, .inr rfl, .inr rfl, .inl rfl, .inl rfl, .inl rfl, trivial⟩⟩
      cases st with
      | nil => exact absurd rfl hne2
      | cons u st =>
      have q1 := hsk.pop
      have q2 := clF_lt hf
      have q3 := (q1.pos (by simp)).2
      have q4 := putN_len (l := c.tr) (k := y.2.h.ht) (a := y)
      refine ⟨by rw [hty]; exact q1, ?_, ?_⟩
      · show (putN c.tr y.2.h.ht y).length + (h - y.2.h.ht) ≤ 50000
        omega
      · show (c.st ++ [(b.2.h.ht, y)]).length + (h - y.2.h.ht) ≤ 50000
        rw [List.length_append, List.length_singleton]
        omega
    · obtain ⟨f, hf⟩ := oS_some (by rw [hc3]; rfl)
      have cl10 := cl9.mono e10
      have lw10 := lw9.mono e10
      refine s_if E10 (gt_test (gv_eqStr (x := f) (gv_weak (gv_var (i := 8) E10 rfl) (by rw [hf]; exact fun _ _ r => r)) gv_str)) (fun hc4 H11 e11 E11 => ?_) fun hc4 H11 e11 E11 => ?_
      · have h4 := of_decide_eq_true hc4
        have hov : clF r.w r.L r.p r.d b.2 (lk r.A t) t r.now = some ("overlap" : Str) := by rw [hf, h4]
        have h5 := clF_over hov
        have hgo2 : rgo r (n + 1) c b (t :: st) = rgo r n c b ((b.2.h.ht + t) / 2 :: t :: st) := by
          rw [rgo, hov]
          exact if_pos rfl
        have cl11 := cl10.mono e11
        have lw11 := lw10.mono e11
        refine s_app (d := nD ((b.2.h.ht + t) / 2)) E11 lw11.at_ (gv_var E11 rfl) (gv_divN (gv_addN (gv_Header_height T (gv_Block_header T (gv_un (gv_var E11 rfl)))) (gv_var E11 rfl)) (gv_nat 2) (by omega) (by omega)) (by
          have := asc_len hsk.last hsk.asc
          rw [List.length_map, List.length_reverse]
          omega) fun v12 H12 e12 r12 _ h12 => ⟨n, by omega, c, b, (b.2.h.ht + t) / 2 :: t :: st, B5, dx, pT, pS, v1, v2, m, xs, by rw [← hgo2]; exact hgo, e5, (cl11.mono e12).keepW (lw11.mono e12) nW, ?_, nW, okb, fun _ => ⟨hsk.push h5, hz1, hz2⟩, E9.wk ⟨.inr rfl, .inr rfl, .inr rfl, .inr rfl, .inr rfl, .inr rfl, .inl rfl, .inl rfl, .inl rfl, trivial⟩⟩
        rw [show v12 = nV ((b.2.h.ht + t) / 2) from r12, rev_snoc (t := (b.2.h.ht + t) / 2) (st := t :: st)]
        exact (lw11.mono e12).set
      · have h4 := of_decide_eq_false hc4
        have hgo2 : rgo r (n + 1) c b (t :: st) = (some (f, t), c) := by
          rw [rgo, hf]
          exact if_neg h4
        have er2 : rch r c0 h = (some (f, t), c) := by rw [← hgo, hgo2]
        have cl11 := cl10.mono e11
        refine s_ret (d := resD (some (f, t))) (gv_tup (ga_cons gv_str (ga_cons (gv_weak (gv_var (i := 8) E11 rfl) (by rw [hf]; exact fun _ _ r => r)) (ga_cons (gv_var E11 rfl) ga_nil))) (by simp)) fun v H12 e12 r12 => ?_
        obtain ⟨B', q1, q2, q3⟩ := cl_back T ⟨dx, pT, pS, v1, v2, m, xs, cl11⟩ e12 r12
        exact k v B' H12 (e5.trans q1) (by rw [er2]; exact q2) (by rw [er2]; exact q3)
  · have hs : st = [] := by
      have h3 := of_decide_eq_false hb
      rw [List.length_map, List.length_reverse] at h3
      exact List.length_eq_zero_iff.mp (by omega)
    subst hs
    have er2 : rch r c0 h = (none, c) := by rw [← hgo, rgo_nil]
    refine s_ret (K := K) (d := resD none) (gv_tup (ga_cons gv_str ga_nil) (by simp)) fun v H12 e12 r12 => ?_
    obtain ⟨B', q1, q2, q3⟩ := cl_back T ⟨dx, pT, pS, v1, v2, m, xs, cl.mono e6⟩ e12 r12
    exact k v B' H12 (e5.trans q1) (by rw [er2]; exact q2) (by rw [er2]; exact q3)
end
end K38

set_option Elab.async false
set_option linter.all false
set_option maxRecDepth 100000
set_option maxHeartbeats 4000000
namespace K38
open PySem PySem.Spec PyProof.Rows L2
open PySem.W (Datum Tup)
local macro_rules | `(tactic| walk_at "gv1") => `(tactic| first | exact gv_int | exact gv_str | exact gv_non | exact gv_bl | (refine gv_var (by assumption) ?_; exact rfl) | refine gv_I0 ?_ ?_ | refine gv_Ib ?_ ?_ | refine gv_eqI ?_ ?_ | refine gv_neI ?_ ?_ | refine gt_test ?_ | refine gt_B ?_ | exact ga_nil | refine ga_cons ?_ ?_)
local macro_rules | `(tactic| walk_at "gv") => `(tactic| repeat walk_at "gv1")

inductive Told where
  | silent | same | fork (st : List (Nat × BkA)) | ref (z : Str × Nat)
def toldD : Told → D
  | .silent => .tup [.str "silent"]
  | .same => .tup [.str "same"]
  | .fork st => .tup [.str "fork", .lst (st.map stD)]
  | .ref z => resD (some z)
def c1st (b : BkA) : CSt := ⟨[(b.2.h.ht, b)], [], false⟩
/-- what asking a witness yields; b the lowest block of the client, z its block at the height -/
def askW (r : RP) (b z : BkA) (h : Nat) : Told := match lk r.A h with
  | none => .silent
  | some y => if y.2.h = z.2.h then .same else match (rch r (c1st b) h).1 with
    | none => .fork (rch r (c1st b) h).2.st
    | some f => .ref f
def Told.isF : Told → Bool
  | .fork _ => true
  | _ => false
section
variable {P : Program} {w : World} {K : PySem.W.Frag} {mg : Str → Option Value} {base : Heap} {B H : Hp} {σ : L2.St} {ta te : TE}
variable {nx : L2.St → Hp → Prop} {rt : V → Hp → Prop} {bk ct : L2.St → Hp → Prop}
theorem s_retMake {C : Addr} {sp : Sp} {E0' : XK} {tA : TA} {ds : List D} (ha : GvA K tA σ H ds) (k : ∀ vs H1 x dx, Ext H H1 → Rps K H1 ds vs → H1 x = none → H1 dx = none → dx ≠ x → sp (.ref x :: vs) (upd (upd H1 dx (.own x)) x (.ins C dx [])) (fun v H2 => v = .non ∧ rt (.ref x) H2) E0') : tRet (tMake C sp [] E0' tA) ⟨nx, rt, bk, ct⟩ σ H :=
  ha H Ext.rfl' _ fun vs H1 e r x dx hx hd ne => by
    rw [List.append_nil]
    exact k vs H1 x dx e r hx hd ne
theorem s_asgMake {C : Addr} {sp : Sp} {E0' : XK} {tA : TA} {ds : List D} {i : Nat} (ha : GvA K tA σ H ds) (k : ∀ vs H1 x dx, Ext H H1 → Rps K H1 ds vs → H1 x = none → H1 dx = none → dx ≠ x → sp (.ref x :: vs) (upd (upd H1 dx (.own x)) x (.ins C dx [])) (fun v H2 => v = .non ∧ nx (σ.set i (some (.ref x))) H2) E0') : tAsg (tMake C sp [] E0' tA) (gName i) ⟨nx, rt, bk, ct⟩ σ H :=
  ha H Ext.rfl' _ fun vs H1 e r x dx hx hd ne => by
    rw [List.append_nil]
    exact k vs H1 x dx e r hx hd ne
abbrev n_Client_follow : List Str := ["self", "answers", "heights", "now", "height", "fault"]
theorem sc_Client_follow : FnScope n_Client_follow ["self", "answers", "heights", "now"] (defScope s_Client_follow) := ⟨rfl, rfl, rfl, by decide +kernel, rfl, by decide +kernel, by decide +kernel⟩
structure FoA where
  z : CliA
  A : List (Nat × BkA)
  lo : Nat
  k : Nat
  now : Nat
def spFo (K : PySem.W.Frag) : Sp := spD K (α := FoA) (fun a => a.z.c.hal = true ∧ (lk a.z.c.tr a.lo).isSome = true ∧ (lk a.z.c.tr a.k).isSome = false ∧ a.z.c.tr.length ≤ 50000) (fun a => [a.z.D, dcD bkA a.A, .lst [nD a.lo, nD a.k], nD a.now]) (fun a => resD (some ("halted", a.k)))
theorem met_Client_follow (T : Txt K mg) : C8.Met P w K mg base 14 (He.ga K "Client") "follow" (spFo K) [] := by
  obtain ⟨fd, F⟩ := T.f_Client_follow
  refine metD T.cl_Client T.me_Client_follow F (fun _ _ _ _ _ _ us hl => match us, hl with | [_, _, _, _], _ => rfl) sc_Client_follow (fun vs H Q E h => (by obtain ⟨z, _, h, _⟩ := h; exact h.len)) (fun cdv A outer s H vs Q E hr h => ?_)
  obtain ⟨⟨z, A, lo, kk, now⟩, ⟨hh, hlo, hkk, hl⟩, hvs, k⟩ := h
  dsimp only at hvs k hh hlo hkk hl
  refine ⟨_, (pss_cons (ps_for PassesOwn.never rfl (pi_list (pv 2)) (pg_name (i := 4) sc_Client_follow.nd rfl (Or.inl rfl)) (pss_one (ps_if (pt_cmp (pc_dnotin (hu_of hr) (pv 4) (pe_fld (pv 0) rfl)) (by rfl)) (pss_cons (ps_set (i := 5) sc_Client_follow.nd rfl (Or.inl rfl) (C8.pe_mt (met_Client_start_fault T) hr (by decide) (pv 0) (pa_cons (pv 4) pa_nil)))
      (pss_cons (ps_if (pt_cmpR op_isN1 (pv 5) pe_non (nomark _)) (pss_one (ps_set (i := 5) sc_Client_follow.nd rfl (Or.inl rfl) (C8.pe_mt (met_Client_fault T) hr (by decide) (pv 0) (pa_cons (C8.pe_mt (met_Client_base T) hr (by decide) (pv 0) (pa_cons (pv 4) pa_nil)) (pa_cons (pe_dget1 (hu_of hr) (pv 1) (pv 4) ⟨rfl, rfl, rfl, rfl⟩) (pa_cons (pv 4) (pa_cons (pv 3) pa_nil))))))) pss_nil)
      (pss_cons (ps_if (pt_cmpR op_notN1 (pv 5) pe_non (nomark _)) (pss_one (ps_ret (pe_tup (pa_cons pe_str (pa_cons (pv 5) (pa_cons (pv 4) pa_nil)))))) pss_nil)
      (pss_one (ps_expr (C8.pe_mt (met_Client_step T) hr (by decide) (pv 0) (pa_cons (C8.pe_mt (met_Client_base T) hr (by decide) (pv 0) (pa_cons (pv 4) pa_nil)) (pa_cons (pe_dget (hu_of hr) (pv 1) (pv 4) (fun _ _ => rfl)) pa_nil)))))))) pss_nil)))
      (pss_one (ps_ret (pe_tup (pa_cons pe_str pa_nil))))), ?_⟩
  have E : Sl K H [some z.D, some (dcD bkA A), some (.lst [nD lo, nD kk]), some (nD now), none, none] _ := Sl.start (N := n_Client_follow) hvs
  have hsf : sfF z.c kk = some ("halted" : Str) := by rw [sfF, if_pos hh]
  refine s_forLV (l := [lo, kk]) (emb := nD) E rfl fun v rv => ⟨fun i σ' H' => i ≤ 1 ∧ Ext H H' ∧ Sl K H [some z.D, some (dcD bkA A), some (.lst [nD lo, nD kk]), some (nD now), none, none] σ', ⟨?_, ⟨by decide, Ext.rfl', E⟩, ?_, ?_⟩⟩
  · rintro i σ' H' ⟨_, e, _⟩
    exact rv.ext e
  · rintro i a x σ' H' ha ⟨hi, e, E'⟩ rx
    have rx' : x = .int (a : Int) := rx
    subst rx'
    have E2 := E'.set (i := 4) (d := nD a) (v := .int (a : Int)) rfl
    refine g_name (d := nD a) (E'.ext e) rfl fun _ => ?_
    rcases (by omega : i = 0 ∨ i = 1) with rfl | rfl
    · have ea : lo = a := Option.some.inj ha
      subst ea
      refine s_if (E2.ext e) (gt_test (gv_dnotin (gv_var (E2.ext e) rfl) (gv_Cl_trusted T (gv_var (E2.ext e) rfl)))) (fun hc => ?_) fun hc H3 e3 E3 => ?_
      · rw [hlo] at hc
        cases hc
      · exact s_nop ⟨by decide, e.trans e3, E2.wk ⟨.inr rfl, .inr rfl, .inr rfl, .inr rfl, .inl rfl, .inl rfl, trivial⟩⟩
    · have ea : kk = a := Option.some.inj ha
      subst ea
      refine s_if (E2.ext e) (gt_test (gv_dnotin (gv_var (E2.ext e) rfl) (gv_Cl_trusted T (gv_var (E2.ext e) rfl)))) (fun hc H3 e3 E3 => ?_) fun hc => ?_
      · refine s_asg (d := .str "halted") E3 ((gv_meth (gv_var E3 rfl) rfl (ga_cons (gv_var E3 rfl) ga_nil) (ok_stf z hl)).is (by rw [hsf]; rfl)) fun v5 H5 e5 r5 E5 => ?_
        refine s_if E5 (Gt.is (b := false) (gt_test (gv_isN (x := .str "halted") (gv_var E5 rfl) rfl)) rfl) (fun z => nomatch z) fun _ H6 e6 E6 => ?_
        refine s_nop ?_
        refine s_if E6 (Gt.is (b := true) (gt_test (gv_notN (x := .str "halted") (gv_var E6 rfl) rfl)) rfl) (fun _ H7 e7 E7 => ?_) fun z => nomatch z
        exact s_ret (d := resD (some ("halted", kk))) (gv_tup (ga_cons gv_str (ga_cons (gv_var E7 rfl) (ga_cons (gv_var E7 rfl) ga_nil))) (by simp)) fun v H8 e8 r8 => k v H8 (((((e.trans e3).trans e5).trans e6).trans e7).trans e8) r8
      · rw [hkk] at hc
        cases hc
  · rintro σ' H' ⟨hi, _⟩
    exact absurd hi (by show ¬ (2 ≤ 1); decide)
abbrev n_second_client : List Str := ["client", "lowest"]
theorem sc_second_client : FnScope n_second_client ["client"] (defScope s_second_client) := ⟨rfl, rfl, rfl, by decide +kernel, rfl, by decide +kernel, by decide +kernel⟩
def spSec (K : PySem.W.Frag) : Sp := fun vs H Q _ => ∃ (z : CliA) (L lo : Nat) (b : BkA), (z.c.tr.length < 64 ∧ (srtN (z.c.tr.map (·.1)))[0]? = some lo ∧ lk z.c.tr lo = some b ∧ BlkOk z.w L b.2 ∧ lsF z.w b.2 = none) ∧ Rps K H [cliD z.w z.p z.d z.c] vs ∧
  ∀ y B' H', Ext H B' → ClAt K B' H' y z.w z.p z.d (c1st b) → Q (.ref y) H'
theorem cal_second_client (T : Txt K mg) : C8.Cal P w K mg base 10 "second_client" (spSec K) [] := by
  obtain ⟨fd, F⟩ := T.f_second_client
  refine calD F T.g_second_client (fun _ _ _ _ _ _ us hl => match us, hl with | [_], _ => rfl) sc_second_client (fun vs H Q E h => (by obtain ⟨z, L, lo, b, _, r, _⟩ := h; exact r.len)) (fun cdv A outer s H vs Q E hr h => ?_)
  obtain ⟨z, L, lo, b, ⟨hl, hlo, hb, okb, hlf⟩, hvs, k⟩ := h
  refine ⟨_, (pss_cons (ps_set (i := 1) sc_second_client.nd rfl (Or.inl rfl) (C8.pe_mt (met_Client_block T) hr (by decide) (pv 0) (pa_cons (pe_ix (ix_list : IxR _ (rIxL K)) (C8.pe_mt0 (met_Client_heights T) hr (by decide) (pv 0)) pe_int (fun _ _ => rfl)) pa_nil)))
      (pss_one (ps_ret (C8.pe_mk (mak_Client T) hr (by decide) rfl (pa_cons (pe_fld (pv 0) rfl) (pa_cons (pe_fld (pv 0) rfl) (pa_cons (pv 1) pa_nil))))))), ?_⟩
  have E : Sl K H [some z.D, none] _ := Sl.start (N := n_second_client) hvs
  refine s_asg (d := bkA b) E ((gv_meth (gv_var E rfl) rfl (ga_cons (gv_ixLN (gn_meth (gv_var E rfl) rfl ga_nil (ok_hts z hl)).gv (gv_nat 0) (by rw [List.getElem?_map, hlo]; rfl)) ga_nil) (ok_cb z)).is (by rw [hb]; rfl)) fun v1 H1 e1 r1 E1 => ?_
  refine s_retMake (ga_cons (gv_Cl_hasher T (gv_var E1 rfl)) (ga_cons (gv_Cl_policy T (gv_var E1 rfl)) (ga_cons (gv_var E1 rfl) ga_nil))) fun vs H2 x dx e2 r2 hx hd ne => ?_
  exact ⟨x, dx, vs, H2, z.w, L, z.p, z.d, b, ⟨okb, hlf⟩, rfl, cell_new hx hd ne, r2, fun B' H' e3 cl => ⟨rfl, k x B' H' ((e1.trans e2).trans e3) cl⟩⟩
theorem s_asgCall {sp : Sp} {E0' : XK} {tA : TA} {ds : List D} {i : Nat} (ha : GvA K tA σ H ds) (k : ∀ vs H1, Ext H H1 → Rps K H1 ds vs → sp vs H1 (fun v H2 => nx (σ.set i (some v)) H2) E0') : tAsg (tCall sp [] E0' tA) (gName i) ⟨nx, rt, bk, ct⟩ σ H :=
  ha H Ext.rfl' _ fun vs H1 e r => by
    show sp (vs ++ []) H1 _ E0'
    rw [List.append_nil]
    exact k vs H1 e r
theorem ClX.halt {x dx pT pS : Addr} {v1 v2 : V} {m : List (L2.Key × V)} {xs : List V} {w p d : Nat} {c : CSt} {b : Bool} (h : ClX K B H x dx pT pS v1 v2 m xs w p d c) : ClX K B (upd H x (.ins (He.ga K "Client") dx (fCl.zip [v1, v2, .ref pT, .ref pS, .bl b]))) x dx pT pS v1 v2 m xs w p d ⟨c.tr, c.st, b⟩ := by
  obtain ⟨n1, n2⟩ := h.lc.nex h.ce
  have n3 : pT ≠ x := fun e => by
    have := h.aT
    rw [e, h.ce.at_] at this
    cases this
  exact ⟨h.ce.set _, h.rh, h.rp, h.fT, by rw [upd_ne n3]; exact h.aT, h.kr, h.lc.keep (fun e => n1 e.symm) h.ce.fx, h.rs⟩
theorem cl_backD (T : Txt K mg) {x : Addr} {w p d : Nat} {c : CSt} {dd : D} [hd : Pu dd] {v : V} {H' : Hp} (cl : ClAt K B H x w p d c) (e : Ext H H') (rv : Rp K H' dd v) : ∃ B', Ext B B' ∧ ClAt K B' H' x w p d c ∧ Rp K B' dd v := by
  obtain ⟨dx, pT, pS, v1, v2, m, xs, cl⟩ := cl
  have c1 := cl.mono e
  exact ⟨_, c1.ehid, ⟨dx, pT, pS, v1, v2, m, xs, c1.wide⟩, rv.gr (c1.gr T) _ hd.pu⟩
theorem put_hal {v1 v2 v3 v4 v5 v6 : V} : putF "halted" v6 (fCl.zip [v1, v2, v3, v4, v5]) = fCl.zip [v1, v2, v3, v4, v6] := rfl
abbrev n_ask_witness : List Str := ["client", "answers", "height", "now", "told", "other", "result"]
theorem sc_ask_witness : FnScope n_ask_witness ["client", "answers", "height", "now"] (defScope s_ask_witness) := ⟨rfl, rfl, rfl, by decide +kernel, rfl, by decide +kernel, by decide +kernel⟩
structure AwA where
  x : Addr
  c : CSt
  r : RP
  h : Nat
  lo : Nat
  b : BkA
  z : BkA
structure AwOk (a : AwA) : Prop where
  hr : a.r.Ok
  len : a.c.tr.length < 64
  lo : (srtN (a.c.tr.map (·.1)))[0]? = some a.lo
  hb : lk a.c.tr a.lo = some a.b
  bt : a.b.2.h.ht = a.lo
  ok : BlkOk a.r.w a.r.L a.b.2
  lf : lsF a.r.w a.b.2 = none
  hz : lk a.c.tr a.h = some a.z
  hh : a.h ≤ 40000
/-- the steps told are a new list -/
def Told.fr (t : Told) (v : V) (B' H : Hp) : Prop := ∀ st, t = .fork st → ∃ a q y, v = .ref a ∧ B' a = some (.tup [y, .ref q]) ∧ H q = none
def spAw (K : PySem.W.Frag) : Sp := fun vs H Q _ => ∃ (B : Hp) (a : AwA) (vA vh vn : V), AwOk a ∧ vs = [.ref a.x, vA, vh, vn] ∧ ClAt K B H a.x a.r.w a.r.p a.r.d a.c ∧ Rp K B (dcD bkA a.r.A) vA ∧ Rp K B (nD a.h) vh ∧ Rp K B (nD a.r.now) vn ∧
  ∀ v B' H', Ext B B' → ClAt K B' H' a.x a.r.w a.r.p a.r.d ⟨a.c.tr, a.c.st, a.c.hal || (askW a.r a.b a.z a.h).isF⟩ → Rp K B' (toldD (askW a.r a.b a.z a.h)) v → (askW a.r a.b a.z a.h).fr v B' H → Q v H'
theorem lk_one {α : Type} {k j : Nat} {a y : α} (h : lk [(k, a)] j = some y) : k = j ∧ a = y := by
  unfold lk at h
  rw [List.find?_cons] at h
  by_cases e : k = j
  · simp [e] at h
    exact ⟨e, h⟩
  · simp [e] at h
theorem cal_ask_witness (T : Txt K mg) : C8.Cal P w K mg base 15 "ask_witness" (spAw K) [] := by
  obtain ⟨fd, F⟩ := T.f_ask_witness
  refine calD F T.g_ask_witness (fun _ _ _ _ _ _ us hl => match us, hl with | [_, _, _, _], _ => rfl) sc_ask_witness (fun vs H Q E h => (by obtain ⟨B, a, vA, vh, vn, _, rfl, _⟩ := h; rfl)) (fun cdv A outer s H vs Q E hr h => ?_)
  obtain ⟨B, ⟨x, c, r, h, lo, b, z⟩, vA, vh, vn, hok, rfl, ⟨dx, pT, pS, u1, u2, m, xs, cx⟩, rA, rh, rn, k⟩ := h
  obtain ⟨hrk, hlen, hlo, hb, hbt, okb, hlf, hz, hh⟩ := hok
  dsimp only at hrk hlen hlo hb hbt okb hlf hz hh cx rA rh rn k
  refine ⟨_, (pss_cons (ps_set (i := 4) sc_ask_witness.nd rfl (Or.inl rfl) (pe_dget1 (hu_of hr) (pv 1) (pv 2) ⟨rfl, rfl, rfl, rfl⟩))
      (pss_cons (ps_if (pt_cmpR op_isN1 (pv 4) pe_non (nomark _)) (pss_one (ps_ret (pe_tup (pa_cons pe_str pa_nil)))) pss_nil)
      (pss_cons (ps_if (pt_cmpR (op_own (met_Header_eq T) hr (by decide)) (pe_fld (pv 4) rfl) (pe_fld (C8.pe_mt (met_Client_block T) hr (by decide) (pv 0) (pa_cons (pv 2) pa_nil)) rfl) (nomark _)) (pss_one (ps_ret (pe_tup (pa_cons pe_str pa_nil)))) pss_nil)
      (pss_cons (ps_set (i := 5) sc_ask_witness.nd rfl (Or.inl rfl) (C8.pe_c (cal_second_client T) hr (by decide) rfl (pa_cons (pv 0) pa_nil)))
      (pss_cons (ps_set (i := 6) sc_ask_witness.nd rfl (Or.inl rfl) (C8.pe_mt (met_Client_reach T) hr (by decide) (pv 5) (pa_cons (pv 1) (pa_cons (pv 2) (pa_cons (pv 3) pa_nil)))))
      (pss_cons (ps_if (pt_cmpR op_eq (pe_ix (ix_tup : IxR _ (rIxT K)) (pv 6) pe_int (fun _ _ => rfl)) pe_str (nomark _)) (pss_cons (ps_fld (pv 0) pe_bl rfl)
      (pss_one (ps_ret (pe_tup (pa_cons pe_str (pa_cons (pe_fld (pv 5) rfl) pa_nil)))))) pss_nil)
      (pss_one (ps_ret (pv 6))))))))), ?_⟩
  obtain ⟨pA, mA, rfl, hA1, hA2⟩ := dcD_rp.mp rA
  have EB : Sl K B [some (.adr x), some (.adr pA), some (nD h), some (nD r.now), none, none, none] _ := Sl.start (N := n_ask_witness) (.cons (d := .adr x) rfl (.cons (d := .adr pA) rfl (.cons rh (.cons rn .nil))))
  have E := EB.ext cx.ce.ext
  have clA : ClAt K B H x r.w r.p r.d c := ⟨dx, pT, pS, u1, u2, m, xs, cx⟩
  have fin : ∀ {v : V} {H' : Hp} (t : Told) [Pu (toldD t)], askW r b z h = t → t.isF = false → Ext H H' → Rp K H' (toldD t) v → Q v H' := fun {v H'} t _ ht hf e rv => by
    obtain ⟨B', h1, h2, h3⟩ := cl_backD T clA e rv
    refine k v B' H' h1 ?_ (by rw [ht]; exact h3) fun st z => ?_
    · rw [ht, hf, Bool.or_false]
      exact h2
    · rw [ht] at z
      rw [z] at hf
      cases hf
  refine s_asg (d := opD bkA (lk r.A h)) E (gv_dget1 (gv_view (gv_var E rfl) (rA.ext cx.ce.ext)) (gv_var E rfl)) fun v1 H1 e1 r1 _ => ?_
  have cx1 := cx.mono e1
  cases q : lk r.A h with
  | none =>
    rw [q] at r1
    have E1 := EB.set (i := 4) (d := .non) (v := v1) r1
    refine s_if (E1.ext cx1.ce.ext) (gt_test (gv_isN (x := .non) (gv_var (E1.ext cx1.ce.ext) rfl) rfl)) (fun _ H2 e2 E2 => ?_) fun z => nomatch z
    haveI : Pu (toldD .silent) := (inferInstance : Pu (.tup [.str "silent"]))
    exact s_ret (K := K) (d := toldD .silent) (gv_tup (ga_cons gv_str ga_nil) (by simp)) fun v H3 e3 r3 => fin .silent (by rw [askW, q]) rfl ((e1.trans e2).trans e3) r3
  | some y =>
    rw [q] at r1
    have ev1 : v1 = .ref y.1 := r1.1
    subst ev1
    have ryB : Rp K B (bkA y) (.ref y.1) := dc_at rA q
    have E1 := EB.set (i := 4) (d := bkA y) (v := .ref y.1) ryB
    have E1' := E1.ext cx1.ce.ext
    refine s_if E1' (gt_test (gv_isNA (w := 0) (gv_var E1' rfl))) (fun z => nomatch z) fun _ H2 e2 E2 => ?_
    have cx2 := cx1.mono e2
    have view2 : ∀ {H3 : Hp}, Ext H2 H3 → Rp K H3 (cliD r.w r.p r.d c) (.ref x) := fun e => cx2.view.ext e
    refine s_nop ?_
    refine s_if E2 (gt_test (gv_own (sp := spHe K) (x := hdrD y.2.h) (y := hdrD z.2.h) (gv_Block_header T (gv_un (gv_var E2 rfl))) (gv_Block_header T (gv_un (Gv.is (d' := bkA z) (gv_meth (gv_view (gv_var E2 rfl) (view2 Ext.rfl')) rfl (ga_cons (gv_var E2 rfl) ga_nil) (ok_cb ⟨r.w, r.p, r.d, c⟩)) (by show opD bkA (lk c.tr h) = bkA z; rw [hz]; rfl)))) ok_he)) (fun hc H3 e3 E3 => ?_) fun hc H3 e3 E3 => ?_
    · haveI : Pu (toldD .same) := (inferInstance : Pu (.tup [.str "same"]))
      exact s_ret (K := K) (d := toldD .same) (gv_tup (ga_cons gv_str ga_nil) (by simp)) fun v H4 e4 r4 => fin .same (by rw [askW, q]; exact if_pos (of_decide_eq_true hc)) rfl (((e1.trans e2).trans e3).trans e4) r4
    have hne := of_decide_eq_false hc
    have haw : askW r b z h = match (rch r (c1st b) h).1 with
      | none => .fork (rch r (c1st b) h).2.st
      | some f => .ref f := by rw [askW, q]; exact if_neg hne
    refine s_nop ?_
    refine s_asgCall (ga_cons (gv_var E3 rfl) ga_nil) fun vs H4 e4 r4 => ?_
    obtain ⟨vx, rfl, rx⟩ := one_of r4
    have evx : vx = .ref x := rx
    subst evx
    have cx4 := (cx2.mono e3).mono e4
    refine ⟨⟨r.w, r.p, r.d, c⟩, r.L, lo, b, ⟨hlen, hlo, hb, okb, hlf⟩, .cons (view2 (e3.trans e4)) .nil, fun y' B5 H5 e5 cl5 => ?_⟩
    obtain ⟨dy, pTy, pSy, w1, w2, my, ys, cy⟩ := cl5
    have bB5 : Ext B B5 := cx4.ce.ext.trans e5
    have E5 := (E1.ext bB5).set (i := 5) (d := .adr y') (v := .ref y') rfl
    refine s_methA (E5.ext cy.ce.ext) rfl cy.ce.at_ (by exact lookup_zip_none (fs := fCl) (by decide +kernel)) (ga_cons (gv_var (E5.ext cy.ce.ext) rfl) (ga_cons (gv_var (E5.ext cy.ce.ext) rfl) (ga_cons (gv_var (E5.ext cy.ce.ext) rfl) ga_nil))) fun vs H6 e6 r6 => ?_
    obtain ⟨va, _, rfl, ra, vb, _, rfl, rb, vc, _, rfl, rc, rfl⟩ := r6
    have eva : va = .ref pA := ra
    subst eva
    refine ⟨B5, ⟨y', c1st b, r, h⟩, _, vb, vc, ⟨hrk, ⟨fun k y2 hk => ?_⟩, ?_, ?_⟩, rfl, ⟨dy, pTy, pSy, w1, w2, my, ys, cy.mono e6⟩, rA.ext bB5, rb, rc, fun v7 B7 H7 e7 cl7 r7 => ?_⟩
    · obtain ⟨h1, h2⟩ := lk_one hk
      subst h2
      exact ⟨okb, h1⟩
    · show 1 + h ≤ 50000
      omega
    · show 0 + h ≤ 50000
      omega
    obtain ⟨dy', pTy', pSy', w1', w2', my', ys', cz⟩ := cl7
    dsimp only at cz r7 e7
    have E7 := (E5.ext e7).set (i := 6) (d := resD (rch r (c1st b) h).1) (v := v7) r7
    have E7' := E7.ext cz.ce.ext
    have b47 : Ext H4 B7 := e5.trans e7
    have cx7 := cx4.mono (b47.trans cz.ce.ext)
    have e07 : Ext H H7 := ((((e1.trans e2).trans e3).trans e4).trans b47).trans cz.ce.ext
    cases qr : (rch r (c1st b) h).1 with
    | some f =>
      rw [qr] at haw E7'
      refine s_if E7' (Gt.is (b := false) (gt_test (gv_eqStr (x := "refused") (y := "trusted") (gv_ixTN (gv_var E7' rfl) (gv_nat 0) rfl) gv_str)) (by decide +kernel)) (fun z => nomatch z) fun _ H8 e8 E8 => ?_
      refine s_nop ?_
      haveI : Pu (toldD (.ref f)) := (inferInstance : Pu (resD (some f)))
      exact s_ret (d := resD (some f)) (gv_var E8 rfl) fun v H9 e9 r9 => fin (.ref f) haw rfl ((e07.trans e8).trans e9) r9
    | none =>
      rw [qr] at haw E7'
      dsimp only at haw
      refine s_if E7' (Gt.is (b := true) (gt_test (gv_eqStr (x := "trusted") (y := "trusted") (gv_ixTN (gv_var E7' rfl) (gv_nat 0) rfl) gv_str)) (by decide +kernel)) (fun _ H8 e8 E8 => ?_) fun z => nomatch z
      have cx8 := cx7.mono e8
      have cz8 := cz.mono e8
      obtain ⟨w0, hw0, hw0'⟩ := E8.2 0 _ rfl
      have ew0 : w0 = .ref x := hw0'
      subst ew0
      refine ⟨_, hw0, x, _, dx, _, rfl, cx8.ce.at_, T.cl_Client, T.na_Client_halted, by show 5 < 1000; decide, ?_⟩
      rw [put_hal]
      have cx9 := cx8.wide.halt (b := true)
      haveI : NF K "Client" := nf_of T 5 (by decide) rfl
      have hBx : B7 x = some _ := b47 _ _ cx4.ce.at_
      have nyx : y' ≠ x := fun e => by
        have := cz.ce.fx
        rw [e, hBx] at this
        cases this
      have in7 : ∀ a ∈ clL x dx pT pS, ∃ o, B7 a = some o := fun a ha => by
        obtain ⟨o, ho⟩ := cx4.hok.some ha
        exact ⟨o, b47 _ _ ho⟩
      have nS : pSy' ∉ clL x dx pT pS := fun ha => by
        obtain ⟨o, ho⟩ := in7 _ ha
        have := cz.lc.fx
        rw [ho] at this
        cases this
      have nSx : pSy' ≠ x := fun e => nS (by rw [e]; simp)
      have g9 : Gr K H8 _ := gr_cell (u := .ins (He.ga K "Client") dx (fCl.zip [u1, u2, .ref pT, .ref pS, .bl true])) cx8.ce.at_
      have E9 := (E8.wk (G' := [some (.adr x), some (.adr pA), some (nD h), some (nD r.now), none, some (.adr y'), none]) ⟨.inr rfl, .inr rfl, .inr rfl, .inr rfl, .inl rfl, .inr rfl, .inl rfl, trivial⟩).gr g9
      have hy9 : (upd H8 x (.ins (He.ga K "Client") dx (fCl.zip [u1, u2, .ref pT, .ref pS, .bl true]))) y' = some (.ins (He.ga K "Client") dy' (fCl.zip [w1', w2', .ref pTy', .ref pSy', .bl (rch r (c1st b) h).2.hal])) := by
        rw [upd_ne nyx]
        exact cz8.ce.at_
      refine s_ret (K := K) (d := .tup [.str "fork", .adr pSy']) (gv_tup (ga_cons gv_str (ga_cons (gv_fld (fs := fCl) (d0s := [.any, .any, .any, .adr pSy', .any]) (gv_view (gv_var E9 rfl) ⟨y', dy', _, rfl, hy9, .cons trivial (.cons trivial (.cons trivial (.cons rfl (.cons trivial .nil))))⟩) T.cl_Client T.na_Client_steps (n := 3) (by decide +kernel) (by decide) rfl) ga_nil)) (by simp)) fun v H10 e10 r10 => ?_
      have cx10 := cx9.mono e10
      refine k v _ H10 ((((cx8.ehid)).trans cx10.ehid)) ⟨dx, pT, pS, u1, u2, m, xs, by rw [haw, show (c.hal || Told.isF (.fork (rch r (c1st b) h).2.st)) = true by rw [Told.isF, Bool.or_true]]; exact cx10.wide⟩ ?_ ?_
      rotate_left
      · intro st _
        have r11 := r10.gr (cx10.gr T) _ (inferInstance : Pu (.tup [.str "fork", .adr pSy'])).pu
        obtain ⟨a, _, rfl, h1, x1, _, rfl, hx1, x2, _, rfl, hx2, rfl⟩ := r11
        have ex2 : x2 = .ref pSy' := hx2
        subst ex2
        exact ⟨a, pSy', x1, rfl, h1, fresh_back ((((e1.trans e2).trans e3).trans e4).trans b47) cz.lc.fx⟩
      rw [haw]
      have r11 := r10.gr (cx10.gr T) _ (inferInstance : Pu (.tup [.str "fork", .adr pSy'])).pu
      obtain ⟨a, _, rfl, h1, x1, _, rfl, hx1, x2, _, rfl, hx2, rfl⟩ := r11
      have hS8 := cz8.lc.at_
      refine ⟨a, _, rfl, h1, .cons hx1 (.cons ⟨pSy', ys', hx2, ?_, ?_⟩ .nil)⟩
      · rw [hide_out nS]
        refine e10 _ _ ?_
        rw [upd_ne nSx]
        exact hS8
      · exact cz.rs.gr (((Gr.of cz8.ce.ext).trans (g9.trans (Gr.of e10))).trans (cx10.gr T)) _ (pus_iff.mpr fun d hd => by
          obtain ⟨s, _, rfl⟩ := List.mem_map.mp hd
          exact (inferInstance : Pu (stD s)).pu)
end
end K38

set_option Elab.async false
set_option linter.all false
set_option maxRecDepth 100000
set_option maxHeartbeats 4000000
namespace K38
open PySem PySem.Spec PyProof.Rows L2
open PySem.W (Datum Tup)
local macro_rules | `(tactic| walk_at "gv1") => `(tactic| first | exact gv_int | exact gv_str | exact gv_non | exact gv_bl | (refine gv_var (by assumption) ?_; exact rfl) | refine gv_I0 ?_ ?_ | refine gv_Ib ?_ ?_ | refine gv_eqI ?_ ?_ | refine gv_neI ?_ ?_ | refine gt_test ?_ | refine gt_B ?_ | exact ga_nil | refine ga_cons ?_ ?_)
local macro_rules | `(tactic| walk_at "gv") => `(tactic| repeat walk_at "gv1")

abbrev fNd : List Str := ["hasher", "chain", "blocks", "states"]
structure Nod where
  w : Nat
  L : Nat
  bs : List BkA
def nodD (n : Nod) : D := .ins "Node" fNd [hshD n.w, nD 7, .lst (n.bs.map bkA), .any]
structure Nod.Ok (n : Nod) : Prop where
  hw : WOk n.w
  ne : 1 ≤ n.bs.length
  le : n.bs.length ≤ 100
  ok : ∀ (i : Nat) z, n.bs[i]? = some z → BlkOk n.w n.L z.2
def ownF (bs : List BkA) (h : Hdr) : Bool := match bs[h.ht]? with
  | some z => decide (z.2.h = h)
  | none => false
abbrev Col := Inp × Inp
def cD : Option Col → D := opD fun p => colD p.1 p.2
def mcF (a b : Mem) : Col := ((9, nums a), (9, nums b))
def lcF (a b : Blk) : Option Col := if a.mem = b.mem then (if a.fol = b.fol then none else some (mcF a.fol b.fol)) else some (mcF a.mem b.mem)
def vcP (w : Nat) (a b : Hdr) : Col := if hdg w a = hdg w b then ((8, a.list), (8, b.list)) else ((10, [hdg w a]), (10, [hdg w b]))
def vcF (w : Nat) (bs : List BkA) (h : Hdr) : Option Col := (bs.find? fun z => decide (vmsg w z.2.h = vmsg w h)).map fun z => vcP w z.2.h h
def cuF (n : Nod) (o : BkA) (z : BkA) : List Nat := (bsg n.w n.L z.2).filter fun p => decide (p ∈ pubs o.2.fol)
inductive Vd where
  | col (p : Col) | cul (s : Nat) (ps : List Nat) (z : BkA)
def vdD : Vd → D
  | .col p => colD p.1 p.2
  | .cul s ps z => .tup [.str "culprits", nD s, .tup (ps.map nD), bkA z]
def jsF (n : Nod) (s : Nat) (z : BkA) : Option Vd := if ownF n.bs z.2.h = true then (match n.bs[z.2.h.ht]? with
  | some o => (lcF o.2 z.2).map Vd.col
  | none => none) else match n.bs[s]? with
  | none => none
  | some o => if z.2.h.ht = s + 1 ∧ z.2.mem ≠ o.2.fol then some (.col (mcF o.2.fol z.2.mem)) else match vcF n.w n.bs z.2.h with
    | some c => some (.col c)
    | none => some (.cul s (cuF n o z) z)
def oV : Option Vd → D := opD vdD
section
variable {P : Program} {w : World} {K : PySem.W.Frag} {mg : Str → Option Value} {base : Heap} {B H : Hp} {σ : L2.St} {ta te : TE}
theorem gv_Nd_hasher (T : Txt K mg) {n : Nod} (h : Gv K ta σ H (nodD n)) : Gv K (tFld K ta "hasher") σ H (hshD n.w) := gv_fld h T.cl_Node T.na_Node_hasher (n := 0) (by decide +kernel) (by decide) rfl
theorem gv_Nd_blocks (T : Txt K mg) {n : Nod} (h : Gv K ta σ H (nodD n)) : Gv K (tFld K ta "blocks") σ H (.lst (n.bs.map bkA)) := gv_fld h T.cl_Node T.na_Node_blocks (n := 2) (by decide +kernel) (by decide) rfl
abbrev n_Node_height : List Str := ["self"]
theorem sc_Node_height : FnScope n_Node_height ["self"] (defScope s_Node_height) := ⟨rfl, rfl, rfl, by decide +kernel, rfl, by decide +kernel, by decide +kernel⟩
def spNh (K : PySem.W.Frag) : Sp := spD K (α := Nod) (fun n => 1 ≤ n.bs.length) (fun n => [nodD n]) (fun n => nD (n.bs.length - 1))
theorem met_Node_height (T : Txt K mg) : C8.Met P w K mg base 1 (He.ga K "Node") "height" (spNh K) [] := by
  obtain ⟨fd, F⟩ := T.f_Node_height
  refine metD T.cl_Node T.me_Node_height F (fun _ _ _ _ _ _ us hl => match us, hl with | [_], _ => rfl) sc_Node_height (fun vs H Q E h => (by obtain ⟨z, _, h, _⟩ := h; exact h.len)) (fun cdv A outer s H vs Q E hr h => ?_)
  obtain ⟨n, hn, hvs, k⟩ := h
  dsimp only at hvs k hn
  refine ⟨_, (pss_one (ps_ret (pe_op op_sub (pe_callB call_len_seq (by rfl) T.b_len (by decide +kernel) (pa_cons (pe_fld (pv 0) rfl) pa_nil)) pe_int))), ?_⟩
  have E := Sl.start (N := n_Node_height) hvs
  exact s_ret (gv_subN ((gv_lenL (gv_Nd_blocks T (gv_var E rfl))).is (by rw [List.length_map])) (gv_nat 1) hn) k
theorem ok_nh {n : Nod} (h : 1 ≤ n.bs.length) : SpOk K (spNh K) [nodD n] H (nD (n.bs.length - 1)) := spD_ok n h
abbrev n_Node_block : List Str := ["self", "height"]
theorem sc_Node_block : FnScope n_Node_block ["self", "height"] (defScope s_Node_block) := ⟨rfl, rfl, rfl, by decide +kernel, rfl, by decide +kernel, by decide +kernel⟩
def spNb (K : PySem.W.Frag) : Sp := spD K (α := Nod × Nat × BkA) (fun a => a.1.bs[a.2.1]? = some a.2.2) (fun a => [nodD a.1, nD a.2.1]) (fun a => bkA a.2.2)
theorem met_Node_block (T : Txt K mg) : C8.Met P w K mg base 1 (He.ga K "Node") "block" (spNb K) [] := by
  obtain ⟨fd, F⟩ := T.f_Node_block
  refine metD T.cl_Node T.me_Node_block F (fun _ _ _ _ _ _ us hl => match us, hl with | [_, _], _ => rfl) sc_Node_block (fun vs H Q E h => (by obtain ⟨z, _, h, _⟩ := h; exact h.len)) (fun cdv A outer s H vs Q E hr h => ?_)
  obtain ⟨⟨n, i, z⟩, hn, hvs, k⟩ := h
  dsimp only at hvs k hn
  refine ⟨_, (pss_one (ps_ret (pe_ix (ix_list : IxR _ (rIxL K)) (pe_fld (pv 0) rfl) (pv 1) (fun _ _ => rfl)))), ?_⟩
  have E := Sl.start (N := n_Node_block) hvs
  exact s_ret (gv_ixLN (gv_Nd_blocks T (gv_var E rfl)) (gv_var E rfl) (by rw [List.getElem?_map, hn]; rfl)) k
theorem ok_nb {n : Nod} {i : Nat} {z : BkA} (h : n.bs[i]? = some z) : SpOk K (spNb K) [nodD n, nD i] H (bkA z) := spD_ok (n, i, z) h
abbrev n_members_collision : List Str := ["first", "second"]
theorem sc_members_collision : FnScope n_members_collision ["first", "second"] (defScope s_members_collision) := ⟨rfl, rfl, rfl, by decide +kernel, rfl, by decide +kernel, by decide +kernel⟩
def spMc (K : PySem.W.Frag) : Sp := spD K (α := Mem × Mem) (fun z => z.1.length ≤ 64 ∧ z.2.length ≤ 64) (fun z => [memD z.1, memD z.2]) (fun z => colD (9, nums z.1) (9, nums z.2))
theorem cal_members_collision (T : Txt K mg) : C8.Cal P w K mg base 2 "members_collision" (spMc K) [] := by
  obtain ⟨fd, F⟩ := T.f_members_collision
  refine calD F T.g_members_collision (fun _ _ _ _ _ _ us hl => match us, hl with | [_, _], _ => rfl) sc_members_collision (fun vs H Q E h => (by obtain ⟨z, _, h, _⟩ := h; exact h.len)) (fun cdv A outer s H vs Q E hr h => ?_)
  obtain ⟨⟨a, b⟩, ⟨h1, h2⟩, hvs, k⟩ := h
  dsimp only at hvs k h1 h2
  refine ⟨_, (pss_one (ps_ret (C8.pe_c (cal_collision T) hr (by decide) rfl (pa_cons (pe_tup (pa_cons (C8.pe_gc rfl T.c_MEMBERS_TAG) (pa_cons (C8.pe_c (cal_members_numbers T) hr (by decide) rfl (pa_cons (pv 0) pa_nil)) pa_nil))) (pa_cons (pe_tup (pa_cons (C8.pe_gc rfl T.c_MEMBERS_TAG) (pa_cons (C8.pe_c (cal_members_numbers T) hr (by decide) rfl (pa_cons (pv 1) pa_nil)) pa_nil))) pa_nil))))), ?_⟩
  have E := Sl.start (N := n_members_collision) hvs
  exact s_ret (d := colD (9, nums a) (9, nums b)) (gv_call (ga_cons (d := insD true (9, nums a)) (gv_tup (ga_cons (gv_nat 9) (ga_cons (gn_call (ga_cons (gv_var E rfl) ga_nil) (ok_MN h1)).gv ga_nil)) (by simp)) (ga_cons (d := insD true (9, nums b)) (gv_tup (ga_cons (gv_nat 9) (ga_cons (gn_call (ga_cons (gv_var E rfl) ga_nil) (ok_MN h2)).gv ga_nil)) (by simp)) ga_nil)) (ok_col (x := (9, nums a)) (y := (9, nums b)))) k
theorem ok_mc {a b : Mem} (h1 : a.length ≤ 64) (h2 : b.length ≤ 64) : SpOk K (spMc K) [memD a, memD b] H (colD (9, nums a) (9, nums b)) := spD_ok (a, b) ⟨h1, h2⟩
abbrev n_is_own : List Str := ["node", "header"]
theorem sc_is_own : FnScope n_is_own ["node", "header"] (defScope s_is_own) := ⟨rfl, rfl, rfl, by decide +kernel, rfl, by decide +kernel, by decide +kernel⟩
def spOwn (K : PySem.W.Frag) : Sp := spD K (α := Nod × Hdr) (fun z => 1 ≤ z.1.bs.length) (fun z => [nodD z.1, hdrD z.2]) (fun z => .bl (ownF z.1.bs z.2))
theorem cal_is_own (T : Txt K mg) : C8.Cal P w K mg base 7 "is_own" (spOwn K) [] := by
  obtain ⟨fd, F⟩ := T.f_is_own
  refine calD F T.g_is_own (fun _ _ _ _ _ _ us hl => match us, hl with | [_, _], _ => rfl) sc_is_own (fun vs H Q E h => (by obtain ⟨z, _, h, _⟩ := h; exact h.len)) (fun cdv A outer s H vs Q E hr h => ?_)
  obtain ⟨⟨n, hd⟩, hn, hvs, k⟩ := h
  dsimp only at hvs k hn
  refine ⟨_, (pss_one (ps_ret (pe_and (pe_chain op_le op_le pe_int (pe_fld (pv 1) rfl) (C8.pe_mt0 (met_Node_height T) hr (by decide) (pv 0))) (pe_one (pe_cmpR (op_own (met_Header_eq T) hr (by decide)) (pe_fld (C8.pe_mt (met_Node_block T) hr (by decide) (pv 0) (pa_cons (pe_fld (pv 1) rfl) pa_nil)) rfl) (pv 1) (nomark _)))))), ?_⟩
  have E := Sl.start (N := n_is_own) hvs
  have hch := gv_chainNN (gv_nat 0) (gv_Header_height T (gv_var (i := 1) (d := hdrD hd) E rfl)) (gv_meth (gv_var (i := 0) (d := nodD n) E rfl) (m := "height") rfl ga_nil (ok_nh (K := K) hn) (E := E0))
  cases q : n.bs[hd.ht]? with
  | none =>
    have hl : n.bs.length ≤ hd.ht := List.getElem?_eq_none_iff.mp q
    refine s_ret (d := .bl (ownF n.bs hd)) ((gv_andV (b := false) hch fun hc => ?_).is ?_) k
    · exfalso
      have h2 := of_decide_eq_true (Bool.and_eq_true_iff.mp hc).2
      omega
    · rw [ownF, q, decide_eq_false (show ¬ hd.ht ≤ n.bs.length - 1 by omega)]
      simp
  | some z =>
    have hl : hd.ht < n.bs.length := (List.getElem?_eq_some_iff.mp q).1
    refine s_ret (d := .bl (ownF n.bs hd)) ((gv_andV hch fun _ => gv_own (sp := spHe K) (x := hdrD z.2.h) (y := hdrD hd) (gv_Block_header T (gv_un (gv_meth (gv_var E rfl) rfl (ga_cons (gv_Header_height T (gv_var E rfl)) ga_nil) (ok_nb q)))) (gv_var E rfl) ok_he).is ?_) k
    rw [ownF, q, decide_eq_true (show hd.ht ≤ n.bs.length - 1 by omega), decide_eq_true (Nat.zero_le _)]
    rfl
theorem ok_own {n : Nod} {h : Hdr} (hn : 1 ≤ n.bs.length) : SpOk K (spOwn K) [nodD n, hdrD h] H (.bl (ownF n.bs h)) := spD_ok (n, h) hn
theorem hd_mem : HD (fun t : Tup (Nat × Nat) => D.tup (t.items.map fun p => .tup [nD p.1, nD p.2])) := hd_tup (hd_pair hd_nat hd_nat)
theorem gv_neM {a b : Mem} {tb : TE} (ha : Gv K ta σ H (memD a)) (hb : Gv K tb σ H (memD b)) : Gv K (tOp (rNeH K (Tup (Nat × Nat))) ta tb) σ H (.bl (!decide (a = b))) := (gv_neH hd_mem (x := ⟨a⟩) (y := ⟨b⟩) ha hb).is (by
  have e : ((⟨a⟩ : Tup (Nat × Nat)) ≠ ⟨b⟩) ↔ ¬ a = b := ⟨fun h z => h (by rw [z]), fun h z => h (by injection z)⟩
  rw [decide_eq_decide.mpr e, decide_not])
abbrev n_lists_collision : List Str := ["own", "block"]
theorem sc_lists_collision : FnScope n_lists_collision ["own", "block"] (defScope s_lists_collision) := ⟨rfl, rfl, rfl, by decide +kernel, rfl, by decide +kernel, by decide +kernel⟩
def spLc (K : PySem.W.Frag) : Sp := spD K (α := Blk × Blk) (fun z => (z.1.mem.length ≤ 64 ∧ z.1.fol.length ≤ 64) ∧ z.2.mem.length ≤ 64 ∧ z.2.fol.length ≤ 64) (fun z => [blkD z.1, blkD z.2]) (fun z => cD (lcF z.1 z.2))
theorem cal_lists_collision (T : Txt K mg) : C8.Cal P w K mg base 7 "lists_collision" (spLc K) [] := by
  obtain ⟨fd, F⟩ := T.f_lists_collision
  refine calD F T.g_lists_collision (fun _ _ _ _ _ _ us hl => match us, hl with | [_, _], _ => rfl) sc_lists_collision (fun vs H Q E h => (by obtain ⟨z, _, h, _⟩ := h; exact h.len)) (fun cdv A outer s H vs Q E hr h => ?_)
  obtain ⟨⟨a, b⟩, ⟨⟨h1, h2⟩, h3, h4⟩, hvs, k⟩ := h
  dsimp only at hvs k h1 h2 h3 h4
  refine ⟨_, (pss_cons (ps_if (pt_cmpR (op_neH (α := PySem.W.Tup (Nat × Nat)) hr (by decide)) (pe_fld (pv 0) rfl) (pe_fld (pv 1) rfl) (nomark _)) (pss_one (ps_ret (C8.pe_c (cal_members_collision T) hr (by decide) rfl (pa_cons (pe_fld (pv 0) rfl) (pa_cons (pe_fld (pv 1) rfl) pa_nil))))) pss_nil)
      (pss_cons (ps_if (pt_cmpR (op_neH (α := PySem.W.Tup (Nat × Nat)) hr (by decide)) (pe_fld (pv 0) rfl) (pe_fld (pv 1) rfl) (nomark _)) (pss_one (ps_ret (C8.pe_c (cal_members_collision T) hr (by decide) rfl (pa_cons (pe_fld (pv 0) rfl) (pa_cons (pe_fld (pv 1) rfl) pa_nil))))) pss_nil)
      (pss_one (ps_ret pe_non)))), ?_⟩
  have E := Sl.start (N := n_lists_collision) hvs
  refine s_if E (gt_test (gv_neM (gv_Block_members T (gv_var E rfl)) (gv_Block_members T (gv_var E rfl)))) (fun hc H1 e1 E1 => ?_) fun hc H1 e1 E1 => ?_
  · have q : ¬ a.mem = b.mem := by simpa using hc
    exact s_ret ((gv_call (ga_cons (gv_Block_members T (gv_var E1 rfl)) (ga_cons (gv_Block_members T (gv_var E1 rfl)) ga_nil)) (ok_mc h1 h3)).is (by rw [lcF, if_neg q]; rfl)) fun v H2 e2 r2 => k v H2 (e1.trans e2) r2
  have q : a.mem = b.mem := by simpa using hc
  refine s_nop ?_
  refine s_if E1 (gt_test (gv_neM (gv_Block_following T (gv_var E1 rfl)) (gv_Block_following T (gv_var E1 rfl)))) (fun hc2 H2 e2 E2 => ?_) fun hc2 H2 e2 E2 => ?_
  · have q2 : ¬ a.fol = b.fol := by simpa using hc2
    exact s_ret ((gv_call (ga_cons (gv_Block_following T (gv_var E2 rfl)) (ga_cons (gv_Block_following T (gv_var E2 rfl)) ga_nil)) (ok_mc h2 h4)).is (by rw [lcF, if_pos q, if_neg q2]; rfl)) fun v H3 e3 r3 => k v H3 ((e1.trans e2).trans e3) r3
  have q2 : a.fol = b.fol := by simpa using hc2
  refine s_nop ?_
  exact s_ret (gv_non.is (by rw [lcF, if_pos q, if_pos q2]; rfl)) fun v H3 e3 r3 => k v H3 ((e1.trans e2).trans e3) r3
theorem ok_lc {w L : Nat} {a b : Blk} (ha : BlkOk w L a) (hb : BlkOk w L b) : SpOk K (spLc K) [blkD a, blkD b] H (cD (lcF a b)) := spD_ok (a, b) ⟨⟨ha.mem.le, ha.fol.le⟩, hb.mem.le, hb.fol.le⟩
end
end K38

set_option Elab.async false
set_option linter.all false
set_option maxRecDepth 100000
set_option maxHeartbeats 4000000
namespace K38
open PySem PySem.Spec PyProof.Rows L2
open PySem.W (Datum Tup)
local macro_rules | `(tactic| walk_at "gv1") => `(tactic| first | exact gv_int | exact gv_str | exact gv_non | exact gv_bl | (refine gv_var (by assumption) ?_; exact rfl) | refine gv_I0 ?_ ?_ | refine gv_Ib ?_ ?_ | refine gv_eqI ?_ ?_ | refine gv_neI ?_ ?_ | refine gt_test ?_ | refine gt_B ?_ | exact ga_nil | refine ga_cons ?_ ?_)
local macro_rules | `(tactic| walk_at "gv") => `(tactic| repeat walk_at "gv1")

theorem Nod.Ok.at_ {n : Nod} (h : n.Ok) {i : Nat} (hi : i < n.bs.length) : ∃ z, n.bs[i]? = some z ∧ BlkOk n.w n.L z.2 := ⟨_, List.getElem?_eq_getElem hi, h.ok i _ (List.getElem?_eq_getElem hi)⟩
theorem find_first {α : Type} {p : α → Bool} {l : List α} {i : Nat} {z : α} (h : l[i]? = some z) (hp : p z = true) (hb : ∀ j y, j < i → l[j]? = some y → p y = false) : l.find? p = some z := by
  induction l generalizing i with
  | nil => simp at h
  | cons a r ih =>
    cases i with
    | zero =>
      have e : a = z := by simpa using h
      subst e
      rw [List.find?_cons, hp]
    | succ i =>
      have h0 := hb 0 a (by omega) rfl
      rw [List.find?_cons, h0]
      exact ih (i := i) (by simpa using h) fun j y hj hy => hb (j + 1) y (by omega) (by simpa using hy)
theorem find_none {α : Type} {p : α → Bool} {l : List α} (hb : ∀ j y, j < l.length → l[j]? = some y → p y = false) : l.find? p = none := by
  rw [List.find?_eq_none]
  intro x hx
  obtain ⟨i, hi, rfl⟩ := List.getElem_of_mem hx
  rw [hb i _ hi (List.getElem?_eq_getElem hi)]
  decide
section
variable {P : Program} {w : World} {K : PySem.W.Frag} {mg : Str → Option Value} {base : Heap} {B H : Hp} {σ : L2.St} {ta te : TE}
abbrev n_vote_collision : List Str := ["node", "header", "hasher", "message", "height", "own", "digests"]
theorem sc_vote_collision : FnScope n_vote_collision ["node", "header"] (defScope s_vote_collision) := ⟨rfl, rfl, rfl, by decide +kernel, rfl, by decide +kernel, by decide +kernel⟩
def spVc (K : PySem.W.Frag) : Sp := spD K (α := Nod × Hdr) (fun z => z.1.Ok ∧ HdrOk z.2) (fun z => [nodD z.1, hdrD z.2]) (fun z => cD (vcF z.1.w z.1.bs z.2))
theorem cal_vote_collision (T : Txt K mg) : C8.Cal P w K mg base 7 "vote_collision" (spVc K) [] := by
  obtain ⟨fd, F⟩ := T.f_vote_collision
  refine calD F T.g_vote_collision (fun _ _ _ _ _ _ us hl => match us, hl with | [_, _], _ => rfl) sc_vote_collision (fun vs H Q E h => (by obtain ⟨z, _, h, _⟩ := h; exact h.len)) (fun cdv A outer s H vs Q E hr h => ?_)
  obtain ⟨⟨n, hd⟩, ⟨hn, hh⟩, hvs, k⟩ := h
  dsimp only at hvs k hn hh
  have hw := hn.hw
  have hne := hn.ne
  have hle := hn.le
  refine ⟨_, (pss_cons (ps_set (i := 2) sc_vote_collision.nd rfl (Or.inl rfl) (pe_fld (pv 0) rfl))
      (pss_cons (ps_set (i := 3) sc_vote_collision.nd rfl (Or.inl rfl) (C8.pe_c (cal_vote_message T) hr (by decide) rfl (pa_cons (pv 2) (pa_cons (pv 1) pa_nil))))
      (pss_cons (ps_for PassesOwn.never rfl (pi_range1 rfl T.b_range (pa_cons (pe_op op_add (C8.pe_mt0 (met_Node_height T) hr (by decide) (pv 0)) pe_int) pa_nil)) (pg_name (i := 4) sc_vote_collision.nd rfl (Or.inl rfl)) (pss_cons (ps_set (i := 5) sc_vote_collision.nd rfl (Or.inl rfl) (pe_fld (C8.pe_mt (met_Node_block T) hr (by decide) (pv 0) (pa_cons (pv 4) pa_nil)) rfl))
      (pss_one (ps_if (pt_cmpR op_eq (C8.pe_c (cal_vote_message T) hr (by decide) rfl (pa_cons (pv 2) (pa_cons (pv 5) pa_nil))) (pv 3) (nomark _)) (pss_cons (ps_set (i := 6) sc_vote_collision.nd rfl (Or.inl rfl) (pe_tup (pa_cons (C8.pe_c (cal_header_digest T) hr (by decide) rfl (pa_cons (pv 2) (pa_cons (pv 5) pa_nil))) (pa_cons (C8.pe_c (cal_header_digest T) hr (by decide) rfl (pa_cons (pv 2) (pa_cons (pv 1) pa_nil))) pa_nil))))
      (pss_cons (ps_if (pt_cmpR op_eq (pe_ix (ix_tup : IxR _ (rIxT K)) (pv 6) pe_int (fun _ _ => rfl)) (pe_ix (ix_tup : IxR _ (rIxT K)) (pv 6) pe_int (fun _ _ => rfl)) (nomark _)) (pss_one (ps_ret (C8.pe_c (cal_collision T) hr (by decide) rfl (pa_cons (pe_tup (pa_cons (C8.pe_gc rfl T.c_HEADER_TAG) (pa_cons (C8.pe_mt0 (met_Header_fields T) hr (by decide) (pv 5)) pa_nil))) (pa_cons (pe_tup (pa_cons (C8.pe_gc rfl T.c_HEADER_TAG) (pa_cons (C8.pe_mt0 (met_Header_fields T) hr (by decide) (pv 1)) pa_nil))) pa_nil))))) pss_nil)
      (pss_one (ps_ret (C8.pe_c (cal_collision T) hr (by decide) rfl (pa_cons (pe_tup (pa_cons (C8.pe_gc rfl T.c_VOTE_TAG) (pa_cons (pe_slice sl_tup (pv 6) po_none (po_some pe_int)) pa_nil))) (pa_cons (pe_tup (pa_cons (C8.pe_gc rfl T.c_VOTE_TAG) (pa_cons (pe_slice sl_tup (pv 6) (po_some pe_int) po_none) pa_nil))) pa_nil))))))) pss_nil))))
      (pss_one (ps_ret pe_non))))), ?_⟩
  have E := Sl.start (N := n_vote_collision) hvs
  refine s_asg E (gv_Nd_hasher T (gv_var E rfl)) fun v1 H1 e1 _ E1 => ?_
  refine s_asg E1 (gv_call (ga_cons (gv_var E1 rfl) (ga_cons (gv_var E1 rfl) ga_nil)) (ok_vm hw hh)) fun v2 H2 e2 _ E2 => ?_
  have e02 := e1.trans e2
  refine s_forR1 (n := n.bs.length) (ga_cons ((gv_addN (gv_meth (gv_var (i := 0) (d := nodD n) E2 rfl) rfl ga_nil (ok_nh hne)) (gv_nat 1)).is (by rw [Nat.sub_add_cancel hne])) ga_nil) (by omega) (fun i σ' H' => i ≤ n.bs.length ∧ Ext H2 H' ∧ (∀ j y, j < i → n.bs[j]? = some y → decide (vmsg n.w y.2.h = vmsg n.w hd) = false) ∧ Sl K H' [some (nodD n), some (hdrD hd), some (hshD n.w), some (nD (vmsg n.w hd)), none, none, none] σ') (fun H3 e3 => ⟨Nat.zero_le _, e3, fun j y hj => absurd hj (by omega), E2.ext e3⟩) ?_ ?_
  · rintro i σ' H' hi ⟨_, e, hb, E3⟩
    obtain ⟨z, hz, okz⟩ := hn.at_ hi
    have E4 := E3.set (i := 4) (d := nD i) (v := .int ((i : Nat) : Int)) rfl
    refine s_asg E4 (gv_Block_header T (gv_un (gv_meth (gv_var E4 rfl) rfl (ga_cons (gv_var E4 rfl) ga_nil) (ok_nb hz)))) fun v5 H5 e5 _ E5 => ?_
    refine s_if E5 (gt_test (gv_eqN (gv_call (ga_cons (gv_var E5 rfl) (ga_cons (gv_var E5 rfl) ga_nil)) (ok_vm hw okz.h)) (gv_var E5 rfl))) (fun hc H6 e6 E6 => ?_) fun hc H6 e6 E6 => ?_
    · have hv : vcF n.w n.bs hd = some (vcP n.w z.2.h hd) := by rw [vcF, find_first (p := fun z : BkA => decide (vmsg n.w z.2.h = vmsg n.w hd)) hz hc hb]; rfl
      refine s_asg E6 (gv_tup (ga_cons (gv_call (ga_cons (gv_var E6 rfl) (ga_cons (gv_var E6 rfl) ga_nil)) (ok_hd hw okz.h)) (ga_cons (gv_call (ga_cons (gv_var E6 rfl) (ga_cons (gv_var E6 rfl) ga_nil)) (ok_hd hw hh)) ga_nil)) (by simp)) fun v7 H7 e7 _ E7 => ?_
      have e07 := (((e02.trans e).trans e5).trans e6).trans e7
      refine s_if E7 (gt_test (gv_eqN (gv_ixTN (gv_var E7 rfl) (gv_nat 0) rfl) (gv_ixTN (gv_var E7 rfl) (gv_nat 1) rfl))) (fun hc2 H8 e8 E8 => ?_) fun hc2 H8 e8 E8 => ?_
      · refine s_ret ((gv_call (ga_cons (d := insD false (8, z.2.h.list)) (gv_tup (ga_cons (gv_nat 8) (ga_cons (gv_meth (gv_var E8 rfl) rfl ga_nil ok_fl) ga_nil)) (by simp)) (ga_cons (d := insD false (8, hd.list)) (gv_tup (ga_cons (gv_nat 8) (ga_cons (gv_meth (gv_var E8 rfl) rfl ga_nil ok_fl) ga_nil)) (by simp)) ga_nil)) (ok_col (x := (8, z.2.h.list)) (y := (8, hd.list)))).is ?_) fun v9 H9 e9 r9 => k v9 H9 ((e07.trans e8).trans e9) r9
        rw [hv, vcP, if_pos (of_decide_eq_true hc2)]
        rfl
      · refine s_nop ?_
        refine s_ret ((gv_call (ga_cons (d := insD false (10, [hdg n.w z.2.h])) (gv_tup (ga_cons (gv_nat 10) (ga_cons (gv_slT (es := [nD (hdg n.w z.2.h)]) (gv_var E8 rfl) go_none (go_some (K := K) gv_int) (n := 2) rfl (by decide) rfl) ga_nil)) (by simp)) (ga_cons (d := insD false (10, [hdg n.w hd])) (gv_tup (ga_cons (gv_nat 10) (ga_cons (gv_slT (es := [nD (hdg n.w hd)]) (gv_var E8 rfl) (go_some (K := K) gv_int) go_none (n := 2) rfl (by decide) rfl) ga_nil)) (by simp)) ga_nil)) (ok_col (x := (10, [hdg n.w z.2.h])) (y := (10, [hdg n.w hd])))).is ?_) fun v9 H9 e9 r9 => k v9 H9 ((e07.trans e8).trans e9) r9
        rw [hv, vcP, if_neg (of_decide_eq_false hc2)]
        rfl
    · refine s_nop ⟨hi, (e.trans e5).trans e6, fun j y hj hy => ?_, E6.wk ⟨.inr rfl, .inr rfl, .inr rfl, .inr rfl, .inl rfl, .inl rfl, .inl rfl, trivial⟩⟩
      rcases Nat.lt_or_ge j i with q | q
      · exact hb j y q hy
      · have ej : j = i := by omega
        subst ej
        rw [hz] at hy
        cases hy
        exact hc
  · rintro σ' H' ⟨_, e, hb, E3⟩
    have hv : vcF n.w n.bs hd = none := by rw [vcF, find_none (p := fun z : BkA => decide (vmsg n.w z.2.h = vmsg n.w hd)) hb]; rfl
    exact s_ret (gv_non.is (by rw [hv]; rfl)) fun v9 H9 e9 r9 => k v9 H9 ((e02.trans e).trans e9) r9
theorem ok_vc {n : Nod} {h : Hdr} (hn : n.Ok) (hh : HdrOk h) : SpOk K (spVc K) [nodD n, hdrD h] H (cD (vcF n.w n.bs h)) := spD_ok (n, h) ⟨hn, hh⟩
abbrev n_culprits : List Str := ["node", "start", "block", "known", "publics", "public", "weight"]
theorem sc_culprits : FnScope n_culprits ["node", "start", "block"] (defScope s_culprits) := ⟨rfl, rfl, rfl, by decide +kernel, rfl, by decide +kernel, by decide +kernel⟩
structure CuA where
  n : Nod
  s : Nat
  o : BkA
  z : BkA
def spCu (K : PySem.W.Frag) : Sp := spD K (α := CuA) (fun a => a.n.Ok ∧ a.n.bs[a.s]? = some a.o ∧ BlkOk a.n.w a.n.L a.z.2) (fun a => [nodD a.n, nD a.s, bkA a.z]) (fun a => vdD (.cul a.s (cuF a.n a.o a.z) a.z))
theorem bsg_len {w L : Nat} {b : Blk} (h : BlkOk w L b) : (bsg w L b).length ≤ 1000 := by
  rw [bsg, sgs, (srtN_perm _).length_eq]
  exact Nat.le_trans (sgFold_len _ _ _ _ _) h.vt.1
theorem cal_culprits (T : Txt K mg) : C8.Cal P w K mg base 11 "culprits" (spCu K) [] := by
  obtain ⟨fd, F⟩ := T.f_culprits
  refine calD F T.g_culprits (fun _ _ _ _ _ _ us hl => match us, hl with | [_, _, _], _ => rfl) sc_culprits (fun vs H Q E h => (by obtain ⟨z, _, h, _⟩ := h; exact h.len)) (fun cdv A outer s H vs Q E hr h => ?_)
  obtain ⟨⟨n, s0, o, z⟩, ⟨hn, ho, hz⟩, hvs, k⟩ := h
  dsimp only at hvs k hn ho hz
  have oko := hn.ok s0 o ho
  have hf := oko.fol.le
  refine ⟨_, (pss_cons (ps_set (i := 3) sc_culprits.nd rfl (Or.inr rfl) (pe_lc (own := [("public", 5), ("weight", 6)]) (by rfl) sc_culprits.nd (pi_tup (pe_fld (C8.pe_mt (met_Node_block T) hr (by decide) (pv 0) (pa_cons (pv 1) pa_nil)) rfl)) (blkOk_by (own := [("public", 5), ("weight", 6)]) (N := n_culprits) (sc := defScope s_culprits) (by decide +kernel)) (fun _ _ _ _ _ => (show PG _ _ (gTup K 2 _) from (pg_tup (by rfl) (pgs_cons (pg_name (i := 5) sc_culprits.nd rfl (Or.inl rfl)) (pgs_cons (pg_name (i := 6) sc_culprits.nd rfl (Or.inl rfl)) pgs_nil))))) (fun _ _ _ _ _ => pts_nil) (fun _ _ _ _ _ => (pv 5))))
      (pss_cons (ps_set (i := 4) sc_culprits.nd rfl (Or.inl rfl) (pe_callTy call_tuple_of (by rfl) T.b_tuple (by decide +kernel) (pa_cons (pe_lc (own := [("public", 5)]) (by rfl) sc_culprits.nd (pi_tup (C8.pe_c (cal_block_signers T) hr (by decide) rfl (pa_cons (pe_fld (pv 0) rfl) (pa_cons (pv 2) pa_nil)))) (blkOk_by (own := [("public", 5)]) (N := n_culprits) (sc := defScope s_culprits) (by decide +kernel)) (fun _ _ _ _ _ => (pg_name (i := 5) sc_culprits.nd rfl (Or.inl rfl))) (fun _ _ _ _ _ => (pts_one (pt_cmpR (op_in_seq : OpR _ (compareOp .In) (rIn K false)) (pv 5) (pv 3) (by rfl)))) (fun _ _ _ _ _ => (pv 5))) pa_nil)))
      (pss_one (ps_ret (pe_tup (pa_cons pe_str (pa_cons (pv 1) (pa_cons (pv 4) (pa_cons (pv 2) pa_nil))))))))), ?_⟩
  have E := Sl.start (N := n_culprits) hvs
  refine s_asg (d := .lst ((pubs o.2.fol).map nD)) E ((gn_mapTP (l := o.2.fol) (e1 := fun p : Nat × Nat => nD p.1) (e2 := fun p : Nat × Nat => nD p.2) (f := fun p : Nat × Nat => nD p.1) E (gv_Block_following T (gv_un (gv_meth (gv_var E rfl) rfl (ga_cons (gv_var E rfl) ga_nil) (ok_nb ho)))) (by omega) (by simp) (by simp) fun p _ σ2 H2 e2 E2 => gv_var E2 rfl).is (by rw [pubs, List.map_map]; rfl)).gv fun v1 H1 e1 _ E1 => ?_
  refine s_asg (d := .tup ((cuF n o z).map nD)) E1 (gv_tupL (gn_filT (l := bsg n.w n.L z.2) (emb := nD) (f := nD) (p := fun p => decide (p ∈ pubs o.2.fol)) E1 (gv_call (ga_cons (gv_Nd_hasher T (gv_var E1 rfl)) (ga_cons (gv_un (gv_var E1 rfl)) ga_nil)) (ok_bs hz)) (Nat.le_trans (bsg_len hz) (by decide)) (by simp) (fun p _ σ2 H2 e2 E2 => gt_test (gv_inLN (gv_var E2 rfl) (gv_var E2 rfl))) fun p _ _ σ2 H2 e2 E2 => gv_var E2 rfl).gv) fun v2 H2 e2 _ E2 => ?_
  exact s_ret (d := vdD (.cul s0 (cuF n o z) z)) (gv_tup (ga_cons gv_str (ga_cons (gv_var E2 rfl) (ga_cons (gv_var E2 rfl) (ga_cons (gv_var E2 rfl) ga_nil)))) (by simp)) fun v3 H3 e3 r3 => k v3 H3 ((e1.trans e2).trans e3) r3
theorem ok_cu {n : Nod} {s : Nat} {o z : BkA} (hn : n.Ok) (ho : n.bs[s]? = some o) (hz : BlkOk n.w n.L z.2) : SpOk K (spCu K) [nodD n, nD s, bkA z] H (vdD (.cul s (cuF n o z) z)) := spD_ok (⟨n, s, o, z⟩ : CuA) ⟨hn, ho, hz⟩
end
end K38

set_option Elab.async false
set_option linter.all false
set_option maxRecDepth 100000
set_option maxHeartbeats 4000000
namespace K38
open PySem PySem.Spec PyProof.Rows L2
open PySem.W (Datum Tup)
local macro_rules | `(tactic| walk_at "gv1") => `(tactic| first | exact gv_int | exact gv_str | exact gv_non | exact gv_bl | (refine gv_var (by assumption) ?_; exact rfl) | refine gv_I0 ?_ ?_ | refine gv_Ib ?_ ?_ | refine gv_eqI ?_ ?_ | refine gv_neI ?_ ?_ | refine gt_test ?_ | refine gt_B ?_ | exact ga_nil | refine ga_cons ?_ ?_)
local macro_rules | `(tactic| walk_at "gv") => `(tactic| repeat walk_at "gv1")

def jssF (n : Nod) (st : List (Nat × BkA)) : Option Vd := st.findSome? fun s => jsF n s.1 s.2
structure VdOk (n : Nod) (v : Vd) : Prop where
  ok : match v with
    | .col p => ColOk n.w p.1 p.2
    | .cul s ps z => ∃ o, n.bs[s]? = some o ∧ BlkOk n.w n.L z.2 ∧ ownF n.bs z.2.h = false ∧ vcF n.w n.bs z.2.h = none ∧ (ps.length ≤ 1000 ∧ ∀ p ∈ ps, p ∈ bsg n.w n.L z.2 ∧ p ∈ pubs o.2.fol) ∧ mth o.2.fol ps 1 3 = true
theorem cD_oV (c : Option Col) : oV (c.map Vd.col) = cD c := by cases c <;> rfl
theorem findSome_first {α β : Type} {f : α → Option β} {l : List α} {i : Nat} {a : α} {b : β} (h : l[i]? = some a) (hp : f a = some b) (hb : ∀ j y, j < i → l[j]? = some y → f y = none) : l.findSome? f = some b := by
  induction l generalizing i with
  | nil => simp at h
  | cons x r ih =>
    cases i with
    | zero =>
      have e : x = a := by simpa using h
      subst e
      rw [List.findSome?_cons, hp]
    | succ i =>
      have h0 := hb 0 x (by omega) rfl
      rw [List.findSome?_cons, h0]
      exact ih (i := i) (by simpa using h) fun j y hj hy => hb (j + 1) y (by omega) (by simpa using hy)
theorem findSome_none {α β : Type} {f : α → Option β} {l : List α} (hb : ∀ j y, j < l.length → l[j]? = some y → f y = none) : l.findSome? f = none := by
  rw [List.findSome?_eq_none_iff]
  intro x hx
  obtain ⟨i, hi, rfl⟩ := List.getElem_of_mem hx
  exact hb i _ hi (List.getElem?_eq_getElem hi)
instance {v} : Pu (vdD v) := match v with
  | .col p => (inferInstance : Pu (colD p.1 p.2))
  | .cul s ps z => (inferInstance : Pu (.tup [.str "culprits", nD s, .tup (ps.map nD), bkA z]))
section
variable {P : Program} {w : World} {K : PySem.W.Frag} {mg : Str → Option Value} {base : Heap} {B H : Hp} {σ : L2.St} {ta te : TE} {G : Sg} {nx : L2.St → Hp → Prop} {rt : V → Hp → Prop} {bk ct : L2.St → Hp → Prop}
theorem s_quad {i j k l : Nat} {d1 d2 d3 d4 : D} (E : Sl K H G σ) (h : Gv K te σ H (.tup [d1, d2, d3, d4])) (q : ∀ v1 v2 v3 v4 H1, Ext H H1 → Sl K H1 ((((G.set i (some d1)).set j (some d2)).set k (some d3)).set l (some d4)) ((((σ.set i (some v1)).set j (some v2)).set k (some v3)).set l (some v4)) → nx ((((σ.set i (some v1)).set j (some v2)).set k (some v3)).set l (some v4)) H1) :
    tAsg te (gTup K 4 (gCons (gName i) (gCons (gName j) (gCons (gName k) (gCons (gName l) gNil))))) ⟨nx, rt, bk, ct⟩ σ H := h H Ext.rfl' _ fun v H1 e r => by
  obtain ⟨a, xs, rfl, h3, h4⟩ := r
  obtain ⟨v1, _, rfl, r1, v2, _, rfl, r2, v3, _, rfl, r3, v4, _, rfl, r4, rfl⟩ := h4
  exact ⟨a, _, rfl, SqT.of h3, rfl, v1, _, rfl, v2, _, rfl, v3, _, rfl, v4, _, rfl, rfl, q v1 v2 v3 v4 H1 e (((((E.ext e).set r1).set r2).set r3).set r4)⟩
theorem gt_isNV {o : Option Vd} (h : Gv K ta σ H (oV o)) : Gt (tTest (tOp rNotN ta (tC .non))) σ H (!o.isNone) := by
  cases o with
  | none => exact gt_test (gv_notN (x := .non) h rfl)
  | some v =>
    cases v with
    | col p => exact gt_test (gv_notN (x := colD p.1 p.2) (a := false) h rfl)
    | cul s ps z => exact gt_test (gv_notN (x := .tup [.str "culprits", nD s, .tup (ps.map nD), bkA z]) (a := false) h rfl)
theorem gt_isNC {o : Option Col} (h : Gv K ta σ H (cD o)) : Gt (tTest (tOp rIsN ta (tC .non))) σ H o.isNone := by
  cases o with
  | none => exact gt_test (gv_isN (x := .non) h rfl)
  | some p => exact gt_test (gv_isN (x := colD p.1 p.2) (a := false) h rfl)
abbrev n_judge_step : List Str := ["node", "start", "block", "old", "found"]
theorem sc_judge_step : FnScope n_judge_step ["node", "start", "block"] (defScope s_judge_step) := ⟨rfl, rfl, rfl, by decide +kernel, rfl, by decide +kernel, by decide +kernel⟩
def spJs (K : PySem.W.Frag) : Sp := spD K (α := CuA) (fun a => a.n.Ok ∧ a.n.bs[a.s]? = some a.o ∧ BlkOk a.n.w a.n.L a.z.2) (fun a => [nodD a.n, nD a.s, bkA a.z]) (fun a => oV (jsF a.n a.s a.z))
theorem cal_judge_step (T : Txt K mg) : C8.Cal P w K mg base 12 "judge_step" (spJs K) [] := by
  obtain ⟨fd, F⟩ := T.f_judge_step
  refine calD F T.g_judge_step (fun _ _ _ _ _ _ us hl => match us, hl with | [_, _, _], _ => rfl) sc_judge_step (fun vs H Q E h => (by obtain ⟨z, _, h, _⟩ := h; exact h.len)) (fun cdv A outer s H vs Q E hr h => ?_)
  obtain ⟨⟨n, s0, o, z⟩, ⟨hn, ho, hz⟩, hvs, k⟩ := h
  dsimp only at hvs k hn ho hz
  have oko := hn.ok s0 o ho
  refine ⟨_, (pss_cons (ps_if (pt_val (C8.pe_c (cal_is_own T) hr (by decide) rfl (pa_cons (pv 0) (pa_cons (pe_fld (pv 2) rfl) pa_nil)))) (pss_one (ps_ret (C8.pe_c (cal_lists_collision T) hr (by decide) rfl (pa_cons (C8.pe_mt (met_Node_block T) hr (by decide) (pv 0) (pa_cons (pe_fld (pe_fld (pv 2) rfl) rfl) pa_nil)) (pa_cons (pv 2) pa_nil))))) pss_nil)
      (pss_cons (ps_set (i := 3) sc_judge_step.nd rfl (Or.inl rfl) (C8.pe_mt (met_Node_block T) hr (by decide) (pv 0) (pa_cons (pv 1) pa_nil)))
      (pss_cons (ps_if (PW.pt (pw_and (pt_cmpR op_eq (pe_fld (pe_fld (pv 2) rfl) rfl) (pe_op op_add (pv 1) pe_int) (nomark _)) (pw_and1 (pt_cmpR (op_neH (α := PySem.W.Tup (Nat × Nat)) hr (by decide)) (pe_fld (pv 2) rfl) (pe_fld (pv 3) rfl) (nomark _))))) (pss_one (ps_ret (C8.pe_c (cal_members_collision T) hr (by decide) rfl (pa_cons (pe_fld (pv 3) rfl) (pa_cons (pe_fld (pv 2) rfl) pa_nil))))) pss_nil)
      (pss_cons (ps_set (i := 4) sc_judge_step.nd rfl (Or.inl rfl) (C8.pe_c (cal_vote_collision T) hr (by decide) rfl (pa_cons (pv 0) (pa_cons (pe_fld (pv 2) rfl) pa_nil))))
      (pss_one (ps_ret (pe_ifExp (pt_cmpR op_isN1 (pv 4) pe_non (nomark _)) (C8.pe_c (cal_culprits T) hr (by decide) rfl (pa_cons (pv 0) (pa_cons (pv 1) (pa_cons (pv 2) pa_nil)))) (pv 4)))))))), ?_⟩
  have E := Sl.start (N := n_judge_step) hvs
  refine s_if E (gt_B (gv_call (ga_cons (gv_var E rfl) (ga_cons (gv_Block_header T (gv_un (gv_var E rfl))) ga_nil)) (ok_own hn.ne))) (fun hc H1 e1 E1 => ?_) fun hc H1 e1 E1 => ?_
  · obtain ⟨o2, ho2⟩ : ∃ o2, n.bs[z.2.h.ht]? = some o2 := by
      unfold ownF at hc
      cases q : n.bs[z.2.h.ht]? with
      | none =>
        rw [q] at hc
        cases hc
      | some o2 => exact ⟨o2, rfl⟩
    refine s_ret ((gv_call (ga_cons (gv_un (gv_meth (gv_var E1 rfl) rfl (ga_cons (gv_Header_height T (gv_Block_header T (gv_un (gv_var E1 rfl)))) ga_nil) (ok_nb ho2))) (ga_cons (gv_un (gv_var E1 rfl)) ga_nil)) (ok_lc (hn.ok _ _ ho2) hz)).is ?_) fun v H2 e2 r2 => k v H2 (e1.trans e2) r2
    rw [jsF, if_pos hc, ho2]
    exact (cD_oV _).symm
  have hc' : ¬ ownF n.bs z.2.h = true := by rw [hc]; decide
  refine s_nop ?_
  refine s_asg E1 (gv_meth (gv_var E1 rfl) rfl (ga_cons (gv_var E1 rfl) ga_nil) (ok_nb ho)) fun v2 H2 e2 _ E2 => ?_
  refine s_if E2 (gt_and (gt_test (gv_eqN (gv_Header_height T (gv_Block_header T (gv_un (gv_var E2 rfl)))) (gv_addN (gv_var E2 rfl) (gv_nat 1)))) fun _ => gt_test (gv_neM (gv_Block_members T (gv_un (gv_var E2 rfl))) (gv_Block_following T (gv_un (gv_var E2 rfl))))) (fun hc2 H3 e3 E3 => ?_) fun hc2 H3 e3 E3 => ?_
  · have q : z.2.h.ht = s0 + 1 ∧ z.2.mem ≠ o.2.fol := by simpa using hc2
    refine s_ret ((gv_call (ga_cons (gv_Block_following T (gv_un (gv_var E3 rfl))) (ga_cons (gv_Block_members T (gv_un (gv_var E3 rfl))) ga_nil)) (ok_mc oko.fol.le hz.mem.le)).is ?_) fun v H4 e4 r4 => k v H4 (((e1.trans e2).trans e3).trans e4) r4
    rw [jsF, if_neg hc', ho]
    dsimp only
    rw [if_pos q]
    rfl
  have q : ¬ (z.2.h.ht = s0 + 1 ∧ z.2.mem ≠ o.2.fol) := fun q => by simp [q.1, q.2] at hc2
  have hjs : jsF n s0 z = match vcF n.w n.bs z.2.h with
    | some c => some (.col c)
    | none => some (.cul s0 (cuF n o z) z) := by
    rw [jsF, if_neg hc', ho]
    dsimp only
    rw [if_neg q] <;> rfl
  refine s_nop ?_
  refine s_asg (d := cD (vcF n.w n.bs z.2.h)) E3 (gv_call (ga_cons (gv_var E3 rfl) (ga_cons (gv_Block_header T (gv_un (gv_var E3 rfl))) ga_nil)) (ok_vc hn hz.h)) fun v4 H4 e4 _ E4 => ?_
  refine s_ret (d := oV (jsF n s0 z)) (gv_if (gt_isNC (gv_var E4 rfl)) (fun hc3 => ?_) fun hc3 => ?_) fun v H5 e5 r5 => k v H5 ((((e1.trans e2).trans e3).trans e4).trans e5) r5
  · have q3 := Option.isNone_iff_eq_none.mp hc3
    exact (gv_call (ga_cons (gv_var E4 rfl) (ga_cons (gv_var E4 rfl) (ga_cons (gv_var E4 rfl) ga_nil))) (ok_cu hn ho hz)).is (by rw [hjs, q3]; rfl)
  · refine (gv_var E4 rfl).is ?_
    rw [hjs]
    cases q3 : vcF n.w n.bs z.2.h with
    | none =>
      rw [q3] at hc3
      cases hc3
    | some c => rfl
theorem ok_js {n : Nod} {s : Nat} {o z : BkA} (hn : n.Ok) (ho : n.bs[s]? = some o) (hz : BlkOk n.w n.L z.2) : SpOk K (spJs K) [nodD n, nD s, bkA z] H (oV (jsF n s z)) := spD_ok (⟨n, s, o, z⟩ : CuA) ⟨hn, ho, hz⟩
abbrev n_judge_steps : List Str := ["node", "steps", "start", "block", "verdict"]
theorem sc_judge_steps : FnScope n_judge_steps ["node", "steps"] (defScope s_judge_steps) := ⟨rfl, rfl, rfl, by decide +kernel, rfl, by decide +kernel, by decide +kernel⟩
structure JssOk (n : Nod) (st : List (Nat × BkA)) : Prop where
  hn : n.Ok
  le : st.length ≤ 50000
  ok : ∀ s ∈ st, BlkOk n.w n.L s.2.2
  at_ : ∀ (i : Nat) (s : Nat × BkA), st[i]? = some s → (∀ (j : Nat) (y : Nat × BkA), j < i → st[j]? = some y → jsF n y.1 y.2 = none) → ∃ o, n.bs[s.1]? = some o
def spJss (K : PySem.W.Frag) : Sp := spD K (α := Nod × List (Nat × BkA)) (fun a => JssOk a.1 a.2) (fun a => [nodD a.1, .lst (a.2.map stD)]) (fun a => oV (jssF a.1 a.2))
theorem cal_judge_steps (T : Txt K mg) : C8.Cal P w K mg base 13 "judge_steps" (spJss K) [] := by
  obtain ⟨fd, F⟩ := T.f_judge_steps
  refine calD F T.g_judge_steps (fun _ _ _ _ _ _ us hl => match us, hl with | [_, _], _ => rfl) sc_judge_steps (fun vs H Q E h => (by obtain ⟨z, _, h, _⟩ := h; exact h.len)) (fun cdv A outer s H vs Q E hr h => ?_)
  obtain ⟨⟨n, st⟩, hj, hvs, k⟩ := h
  dsimp only at hvs k hj
  refine ⟨_, (pss_cons (ps_for PassesOwn.never rfl (pi_list (pv 1)) (pg_tup (by rfl) (pgs_cons (pg_name (i := 2) sc_judge_steps.nd rfl (Or.inl rfl)) (pgs_cons (pg_name (i := 3) sc_judge_steps.nd rfl (Or.inl rfl)) pgs_nil))) (pss_cons (ps_set (i := 4) sc_judge_steps.nd rfl (Or.inl rfl) (C8.pe_c (cal_judge_step T) hr (by decide) rfl (pa_cons (pv 0) (pa_cons (pv 2) (pa_cons (pv 3) pa_nil)))))
      (pss_one (ps_if (pt_cmpR op_notN1 (pv 4) pe_non (nomark _)) (pss_one (ps_ret (pv 4))) pss_nil))))
      (pss_one (ps_ret pe_non))), ?_⟩
  have E : Sl K H [some (nodD n), some (.lst (st.map stD)), none, none, none] _ := Sl.start (N := n_judge_steps) hvs
  refine s_forLV (l := st) (emb := stD) E rfl fun v rv => ⟨fun i σ' H' => i ≤ st.length ∧ Ext H H' ∧ (∀ j y, j < i → st[j]? = some y → jsF n y.1 y.2 = none) ∧ Sl K H [some (nodD n), some (.lst (st.map stD)), none, none, none] σ', ⟨?_, ⟨Nat.zero_le _, Ext.rfl', fun j y hj => absurd hj (by omega), E⟩, ?_, ?_⟩⟩
  · rintro i σ' H' ⟨_, e, _⟩
    exact rv.ext e
  · rintro i a x σ' H' ha ⟨hi, e, hb, E'⟩ rx
    have hil : i < st.length := (List.getElem?_eq_some_iff.mp ha).1
    obtain ⟨o, ho⟩ := hj.at_ i a ha hb
    have okz := hj.ok a (List.mem_of_getElem? ha)
    refine g_pair (d1 := nD a.1) (d2 := bkA a.2) (E'.ext e) rx fun v1 v2 rv1 rv2 E2 => ?_
    refine s_asg (d := oV (jsF n a.1 a.2)) E2 (gv_call (ga_cons (gv_var E2 rfl) (ga_cons (gv_var E2 rfl) (ga_cons (gv_var E2 rfl) ga_nil))) (ok_js hj.hn ho okz)) fun v3 H3 e3 r3 E3 => ?_
    refine s_if E3 (gt_isNV (gv_var E3 rfl)) (fun hc H4 e4 E4 => ?_) fun hc H4 e4 E4 => ?_
    · obtain ⟨vd, hvd⟩ : ∃ vd, jsF n a.1 a.2 = some vd := by
        cases q : jsF n a.1 a.2 with
        | none =>
          rw [q] at hc
          cases hc
        | some vd => exact ⟨vd, rfl⟩
      exact s_ret ((gv_var E4 rfl).is (by rw [jssF, findSome_first (f := fun s : Nat × BkA => jsF n s.1 s.2) ha hvd hb, hvd])) fun v H5 e5 r5 => k v H5 (((e.trans e3).trans e4).trans e5) r5
    · have hnn : jsF n a.1 a.2 = none := by
        cases q : jsF n a.1 a.2 with
        | none => rfl
        | some vd =>
          rw [q] at hc
          cases hc
      refine s_nop ⟨hil, (e.trans e3).trans e4, fun j y hj2 hy => ?_, ?_⟩
      · rcases Nat.lt_or_ge j i with q | q
        · exact hb j y q hy
        · have ej : j = i := by omega
          subst ej
          rw [ha] at hy
          cases hy
          exact hnn
      · exact ((E'.set (i := 2) (d := .any) (v := v1) trivial).set (i := 3) (d := .any) (v := v2) trivial).set (i := 4) (d := .any) (v := v3) trivial |>.wk ⟨.inr rfl, .inr rfl, .inl rfl, .inl rfl, .inl rfl, trivial⟩
  · rintro σ' H' ⟨_, e, hb, E'⟩
    exact s_ret (K := K) (gv_non.is (by rw [jssF, findSome_none (f := fun s : Nat × BkA => jsF n s.1 s.2) hb]; rfl)) fun v H5 e5 r5 => k v H5 (e.trans e5) r5
theorem ok_jss {n : Nod} {st : List (Nat × BkA)} (h : JssOk n st) : SpOk K (spJss K) [nodD n, .lst (st.map stD)] H (oV (jssF n st)) := spD_ok (n, st) h
abbrev n_verdict_holds : List Str := ["node", "verdict", "signed", "known", "word", "start", "publics", "block", "public", "weight"]
theorem sc_verdict_holds : FnScope n_verdict_holds ["node", "verdict"] (defScope s_verdict_holds) := ⟨rfl, rfl, rfl, by decide +kernel, rfl, by decide +kernel, by decide +kernel⟩
def spVh (K : PySem.W.Frag) : Sp := spD K (α := Nod × Vd) (fun a => a.1.Ok ∧ VdOk a.1 a.2) (fun a => [nodD a.1, vdD a.2]) (fun _ => .bl true)
theorem cal_verdict_holds (T : Txt K mg) : C8.Cal P w K mg base 11 "verdict_holds" (spVh K) [] := by
  obtain ⟨fd, F⟩ := T.f_verdict_holds
  refine calD F T.g_verdict_holds (fun _ _ _ _ _ _ us hl => match us, hl with | [_, _], _ => rfl) sc_verdict_holds (fun vs H Q E h => (by obtain ⟨z, _, h, _⟩ := h; exact h.len)) (fun cdv A outer s H vs Q E hr h => ?_)
  obtain ⟨⟨n, vd⟩, ⟨hn, hv⟩, hvs, k⟩ := h
  dsimp only at hvs k hn hv
  refine ⟨_, (pss_cons (ps_if (pt_cmpR op_eq (pe_ix (ix_tup : IxR _ (rIxT K)) (pv 1) pe_int (fun _ _ => rfl)) pe_str (nomark _)) (pss_one (ps_ret (C8.pe_c (cal_is_collision T) hr (by decide) rfl (pa_cons (pe_fld (pv 0) rfl) (pa_cons (pv 1) pa_nil))))) pss_nil)
      (pss_cons (ps_asg (pv 1) (pg_tup (by rfl) (pgs_cons (pg_name (i := 4) sc_verdict_holds.nd rfl (Or.inl rfl)) (pgs_cons (pg_name (i := 5) sc_verdict_holds.nd rfl (Or.inl rfl)) (pgs_cons (pg_name (i := 6) sc_verdict_holds.nd rfl (Or.inl rfl)) (pgs_cons (pg_name (i := 7) sc_verdict_holds.nd rfl (Or.inl rfl)) pgs_nil))))))
      (pss_cons (ps_if (PW.pt (pw_or (pt_not (pt_chain op_le op_le pe_int (pv 5) (C8.pe_mt0 (met_Node_height T) hr (by decide) (pv 0)))) (pw_or (pt_cmpR op_lt (pe_callB (cr_minT rfl hr) (by rfl) T.b_min (by decide +kernel) (pa_cons (C8.pe_mt0 (met_Header_fields T) hr (by decide) (pe_fld (pv 7) rfl)) pa_nil)) pe_int (nomark _)) (pw_or1 (pt_val (C8.pe_c (cal_is_own T) hr (by decide) rfl (pa_cons (pv 0) (pa_cons (pe_fld (pv 7) rfl) pa_nil)))))))) (pss_one (ps_ret pe_bl)) pss_nil)
      (pss_cons (ps_if (pt_cmpR op_notN1 (C8.pe_c (cal_vote_collision T) hr (by decide) rfl (pa_cons (pv 0) (pa_cons (pe_fld (pv 7) rfl) pa_nil))) pe_non (nomark _)) (pss_one (ps_ret pe_bl)) pss_nil)
      (pss_cons (ps_set (i := 2) sc_verdict_holds.nd rfl (Or.inr rfl) (C8.pe_c (cal_block_signers T) hr (by decide) rfl (pa_cons (pe_fld (pv 0) rfl) (pa_cons (pv 7) pa_nil))))
      (pss_cons (ps_set (i := 3) sc_verdict_holds.nd rfl (Or.inr rfl) (pe_lc (own := [("public", 8), ("weight", 9)]) (by rfl) sc_verdict_holds.nd (pi_tup (pe_fld (C8.pe_mt (met_Node_block T) hr (by decide) (pv 0) (pa_cons (pv 5) pa_nil)) rfl)) (blkOk_by (own := [("public", 8), ("weight", 9)]) (N := n_verdict_holds) (sc := defScope s_verdict_holds) (by decide +kernel)) (fun _ _ _ _ _ => (show PG _ _ (gTup K 2 _) from (pg_tup (by rfl) (pgs_cons (pg_name (i := 8) sc_verdict_holds.nd rfl (Or.inl rfl)) (pgs_cons (pg_name (i := 9) sc_verdict_holds.nd rfl (Or.inl rfl)) pgs_nil))))) (fun _ _ _ _ _ => pts_nil) (fun _ _ _ _ _ => (pv 8))))
      (pss_cons (ps_if (pt_not (pt_val (pe_callB (cr_all rfl) (by rfl) T.b_all (by decide +kernel) (pa_cons (pe_lc (own := [("public", 8)]) (by rfl) sc_verdict_holds.nd (pi_tup (pv 6)) (blkOk_by (own := [("public", 8)]) (N := n_verdict_holds) (sc := defScope s_verdict_holds) (by decide +kernel)) (fun _ _ _ _ _ => (pg_name (i := 8) sc_verdict_holds.nd rfl (Or.inl rfl))) (fun _ _ _ _ _ => pts_nil) (fun _ _ _ _ _ => (pe_and (pe_cmpR (op_in_seq : OpR _ (compareOp .In) (rIn K false)) (pv 8) (pv 2) (by rfl)) (pe_one (pe_cmpR (op_in_seq : OpR _ (compareOp .In) (rIn K false)) (pv 8) (pv 3) (by rfl)))))) pa_nil)))) (pss_one (ps_ret pe_bl)) pss_nil)
      (pss_one (ps_ret (C8.pe_c (cal_more_than T) hr (by decide) rfl (pa_cons (pe_fld (C8.pe_mt (met_Node_block T) hr (by decide) (pv 0) (pa_cons (pv 5) pa_nil)) rfl) (pa_cons (pv 6) (pa_cons pe_int (pa_cons pe_int pa_nil)))))))))))))), ?_⟩
  have hv := hv.ok
  cases vd with
  | col p =>
    have E : Sl K H [some (nodD n), some (colD p.1 p.2), none, none, none, none, none, none, none, none] _ := Sl.start (N := n_verdict_holds) hvs
    refine s_if E (Gt.is (b := true) (gt_test (gv_eqStr (x := "collision") (y := "collision") (gv_ixTN (gv_var E rfl) (gv_nat 0) rfl) gv_str)) (by decide +kernel)) (fun _ H1 e1 E1 => ?_) fun z => nomatch z
    exact s_ret (gv_call (ga_cons (gv_Nd_hasher T (gv_var E1 rfl)) (ga_cons (gv_var E1 rfl) ga_nil)) (ok_isCol hv)) fun v H2 e2 r2 => k v H2 (e1.trans e2) r2
  | cul s0 ps z =>
    obtain ⟨o, ho, hz, hown, hvc, ⟨hpl, hps⟩, hm⟩ := hv
    have hsl : s0 < n.bs.length := (List.getElem?_eq_some_iff.mp ho).1
    have oko := hn.ok s0 o ho
    have hf := oko.fol.le
    have E : Sl K H [some (nodD n), some (.tup [.str "culprits", nD s0, .tup (ps.map nD), bkA z]), none, none, none, none, none, none, none, none] _ := Sl.start (N := n_verdict_holds) hvs
    refine s_if E (Gt.is (b := false) (gt_test (gv_eqStr (x := "culprits") (y := "collision") (gv_ixTN (gv_var E rfl) (gv_nat 0) rfl) gv_str)) (by decide +kernel)) (fun z => nomatch z) fun _ H1 e1 E1 => ?_
    refine s_nop ?_
    refine s_quad E1 (gv_var E1 rfl) fun w1 w2 w3 w4 H2 e2 E2 => ?_
    refine s_if E2 (Gt.is (b := false) (gt_or (gt_not (gt_test (gv_chainNN (gv_nat 0) (gv_var E2 rfl) (gv_meth (gv_var (i := 0) (d := nodD n) E2 rfl) rfl ga_nil (ok_nh hn.ne))))) fun _ => gt_or (gt_minT (ns := z.2.h.list) (gv_meth (gv_Block_header T (gv_un (gv_var E2 rfl))) rfl ga_nil ok_fl) (by simp [Hdr.list])) fun _ => gt_B (gv_call (ga_cons (gv_var E2 rfl) (ga_cons (gv_Block_header T (gv_un (gv_var E2 rfl))) ga_nil)) (ok_own hn.ne))) ?_) (fun z => nomatch z) fun _ H3 e3 E3 => ?_
    · rw [hown, decide_eq_true (show s0 ≤ n.bs.length - 1 by omega), decide_eq_true (Nat.zero_le _)]
      rfl
    refine s_nop ?_
    refine s_if E3 (Gt.is (b := false) (gt_test (gv_notN (x := .non) (Gv.is (gv_call (ga_cons (gv_var E3 rfl) (ga_cons (gv_Block_header T (gv_un (gv_var E3 rfl))) ga_nil)) (ok_vc hn hz.h)) (by rw [hvc]; rfl)) rfl)) rfl) (fun z => nomatch z) fun _ H4 e4 E4 => ?_
    refine s_nop ?_
    refine s_asg (d := .tup ((bsg n.w n.L z.2).map nD)) E4 (gv_call (ga_cons (gv_Nd_hasher T (gv_var E4 rfl)) (ga_cons (gv_un (gv_var E4 rfl)) ga_nil)) (ok_bs hz)) fun v5 H5 e5 _ E5 => ?_
    refine s_asg (d := .lst ((pubs o.2.fol).map nD)) E5 ((gn_mapTP (l := o.2.fol) (e1 := fun p : Nat × Nat => nD p.1) (e2 := fun p : Nat × Nat => nD p.2) (f := fun p : Nat × Nat => nD p.1) E5 (gv_Block_following T (gv_un (gv_meth (gv_var E5 rfl) rfl (ga_cons (gv_var E5 rfl) ga_nil) (ok_nb ho)))) (by omega) (by simp) (by simp) fun p _ σ2 H2 e2 E2 => gv_var E2 rfl).is (by rw [pubs, List.map_map]; rfl)).gv fun v6 H6 e6 _ E6 => ?_
    refine s_if E6 (Gt.is (b := false) (gt_not (gt_B (gv_all (bs := ps.map fun p => decide (p ∈ bsg n.w n.L z.2) && decide (p ∈ pubs o.2.fol)) ((gn_mapT (l := ps) (emb := nD) (f := fun p => .bl (decide (p ∈ bsg n.w n.L z.2) && decide (p ∈ pubs o.2.fol))) E6 (gv_var E6 rfl) (Nat.le_trans hpl (by decide)) (by simp) fun p _ σ2 H7 e7 E7 => gv_andV (gv_inTN (gv_var E7 rfl) (gv_var E7 rfl)) fun _ => gv_inLN (gv_var E7 rfl) (gv_var E7 rfl)).is (by rw [List.map_map]; rfl)).gv))) ?_) (fun z => nomatch z) fun _ H7 e7 E7 => ?_
    · rw [Bool.not_eq_false', List.all_map, List.all_eq_true]
      intro p hp
      obtain ⟨q1, q2⟩ := hps p hp
      show (decide (p ∈ bsg n.w n.L z.2) && decide (p ∈ pubs o.2.fol)) = true
      rw [decide_eq_true q1, decide_eq_true q2]
      rfl
    refine s_nop ?_
    refine s_ret ((gv_call (ga_cons (gv_Block_following T (gv_un (gv_meth (gv_var E7 rfl) rfl (ga_cons (gv_var E7 rfl) ga_nil) (ok_nb ho)))) (ga_cons (gv_var E7 rfl) (ga_cons (gv_nat 1) (ga_cons (gv_nat 3) ga_nil)))) (ok_mth hf (by decide) (by decide))).is (by rw [hm])) fun v H8 e8 r8 => k v H8 (((((((e1.trans e2).trans e3).trans e4).trans e5).trans e6).trans e7).trans e8) r8
theorem ok_vh {n : Nod} {v : Vd} (hn : n.Ok) (h : VdOk n v) : SpOk K (spVh K) [nodD n, vdD v] H (.bl true) := spD_ok (n, v) ⟨hn, h⟩
end
end K38

set_option Elab.async false
set_option linter.all false
set_option maxRecDepth 100000
set_option maxHeartbeats 4000000
namespace K38
open PySem PySem.Spec PyProof.Rows L2
open PySem.W (Datum Tup)
local macro_rules | `(tactic| walk_at "gv1") => `(tactic| first | exact gv_int | exact gv_str | exact gv_non | exact gv_bl | (refine gv_var (by assumption) ?_; exact rfl) | refine gv_I0 ?_ ?_ | refine gv_Ib ?_ ?_ | refine gv_eqI ?_ ?_ | refine gv_neI ?_ ?_ | refine gt_test ?_ | refine gt_B ?_ | exact ga_nil | refine ga_cons ?_ ?_)
local macro_rules | `(tactic| walk_at "gv") => `(tactic| repeat walk_at "gv1")

abbrev Prs2 := List (Nat × Nat)
def bit (k d : Nat) : Nat := k / 2 ^ (31 - d) % 2
def lef (P : Prs2) (d : Nat) : Prs2 := P.filter fun p => decide (bit p.1 d = 0)
def rig (P : Prs2) (d : Nat) : Prs2 := P.filter fun p => !decide (bit p.1 d = 0)
structure PsOk (P : Prs2) : Prop where
  nd : (P.map (·.1)).Nodup
  le : P.length ≤ 60
  lt : ∀ p ∈ P, p.1 < 4294967296 ∧ p.2 < 4294967296
def mpF (w : Nat) : Nat → Nat → Prs2 → Inp
  | 0, _, [] => (2, [])
  | 0, _, p :: _ => (2, [p.1, p.2])
  | _ + 1, _, [] => (2, [])
  | _ + 1, _, [p] => (2, [p.1, p.2])
  | k + 1, d, P => (3, [(lef P d).length, dg w (mpF w k (d + 1) (lef P d)).1 (mpF w k (d + 1) (lef P d)).2, (rig P d).length, dg w (mpF w k (d + 1) (rig P d)).1 (mpF w k (d + 1) (rig P d)).2])
def mpD (w k d : Nat) (P : Prs2) : Nat := dg w (mpF w k d P).1 (mpF w k d P).2
theorem PsOk.fil {P : Prs2} (h : PsOk P) (f : Nat × Nat → Bool) : PsOk (P.filter f) := ⟨List.Sublist.nodup (List.Sublist.map _ List.filter_sublist) h.nd, Nat.le_trans (List.length_filter_le _ _) h.le, fun p hp => h.lt p (List.mem_filter.mp hp).1⟩
theorem mpF_ok {w : Nat} (hw : WOk w) : ∀ (k d : Nat) {P : Prs2}, PsOk P → (mpF w k d P).1 < 16 ∧ NsOk (mpF w k d P).2
  | 0, _, [], _ => ⟨by show 2 < 16; decide, nsOk_of (by show 0 ≤ 1000; decide) fun n hn => nomatch hn⟩
  | 0, _, p :: _, h => ⟨by show 2 < 16; decide, nsOk_of (by show 2 ≤ 1000; decide) fun n hn => by
    have q := h.lt p (by simp)
    have hn2 : n ∈ [p.1, p.2] := hn
    simp at hn2
    omega⟩
  | _ + 1, _, [], _ => ⟨by show 2 < 16; decide, nsOk_of (by show 0 ≤ 1000; decide) fun n hn => nomatch hn⟩
  | _ + 1, _, [p], h => ⟨by show 2 < 16; decide, nsOk_of (by show 2 ≤ 1000; decide) fun n hn => by
    have q := h.lt p (by simp)
    have hn2 : n ∈ [p.1, p.2] := hn
    simp at hn2
    omega⟩
  | k + 1, d, p :: q :: r, h => ⟨by show 3 < 16; decide, nsOk_of (by show 4 ≤ 1000; decide) fun n hn => by
    have h1 := (h.fil fun p => decide (bit p.1 d = 0)).le
    have h2 := (h.fil fun p => !decide (bit p.1 d = 0)).le
    have h3 := dg_small hw (mpF w k (d + 1) (lef (p :: q :: r) d)).1 (mpF w k (d + 1) (lef (p :: q :: r) d)).2
    have h4 := dg_small hw (mpF w k (d + 1) (rig (p :: q :: r) d)).1 (mpF w k (d + 1) (rig (p :: q :: r) d)).2
    have hn2 : n ∈ [(lef (p :: q :: r) d).length, dg w (mpF w k (d + 1) (lef (p :: q :: r) d)).1 (mpF w k (d + 1) (lef (p :: q :: r) d)).2, (rig (p :: q :: r) d).length, dg w (mpF w k (d + 1) (rig (p :: q :: r) d)).1 (mpF w k (d + 1) (rig (p :: q :: r) d)).2] := hn
    have h1' : (lef (p :: q :: r) d).length ≤ 60 := h1
    have h2' : (rig (p :: q :: r) d).length ≤ 60 := h2
    simp only [List.mem_cons, List.not_mem_nil, or_false] at hn2
    rcases hn2 with rfl | rfl | rfl | rfl <;> omega⟩
theorem krN_any {K : PySem.W.Frag} {H H' : Hp} : ∀ {l : Prs2} {m : List (L2.Key × V)}, KR K H nD l m → KR K H' nD l m
  | [], _, h => h
  | _ :: _, _, ⟨v, r, h1, h2, h3⟩ => ⟨v, r, h1, h2, krN_any h3⟩
theorem lk_at {α : Type} : ∀ {l : List (Nat × α)} {i : Nat} {a : Nat × α}, (l.map (·.1)).Nodup → l[i]? = some a → lk l a.1 = some a.2
  | p :: l, 0, a, _, h => by
    have e : p = a := by simpa using h
    subst e
    simp [lk, List.find?_cons]
  | p :: l, i + 1, a, hn, h => by
    rw [List.map_cons, List.nodup_cons] at hn
    have hm : a ∈ l := List.mem_of_getElem? (i := i) (by simpa using h)
    have ne : ¬ p.1 = a.1 := fun e => hn.1 (by rw [e]; exact List.mem_map.mpr ⟨a, hm, rfl⟩)
    have e1 : lk (p :: l) a.1 = lk l a.1 := by simp [lk, List.find?_cons, ne]
    rw [e1]
    exact lk_at hn.2 (by simpa using h)
theorem putN_new {α : Type} {l : List (Nat × α)} {k : Nat} {a : α} (h : k ∉ l.map (·.1)) : putN l k a = l ++ [(k, a)] := by
  unfold putN
  rw [if_neg]
  intro z
  obtain ⟨p, hp, e⟩ := List.any_eq_true.mp z
  exact h (List.mem_map.mpr ⟨p, hp, of_decide_eq_true e⟩)
section
variable {P : Program} {w : World} {K : PySem.W.Frag} {mg : Str → Option Value} {base : Heap} {B H : Hp} {σ : L2.St} {ta te tb : TE} {G : Sg} {nx : L2.St → Hp → Prop} {rt : V → Hp → Prop} {bk ct : L2.St → Hp → Prop} {tu : TS}
theorem gv_lenD {α : Type} {emb : α → D} {l : List (Nat × α)} (ha : Gv K ta σ H (dcD emb l)) : Gv K (tCB (fun xs H Q => ∃ a kvs, xs = [V.ref a] ∧ H a = some (.dK kvs) ∧ Q (.int (List.length kvs)) H) (tCons ta tNil)) σ H (nD l.length) := fun H1 e Q q =>
  ha H1 e _ fun v H2 e2 r => by
    obtain ⟨a, m, rfl, h1, h2⟩ := dcD_rp.mp r
    exact ⟨a, m, rfl, h1, by rw [h2.len]; exact q _ H2 e2 rfl⟩
theorem gv_min1 {α : Type} {emb : α → D} {k : Nat} {z : α} (ha : Gv K ta σ H (dcD emb [(k, z)])) : Gv K (tCB rMinK (tCons ta tNil)) σ H (nD k) := fun H1 e Q q =>
  ha H1 e _ fun v H2 e2 r => by
    obtain ⟨a, m, rfl, h1, h2⟩ := dcD_rp.mp r
    refine ⟨a, m, [(k : Int)], rfl, h1, h2.keys, by simp, fun i hi _ => ?_⟩
    have e : i = (k : Int) := by simpa using hi
    rw [e]
    exact q _ H2 e2 rfl
/-- over a dict's keys -/
theorem s_forKeys {α : Type} {emb : α → D} {l : List (Nat × α)} {i j : Nat} {pP : Addr} {mP : List (L2.Key × V)} (E : Sl K H G σ) (hi : G[i]? = some (some (.adr pP))) (hp : H pP = some (.dK mP)) (hk : KR K H emb l mP) (I : Obj → Nat → L2.St → Hp → Prop)
    (h0 : ∀ od, I od 0 σ (upd H pP (.frz od (.dK mP)))) (hkeep : ∀ od n σ' H', I od n σ' H' → H' pP = some (.frz od (.dK mP)))
    (ht : ∀ od n a σ' H', l[n]? = some a → I od n σ' H' → tu ⟨I od (n + 1), fun v H' => H' pP = some (.frz od (.dK mP)) ∧ rt v (upd H' pP (.dK mP)), fun σ' H' => H' pP = some (.frz od (.dK mP)) ∧ nx σ' (upd H' pP (.dK mP)), I od (n + 1)⟩ (σ'.set j (some (.int (a.1 : Int)))) H')
    (hd : ∀ od σ' H', I od l.length σ' H' → nx σ' (upd H' pP (.dK mP))) : tLock (tFor (iKeys (tVar i)) (gName j) tu) ⟨nx, rt, bk, ct⟩ σ H := by
  obtain ⟨v, h1, h2⟩ := E.2 i _ hi
  have ev : v = .ref pP := h2
  subst ev
  refine ⟨pP, .dK mP, hp, trivial, fun od => ⟨_, h1, pP, od, rfl, .inl ⟨mP, upd_same, ?_⟩⟩⟩
  refine ⟨fun n m σ' H' => m = l.length - n ∧ n ≤ l.length ∧ I od n σ' H', ⟨l.length, by simp, Nat.zero_le _, h0 od⟩, ?_⟩
  rintro n m σ' H' ⟨rfl, hn, hI⟩
  by_cases hlt : n < l.length
  · refine .inr ⟨⟨hkeep od n σ' H' hI, by rw [hk.len]; exact hlt⟩, I od (n + 1), fun σ2 H2 p2 => ⟨l.length - (n + 1), by omega, rfl, hlt, p2⟩, fun x H2 yl => ?_⟩
    obtain ⟨rfl, k, v, hkv, rfl⟩ := yl
    have ha : l[n]? = some l[n] := List.getElem?_eq_getElem hlt
    obtain ⟨v2, h3⟩ := hk.get ha
    rw [hkv] at h3
    cases h3
    exact ht od n _ σ' _ ha hI
  · have e : n = l.length := by omega
    subst e
    exact .inl ⟨⟨hkeep od _ σ' H' hI, by rw [hk.len]; exact Nat.le_refl _⟩, hkeep od _ σ' H' hI, hd od σ' H' hI⟩
abbrev n_bit_of : List Str := ["key", "depth"]
theorem sc_bit_of : FnScope n_bit_of ["key", "depth"] (defScope s_bit_of) := ⟨rfl, rfl, rfl, by decide +kernel, rfl, by decide +kernel, by decide +kernel⟩
def spBit (K : PySem.W.Frag) : Sp := spD K (α := Nat × Nat) (fun z => z.2 ≤ 31) (fun z => [nD z.1, nD z.2]) (fun z => nD (bit z.1 z.2))
theorem cal_bit_of (T : Txt K mg) : C8.Cal P w K mg base 1 "bit_of" (spBit K) [] := by
  obtain ⟨fd, F⟩ := T.f_bit_of
  refine calD F T.g_bit_of (fun _ _ _ _ _ _ us hl => match us, hl with | [_, _], _ => rfl) sc_bit_of (fun vs H Q E h => (by obtain ⟨z, _, h, _⟩ := h; exact h.len)) (fun cdv A outer s H vs Q E hr h => ?_)
  obtain ⟨⟨k0, d⟩, hd, hvs, k⟩ := h
  dsimp only at hvs k hd
  refine ⟨_, (pss_one (ps_ret (pe_op op_and (pe_op op_shr (pv 0) (pe_op op_sub (pe_op op_sub (C8.pe_gc rfl T.c_KEY_BITS) pe_int) (pv 1))) pe_int))), ?_⟩
  have E := Sl.start (N := n_bit_of) hvs
  exact s_ret (d := nD (bit k0 d)) (gv_and1 (gv_shrN (gv_var E rfl) (gv_subN (gv_subN (gv_nat 32) (gv_nat 1) (by omega)) (gv_var E rfl) (by omega)))) k
theorem ok_bit {k d : Nat} (h : d ≤ 31) : SpOk K (spBit K) [nD k, nD d] H (nD (bit k d)) := spD_ok (k, d) h
end
end K38

set_option Elab.async false
set_option linter.all false
set_option maxRecDepth 100000
set_option maxHeartbeats 4000000
namespace K38
open PySem PySem.Spec PyProof.Rows L2
open PySem.W (Datum Tup)
local macro_rules | `(tactic| walk_at "gv1") => `(tactic| first | exact gv_int | exact gv_str | exact gv_non | exact gv_bl | (refine gv_var (by assumption) ?_; exact rfl) | refine gv_I0 ?_ ?_ | refine gv_Ib ?_ ?_ | refine gv_eqI ?_ ?_ | refine gv_neI ?_ ?_ | refine gt_test ?_ | refine gt_B ?_ | exact ga_nil | refine ga_cons ?_ ?_)
local macro_rules | `(tactic| walk_at "gv") => `(tactic| repeat walk_at "gv1")

section
variable {P : Program} {w : World} {K : PySem.W.Frag} {mg : Str → Option Value} {base : Heap} {B H : Hp} {σ : L2.St} {ta te tb : TE} {G : Sg} {nx : L2.St → Hp → Prop} {rt : V → Hp → Prop} {bk ct : L2.St → Hp → Prop} {tu : TS}
theorem s_asgD {α : Type} {emb : α → D} {l : List (Nat × α)} {i : Nat} (E : Sl K H G σ) (h : GvDN K te σ H emb l) (k : ∀ p m H1, H p = none → Ext H H1 → H1 p = some (.dK m) → KR K H1 emb l m → Sl K H1 (G.set i (some (.adr p))) (σ.set i (some (.ref p))) → nx (σ.set i (some (.ref p))) H1) : tAsg te (gName i) ⟨nx, rt, bk, ct⟩ σ H :=
  h H Ext.rfl' _ fun p m H1 hp e h1 r => k p m H1 hp e h1 r ((E.ext e).set (d := .adr p) rfl)
theorem fil_snoc {P : Prs2} {n : Nat} {a : Nat × Nat} {f : Nat × Nat → Bool} (h : P[n]? = some a) : (P.take (n + 1)).filter f = (P.take n).filter f ++ (if f a = true then [a] else []) := by
  rw [take_snoc h, List.filter_append, List.filter_cons, List.filter_nil]
theorem key_new {P : Prs2} (hn : (P.map (·.1)).Nodup) {n : Nat} {a : Nat × Nat} (h : P[n]? = some a) (f : Nat × Nat → Bool) : a.1 ∉ ((P.take n).filter f).map (·.1) := fun z => by
  obtain ⟨b, hb, e⟩ := List.mem_map.mp z
  have hb2 := (List.mem_filter.mp hb).1
  obtain ⟨i, hi, rfl⟩ := List.getElem_of_mem hb2
  rw [List.length_take] at hi
  have hl : n < P.length := (List.getElem?_eq_some_iff.mp h).1
  have hin : i < n := by omega
  rw [List.getElem_take] at e
  have h2 := List.pairwise_iff_getElem.mp hn i n (by rw [List.length_map]; omega) (by rw [List.length_map]; exact hl) hin
  rw [List.getElem_map, List.getElem_map] at h2
  have h3 := (List.getElem?_eq_some_iff.mp h).2
  rw [h3] at h2
  exact h2 e
abbrev n_parted : List Str := ["pairs", "depth", "left", "right", "key"]
theorem sc_parted : FnScope n_parted ["pairs", "depth"] (defScope s_parted) := ⟨rfl, rfl, rfl, by decide +kernel, rfl, by decide +kernel, by decide +kernel⟩
def spPa (K : PySem.W.Frag) : Sp := spD K (α := Prs2 × Nat) (fun z => PsOk z.1 ∧ z.2 ≤ 31) (fun z => [dcD nD z.1, nD z.2]) (fun z => .tup [dcD nD (lef z.1 z.2), dcD nD (rig z.1 z.2)])
theorem cal_parted (T : Txt K mg) : C8.Cal P w K mg base 7 "parted" (spPa K) [] := by
  obtain ⟨fd, F⟩ := T.f_parted
  refine calD F T.g_parted (fun _ _ _ _ _ _ us hl => match us, hl with | [_, _], _ => rfl) sc_parted (fun vs H Q E h => (by obtain ⟨z, _, h, _⟩ := h; exact h.len)) (fun cdv A outer s H vs Q E hr h => ?_)
  obtain ⟨⟨Ps, d⟩, ⟨hP, hd⟩, hvs, k⟩ := h
  dsimp only at hvs k hP hd
  refine ⟨_, (pss_cons (ps_set (i := 2) sc_parted.nd rfl (Or.inl rfl) pe_dnewK)
      (pss_cons (ps_set (i := 3) sc_parted.nd rfl (Or.inl rfl) pe_dnewK)
      (pss_cons (ps_lock (ps_for PassesOwn.never rfl (pi_keys (pv 0)) (pg_name (i := 4) sc_parted.nd rfl (Or.inl rfl)) (pss_one (ps_if (pt_cmpR op_eq (C8.pe_c (cal_bit_of T) hr (by decide) rfl (pa_cons (pv 4) (pa_cons (pv 1) pa_nil))) pe_int (nomark _)) (pss_one (ps_dput (hu_of hr) (pv 2) (pv 4) (pe_dget (hu_of hr) (pv 0) (pv 4) (fun _ _ => rfl)) rfl)) (pss_one (ps_dput (hu_of hr) (pv 3) (pv 4) (pe_dget (hu_of hr) (pv 0) (pv 4) (fun _ _ => rfl)) rfl))))))
      (pss_one (ps_ret (pe_tup (pa_cons (pv 2) (pa_cons (pv 3) pa_nil)))))))), ?_⟩
  obtain ⟨vP, vd, rfl, rP, rd⟩ := two_of hvs
  obtain ⟨pP, mP, rfl, hPP, kP⟩ := dcD_rp.mp rP
  have E : Sl K H [some (.adr pP), some (nD d), none, none, none] _ := Sl.start (N := n_parted) (Rps.cons (d := .adr pP) rfl (.cons rd .nil))
  refine s_asgD (emb := nD) (l := []) E gd_new fun pL mL H1 hpL e1 hL kL E1 => ?_
  refine s_asgD (emb := nD) (l := []) E1 gd_new fun pR mR H2 hpR e2 hR kR E2 => ?_
  have e02 := e1.trans e2
  have exL : mL = [] := kL
  have exR : mR = [] := kR
  subst exL exR
  have hpR0 := fresh_back e1 hpR
  have nLP : pL ≠ pP := fun z => by rw [z, hPP] at hpL; cases hpL
  have nRP : pR ≠ pP := fun z => by rw [z, hPP] at hpR0; cases hpR0
  have nRL : pR ≠ pL := fun z => by rw [z, hL] at hpR; cases hpR
  let GI : Sg := [some (.adr pP), some (nD d), some (.adr pL), some (.adr pR), none]
  let I : Obj → Nat → L2.St → Hp → Prop := fun od n σ' H' => H' pP = some (.frz od (.dK mP)) ∧ (∀ a o, a ≠ pP → H a = some o → H' a = some o) ∧ (∃ m, H' pL = some (.dK m) ∧ KR K H' nD (lef (Ps.take n) d) m) ∧ (∃ m, H' pR = some (.dK m) ∧ KR K H' nD (rig (Ps.take n) d) m) ∧ Sl K H' GI σ'
  have flat : ∀ {H' H'' : Hp} {σ' : L2.St}, Sl K H' GI σ' → Sl K H'' GI σ' := fun {H' H'' σ'} E => ⟨E.1, fun i dd hi => by
    obtain ⟨v, h1, h2⟩ := E.2 i dd hi
    refine ⟨v, h1, ?_⟩
    match i, hi with
    | 0, hi => cases hi; exact h2
    | 1, hi => cases hi; exact h2
    | 2, hi => cases hi; exact h2
    | 3, hi => cases hi; exact h2
    | 4, hi => cases hi
    | n + 5, hi => exact nomatch (show (none : Option (Option D)) = _ from hi)⟩
  have EI : Sl K H2 GI _ := E2
  refine s_forKeys (emb := nD) (l := Ps) EI rfl (e02 _ _ hPP) (krN_any kP) I (fun od => ⟨upd_same, fun a o ha ho => ?_, ⟨[], ?_, rfl⟩, ⟨[], ?_, rfl⟩, flat EI⟩) (fun od n σ' H' h => h.1) (fun od n a σ' H' ha hI => ?_) (fun od σ' H' hI => ?_)
  · rw [upd_ne ha]
    exact e02 _ _ ho
  · rw [upd_ne nLP]
    exact e2 _ _ hL
  · rw [upd_ne nRP]
    exact hR
  · obtain ⟨hz, hb, ⟨ml, hl, kl⟩, ⟨mr, hr', kr⟩, E'⟩ := hI
    have hav := hP.lt a (List.mem_of_getElem? ha)
    have E3 := E'.set (i := 4) (d := nD a.1) (v := .int (a.1 : Int)) rfl
    obtain ⟨vv, hval, hvv⟩ := kP.val.1 a.2 (lk_at hP.nd ha)
    have evv : vv = nV a.2 := hvv
    subst evv
    have hnl : n < Ps.length := (List.getElem?_eq_some_iff.mp ha).1
    have hPl := hP.le
    refine s_if E3 (gt_test (gv_eqN (gv_call (ga_cons (gv_var E3 rfl) (ga_cons (gv_var E3 rfl) ga_nil)) (ok_bit hd)) (gv_nat 0))) (fun hc H3 e3 E4 => ?_) fun hc H3 e3 E4 => ?_
    · obtain ⟨w0, g0, g0'⟩ := E4.2 0 _ rfl
      obtain ⟨w4, g4, g4'⟩ := E4.2 4 _ rfl
      obtain ⟨w2, g2, g2'⟩ := E4.2 2 _ rfl
      cases (show w0 = .ref pP from g0')
      cases (show w4 = nV a.1 from g4')
      cases (show w2 = .ref pL from g2')
      have lml : ml.length ≤ 60 := by
        rw [kl.len]
        exact Nat.le_trans (List.length_filter_le _ _) (by rw [List.length_take]; omega)
      refine ⟨_, g0, _, g4, pP, _, rfl, .inl ⟨mP, nK a.1, .inr ⟨od, e3 _ _ hz⟩, rfl, hval.symm⟩, _, g2, _, g4, pL, _, rfl, DPut.k (k := nK a.1) (e3 _ _ hl) (sz_lt (by omega)), ?_⟩
      have el : lef (Ps.take (n + 1)) d = putN (lef (Ps.take n) d) a.1 a.2 := by
        have q := putN_new (a := a.2) (key_new hP.nd ha fun p => decide (bit p.1 d = 0))
        show List.filter _ _ = _
        rw [fil_snoc ha, if_pos hc]
        exact q.symm
      have er : rig (Ps.take (n + 1)) d = rig (Ps.take n) d := by
        rw [rig, fil_snoc ha, if_neg (by rw [hc]; decide), List.append_nil]
        rfl
      refine ⟨by rw [upd_ne nLP.symm]; exact e3 _ _ hz, fun b o hb1 hb2 => ?_, ⟨_, upd_same, ?_⟩, ⟨mr, by rw [upd_ne nRL]; exact e3 _ _ hr', by rw [er]; exact krN_any kr⟩, flat (E4.wk (G' := GI) ⟨.inr rfl, .inr rfl, .inr rfl, .inr rfl, .inl rfl, trivial⟩)⟩
      · rw [upd_ne (ne_of_none hb2 hpL)]
        exact e3 _ _ (hb b o hb1 hb2)
      · rw [el]
        exact krN_any (KR.put (K := K) (H := H') kl rfl)
    · obtain ⟨w0, g0, g0'⟩ := E4.2 0 _ rfl
      obtain ⟨w4, g4, g4'⟩ := E4.2 4 _ rfl
      obtain ⟨w3, g3, g3'⟩ := E4.2 3 _ rfl
      cases (show w0 = .ref pP from g0')
      cases (show w4 = nV a.1 from g4')
      cases (show w3 = .ref pR from g3')
      have lmr : mr.length ≤ 60 := by
        rw [kr.len]
        exact Nat.le_trans (List.length_filter_le _ _) (by rw [List.length_take]; omega)
      refine ⟨_, g0, _, g4, pP, _, rfl, .inl ⟨mP, nK a.1, .inr ⟨od, e3 _ _ hz⟩, rfl, hval.symm⟩, _, g3, _, g4, pR, _, rfl, DPut.k (k := nK a.1) (e3 _ _ hr') (sz_lt (by omega)), ?_⟩
      have er : rig (Ps.take (n + 1)) d = putN (rig (Ps.take n) d) a.1 a.2 := by
        have q := putN_new (a := a.2) (key_new hP.nd ha fun p => !decide (bit p.1 d = 0))
        show List.filter _ _ = _
        rw [fil_snoc ha, if_pos (by rw [hc]; rfl)]
        exact q.symm
      have el : lef (Ps.take (n + 1)) d = lef (Ps.take n) d := by
        rw [lef, fil_snoc ha, if_neg (by rw [hc]; decide), List.append_nil]
        rfl
      refine ⟨by rw [upd_ne nRP.symm]; exact e3 _ _ hz, fun b o hb1 hb2 => ?_, ⟨ml, by rw [upd_ne nRL.symm]; exact e3 _ _ hl, by rw [el]; exact krN_any kl⟩, ⟨_, upd_same, ?_⟩, flat (E4.wk (G' := GI) ⟨.inr rfl, .inr rfl, .inr rfl, .inr rfl, .inl rfl, trivial⟩)⟩
      · rw [upd_ne (ne_of_none hb2 hpR0)]
        exact e3 _ _ (hb b o hb1 hb2)
      · rw [er]
        exact krN_any (KR.put (K := K) (H := H') kr rfl)
  · obtain ⟨hz, hb, ⟨ml, hl, kl⟩, ⟨mr, hr', kr⟩, E'⟩ := hI
    rw [List.take_length] at kl kr
    have Ef : Sl K (upd H' pP (.dK mP)) GI σ' := flat E'
    refine s_ret (d := .tup [dcD nD (lef Ps d), dcD nD (rig Ps d)]) (gv_tup (ga_cons (gv_view (gv_var Ef rfl) (dcD_rp.mpr ⟨pL, ml, rfl, by rw [upd_ne nLP]; exact hl, krN_any kl⟩)) (ga_cons (gv_view (gv_var Ef rfl) (dcD_rp.mpr ⟨pR, mr, rfl, by rw [upd_ne nRP]; exact hr', krN_any kr⟩)) ga_nil)) (by simp)) fun v H3 e3 r3 => k v H3 (Ext.trans (fun a o ho => ?_) e3) r3
    by_cases hap : a = pP
    · subst hap
      rw [upd_same, ← hPP]
      exact ho ▸ rfl
    · rw [upd_ne hap]
      exact hb a o hap ho
theorem ok_pa {Ps : Prs2} {d : Nat} (h : PsOk Ps) (hd : d ≤ 31) : SpOk K (spPa K) [dcD nD Ps, nD d] H (.tup [dcD nD (lef Ps d), dcD nD (rig Ps d)]) := spD_ok (Ps, d) ⟨h, hd⟩
theorem PsOk.lef {Ps : Prs2} (h : PsOk Ps) (d : Nat) : PsOk (lef Ps d) := h.fil _
theorem PsOk.rig {Ps : Prs2} (h : PsOk Ps) (d : Nat) : PsOk (rig Ps d) := h.fil _
abbrev n_node_input : List Str := ["hasher", "pairs", "depth", "key", "left", "right"]
theorem sc_node_input : FnScope n_node_input ["hasher", "pairs", "depth"] (defScope s_node_input) := ⟨rfl, rfl, rfl, by decide +kernel, rfl, by decide +kernel, by decide +kernel⟩
abbrev n_node_digest : List Str := ["hasher", "pairs", "depth", "tag", "numbers"]
theorem sc_node_digest : FnScope n_node_digest ["hasher", "pairs", "depth"] (defScope s_node_digest) := ⟨rfl, rfl, rfl, by decide +kernel, rfl, by decide +kernel, by decide +kernel⟩
def spNi (K : PySem.W.Frag) (k : Nat) (C : Prs2 → Prop) : Sp := spD K (α := Nat × Prs2 × Nat) (fun z => WOk z.1 ∧ PsOk z.2.1 ∧ C z.2.1 ∧ z.2.2 + k = 2) (fun z => [hshD z.1, dcD nD z.2.1, nD z.2.2]) (fun z => inD (mpF z.1 k z.2.2 z.2.1))
def spNd (K : PySem.W.Frag) (k : Nat) (C : Prs2 → Prop) : Sp := spD K (α := Nat × Prs2 × Nat) (fun z => WOk z.1 ∧ PsOk z.2.1 ∧ C z.2.1 ∧ z.2.2 + k = 2) (fun z => [hshD z.1, dcD nD z.2.1, nD z.2.2]) (fun z => nD (mpD z.1 k z.2.2 z.2.1))
/-- keys that some bits part -/
def C2 (P : Prs2) : Prop := P.length ≤ 1
def C1 (P : Prs2) : Prop := (lef P 1).length ≤ 1 ∧ (rig P 1).length ≤ 1
def C0 (P : Prs2) : Prop := C1 (lef P 0) ∧ C1 (rig P 0)
theorem pe_never {X : Cx} {e : Expr} : PE X e (fun _ _ _ => False) := ⟨fun _ _ _ _ _ _ h => h.elim⟩
theorem cal_node_input_2 (T : Txt K mg) : C8.Cal P w K mg base 8 "node_input" (spNi K 0 C2) [] := by
  obtain ⟨fd, F⟩ := T.f_node_input
  refine calD F T.g_node_input (fun _ _ _ _ _ _ us hl => match us, hl with | [_, _, _], _ => rfl) sc_node_input (fun vs H Q E h => (by obtain ⟨z, _, h, _⟩ := h; exact h.len)) (fun cdv A outer s H vs Q E hr h => ?_)
  obtain ⟨⟨wd, Ps, d⟩, ⟨hw, hP, hC, hd⟩, hvs, k⟩ := h
  dsimp only at hvs k hw hP hC hd
  refine ⟨_, (pss_cons (ps_if (pt_cmpR op_eq (pe_callB call_lenD (by rfl) T.b_len (by decide +kernel) (pa_cons (pv 1) pa_nil)) pe_int (nomark _)) (pss_one (ps_ret (pe_tup (pa_cons (C8.pe_gc rfl T.c_LEAF) (pa_cons (pe_tup pa_nil) pa_nil))))) pss_nil)
      (pss_cons (ps_if (pt_cmpR op_eq (pe_callB call_lenD (by rfl) T.b_len (by decide +kernel) (pa_cons (pv 1) pa_nil)) pe_int (nomark _)) (pss_cons (ps_set (i := 3) sc_node_input.nd rfl (Or.inl rfl) (pe_callB (cr_minK rfl) (by rfl) T.b_min (by decide +kernel) (pa_cons (pv 1) pa_nil)))
      (pss_one (ps_ret (pe_tup (pa_cons (C8.pe_gc rfl T.c_LEAF) (pa_cons (pe_tup (pa_cons (pv 3) (pa_cons (pe_dget (hu_of hr) (pv 1) (pv 3) (fun _ _ => rfl)) pa_nil))) pa_nil)))))) pss_nil)
      (pss_cons ps_never
      (pss_one ps_never)))), ?_⟩
  have E := Sl.start (N := n_node_input) hvs
  match Ps, hP, hC, E, k with
  | [], hP, hC, E, k =>
    refine s_if E (gt_test (gv_eqN (gv_lenD (gv_var (i := 1) (d := dcD nD []) E rfl)) (gv_nat 0))) (fun _ H1 e1 E1 => ?_) fun z => nomatch z
    exact s_ret (d := inD (2, [])) (gv_tup (ga_cons (gv_nat 2) (ga_cons (gv_tup ga_nil (by simp)) ga_nil)) (by simp)) fun v H2 e2 r2 => k v H2 (e1.trans e2) r2
  | [p], hP, hC, E, k =>
    refine s_if E (gt_test (gv_eqN (gv_lenD (gv_var (i := 1) (d := dcD nD [p]) E rfl)) (gv_nat 0))) (fun z => nomatch z) fun _ H1 e1 E1 => ?_
    refine s_nop ?_
    refine s_if E1 (gt_test (gv_eqN (gv_lenD (gv_var (i := 1) (d := dcD nD [p]) E1 rfl)) (gv_nat 1))) (fun _ H2 e2 E2 => ?_) fun z => nomatch z
    refine s_asg E2 (gv_min1 (emb := nD) (k := p.1) (z := p.2) (gv_var E2 rfl)) fun v3 H3 e3 _ E3 => ?_
    exact s_ret (d := inD (2, [p.1, p.2])) (gv_tup (ga_cons (gv_nat 2) (ga_cons (gv_tup (ga_cons (gv_var E3 rfl) (ga_cons (gv_dget (emb := nD) (l := [p]) (z := p.2) (gv_var E3 rfl) (gv_var E3 rfl) (by simp [lk])) ga_nil)) (by simp)) ga_nil)) (by simp)) fun v H4 e4 r4 => k v H4 (((e1.trans e2).trans e3).trans e4) r4
  | p :: q :: r, hP, hC, E, k => exact absurd hC (by unfold C2; simp)
theorem cal_node_digest_2 (T : Txt K mg) : C8.Cal P w K mg base 9 "node_digest" (spNd K 0 C2) [] := by
  obtain ⟨fd, F⟩ := T.f_node_digest
  refine calD F T.g_node_digest (fun _ _ _ _ _ _ us hl => match us, hl with | [_, _, _], _ => rfl) sc_node_digest (fun vs H Q E h => (by obtain ⟨z, _, h, _⟩ := h; exact h.len)) (fun cdv A outer s H vs Q E hr h => ?_)
  obtain ⟨⟨wd, Ps, d⟩, ⟨hw, hP, hC, hd⟩, hvs, k⟩ := h
  dsimp only at hvs k hw hP hC hd
  refine ⟨_, (pss_cons (ps_asg (C8.pe_c (cal_node_input_2 T) hr (by decide) rfl (pa_cons (pv 0) (pa_cons (pv 1) (pa_cons (pv 2) pa_nil)))) (pg_tup (by rfl) (pgs_cons (pg_name (i := 3) sc_node_digest.nd rfl (Or.inl rfl)) (pgs_cons (pg_name (i := 4) sc_node_digest.nd rfl (Or.inl rfl)) pgs_nil))))
      (pss_one (ps_ret (C8.pe_mt (met_Hasher_digest T) hr (by decide) (pv 0) (pa_cons (pv 3) (pa_cons (pv 4) pa_nil)))))), ?_⟩
  have E := Sl.start (N := n_node_digest) hvs
  have hok := mpF_ok hw 0 d hP
  refine s_pair E (d1 := nD (mpF wd 0 d Ps).1) (d2 := .tup ((mpF wd 0 d Ps).2.map nD)) (gv_call (ga_cons (gv_var E rfl) (ga_cons (gv_var E rfl) (ga_cons (gv_var E rfl) ga_nil))) (spD_ok (wd, Ps, d) ⟨hw, hP, hC, hd⟩)) fun v w H1 e1 E1 => ?_
  exact s_ret (d := nD (mpD wd 0 d Ps)) (gv_meth (gv_var E1 rfl) rfl (ga_cons (gv_var E1 rfl) (ga_cons (gv_var E1 rfl) ga_nil)) (ok_dig (b := false) hw hok.2)) fun v2 H2 e2 r2 => k v2 H2 (e1.trans e2) r2
theorem cal_node_input_1 (T : Txt K mg) : C8.Cal P w K mg base 10 "node_input" (spNi K 1 C1) [] := by
  obtain ⟨fd, F⟩ := T.f_node_input
  refine calD F T.g_node_input (fun _ _ _ _ _ _ us hl => match us, hl with | [_, _, _], _ => rfl) sc_node_input (fun vs H Q E h => (by obtain ⟨z, _, h, _⟩ := h; exact h.len)) (fun cdv A outer s H vs Q E hr h => ?_)
  obtain ⟨⟨wd, Ps, d⟩, ⟨hw, hP, hC, hd⟩, hvs, k⟩ := h
  dsimp only at hvs k hw hP hC hd
  refine ⟨_, (pss_cons (ps_if (pt_cmpR op_eq (pe_callB call_lenD (by rfl) T.b_len (by decide +kernel) (pa_cons (pv 1) pa_nil)) pe_int (nomark _)) (pss_one (ps_ret (pe_tup (pa_cons (C8.pe_gc rfl T.c_LEAF) (pa_cons (pe_tup pa_nil) pa_nil))))) pss_nil)
      (pss_cons (ps_if (pt_cmpR op_eq (pe_callB call_lenD (by rfl) T.b_len (by decide +kernel) (pa_cons (pv 1) pa_nil)) pe_int (nomark _)) (pss_cons (ps_set (i := 3) sc_node_input.nd rfl (Or.inl rfl) (pe_callB (cr_minK rfl) (by rfl) T.b_min (by decide +kernel) (pa_cons (pv 1) pa_nil)))
      (pss_one (ps_ret (pe_tup (pa_cons (C8.pe_gc rfl T.c_LEAF) (pa_cons (pe_tup (pa_cons (pv 3) (pa_cons (pe_dget (hu_of hr) (pv 1) (pv 3) (fun _ _ => rfl)) pa_nil))) pa_nil)))))) pss_nil)
      (pss_cons (ps_asg (C8.pe_c (cal_parted T) hr (by decide) rfl (pa_cons (pv 1) (pa_cons (pv 2) pa_nil))) (pg_tup (by rfl) (pgs_cons (pg_name (i := 4) sc_node_input.nd rfl (Or.inl rfl)) (pgs_cons (pg_name (i := 5) sc_node_input.nd rfl (Or.inl rfl)) pgs_nil))))
      (pss_one (ps_ret (pe_tup (pa_cons (C8.pe_gc rfl T.c_INNER) (pa_cons (pe_tup (pa_cons (pe_callB call_lenD (by rfl) T.b_len (by decide +kernel) (pa_cons (pv 4) pa_nil)) (pa_cons (C8.pe_c (cal_node_digest_2 T) hr (by decide) rfl (pa_cons (pv 0) (pa_cons (pv 4) (pa_cons (pe_op op_add (pv 2) pe_int) pa_nil)))) (pa_cons (pe_callB call_lenD (by rfl) T.b_len (by decide +kernel) (pa_cons (pv 5) pa_nil)) (pa_cons (C8.pe_c (cal_node_digest_2 T) hr (by decide) rfl (pa_cons (pv 0) (pa_cons (pv 5) (pa_cons (pe_op op_add (pv 2) pe_int) pa_nil)))) pa_nil))))) pa_nil)))))))), ?_⟩
  have E := Sl.start (N := n_node_input) hvs
  match Ps, hP, hC, E, k with
  | [], hP, hC, E, k =>
    refine s_if E (gt_test (gv_eqN (gv_lenD (gv_var (i := 1) (d := dcD nD []) E rfl)) (gv_nat 0))) (fun _ H1 e1 E1 => ?_) fun z => nomatch z
    exact s_ret (d := inD (2, [])) (gv_tup (ga_cons (gv_nat 2) (ga_cons (gv_tup ga_nil (by simp)) ga_nil)) (by simp)) fun v H2 e2 r2 => k v H2 (e1.trans e2) r2
  | [p], hP, hC, E, k =>
    refine s_if E (gt_test (gv_eqN (gv_lenD (gv_var (i := 1) (d := dcD nD [p]) E rfl)) (gv_nat 0))) (fun z => nomatch z) fun _ H1 e1 E1 => ?_
    refine s_nop ?_
    refine s_if E1 (gt_test (gv_eqN (gv_lenD (gv_var (i := 1) (d := dcD nD [p]) E1 rfl)) (gv_nat 1))) (fun _ H2 e2 E2 => ?_) fun z => nomatch z
    refine s_asg E2 (gv_min1 (emb := nD) (k := p.1) (z := p.2) (gv_var E2 rfl)) fun v3 H3 e3 _ E3 => ?_
    exact s_ret (d := inD (2, [p.1, p.2])) (gv_tup (ga_cons (gv_nat 2) (ga_cons (gv_tup (ga_cons (gv_var E3 rfl) (ga_cons (gv_dget (emb := nD) (l := [p]) (z := p.2) (gv_var E3 rfl) (gv_var E3 rfl) (by simp [lk])) ga_nil)) (by simp)) ga_nil)) (by simp)) fun v H4 e4 r4 => k v H4 (((e1.trans e2).trans e3).trans e4) r4
  | p :: q :: r, hP, hC, E, k =>
    refine s_if E (gt_test (gv_eqN (gv_lenD (gv_var (i := 1) (d := dcD nD (p :: q :: r)) E rfl)) (gv_nat 0))) (fun z => nomatch z) fun _ H1 e1 E1 => ?_
    refine s_nop ?_
    refine s_if E1 (Gt.is (b := false) (gt_test (gv_eqN (gv_lenD (gv_var (i := 1) (d := dcD nD (p :: q :: r)) E1 rfl)) (gv_nat 1))) (by simp)) (fun z => nomatch z) fun _ H2 e2 E2 => ?_
    refine s_nop ?_
    refine s_pair E2 (gv_call (ga_cons (gv_var E2 rfl) (ga_cons (gv_var E2 rfl) ga_nil)) (ok_pa hP (by omega))) fun v w H3 e3 E3 => ?_
    have hd1 : d = 1 := by omega
    subst hd1
    exact s_ret (d := inD (mpF wd 1 1 (p :: q :: r))) (gv_tup (ga_cons (gv_nat 3) (ga_cons (gv_tup (ga_cons (gv_lenD (gv_var E3 rfl)) (ga_cons (gv_call (ga_cons (gv_var E3 rfl) (ga_cons (gv_var E3 rfl) (ga_cons (gv_addN (gv_var E3 rfl) (gv_nat 1)) ga_nil))) (spD_ok (wd, lef (p :: q :: r) 1, 1 + 1) ⟨hw, hP.lef _, hC.1, rfl⟩)) (ga_cons (gv_lenD (gv_var E3 rfl)) (ga_cons (gv_call (ga_cons (gv_var E3 rfl) (ga_cons (gv_var E3 rfl) (ga_cons (gv_addN (gv_var E3 rfl) (gv_nat 1)) ga_nil))) (spD_ok (wd, rig (p :: q :: r) 1, 1 + 1) ⟨hw, hP.rig _, hC.2, rfl⟩)) ga_nil)))) (by show 4 ≤ 100000; decide)) ga_nil)) (by simp)) fun v2 H4 e4 r4 => k v2 H4 (((e1.trans e2).trans e3).trans e4) r4
theorem cal_node_digest_1 (T : Txt K mg) : C8.Cal P w K mg base 11 "node_digest" (spNd K 1 C1) [] := by
  obtain ⟨fd, F⟩ := T.f_node_digest
  refine calD F T.g_node_digest (fun _ _ _ _ _ _ us hl => match us, hl with | [_, _, _], _ => rfl) sc_node_digest (fun vs H Q E h => (by obtain ⟨z, _, h, _⟩ := h; exact h.len)) (fun cdv A outer s H vs Q E hr h => ?_)
  obtain ⟨⟨wd, Ps, d⟩, ⟨hw, hP, hC, hd⟩, hvs, k⟩ := h
  dsimp only at hvs k hw hP hC hd
  refine ⟨_, (pss_cons (ps_asg (C8.pe_c (cal_node_input_1 T) hr (by decide) rfl (pa_cons (pv 0) (pa_cons (pv 1) (pa_cons (pv 2) pa_nil)))) (pg_tup (by rfl) (pgs_cons (pg_name (i := 3) sc_node_digest.nd rfl (Or.inl rfl)) (pgs_cons (pg_name (i := 4) sc_node_digest.nd rfl (Or.inl rfl)) pgs_nil))))
      (pss_one (ps_ret (C8.pe_mt (met_Hasher_digest T) hr (by decide) (pv 0) (pa_cons (pv 3) (pa_cons (pv 4) pa_nil)))))), ?_⟩
  have E := Sl.start (N := n_node_digest) hvs
  have hok := mpF_ok hw 1 d hP
  refine s_pair E (d1 := nD (mpF wd 1 d Ps).1) (d2 := .tup ((mpF wd 1 d Ps).2.map nD)) (gv_call (ga_cons (gv_var E rfl) (ga_cons (gv_var E rfl) (ga_cons (gv_var E rfl) ga_nil))) (spD_ok (wd, Ps, d) ⟨hw, hP, hC, hd⟩)) fun v w H1 e1 E1 => ?_
  exact s_ret (d := nD (mpD wd 1 d Ps)) (gv_meth (gv_var E1 rfl) rfl (ga_cons (gv_var E1 rfl) (ga_cons (gv_var E1 rfl) ga_nil)) (ok_dig (b := false) hw hok.2)) fun v2 H2 e2 r2 => k v2 H2 (e1.trans e2) r2
theorem cal_node_input_0 (T : Txt K mg) : C8.Cal P w K mg base 12 "node_input" (spNi K 2 C0) [] := by
  obtain ⟨fd, F⟩ := T.f_node_input
  refine calD F T.g_node_input (fun _ _ _ _ _ _ us hl => match us, hl with | [_, _, _], _ => rfl) sc_node_input (fun vs H Q E h => (by obtain ⟨z, _, h, _⟩ := h; exact h.len)) (fun cdv A outer s H vs Q E hr h => ?_)
  obtain ⟨⟨wd, Ps, d⟩, ⟨hw, hP, hC, hd⟩, hvs, k⟩ := h
  dsimp only at hvs k hw hP hC hd
  refine ⟨_, (pss_cons (ps_if (pt_cmpR op_eq (pe_callB call_lenD (by rfl) T.b_len (by decide +kernel) (pa_cons (pv 1) pa_nil)) pe_int (nomark _)) (pss_one (ps_ret (pe_tup (pa_cons (C8.pe_gc rfl T.c_LEAF) (pa_cons (pe_tup pa_nil) pa_nil))))) pss_nil)
      (pss_cons (ps_if (pt_cmpR op_eq (pe_callB call_lenD (by rfl) T.b_len (by decide +kernel) (pa_cons (pv 1) pa_nil)) pe_int (nomark _)) (pss_cons (ps_set (i := 3) sc_node_input.nd rfl (Or.inl rfl) (pe_callB (cr_minK rfl) (by rfl) T.b_min (by decide +kernel) (pa_cons (pv 1) pa_nil)))
      (pss_one (ps_ret (pe_tup (pa_cons (C8.pe_gc rfl T.c_LEAF) (pa_cons (pe_tup (pa_cons (pv 3) (pa_cons (pe_dget (hu_of hr) (pv 1) (pv 3) (fun _ _ => rfl)) pa_nil))) pa_nil)))))) pss_nil)
      (pss_cons (ps_asg (C8.pe_c (cal_parted T) hr (by decide) rfl (pa_cons (pv 1) (pa_cons (pv 2) pa_nil))) (pg_tup (by rfl) (pgs_cons (pg_name (i := 4) sc_node_input.nd rfl (Or.inl rfl)) (pgs_cons (pg_name (i := 5) sc_node_input.nd rfl (Or.inl rfl)) pgs_nil))))
      (pss_one (ps_ret (pe_tup (pa_cons (C8.pe_gc rfl T.c_INNER) (pa_cons (pe_tup (pa_cons (pe_callB call_lenD (by rfl) T.b_len (by decide +kernel) (pa_cons (pv 4) pa_nil)) (pa_cons (C8.pe_c (cal_node_digest_1 T) hr (by decide) rfl (pa_cons (pv 0) (pa_cons (pv 4) (pa_cons (pe_op op_add (pv 2) pe_int) pa_nil)))) (pa_cons (pe_callB call_lenD (by rfl) T.b_len (by decide +kernel) (pa_cons (pv 5) pa_nil)) (pa_cons (C8.pe_c (cal_node_digest_1 T) hr (by decide) rfl (pa_cons (pv 0) (pa_cons (pv 5) (pa_cons (pe_op op_add (pv 2) pe_int) pa_nil)))) pa_nil))))) pa_nil)))))))), ?_⟩
  have E := Sl.start (N := n_node_input) hvs
  match Ps, hP, hC, E, k with
  | [], hP, hC, E, k =>
    refine s_if E (gt_test (gv_eqN (gv_lenD (gv_var (i := 1) (d := dcD nD []) E rfl)) (gv_nat 0))) (fun _ H1 e1 E1 => ?_) fun z => nomatch z
    exact s_ret (d := inD (2, [])) (gv_tup (ga_cons (gv_nat 2) (ga_cons (gv_tup ga_nil (by simp)) ga_nil)) (by simp)) fun v H2 e2 r2 => k v H2 (e1.trans e2) r2
  | [p], hP, hC, E, k =>
    refine s_if E (gt_test (gv_eqN (gv_lenD (gv_var (i := 1) (d := dcD nD [p]) E rfl)) (gv_nat 0))) (fun z => nomatch z) fun _ H1 e1 E1 => ?_
    refine s_nop ?_
    refine s_if E1 (gt_test (gv_eqN (gv_lenD (gv_var (i := 1) (d := dcD nD [p]) E1 rfl)) (gv_nat 1))) (fun _ H2 e2 E2 => ?_) fun z => nomatch z
    refine s_asg E2 (gv_min1 (emb := nD) (k := p.1) (z := p.2) (gv_var E2 rfl)) fun v3 H3 e3 _ E3 => ?_
    exact s_ret (d := inD (2, [p.1, p.2])) (gv_tup (ga_cons (gv_nat 2) (ga_cons (gv_tup (ga_cons (gv_var E3 rfl) (ga_cons (gv_dget (emb := nD) (l := [p]) (z := p.2) (gv_var E3 rfl) (gv_var E3 rfl) (by simp [lk])) ga_nil)) (by simp)) ga_nil)) (by simp)) fun v H4 e4 r4 => k v H4 (((e1.trans e2).trans e3).trans e4) r4
  | p :: q :: r, hP, hC, E, k =>
    refine s_if E (gt_test (gv_eqN (gv_lenD (gv_var (i := 1) (d := dcD nD (p :: q :: r)) E rfl)) (gv_nat 0))) (fun z => nomatch z) fun _ H1 e1 E1 => ?_
    refine s_nop ?_
    refine s_if E1 (Gt.is (b := false) (gt_test (gv_eqN (gv_lenD (gv_var (i := 1) (d := dcD nD (p :: q :: r)) E1 rfl)) (gv_nat 1))) (by simp)) (fun z => nomatch z) fun _ H2 e2 E2 => ?_
    refine s_nop ?_
    refine s_pair E2 (gv_call (ga_cons (gv_var E2 rfl) (ga_cons (gv_var E2 rfl) ga_nil)) (ok_pa hP (by omega))) fun v w H3 e3 E3 => ?_
    have hd1 : d = 0 := by omega
    subst hd1
    exact s_ret (d := inD (mpF wd 2 0 (p :: q :: r))) (gv_tup (ga_cons (gv_nat 3) (ga_cons (gv_tup (ga_cons (gv_lenD (gv_var E3 rfl)) (ga_cons (gv_call (ga_cons (gv_var E3 rfl) (ga_cons (gv_var E3 rfl) (ga_cons (gv_addN (gv_var E3 rfl) (gv_nat 1)) ga_nil))) (spD_ok (wd, lef (p :: q :: r) 0, 0 + 1) ⟨hw, hP.lef _, hC.1, rfl⟩)) (ga_cons (gv_lenD (gv_var E3 rfl)) (ga_cons (gv_call (ga_cons (gv_var E3 rfl) (ga_cons (gv_var E3 rfl) (ga_cons (gv_addN (gv_var E3 rfl) (gv_nat 1)) ga_nil))) (spD_ok (wd, rig (p :: q :: r) 0, 0 + 1) ⟨hw, hP.rig _, hC.2, rfl⟩)) ga_nil)))) (by show 4 ≤ 100000; decide)) ga_nil)) (by simp)) fun v2 H4 e4 r4 => k v2 H4 (((e1.trans e2).trans e3).trans e4) r4
theorem cal_node_digest_0 (T : Txt K mg) : C8.Cal P w K mg base 13 "node_digest" (spNd K 2 C0) [] := by
  obtain ⟨fd, F⟩ := T.f_node_digest
  refine calD F T.g_node_digest (fun _ _ _ _ _ _ us hl => match us, hl with | [_, _, _], _ => rfl) sc_node_digest (fun vs H Q E h => (by obtain ⟨z, _, h, _⟩ := h; exact h.len)) (fun cdv A outer s H vs Q E hr h => ?_)
  obtain ⟨⟨wd, Ps, d⟩, ⟨hw, hP, hC, hd⟩, hvs, k⟩ := h
  dsimp only at hvs k hw hP hC hd
  refine ⟨_, (pss_cons (ps_asg (C8.pe_c (cal_node_input_0 T) hr (by decide) rfl (pa_cons (pv 0) (pa_cons (pv 1) (pa_cons (pv 2) pa_nil)))) (pg_tup (by rfl) (pgs_cons (pg_name (i := 3) sc_node_digest.nd rfl (Or.inl rfl)) (pgs_cons (pg_name (i := 4) sc_node_digest.nd rfl (Or.inl rfl)) pgs_nil))))
      (pss_one (ps_ret (C8.pe_mt (met_Hasher_digest T) hr (by decide) (pv 0) (pa_cons (pv 3) (pa_cons (pv 4) pa_nil)))))), ?_⟩
  have E := Sl.start (N := n_node_digest) hvs
  have hok := mpF_ok hw 2 d hP
  refine s_pair E (d1 := nD (mpF wd 2 d Ps).1) (d2 := .tup ((mpF wd 2 d Ps).2.map nD)) (gv_call (ga_cons (gv_var E rfl) (ga_cons (gv_var E rfl) (ga_cons (gv_var E rfl) ga_nil))) (spD_ok (wd, Ps, d) ⟨hw, hP, hC, hd⟩)) fun v w H1 e1 E1 => ?_
  exact s_ret (d := nD (mpD wd 2 d Ps)) (gv_meth (gv_var E1 rfl) rfl (ga_cons (gv_var E1 rfl) (ga_cons (gv_var E1 rfl) ga_nil)) (ok_dig (b := false) hw hok.2)) fun v2 H2 e2 r2 => k v2 H2 (e1.trans e2) r2
abbrev n_map_root : List Str := ["hasher", "pairs"]
theorem sc_map_root : FnScope n_map_root ["hasher", "pairs"] (defScope s_map_root) := ⟨rfl, rfl, rfl, by decide +kernel, rfl, by decide +kernel, by decide +kernel⟩
def spRo (K : PySem.W.Frag) : Sp := spD K (α := Nat × Prs2) (fun z => WOk z.1 ∧ PsOk z.2 ∧ C0 z.2) (fun z => [hshD z.1, dcD nD z.2]) (fun z => nD (mpD z.1 2 0 z.2))
theorem cal_map_root (T : Txt K mg) : C8.Cal P w K mg base 16 "map_root" (spRo K) [] := by
  obtain ⟨fd, F⟩ := T.f_map_root
  refine calD F T.g_map_root (fun _ _ _ _ _ _ us hl => match us, hl with | [_, _], _ => rfl) sc_map_root (fun vs H Q E h => (by obtain ⟨z, _, h, _⟩ := h; exact h.len)) (fun cdv A outer s H vs Q E hr h => ?_)
  obtain ⟨⟨wd, Ps⟩, ⟨hw, hP, hC⟩, hvs, k⟩ := h
  dsimp only at hvs k hw hP hC
  refine ⟨_, (pss_one (ps_ret (C8.pe_c (cal_node_digest_0 T) hr (by decide) rfl (pa_cons (pv 0) (pa_cons (pv 1) (pa_cons pe_int pa_nil)))))), ?_⟩
  have E := Sl.start (N := n_map_root) hvs
  exact s_ret (gv_call (ga_cons (gv_var E rfl) (ga_cons (gv_var E rfl) (ga_cons (gv_nat 0) ga_nil))) (spD_ok (wd, Ps, 0) ⟨hw, hP, hC, rfl⟩)) k
theorem ok_ro {w : Nat} {Ps : Prs2} (hw : WOk w) (h : PsOk Ps) (hC : C0 Ps) : SpOk K (spRo K) [hshD w, dcD nD Ps] H (nD (mpD w 2 0 Ps)) := spD_ok (w, Ps) ⟨hw, h, hC⟩
end
end K38

set_option Elab.async false
set_option linter.all false
set_option maxRecDepth 100000
set_option maxHeartbeats 4000000
namespace K38
open PySem PySem.Spec PyProof.Rows L2
open PySem.W (Datum Tup)
local macro_rules | `(tactic| walk_at "gv1") => `(tactic| first | exact gv_int | exact gv_str | exact gv_non | exact gv_bl | (refine gv_var (by assumption) ?_; exact rfl) | refine gv_I0 ?_ ?_ | refine gv_Ib ?_ ?_ | refine gv_eqI ?_ ?_ | refine gv_neI ?_ ?_ | refine gt_test ?_ | refine gt_B ?_ | exact ga_nil | refine ga_cons ?_ ?_)
local macro_rules | `(tactic| walk_at "gv") => `(tactic| repeat walk_at "gv1")

/-- a node's cells beside the world B -/
structure NdX (K : PySem.W.Frag) (B H : Hp) (x dx pB pS : Addr) (v1 : V) (xs ys : List V) (n : Nod) (ps : List Prs2) : Prop where
  ce : Cell B H x dx (He.ga K "Node") (fNd.zip [v1, .int 7, .ref pB, .ref pS])
  rh : Rp K B (hshD n.w) v1
  lb : LCell B H pB xs
  rb : Rps K B (n.bs.map bkA) xs
  ls : LCell B H pS ys
  rs : Rps K B (ps.map (dcD nD)) ys
  ne : pB ≠ pS
def NdAt (K : PySem.W.Frag) (B H : Hp) (x : Addr) (n : Nod) (ps : List Prs2) : Prop := ∃ dx pB pS v1 xs ys, NdX K B H x dx pB pS v1 xs ys n ps
section
variable {K : PySem.W.Frag} {mg : Str → Option Value} {B B' H H' : Hp} {x dx pB pS : Addr} {v1 : V} {xs ys : List V} {n : Nod} {ps : List Prs2} {G : Sg} {σ : L2.St}
abbrev ndL (x dx pB pS : Addr) : List Addr := [pB, pS, x, dx]
theorem NdX.view (h : NdX K B H x dx pB pS v1 xs ys n ps) : Rp K H (nodD n) (.ref x) :=
  ⟨x, dx, _, rfl, h.ce.at_, .cons (h.rh.ext h.ce.ext) (.cons rfl (.cons ⟨pB, xs, rfl, h.lb.at_, h.rb.ext h.ce.ext⟩ (.cons trivial .nil)))⟩
theorem NdX.viewA (h : NdX K B H x dx pB pS v1 xs ys n ps) : Rp K H (.ins "Node" fNd [.any, nD 7, .adr pB, .adr pS]) (.ref x) :=
  ⟨x, dx, _, rfl, h.ce.at_, .cons trivial (.cons rfl (.cons rfl (.cons rfl .nil)))⟩
theorem NdX.viewS (h : NdX K B H x dx pB pS v1 xs ys n ps) : Rp K H (.ins "Node" fNd [.any, .any, .any, .lst (ps.map (dcD nD))]) (.ref x) :=
  ⟨x, dx, _, rfl, h.ce.at_, .cons trivial (.cons trivial (.cons trivial (.cons ⟨pS, ys, rfl, h.ls.at_, h.rs.ext h.ce.ext⟩ .nil)))⟩
theorem NdX.mono (h : NdX K B H x dx pB pS v1 xs ys n ps) (e : Ext H H') : NdX K B H' x dx pB pS v1 xs ys n ps := ⟨h.ce.mono e, h.rh, h.lb.mono e, h.rb, h.ls.mono e, h.rs, h.ne⟩
theorem NdX.free (h : NdX K B H x dx pB pS v1 xs ys n ps) : ∀ a ∈ ndL x dx pB pS, B a = none := fun a ha => by
  rcases List.mem_cons.mp ha with rfl | ha
  · exact h.lb.fx
  rcases List.mem_cons.mp ha with rfl | ha
  · exact h.ls.fx
  rcases List.mem_cons.mp ha with rfl | ha
  · exact h.ce.fx
  · rw [List.mem_singleton.mp ha]
    exact h.ce.fd
theorem NdX.ehid (h : NdX K B H x dx pB pS v1 xs ys n ps) : Ext B (hide (ndL x dx pB pS) H) := ext_hide h.ce.ext h.free
theorem NdX.wide (h : NdX K B H x dx pB pS v1 xs ys n ps) : NdX K (hide (ndL x dx pB pS) H) H x dx pB pS v1 xs ys n ps :=
  ⟨⟨hide_ext, hide_in (by simp), hide_in (by simp), h.ce.ne, h.ce.at_, h.ce.own⟩, h.rh.ext h.ehid, ⟨hide_ext, hide_in (by simp), h.lb.at_⟩, h.rb.ext h.ehid, ⟨hide_ext, hide_in (by simp), h.ls.at_⟩, h.rs.ext h.ehid, h.ne⟩
theorem NdX.hok (h : NdX K B H x dx pB pS v1 xs ys n ps) : HideOk H (ndL x dx pB pS) := fun a ha => by
  rcases List.mem_cons.mp ha with rfl | ha
  · exact .inl ⟨xs, h.lb.at_⟩
  rcases List.mem_cons.mp ha with rfl | ha
  · exact .inl ⟨ys, h.ls.at_⟩
  rcases List.mem_cons.mp ha with rfl | ha
  · exact .inr (.inr (.inl ⟨_, dx, _, h.ce.at_, by simp⟩))
  · rw [List.mem_singleton.mp ha]
    exact .inr (.inr (.inr ⟨x, _, _, h.ce.own, h.ce.at_, by simp⟩))
theorem NdX.gr (T : Txt K mg) (h : NdX K B H x dx pB pS v1 xs ys n ps) : Gr K H (hide (ndL x dx pB pS) H) := gr_hide h.hok fun a ha f hf dx' fs z => by
  rcases List.mem_cons.mp ha with rfl | ha
  · rw [h.lb.at_] at z
    cases z
  rcases List.mem_cons.mp ha with rfl | ha
  · rw [h.ls.at_] at z
    cases z
  rcases List.mem_cons.mp ha with rfl | ha
  · rw [h.ce.at_] at z
    injection z with z
    injection z with z1
    exact (nf_of T 6 (by decide) rfl : NF K "Node").nf f hf z1.symm
  · rw [List.mem_singleton.mp ha, h.ce.own] at z
    cases z
theorem NdX.appB {v : V} {z : BkA} (h : NdX K B H x dx pB pS v1 xs ys n ps) (r : Rp K B (bkA z) v) : NdX K B (upd H pB (.lst (xs ++ [v]))) x dx pB pS v1 (xs ++ [v]) ys ⟨n.w, n.L, n.bs ++ [z]⟩ ps := by
  obtain ⟨n1, n2⟩ := h.lb.nex h.ce
  exact ⟨h.ce.keep n1 n2 h.lb.fx, h.rh, h.lb.set, by rw [List.map_append]; exact h.rb.snoc r, h.ls.keep h.ne.symm h.lb.fx, h.rs, h.ne⟩
theorem NdX.appS {v : V} {q : Prs2} (h : NdX K B H x dx pB pS v1 xs ys n ps) (r : Rp K B (dcD nD q) v) : NdX K B (upd H pS (.lst (ys ++ [v]))) x dx pB pS v1 xs (ys ++ [v]) n (ps ++ [q]) := by
  obtain ⟨n1, n2⟩ := h.ls.nex h.ce
  exact ⟨h.ce.keep n1 n2 h.ls.fx, h.rh, h.lb.keep h.ne h.ls.fx, h.rb, h.ls.set, by rw [List.map_append]; exact h.rs.snoc r, h.ne⟩
end
section
variable {P : Program} {w : World} {K : PySem.W.Frag} {mg : Str → Option Value} {base : Heap} {B H : Hp} {σ : L2.St} {ta te tb : TE} {G : Sg} {nx : L2.St → Hp → Prop} {rt : V → Hp → Prop} {bk ct : L2.St → Hp → Prop}
structure AdA where
  n : Nod
  ps : List Prs2
  t : Nat
  m : Mem
  f : Mem
  Ps : Prs2
  pv : Nat
  ss : List Sgn
def AdA.hdr (a : AdA) : Hdr := ⟨7, a.n.bs.length, a.t, a.pv, mpD a.n.w 2 0 a.Ps, dg a.n.w 9 (nums a.m), dg a.n.w 9 (nums a.f)⟩
def AdA.vts (a : AdA) : Votes := (a.ss.filter fun s => decide (s.pub ∈ pubs a.m)).map fun s => (s.pub, s.sig a.n.bs.length (vmsg a.n.w a.hdr))
def AdA.blk (a : AdA) : Blk := ⟨a.hdr, a.m, a.f, srtV a.vts⟩
structure AdOk (a : AdA) : Prop where
  hw : WOk a.n.w
  m : MemOk a.m
  f : MemOk a.f
  Ps : PsOk a.Ps
  C : C0 a.Ps
  ss : ∀ s ∈ a.ss, s.Ok ∧ s.w = a.n.w ∧ a.n.bs.length < 2 ^ s.L
  sl : a.ss.length ≤ 1000
  bl : a.n.bs.length ≤ 1000
  pl : a.ps.length ≤ 1000
  h : HdrOk a.hdr
/-- a dict joins a list -/
theorem s_appD {α : Type} {emb : α → D} {l : List (Nat × α)} {p : Addr} {xs : List V} (E : Sl K H G σ) (hp : H p = some (.lst xs)) (ha : Gv K ta σ H (.adr p)) (h : GvDN K te σ H emb l) (hl : xs.length < 100000)
    (k : ∀ q m H1, H q = none → Ext H H1 → H1 q = some (.dK m) → KR K H1 emb l m → H1 p = some (.lst xs) → nx σ (upd H1 p (.lst (xs ++ [.ref q])))) :
    tDrop (tBM K "list" rAppend ta (tCons te tNil)) ⟨nx, rt, bk, ct⟩ σ H := ha H Ext.rfl' _ fun w H1 e1 rw => by
  have ew : w = .ref p := rw
  subst ew
  exact ⟨.inl ⟨rfl, xs, SqL.of (e1 _ _ hp)⟩, h H1 e1 _ fun q m H2 hq e2 h2 rv => ⟨p, xs, .ref q, rfl, rfl, (e1.trans e2) _ _ hp, sz_lt hl, k q m H2 (fresh_back e1 hq) (e1.trans e2) h2 rv ((e1.trans e2) _ _ hp)⟩⟩
abbrev n_Node_add : List Str := ["self", "time", "members", "following", "pairs", "previous", "signers", "roots", "state", "header", "message", "known", "votes", "signer", "public", "weight"]
theorem sc_Node_add : FnScope n_Node_add ["self", "time", "members", "following", "pairs", "previous", "signers"] (defScope s_Node_add) := ⟨rfl, rfl, rfl, by decide +kernel, rfl, by decide +kernel, by decide +kernel⟩
def spAdd (K : PySem.W.Frag) : Sp := fun vs H Q _ => ∃ (B : Hp) (x : Addr) (a : AdA) (v1 v2 v3 v4 v5 v6 : V), AdOk a ∧ vs = [.ref x, v1, v2, v3, v4, v5, v6] ∧ NdAt K B H x a.n a.ps ∧ Rps K B [nD a.t, memD a.m, memD a.f, dcD nD a.Ps, nD a.pv, .lst (a.ss.map sgD)] [v1, v2, v3, v4, v5, v6] ∧
  ∀ p B' H', Ext B B' → NdAt K B' H' x ⟨a.n.w, a.n.L, a.n.bs ++ [(p, a.blk)]⟩ (a.ps ++ [a.Ps]) → Q .non H'
theorem met_Node_add (T : Txt K mg) : C8.Met P w K mg base 17 (He.ga K "Node") "add" (spAdd K) [] := by
  obtain ⟨fd, F⟩ := T.f_Node_add
  refine metD T.cl_Node T.me_Node_add F (fun _ _ _ _ _ _ us hl => match us, hl with | [_, _, _, _, _, _, _], _ => rfl) sc_Node_add (fun vs H Q E h => (by obtain ⟨B, x, a, v1, v2, v3, v4, v5, v6, _, rfl, _⟩ := h; rfl)) (fun cdv A outer s H vs Q E hr h => ?_)
  obtain ⟨B, x, a, v1, v2, v3, v4, v5, v6, ok, rfl, ⟨dx, pB, pS, u1, xs, ys, nd⟩, rs, k⟩ := h
  have hw := ok.hw
  have hm64 := ok.m.le
  refine ⟨_, (pss_cons (ps_set (i := 7) sc_Node_add.nd rfl (Or.inl rfl) (pe_tup (pa_cons (C8.pe_c (cal_members_root T) hr (by decide) rfl (pa_cons (pe_fld (pv 0) rfl) (pa_cons (pv 2) pa_nil))) (pa_cons (C8.pe_c (cal_members_root T) hr (by decide) rfl (pa_cons (pe_fld (pv 0) rfl) (pa_cons (pv 3) pa_nil))) pa_nil))))
      (pss_cons (ps_set (i := 8) sc_Node_add.nd rfl (Or.inl rfl) (C8.pe_c (cal_map_root T) hr (by decide) rfl (pa_cons (pe_fld (pv 0) rfl) (pa_cons (pv 4) pa_nil))))
      (pss_cons (ps_set (i := 9) sc_Node_add.nd rfl (Or.inr rfl) (C8.pe_mk (mak_Header T) hr (by decide) rfl (pa_cons (pe_fld (pv 0) rfl) (pa_cons (pe_callB call_len_seq (by rfl) T.b_len (by decide +kernel) (pa_cons (pe_fld (pv 0) rfl) pa_nil)) (pa_cons (pv 1) (pa_cons (pv 5) (pa_cons (pv 8) (pa_cons (pe_ix (ix_tup : IxR _ (rIxT K)) (pv 7) pe_int (fun _ _ => rfl)) (pa_cons (pe_ix (ix_tup : IxR _ (rIxT K)) (pv 7) pe_int (fun _ _ => rfl)) pa_nil)))))))))
      (pss_cons (ps_set (i := 10) sc_Node_add.nd rfl (Or.inr rfl) (C8.pe_c (cal_vote_message T) hr (by decide) rfl (pa_cons (pe_fld (pv 0) rfl) (pa_cons (pv 9) pa_nil))))
      (pss_cons (ps_set (i := 11) sc_Node_add.nd rfl (Or.inr rfl) (pe_lc (own := [("public", 14), ("weight", 15)]) (by rfl) sc_Node_add.nd (pi_tup (pv 2)) (blkOk_by (own := [("public", 14), ("weight", 15)]) (N := n_Node_add) (sc := defScope s_Node_add) (by decide +kernel)) (fun _ _ _ _ _ => (show PG _ _ (gTup K 2 _) from (pg_tup (by rfl) (pgs_cons (pg_name (i := 14) sc_Node_add.nd rfl (Or.inl rfl)) (pgs_cons (pg_name (i := 15) sc_Node_add.nd rfl (Or.inl rfl)) pgs_nil))))) (fun _ _ _ _ _ => pts_nil) (fun _ _ _ _ _ => (pv 14))))
      (pss_cons (ps_setLc (i := 12) (own := [("signer", 13)]) (by rfl) sc_Node_add.nd rfl rfl (sw_true rfl rfl rfl (by decide +kernel)) (pi_list (pv 6)) (blkOk_by (own := [("signer", 13)]) (N := n_Node_add) (sc := defScope s_Node_add) (by decide +kernel)) (fun _ _ _ _ _ => (pg_name (i := 13) sc_Node_add.nd rfl (Or.inl rfl))) (fun _ _ _ _ _ => (pts_one (pt_cmpR (op_in_seq : OpR _ (compareOp .In) (rIn K false)) (show PE _ _ (tFld K _ _) from pe_fld (pv 13) rfl) (pv 11) (by rfl)))) (fun _ _ _ _ _ => (pe_tup (pa_cons (show PE _ _ (tFld K _ _) from pe_fld (pv 13) rfl) (pa_cons (C8.pe_mt (met_Signer_sign T) hr (by decide) (pv 13) (pa_cons (show PE _ _ (tFld K _ _) from pe_fld (pv 9) rfl) (pa_cons (pv 10) pa_nil))) pa_nil)))))
      (pss_cons (ps_expr (pe_bm PySem.F.plainAttrs_list PySem.F.slot_list_append PySem.F.type_list_append mt_append (pe_fld (pv 0) rfl) (pa_cons (C8.pe_mk (mak_Block T) hr (by decide) rfl (pa_cons (pv 9) (pa_cons (pv 2) (pa_cons (pv 3) (pa_cons (pe_callB (cr_sortedV hr) (by rfl) T.b_sorted (by decide +kernel) (pa_cons (pv 12) pa_nil)) pa_nil))))) pa_nil)))
      (pss_one (ps_expr (pe_bm PySem.F.plainAttrs_list PySem.F.slot_list_append PySem.F.type_list_append mt_append (pe_fld (pv 0) rfl) (pa_cons (pe_callTy call_dictD (by rfl) T.b_dict (by decide +kernel) (pa_cons (pv 4) pa_nil)) pa_nil))))))))))), ?_⟩
  have EB : Sl K B [some (.adr x), some (nD a.t), some (memD a.m), some (memD a.f), some (dcD nD a.Ps), some (nD a.pv), some (.lst (a.ss.map sgD)), none, none, none, none, none, none, none, none, none] _ := Sl.start (N := n_Node_add) (Rps.cons (d := .adr x) rfl rs)
  have E := EB.ext nd.ce.ext
  have gself : ∀ {H2 : Hp} {σ : L2.St} {G : Sg}, Sl K H2 G σ → G[0]? = some (some (.adr x)) → Ext H H2 → Gv K (tVar 0) σ H2 (nodD a.n) := fun E h0 e => gv_view (gv_var E h0) (nd.view.ext e)
  refine s_asg (d := .tup [nD (dg a.n.w 9 (nums a.m)), nD (dg a.n.w 9 (nums a.f))]) E (gv_tup (ga_cons (gv_call (ga_cons (gv_Nd_hasher T (gself E rfl Ext.rfl')) (ga_cons (gv_var E rfl) ga_nil)) (ok_MR hw ok.m)) (ga_cons (gv_call (ga_cons (gv_Nd_hasher T (gself E rfl Ext.rfl')) (ga_cons (gv_var E rfl) ga_nil)) (ok_MR hw ok.f)) ga_nil)) (by simp)) fun w1 H1 e1 r1 E1 => ?_
  refine s_asg (d := nD (mpD a.n.w 2 0 a.Ps)) E1 (gv_call (ga_cons (gv_Nd_hasher T (gself E1 rfl e1)) (ga_cons (gv_var E1 rfl) ga_nil)) (ok_ro hw ok.Ps ok.C)) fun w2 H2 e2 r2 E2 => ?_
  have e02 := e1.trans e2
  refine s_asg (d := hdrD a.hdr) E2 (gv_make (K := K) (c := "Header") (out := hdrD) (α := Hdr) (ins := fun h : Hdr => h.list.map nD) (pre := fun _ => True) a.hdr trivial (ga_cons (gv_fld (gself E2 rfl e02) T.cl_Node T.na_Node_chain (n := 1) (by decide +kernel) (by decide) rfl) (ga_cons ((gv_lenL (gv_Nd_blocks T (gself E2 rfl e02))).is (by rw [List.length_map]; rfl)) (ga_cons (gv_var E2 rfl) (ga_cons (gv_var E2 rfl) (ga_cons (gv_var E2 rfl) (ga_cons (gv_ixTN (gv_var E2 rfl) (gv_nat 0) rfl) (ga_cons (gv_ixTN (gv_var E2 rfl) (gv_nat 1) rfl) ga_nil)))))))) fun w3 H3 e3 r3 E3 => ?_
  have e03 := e02.trans e3
  refine s_asg (d := nD (vmsg a.n.w a.hdr)) E3 (gv_call (ga_cons (gv_Nd_hasher T (gself E3 rfl e03)) (ga_cons (gv_var E3 rfl) ga_nil)) (ok_vm hw ok.h)) fun w4 H4 e4 r4 E4 => ?_
  refine s_asg (d := .lst ((pubs a.m).map nD)) E4 ((gn_mapTP (l := a.m) (e1 := fun p : Nat × Nat => nD p.1) (e2 := fun p : Nat × Nat => nD p.2) (f := fun p : Nat × Nat => nD p.1) E4 (gv_var E4 rfl) (by omega) (by simp) (by simp) fun p _ σ2 H2 e2 E2 => gv_var E2 rfl).is (by rw [pubs, List.map_map]; rfl)).gv fun w5 H5 e5 r5 E5 => ?_
  refine s_asg (d := .lst (a.vts.map vtD)) E5 ((gn_filL (l := a.ss) (emb := sgD) (f := fun s => vtD (s.pub, s.sig a.n.bs.length (vmsg a.n.w a.hdr))) (p := fun s => decide (s.pub ∈ pubs a.m)) E5 (gv_var E5 rfl) (Nat.le_trans ok.sl (by decide)) (by simp) (fun s _ σ2 H2 e2 E2 => gt_test (gv_inLN (gv_fld (gv_var E2 rfl) T.cl_Signer T.na_Signer_public (n := 5) (by decide +kernel) (by decide) rfl) (gv_var E2 rfl))) fun s hs _ σ2 H2 e2 E2 => gv_tup (ga_cons (gv_fld (gv_var E2 rfl) T.cl_Signer T.na_Signer_public (n := 5) (by decide +kernel) (by decide) rfl) (ga_cons (gv_meth (gv_var E2 rfl) rfl (ga_cons (gv_Header_height T (gv_var E2 rfl)) (ga_cons (gv_var E2 rfl) ga_nil)) (ok_sign (ok.ss s hs).1 (ok.ss s hs).2.2)) ga_nil)) (by simp)).is (by rw [AdA.vts, List.map_map]; rfl)).gv fun w6 H6 e6 r6 E6 => ?_
  have e06 := ((e03.trans e4).trans e5).trans e6
  have nd6 := nd.mono e06
  have gfB : Gv K (tFld K (tVar 0) "blocks") _ H6 (.adr pB) := gv_fld (gv_view (gv_var E6 rfl) nd6.viewA) T.cl_Node T.na_Node_blocks (n := 2) (by decide +kernel) (by decide) rfl
  have lv : a.vts.length ≤ 1000 := by
    rw [AdA.vts, List.length_map]
    exact Nat.le_trans (List.length_filter_le _ _) ok.sl
  refine s_app (d := blkD a.blk) E6 nd6.lb.at_ gfB (gv_make (K := K) (c := "Block") (out := blkD) (α := Blk) (ins := fun b : Blk => [hdrD b.h, memD b.mem, memD b.fol, .lst (b.votes.map vtD)]) (pre := fun _ => True) a.blk trivial (ga_cons (gv_var E6 rfl) (ga_cons (gv_var E6 rfl) (ga_cons (gv_var E6 rfl) (ga_cons (gn_sortedV (gv_var E6 rfl)).gv ga_nil))))) (by rw [nd6.rb.len, List.length_map]; have := ok.bl; omega) fun v H7 e7 r7 E7 h7 => ?_
  have nd7 := (nd6.mono e7)
  have b7 := nd7.ehid
  have r7B := r7.gr (nd7.gr T) _ (inferInstance : Pu (blkD a.blk)).pu
  obtain ⟨p, dp, us, rfl, hp7, hp8⟩ := id r7B
  have nd8 := nd7.wide.appB (z := (p, a.blk)) ⟨rfl, r7B⟩
  -- the pairs, as they stood
  have EB8 : Sl K _ [some (.adr x), none, none, none, some (dcD nD a.Ps), none, none, none, none, none, none, none, none, none, none, none] _ := ((((((((EB.set (i := 7) (d := .any) (v := w1) trivial).set (i := 8) (d := .any) (v := w2) trivial).set (i := 9) (d := .any) (v := w3) trivial).set (i := 10) (d := .any) (v := w4) trivial).set (i := 11) (d := .any) (v := w5) trivial).set (i := 12) (d := .any) (v := w6) trivial).ext b7).ext nd8.ce.ext).wk ⟨.inr rfl, .inl rfl, .inl rfl, .inl rfl, .inr rfl, .inl rfl, .inl rfl, .inl rfl, .inl rfl, .inl rfl, .inl rfl, .inl rfl, .inl rfl, .inl rfl, .inl rfl, .inl rfl, trivial⟩
  have gfS : Gv K (tFld K (tVar 0) "states") _ _ (.adr pS) := gv_fld (gv_view (gv_var EB8 rfl) nd8.viewA) T.cl_Node T.na_Node_states (n := 3) (by decide +kernel) (by decide) rfl
  refine s_appD (emb := nD) (l := a.Ps) EB8 nd8.ls.at_ gfS (gd_copy (gv_var EB8 rfl)) (by rw [nd8.rs.len, List.length_map]; have := ok.pl; omega) fun q m H9 hq e9 h9 r9 _ => ?_
  have nd9 := nd8.mono e9
  have b9 := nd9.ehid
  have hq9 : hide (ndL x dx pB pS) H9 q = some (.dK m) := by
    rw [hide_out]
    · exact h9
    · intro ha
      obtain ⟨o, ho⟩ := nd8.hok.some ha
      rw [hq] at ho
      cases ho
  exact k p _ _ (b7.trans b9) ⟨dx, pB, pS, u1, _, _, nd9.wide.appS (dcD_rp.mpr ⟨q, m, rfl, hq9, krN_any r9⟩)⟩
end
end K38

set_option Elab.async false
set_option linter.all false
set_option maxRecDepth 100000
set_option maxHeartbeats 4000000
namespace K38
open PySem PySem.Spec PyProof.Rows L2
open PySem.W (Datum Tup)
local macro_rules | `(tactic| walk_at "gv1") => `(tactic| first | exact gv_int | exact gv_str | exact gv_non | exact gv_bl | (refine gv_var (by assumption) ?_; exact rfl) | refine gv_I0 ?_ ?_ | refine gv_Ib ?_ ?_ | refine gv_eqI ?_ ?_ | refine gv_neI ?_ ?_ | refine gt_test ?_ | refine gt_B ?_ | exact ga_nil | refine ga_cons ?_ ?_)
local macro_rules | `(tactic| walk_at "gv") => `(tactic| repeat walk_at "gv1")

section
variable {P : Program} {w : World} {K : PySem.W.Frag} {mg : Str → Option Value} {base : Heap} {B H : Hp} {σ : L2.St} {ta te tb : TE} {G : Sg} {nx : L2.St → Hp → Prop} {rt : V → Hp → Prop} {bk ct : L2.St → Hp → Prop}
theorem gr_cellC {c : Str} [n : NF K c] {x dx : Addr} {fs : List (Str × V)} {u : HO} (h1 : H x = some (.ins (He.ga K c) dx fs)) : Gr K H (upd H x u) := Gr.upd h1 (fun _ z => by cases z) fun f hf dx fs z => by
  injection z with z1
  exact n.nf f hf z1.symm
/-- arguments, the last of them a new list -/
def GvAN (K : PySem.W.Frag) (ta : TA) (σ : L2.St) (H : Hp) (ds es : List D) : Prop := ∀ H1, Ext H H1 → ∀ Q : List V → Hp → Prop, (∀ vs p xs H2, H1 p = none → Ext H1 H2 → Rps K H2 ds vs → H2 p = some (.lst xs) → Rps K H2 es xs → Q (vs ++ [.ref p]) H2) → ta σ H1 Q
theorem gan_last {es : List D} (h : GvN K te σ H es) : GvAN K (tCons te tNil) σ H [] es := fun H1 e Q q => h H1 e _ fun p xs H2 hp e2 h2 r => q [] p xs H2 hp e2 .nil h2 r
theorem gan_cons {tA : TA} {d : D} {ds es : List D} (h : Gv K te σ H d) (hs : GvAN K tA σ H ds es) : GvAN K (tCons te tA) σ H (d :: ds) es := fun H1 e Q q => h H1 e _ fun v H2 e2 rv => hs H2 (e.trans e2) _ fun vs p xs H3 hp e3 rs h3 r => q (v :: vs) p xs H3 (fresh_back e2 hp) (e2.trans e3) (.cons (rv.ext e3) rs) h3 r
theorem s_methN {c m : Str} {sp : Sp} {E0' : XK} {i : Nat} {x dx : Addr} {fs : List (Str × V)} {tA : TA} {ds es : List D} (E : Sl K H G σ) (hi : G[i]? = some (some (.adr x))) (hx : H x = some (.ins (He.ga K c) dx fs)) (hm : fs.lookup m = none) (ha : GvAN K tA σ H ds es)
    (k : ∀ vs p xs H1, H p = none → Ext H H1 → Rps K H1 ds vs → H1 p = some (.lst xs) → Rps K H1 es xs → sp (.ref x :: (vs ++ [.ref p])) H1 (fun _ H2 => nx σ H2) E0') : tDrop (tMeth (He.ga K c) m sp [] E0' (tVar i) tA) ⟨nx, rt, bk, ct⟩ σ H := by
  obtain ⟨v, h1, h2⟩ := E.2 i _ hi
  have ev : v = .ref x := h2
  subst ev
  exact ⟨_, h1, x, dx, fs, rfl, hx, hm, ha H Ext.rfl' _ fun vs p xs H1 hp e1 r h3 r3 => by
    rw [List.append_nil]
    exact k vs p xs H1 hp e1 r h3 r3⟩
abbrev fN1 : List Str := ["hasher"]
abbrev fN2 : List Str := ["hasher", "chain"]
abbrev fN3 : List Str := ["hasher", "chain", "blocks"]
abbrev n_Node_init : List Str := ["self", "hasher", "chain", "time", "members", "following", "pairs"]
theorem sc_Node_init : FnScope n_Node_init ["self", "hasher", "chain", "time", "members", "following", "pairs"] (defScope s_Node_init) := ⟨rfl, rfl, rfl, by decide +kernel, rfl, by decide +kernel, by decide +kernel⟩
def spNo (K : PySem.W.Frag) : Sp := fun vs H Q _ => ∃ (x dx : Addr) (us : List V) (B : Hp) (a : AdA), (AdOk a ∧ a.n.bs = [] ∧ a.ps = [] ∧ a.ss = [] ∧ a.pv = 0) ∧ vs = .ref x :: us ∧ Cell B H x dx (He.ga K "Node") [] ∧ Rps K B [hshD a.n.w, nD 7, nD a.t, memD a.m, memD a.f, dcD nD a.Ps] us ∧
  ∀ p B' H', Ext B B' → NdAt K B' H' x ⟨a.n.w, a.n.L, [(p, a.blk)]⟩ [a.Ps] → Q .non H'
theorem mak_Node (T : Txt K mg) : C8.Mak P w K mg base 18 "Node" (He.ga K "Node") (spNo K) [] := by
  obtain ⟨fd, F⟩ := T.f_Node_init
  refine makD T.mk_Node T.g_Node F (fun _ _ _ _ _ _ us hl => match us, hl with | [_, _, _, _, _, _, _], _ => rfl) sc_Node_init (fun vs H Q E h => (by obtain ⟨x, dx, us, B, a, _, rfl, _, r, _⟩ := h; rw [List.length_cons, r.len]; rfl)) (fun cdv A outer s H vs Q E hr h => ?_)
  obtain ⟨x, dx, us, B, a, ⟨ok, hb0, hp0, hs0, hv0⟩, rfl, cl, r, k⟩ := h
  haveI : NF K "Node" := nf_of T 6 (by decide) rfl
  refine ⟨_, (pss_cons (ps_fld (pv 0) (pv 1) rfl)
      (pss_cons (ps_fld (pv 0) (pv 2) rfl)
      (pss_cons (ps_fld (pv 0) (pe_lst pa_nil) rfl)
      (pss_cons (ps_fld (pv 0) (pe_lst pa_nil) rfl)
      (pss_one (ps_expr (C8.pe_mt (met_Node_add T) hr (by decide) (pv 0) (pa_cons (pv 3) (pa_cons (pv 4) (pa_cons (pv 5) (pa_cons (pv 6) (pa_cons pe_int (pa_cons (pe_lst pa_nil) pa_nil))))))))))))), ?_⟩
  obtain ⟨y1, _, rfl, q1, y2, _, rfl, q2, y3, _, rfl, q3, y4, _, rfl, q4, y5, _, rfl, q5, y6, _, rfl, q6, rfl⟩ := r
  obtain ⟨pP, mP, rfl, hPP, kP⟩ := dcD_rp.mp q6
  have E : Sl K B [some (.adr x), some (hshD a.n.w), some (nD 7), some (nD a.t), some (memD a.m), some (memD a.f), some (.adr pP)] _ := Sl.start (N := n_Node_init) (Rps.cons (d := .adr x) rfl (.cons q1 (.cons q2 (.cons q3 (.cons q4 (.cons q5 (.cons (d := .adr pP) rfl .nil)))))))
  refine s_iniV (K := K) (d := hshD a.n.w) (fs := []) (us := []) E rfl cl rfl (gv_var (E.ext cl.ext) rfl) T.cl_Node T.na_Node_hasher rfl (by decide) fun v1 H1 e1 r1 => ?_
  have c1 := (cl.mono e1).set (fN1.zip [v1])
  refine s_iniV (K := K) (d := nD 7) (fs := fN1) (us := [v1]) E rfl c1 rfl (gv_var (E.ext c1.ext) rfl) T.cl_Node T.na_Node_chain (by decide +kernel) (by decide) fun v2 H2 e2 r2 => ?_
  have ev2 : v2 = .int 7 := r2
  subst ev2
  have c2 := (c1.mono e2).set (fN2.zip [v1, .int 7])
  refine s_iniR (K := K) (ds := []) (fs := fN2) (us := [v1, .int 7]) E rfl c2 rfl (gn_none (ds := [])) T.cl_Node T.na_Node_blocks (by decide +kernel) (by decide) fun pB xs H3 hpB e3 h3 r3 => ?_
  have c3 := (c2.mono e3).set (fN3.zip [v1, .int 7, .ref pB])
  refine s_iniR (K := K) (ds := []) (fs := fN3) (us := [v1, .int 7, .ref pB]) E rfl c3 rfl (gn_none (ds := [])) T.cl_Node T.na_Node_states (by decide +kernel) (by decide) fun pS ys H4 hpS e4 h4 r4 => ?_
  have c4 := (c3.mono e4).set (fNd.zip [v1, .int 7, .ref pB, .ref pS])
  have exs : xs = [] := r3
  have eys : ys = [] := r4
  subst exs eys
  have nxB : pB ≠ x := ne_at hpB c2.at_
  have nxS : pS ≠ x := ne_at hpS c3.at_
  have h3' : (upd H3 x (.ins (He.ga K "Node") dx (fN3.zip [v1, .int 7, .ref pB]))) pB = some (.lst []) := by rw [upd_ne nxB]; exact h3
  have h4B : (upd H4 x (.ins (He.ga K "Node") dx (fNd.zip [v1, .int 7, .ref pB, .ref pS]))) pB = some (.lst []) := by rw [upd_ne nxB]; exact e4 _ _ h3'
  have h4S : (upd H4 x (.ins (He.ga K "Node") dx (fNd.zip [v1, .int 7, .ref pB, .ref pS]))) pS = some (.lst []) := by rw [upd_ne nxS]; exact h4
  have nBS : pB ≠ pS := (ne_at hpS h3').symm
  have g1 : Gr K H1 _ := gr_cellC (c := "Node") (u := .ins (He.ga K "Node") dx (fN1.zip [v1])) (cl.mono e1).at_
  have g2 : Gr K H2 _ := gr_cellC (c := "Node") (u := .ins (He.ga K "Node") dx (fN2.zip [v1, .int 7])) (c1.mono e2).at_
  have g3 : Gr K H3 _ := gr_cellC (c := "Node") (u := .ins (He.ga K "Node") dx (fN3.zip [v1, .int 7, .ref pB])) (c2.mono e3).at_
  have g4 : Gr K H4 _ := gr_cellC (c := "Node") (u := .ins (He.ga K "Node") dx (fNd.zip [v1, .int 7, .ref pB, .ref pS])) (c3.mono e4).at_
  have r5 := r1.gr (g1.trans ((Gr.of e2).trans (g2.trans ((Gr.of e3).trans (g3.trans ((Gr.of e4).trans g4)))))) _ (inferInstance : Pu (hshD a.n.w)).pu
  have fB : ∀ b ∈ ndL x dx pB pS, B b = none := fun b hb => by
    rcases List.mem_cons.mp hb with rfl | hb
    · exact fresh_back c2.ext hpB
    rcases List.mem_cons.mp hb with rfl | hb
    · exact fresh_back c3.ext hpS
    rcases List.mem_cons.mp hb with rfl | hb
    · exact cl.fx
    · rw [List.mem_singleton.mp hb]
      exact cl.fd
  have nd0 : ∀ {H5 : Hp}, Ext (upd H4 x (.ins (He.ga K "Node") dx (fNd.zip [v1, .int 7, .ref pB, .ref pS]))) H5 → ∃ v, v = v1 ∧ NdX K (hide (ndL x dx pB pS) H5) H5 x dx pB pS v [] [] a.n a.ps := fun {H5} e5 => by
    have c5 := c4.mono e5
    have hok : HideOk H5 (ndL x dx pB pS) := fun b hb => by
      rcases List.mem_cons.mp hb with rfl | hb
      · exact .inl ⟨[], e5 _ _ h4B⟩
      rcases List.mem_cons.mp hb with rfl | hb
      · exact .inl ⟨[], e5 _ _ h4S⟩
      rcases List.mem_cons.mp hb with rfl | hb
      · exact .inr (.inr (.inl ⟨_, dx, _, c5.at_, by simp⟩))
      · rw [List.mem_singleton.mp hb]
        exact .inr (.inr (.inr ⟨x, _, _, c5.own, c5.at_, by simp⟩))
    have gh : Gr K H5 (hide (ndL x dx pB pS) H5) := gr_hide hok fun b hb f hf dx' fs z => by
      rcases List.mem_cons.mp hb with rfl | hb
      · rw [e5 _ _ h4B] at z
        cases z
      rcases List.mem_cons.mp hb with rfl | hb
      · rw [e5 _ _ h4S] at z
        cases z
      rcases List.mem_cons.mp hb with rfl | hb
      · rw [c5.at_] at z
        injection z with z
        injection z with z1
        exact (nf_of T 6 (by decide) rfl : NF K "Node").nf f hf z1.symm
      · rw [List.mem_singleton.mp hb, c5.own] at z
        cases z
    refine ⟨v1, rfl, ⟨hide_ext, hide_in (by simp), hide_in (by simp), c5.ne, c5.at_, c5.own⟩, (r5.ext e5).gr gh _ (inferInstance : Pu (hshD a.n.w)).pu, ⟨hide_ext, hide_in (by simp), e5 _ _ h4B⟩, by rw [hb0]; exact .nil, ⟨hide_ext, hide_in (by simp), e5 _ _ h4S⟩, by rw [hp0]; exact .nil, nBS⟩
  have E4 := E.ext c4.ext
  refine s_methN (K := K) E4 rfl c4.at_ (by exact lookup_zip_none (fs := fNd) (by decide +kernel)) (gan_cons (gv_var E4 rfl) (gan_cons (gv_var E4 rfl) (gan_cons (gv_var E4 rfl) (gan_cons (gv_var E4 rfl) (gan_cons (gv_nat 0) (gan_last (gn_none (ds := []))))))))  fun vs pl zs H5 hpl e5 r5' h5 r6 => ?_
  have ezs : zs = [] := r6
  subst ezs
  obtain ⟨w1, _, rfl, s1, w2, _, rfl, s2, w3, _, rfl, s3, w4, _, rfl, s4, w5, _, rfl, s5, rfl⟩ := r5'
  have ew4 : w4 = .ref pP := s4
  subst ew4
  obtain ⟨_, rfl, nd⟩ := nd0 e5
  have g5 := nd.gr T
  have hpl5 : hide (ndL x dx pB pS) H5 pl = some (.lst []) := by
    rw [hide_out]
    · exact h5
    · intro hb
      rcases List.mem_cons.mp hb with e | hb
      · exact ne_at hpl h4B e
      rcases List.mem_cons.mp hb with e | hb
      · exact ne_at hpl h4S e
      rcases List.mem_cons.mp hb with e | hb
      · exact ne_at hpl c4.at_ e
      · exact ne_at hpl c4.own (List.mem_singleton.mp hb)
  have b5 : Ext B (hide (ndL x dx pB pS) H5) := ext_hide (c4.ext.trans e5) fB
  refine ⟨_, x, a, w1, w2, w3, .ref pP, w5, .ref pl, ok, rfl, ⟨dx, pB, pS, _, [], [], nd⟩, .cons s1 (.cons (s2.gr g5 _ (inferInstance : Pu (memD a.m)).pu) (.cons (s3.gr g5 _ (inferInstance : Pu (memD a.f)).pu) (.cons (q6.ext b5) (.cons (by rw [hv0]; exact s5) (.cons (by rw [hs0]; exact ⟨pl, [], rfl, hpl5, .nil⟩) .nil))))), fun p B' H' e6 nd' => ?_⟩
  rw [hb0, hp0] at nd'
  exact k p B' H' (b5.trans e6) nd'
abbrev n_Node_pairs_at : List Str := ["self", "height"]
theorem sc_Node_pairs_at : FnScope n_Node_pairs_at ["self", "height"] (defScope s_Node_pairs_at) := ⟨rfl, rfl, rfl, by decide +kernel, rfl, by decide +kernel, by decide +kernel⟩
def spPat (K : PySem.W.Frag) : Sp := fun vs H Q _ => ∃ (x dx : Addr) (us : List V) (ps : List Prs2) (i : Nat) (Ps : Prs2) (v : V), vs = [.ref x, v] ∧ H x = some (.ins (He.ga K "Node") dx (fNd.zip us)) ∧ Rps K H [.any, .any, .any, .lst (ps.map (dcD nD))] us ∧ Rp K H (nD i) v ∧ ps[i]? = some Ps ∧ ∀ p m H', H p = none → Ext H H' → H' p = some (.dK m) → KR K H' nD Ps m → Q (.ref p) H'
theorem met_Node_pairs_at (T : Txt K mg) : C8.Met P w K mg base 1 (He.ga K "Node") "pairs_at" (spPat K) [] := by
  obtain ⟨fd, F⟩ := T.f_Node_pairs_at
  refine metD T.cl_Node T.me_Node_pairs_at F (fun _ _ _ _ _ _ us hl => match us, hl with | [_, _], _ => rfl) sc_Node_pairs_at (fun vs H Q E h => (by obtain ⟨x, dx, us, ps, i, Ps, v, rfl, _⟩ := h; rfl)) (fun cdv A outer s H vs Q E hr h => ?_)
  obtain ⟨x, dx, us, ps, i, Ps, v, rfl, hx, hu, rv, hi, k⟩ := h
  refine ⟨_, (pss_one (ps_ret (pe_callTy call_dictD (by rfl) T.b_dict (by decide +kernel) (pa_cons (pe_ix (ix_list : IxR _ (rIxL K)) (pe_fld (pv 0) rfl) (pv 1) (fun _ _ => rfl)) pa_nil)))), ?_⟩
  have E : Sl K H [some (.ins "Node" fNd [.any, .any, .any, .lst (ps.map (dcD nD))]), some (nD i)] _ := Sl.start (N := n_Node_pairs_at) (Rps.cons (d := .ins "Node" fNd [.any, .any, .any, .lst (ps.map (dcD nD))]) ⟨x, dx, us, rfl, hx, hu⟩ (.cons rv .nil))
  exact (gd_copy (emb := nD) (l := Ps) (gv_ixLN (gv_fld (gv_var E rfl) T.cl_Node T.na_Node_states (n := 3) (by decide +kernel) (by decide) rfl) (gv_var E rfl) (by rw [List.getElem?_map, hi]; rfl))) H Ext.rfl' _ fun p m H' hp e h r => k p m H' hp e h r
end
end K38

set_option Elab.async false
set_option linter.all false
set_option maxRecDepth 100000
set_option maxHeartbeats 4000000
namespace K38
open PySem PySem.Spec PyProof.Rows L2
open PySem.W (Datum Tup)
local macro_rules | `(tactic| walk_at "gv1") => `(tactic| first | exact gv_int | exact gv_str | exact gv_non | exact gv_bl | (refine gv_var (by assumption) ?_; exact rfl) | refine gv_I0 ?_ ?_ | refine gv_Ib ?_ ?_ | refine gv_eqI ?_ ?_ | refine gv_neI ?_ ?_ | refine gt_test ?_ | refine gt_B ?_ | exact ga_nil | refine ga_cons ?_ ?_)
local macro_rules | `(tactic| walk_at "gv") => `(tactic| repeat walk_at "gv1")

def nPs (P : Prs2) (k : Nat) (o : Option Nat) : Prs2 := match o with
  | some v => putN P k v
  | none => if (lk P k).isSome = true then dropN P k else P
section
variable {P : Program} {w : World} {K : PySem.W.Frag} {mg : Str → Option Value} {base : Heap} {B H : Hp} {σ : L2.St} {ta te tb : TE} {G : Sg} {nx : L2.St → Hp → Prop} {rt : V → Hp → Prop} {bk ct : L2.St → Hp → Prop}
theorem gv_dgetF {pC : Addr} {od : Obj} {m : List (L2.Key × V)} {k : Nat} {v : V} {d : D} (hp : H pC = some (.frz od (.dK m))) (h : Gv K te σ H (.adr pC)) (hk : Gv K tb σ H (nD k)) (hv : valV m (nK k) = some v) (hd : ∀ H', Rp K H' d v) : Gv K (tDGet te tb) σ H d := fun H1 e Q q => h H1 e _ fun x H2 e2 rx => hk H2 (e.trans e2) _ fun y H3 e3 ry => by
  have ex : x = .ref pC := rx
  have ey : y = .int k := ry
  subst ex ey
  exact ⟨pC, v, rfl, .inl ⟨m, nK k, .inr ⟨od, ((e.trans e2).trans e3) _ _ hp⟩, rfl, hv.symm⟩, q v H3 (e2.trans e3) (hd H3)⟩
structure GrA where
  n : Nod
  ps : List Prs2
  t : Nat
  k0 : Nat
  o0 : Option Nat
  f : Mem
  ss : List Sgn
  z : BkA
  Ps : Prs2
def GrA.ad (a : GrA) : AdA := ⟨a.n, a.ps, a.t, a.z.2.fol, a.f, nPs a.Ps a.k0 a.o0, hdg a.n.w a.z.2.h, a.ss⟩
structure GrOk (a : GrA) : Prop where
  ad : AdOk a.ad
  bs : ∃ b0, a.n.bs = b0 ++ [a.z]
  ps : a.ps[a.n.bs.length - 1]? = some a.Ps
  z : HdrOk a.z.2.h
  Ps : PsOk a.Ps
abbrev n_Node_grow : List Str := ["self", "time", "changes", "following", "signers", "pairs", "key", "last"]
theorem sc_Node_grow : FnScope n_Node_grow ["self", "time", "changes", "following", "signers"] (defScope s_Node_grow) := ⟨rfl, rfl, rfl, by decide +kernel, rfl, by decide +kernel, by decide +kernel⟩
def spGr (K : PySem.W.Frag) : Sp := fun vs H Q _ => ∃ (B : Hp) (x : Addr) (a : GrA) (v1 v2 v3 v4 : V), GrOk a ∧ vs = [.ref x, v1, v2, v3, v4] ∧ NdAt K B H x a.n a.ps ∧ Rps K B [nD a.t, dcD (opD nD) [(a.k0, a.o0)], memD a.f, .lst (a.ss.map sgD)] [v1, v2, v3, v4] ∧
  ∀ p B' H', Ext B B' → NdAt K B' H' x ⟨a.n.w, a.n.L, a.n.bs ++ [(p, a.ad.blk)]⟩ (a.ps ++ [nPs a.Ps a.k0 a.o0]) → Q .non H'
theorem met_Node_grow (T : Txt K mg) : C8.Met P w K mg base 18 (He.ga K "Node") "grow" (spGr K) [] := by
  obtain ⟨fd, F⟩ := T.f_Node_grow
  refine metD T.cl_Node T.me_Node_grow F (fun _ _ _ _ _ _ us hl => match us, hl with | [_, _, _, _, _], _ => rfl) sc_Node_grow (fun vs H Q E h => (by obtain ⟨B, x, a, v1, v2, v3, v4, _, rfl, _⟩ := h; rfl)) (fun cdv A outer s H vs Q E hr h => ?_)
  obtain ⟨B, x, a, v1, v2, v3, v4, ok, rfl, ⟨dx, pB, pS, u1, xs, ys, nd⟩, rs, k⟩ := h
  obtain ⟨b0, hbs⟩ := ok.bs
  have hbl : 1 ≤ a.n.bs.length := by rw [hbs]; simp
  have hw := ok.ad.hw
  refine ⟨_, (pss_cons (ps_set (i := 5) sc_Node_grow.nd rfl (Or.inl rfl) (C8.pe_mt (met_Node_pairs_at T) hr (by decide) (pv 0) (pa_cons (C8.pe_mt0 (met_Node_height T) hr (by decide) (pv 0)) pa_nil)))
      (pss_cons (ps_lock (ps_for PassesOwn.never rfl (pi_keys (pv 2)) (pg_name (i := 6) sc_Node_grow.nd rfl (Or.inl rfl)) (pss_one (ps_if (pt_cmpR op_notN1 (pe_dget (hu_of hr) (pv 2) (pv 6) (fun _ _ => rfl)) pe_non (nomark _)) (pss_one (ps_dput (hu_of hr) (pv 5) (pv 6) (pe_dget (hu_of hr) (pv 2) (pv 6) (fun _ _ => rfl)) rfl)) (pss_one (ps_if (pt_cmp (pc_din (hu_of hr) (pv 6) (pv 5)) (by rfl)) (pss_one (ps_expr (pe_dpop1 (pv 5) (pv 6) ⟨rfl, rfl, rfl, rfl⟩))) pss_nil))))))
      (pss_cons (ps_set (i := 7) sc_Node_grow.nd rfl (Or.inl rfl) (pe_ix (ix_list : IxR _ (rIxL K)) (pe_fld (pv 0) rfl) (pe_un un_neg pe_int) (fun _ _ => rfl)))
      (pss_one (ps_expr (C8.pe_mt (met_Node_add T) hr (by decide) (pv 0) (pa_cons (pv 1) (pa_cons (pe_fld (pv 7) rfl) (pa_cons (pv 3) (pa_cons (pv 5) (pa_cons (C8.pe_c (cal_header_digest T) hr (by decide) rfl (pa_cons (pe_fld (pv 0) rfl) (pa_cons (pe_fld (pv 7) rfl) pa_nil))) (pa_cons (pv 4) pa_nil)))))))))))), ?_⟩
  obtain ⟨y1, _, i1, q1, y2, _, i2, q2, y3, _, i3, q3, y4, _, i4, q4, i5⟩ := id rs
  cases i1
  cases i2
  cases i3
  cases i4
  obtain ⟨pC, mC, rfl, hPC, kC⟩ := dcD_rp.mp q2
  obtain ⟨pSg, zSg, rfl, hSg, hSs⟩ := id q4
  have EB : Sl K B [some (.adr x), some (nD a.t), some (.adr pC), some (memD a.f), some (.adr pSg), none, none, none] _ := Sl.start (N := n_Node_grow) (Rps.cons (d := .adr x) rfl (.cons q1 (.cons (d := .adr pC) rfl (.cons q3 (.cons (d := .adr pSg) rfl .nil)))))
  have E := EB.ext nd.ce.ext
  refine s_methA E rfl nd.ce.at_ (by exact lookup_zip_none (fs := fNd) (by decide +kernel)) (ga_cons (gv_meth (gv_view (gv_var E rfl) nd.view) rfl ga_nil (ok_nh hbl)) ga_nil) fun vs H1 e1 r1 => ?_
  obtain ⟨vh, rfl, rvh⟩ := one_of r1
  have nd1 := nd.mono e1
  obtain ⟨_, dx', us, ex', hx1, hu1⟩ := nd1.viewS
  cases ex'
  refine ⟨x, dx', us, a.ps, a.n.bs.length - 1, a.Ps, vh, rfl, hx1, hu1, rvh, ok.ps, fun pQ mQ H2 hpQ e2 hQ kQ => ?_⟩
  have nd2 := nd1.mono e2
  have hpQ0 : H pQ = none := fresh_back e1 hpQ
  have e02 := e1.trans e2
  have hC2 : H2 pC = some (.dK mC) := e02 _ _ (nd.ce.ext _ _ hPC)
  have nQC : pQ ≠ pC := ne_at hpQ0 (nd.ce.ext _ _ hPC)
  obtain ⟨vc, rC, eC, rvC, rCn⟩ := kC
  have eCn : rC = [] := rCn
  subst eCn
  have rvC' : ∀ H', Rp K H' (opD nD a.o0) vc := fun H' => by
    cases q : a.o0 with
    | none =>
      rw [q] at rvC
      exact rvC
    | some v =>
      rw [q] at rvC
      exact rvC
  have hvc : valV mC (nK a.k0) = some vc := by rw [eC]; exact valV_pos rfl
  let GI : Sg := [some (.adr x), some (nD a.t), some (.adr pC), none, none, some (.adr pQ), none, none]
  have EI : ∀ H', Sl K H' GI _ := fun H' => ⟨(E.set (i := 5) (d := .adr pQ) (v := .ref pQ) rfl).1, fun i dd hi => by
    obtain ⟨v, h1, h2⟩ := ((E.set (i := 5) (d := .adr pQ) (v := .ref pQ) rfl).wk (G' := GI) ⟨.inr rfl, .inr rfl, .inr rfl, .inl rfl, .inl rfl, .inr rfl, .inl rfl, .inl rfl, trivial⟩).2 i dd hi
    refine ⟨v, h1, ?_⟩
    match i, hi with
    | 0, hi => cases hi; exact h2
    | 1, hi => cases hi; exact h2
    | 2, hi => cases hi; exact h2
    | 5, hi => cases hi; exact h2
    | 3, hi => cases hi
    | 4, hi => cases hi
    | 6, hi => cases hi
    | 7, hi => cases hi
    | n + 8, hi => exact nomatch (show (none : Option (Option D)) = _ from hi)⟩
  let I : Obj → Nat → L2.St → Hp → Prop := fun od n σ' H' => H' pC = some (.frz od (.dK mC)) ∧ (∀ b o, b ≠ pC → b ≠ pQ → H2 b = some o → H' b = some o) ∧ (∃ m, H' pQ = some (.dK m) ∧ KR K H' nD (if n = 0 then a.Ps else nPs a.Ps a.k0 a.o0) m) ∧ Sl K H' GI σ' ∧ Sl K B [some (.adr x), some (nD a.t), some (.adr pC), some (memD a.f), some (.adr pSg), none, none, none] (σ'.set 5 none)
  have hPl := ok.Ps.le
  have flat : ∀ {H' H'' : Hp} {σ' : L2.St}, Sl K H' GI σ' → Sl K H'' GI σ' := fun {H' H'' σ'} E => ⟨E.1, fun i dd hi => by
    obtain ⟨v, h1, h2⟩ := E.2 i dd hi
    refine ⟨v, h1, ?_⟩
    match i, hi with
    | 0, hi => cases hi; exact h2
    | 1, hi => cases hi; exact h2
    | 2, hi => cases hi; exact h2
    | 5, hi => cases hi; exact h2
    | 3, hi => cases hi
    | 4, hi => cases hi
    | 6, hi => cases hi
    | 7, hi => cases hi
    | n + 8, hi => exact nomatch (show (none : Option (Option D)) = _ from hi)⟩
  refine s_forKeys (emb := opD nD) (l := [(a.k0, a.o0)]) (EI H2) rfl hC2 (by rw [eC]; exact ⟨vc, [], rfl, rvC' _, rfl⟩) I (fun od => ⟨upd_same, fun b o h1 h2 h3 => by rw [upd_ne h1]; exact h3, ⟨mQ, by rw [upd_ne nQC]; exact hQ, krN_any kQ⟩, flat (EI H2), ?_⟩) (fun od n σ' H' h => h.1) (fun od n z σ' H' hz hI => ?_) (fun od σ' H' hI => ?_)
  · have := (EB.set (i := 5) (d := .any) (v := .ref pQ) trivial).wk (G' := [some (.adr x), some (nD a.t), some (.adr pC), some (memD a.f), some (.adr pSg), none, none, none]) ⟨.inr rfl, .inr rfl, .inr rfl, .inr rfl, .inr rfl, .inl rfl, .inl rfl, .inl rfl, trivial⟩
    have q := this.unset (i := 5)
    exact q
  · obtain ⟨hfz, hb, ⟨ml, hl, kl⟩, E', hB⟩ := hI
    have hn1 : n < 1 := (List.getElem?_eq_some_iff.mp hz).1
    have n0 : n = 0 := by omega
    subst n0
    have ez : (a.k0, a.o0) = z := Option.some.inj hz
    subst ez
    rw [if_pos rfl] at kl
    have E3 := E'.set (i := 6) (d := nD a.k0) (v := .int (a.k0 : Int)) rfl
    have hB3 : Sl K B [some (.adr x), some (nD a.t), some (.adr pC), some (memD a.f), some (.adr pSg), none, none, none] ((σ'.set 6 (some (.int (a.k0 : Int)))).set 5 none) := by
      rw [List.set_comm _ _ (by decide : (6 : Nat) ≠ 5)]
      exact (hB.set (i := 6) (d := .any) trivial).wk ⟨.inr rfl, .inr rfl, .inr rfl, .inr rfl, .inr rfl, .inl rfl, .inl rfl, .inl rfl, trivial⟩
    have lml : ml.length ≤ 60 := by rw [kl.len]; exact hPl
    have hopt : (opD nD a.o0).isN = some a.o0.isNone := by cases a.o0 <;> rfl
    refine s_if E3 (gt_test (gv_notN (gv_dgetF hfz (gv_var E3 rfl) (gv_var E3 rfl) hvc rvC') hopt)) (fun hc H3 e3 E4 => ?_) fun hc H3 e3 E4 => ?_
    · obtain ⟨v, hv⟩ : ∃ v, a.o0 = some v := by
        cases q : a.o0 with
        | none =>
          rw [q] at hc
          cases hc
        | some v => exact ⟨v, rfl⟩
      obtain ⟨w0, g0, g0'⟩ := E4.2 2 _ rfl
      obtain ⟨w4, g4, g4'⟩ := E4.2 6 _ rfl
      obtain ⟨w2, g2, g2'⟩ := E4.2 5 _ rfl
      cases (show w0 = .ref pC from g0')
      cases (show w4 = nV a.k0 from g4')
      cases (show w2 = .ref pQ from g2')
      refine ⟨_, g0, _, g4, pC, _, rfl, .inl ⟨mC, nK a.k0, .inr ⟨od, e3 _ _ hfz⟩, rfl, hvc.symm⟩, _, g2, _, g4, pQ, _, rfl, DPut.k (k := nK a.k0) (e3 _ _ hl) (sz_lt (by omega)), ?_⟩
      refine ⟨by rw [upd_ne nQC.symm]; exact e3 _ _ hfz, fun b o h1 h2 h3 => by rw [upd_ne h2]; exact e3 _ _ (hb b o h1 h2 h3), ⟨_, upd_same, ?_⟩, flat (E4.wk (G' := GI) ⟨.inr rfl, .inr rfl, .inr rfl, .inr rfl, .inr rfl, .inr rfl, .inl rfl, .inr rfl, trivial⟩), hB3⟩
      rw [if_neg (by decide), hv]
      show KR K _ nD (putN a.Ps a.k0 v) _
      have rv := rvC' H'
      rw [hv] at rv
      exact krN_any (KR.put (K := K) (H := H') kl rv)
    · have hv : a.o0 = none := by
        cases q : a.o0 with
        | none => rfl
        | some v =>
          rw [q] at hc
          cases hc
      refine s_if E4 (gt_test (gv_din (gv_var E4 rfl) (gv_view (gv_var E4 rfl) (dcD_rp.mpr ⟨pQ, ml, rfl, e3 _ _ hl, krN_any (K := K) kl⟩)))) (fun hc2 H5 e5 E5 => ?_) fun hc2 H5 e5 E5 => ?_
      · obtain ⟨v, hlk⟩ := Option.isSome_iff_exists.mp hc2
        obtain ⟨vv, hval, _⟩ := kl.val.1 v hlk
        obtain ⟨w4, g4, g4'⟩ := E5.2 6 _ rfl
        obtain ⟨w2, g2, g2'⟩ := E5.2 5 _ rfl
        cases (show w4 = nV a.k0 from g4')
        cases (show w2 = .ref pQ from g2')
        have hl5 := e5 _ _ (e3 _ _ hl)
        refine ⟨_, g2, pQ, rfl, .inl ⟨ml, .inl hl5⟩, _, g4, ml, nK a.k0, vv, hl5, rfl, hval, ?_⟩
        refine ⟨by rw [upd_ne nQC.symm]; exact e5 _ _ (e3 _ _ hfz), fun b o h1 h2 h3 => by rw [upd_ne h2]; exact e5 _ _ (e3 _ _ (hb b o h1 h2 h3)), ⟨_, upd_same, ?_⟩, flat (E5.wk (G' := GI) ⟨.inr rfl, .inr rfl, .inr rfl, .inr rfl, .inr rfl, .inr rfl, .inl rfl, .inr rfl, trivial⟩), hB3⟩
        rw [if_neg (by decide), hv]
        show KR K _ nD (if (lk a.Ps a.k0).isSome = true then dropN a.Ps a.k0 else a.Ps) _
        rw [if_pos hc2]
        exact krN_any (KR.drop (K := K) (H := H') kl)
      · refine s_nop ⟨e5 _ _ (e3 _ _ hfz), fun b o h1 h2 h3 => e5 _ _ (e3 _ _ (hb b o h1 h2 h3)), ⟨ml, e5 _ _ (e3 _ _ hl), ?_⟩, flat (E5.wk (G' := GI) ⟨.inr rfl, .inr rfl, .inr rfl, .inr rfl, .inr rfl, .inr rfl, .inl rfl, .inr rfl, trivial⟩), hB3⟩
        rw [if_neg (by decide), hv]
        show KR K _ nD (if (lk a.Ps a.k0).isSome = true then dropN a.Ps a.k0 else a.Ps) _
        rw [if_neg (by rw [hc2]; decide)]
        exact krN_any kl
  · obtain ⟨hfz, hb, ⟨ml, hl, kl⟩, E', hB⟩ := hI
    rw [if_neg (by show ¬ (1 = 0); decide)] at kl
    have eF : Ext H (upd H' pC (.dK mC)) := fun b o ho => by
      by_cases hbc : b = pC
      · rw [hbc, upd_same, ← hC2, ← hbc]
        exact e02 _ _ ho
      · rw [upd_ne hbc]
        exact hb b o hbc (ne_of_none ho hpQ0) (e02 _ _ ho)
    have ndf := nd.mono eF
    have hQf : (upd H' pC (.dK mC)) pQ = some (.dK ml) := by rw [upd_ne nQC]; exact hl
    have EF : Sl K (upd H' pC (.dK mC)) [some (.adr x), some (nD a.t), some (.adr pC), some (memD a.f), some (.adr pSg), some (.adr pQ), none, none] σ' := ⟨E'.1, fun i dd hi => by
      by_cases h5 : i = 5
      · subst h5
        cases hi
        exact E'.2 5 _ rfl
      · have hi2 : ([some (.adr x), some (nD a.t), some (.adr pC), some (memD a.f), some (.adr pSg), none, none, none] : Sg)[i]? = some (some dd) := by
          match i, h5, hi with
          | 0, _, hi => exact hi
          | 1, _, hi => exact hi
          | 2, _, hi => exact hi
          | 3, _, hi => exact hi
          | 4, _, hi => exact hi
          | 6, _, hi => exact hi
          | 7, _, hi => exact hi
          | n + 8, _, hi => exact hi
        obtain ⟨v, h1, h2⟩ := hB.2 i dd hi2
        rw [List.getElem?_set_ne (fun z => h5 z.symm)] at h1
        exact ⟨v, h1, (h2.ext nd.ce.ext).ext eF⟩⟩
    refine s_asg (d := bkA a.z) EF (gv_ixL (gv_Nd_blocks T (gv_view (gv_var EF rfl) ndf.view)) gv_neg1 (by rw [hbs, List.map_append]; exact atI_last)) fun v7 H7 e7 r7 E7 => ?_
    have nd7 := ndf.mono e7
    refine s_meth E7 rfl nd7.ce.at_ (by exact lookup_zip_none (fs := fNd) (by decide +kernel)) (ga_cons (gv_var E7 rfl) (ga_cons (gv_Block_following T (gv_un (gv_var E7 rfl))) (ga_cons (gv_var E7 rfl) (ga_cons (gv_var E7 rfl) (ga_cons (gv_call (ga_cons (gv_Nd_hasher T (gv_view (gv_var E7 rfl) nd7.view)) (ga_cons (gv_Block_header T (gv_un (gv_var E7 rfl))) ga_nil)) (ok_hd hw ok.z)) (ga_cons (gv_var E7 rfl) ga_nil)))))) fun vs H8 e8 r8 => ?_
    obtain ⟨w1, _, rfl, s1, w2, _, rfl, s2, w3, _, rfl, s3, w4, _, rfl, s4, w5, _, rfl, s5, w6, _, rfl, s6, rfl⟩ := r8
    have ew4 : w4 = .ref pQ := s4
    have ew6 : w6 = .ref pSg := s6
    subst ew4 ew6
    have nd8 := nd7.mono e8
    have g8 := nd8.gr T
    have b8 := nd8.ehid
    have hQ8 : hide (ndL x dx pB pS) H8 pQ = some (.dK ml) := by
      rw [hide_out]
      · exact e8 _ _ (e7 _ _ hQf)
      · intro hq
        obtain ⟨o, ho⟩ := nd.hok.some hq
        rw [hpQ0] at ho
        cases ho
    exact ⟨_, x, a.ad, w1, w2, w3, .ref pQ, w5, .ref pSg, ok.ad, rfl, ⟨dx, pB, pS, u1, xs, ys, nd8.wide⟩, .cons s1 (.cons (s2.gr g8 _ (inferInstance : Pu (memD a.z.2.fol)).pu) (.cons (s3.gr g8 _ (inferInstance : Pu (memD a.f)).pu) (.cons (dcD_rp.mpr ⟨pQ, ml, rfl, hQ8, krN_any kl⟩) (.cons s5 (.cons (q4.ext b8) .nil))))), fun p B' H' e9 nd' => k p B' H' (b8.trans e9) nd'⟩
end
end K38

set_option Elab.async false
set_option linter.all false
set_option maxRecDepth 100000
set_option maxHeartbeats 4000000
namespace K38
open PySem PySem.Spec PyProof.Rows L2
open PySem.W (Datum Tup)
local macro_rules | `(tactic| walk_at "gv1") => `(tactic| first | exact gv_int | exact gv_str | exact gv_non | exact gv_bl | (refine gv_var (by assumption) ?_; exact rfl) | refine gv_I0 ?_ ?_ | refine gv_Ib ?_ ?_ | refine gv_eqI ?_ ?_ | refine gv_neI ?_ ?_ | refine gt_test ?_ | refine gt_B ?_ | exact ga_nil | refine ga_cons ?_ ?_)
local macro_rules | `(tactic| walk_at "gv") => `(tactic| repeat walk_at "gv1")

section
variable {P : Program} {w : World} {K : PySem.W.Frag} {mg : Str → Option Value} {base : Heap} {B H : Hp} {σ : L2.St} {ta te tb tk tv : TE} {tA : TA} {G : Sg} {nx : L2.St → Hp → Prop} {rt : V → Hp → Prop} {bk ct : L2.St → Hp → Prop}
theorem gd_dcR {α : Type} {emb : α → D} {n : Nat} {f : Nat → α} {vs : List Nat} {j : Nat} (E : Sl K H G σ) (hx : GvA K tA σ H [nD n]) (hl : n ≤ 50000) [hp : ∀ a, Pu (emb a)] (hj : j ∈ vs)
    (hk : ∀ a, a < n → ∀ σ2 H2, Ext H H2 → Sl K H2 ((wipeG G vs).set j (some (nD a))) σ2 → Gv K tk σ2 H2 (nD a))
    (hv : ∀ a, a < n → ∀ σ2 H2, Ext H H2 → Sl K H2 ((wipeG G vs).set j (some (nD a))) σ2 → Gv K tv σ2 H2 (emb (f a))) : GvDN K (tDc (iRng1 tA) (gName j) tYes tk tv vs) σ H emb ((List.range n).map fun k => (k, f k)) := fun H0 e0 Q q =>
  hx H0 e0 _ fun us H1 e1 rs => by
    obtain ⟨v, rfl, rv⟩ := one_of rs
    have ev : v = .int n := rv
    subst ev
    refine ⟨n, rfl, by omega, by omega, fun Dl hD => ?_⟩
    refine ⟨fun i m H => m = n - i ∧ i ≤ n ∧ Ext H1 H ∧ ∃ m2, H Dl = some (.dK m2) ∧ KR K H emb ((List.range i).map fun k => (k, f k)) m2, ⟨n, by simp, Nat.zero_le _, Ext.upd hD, [], upd_same, rfl⟩, ?_⟩
    rintro i m H' ⟨rfl, hi, e2, m2, h2, k2⟩
    by_cases hlt : i < n
    · refine .inr ⟨?_, fun H2 => i + 1 ≤ n ∧ Ext H1 H2 ∧ ∃ m2, H2 Dl = some (.dK m2) ∧ KR K H2 emb ((List.range (i + 1)).map fun k => (k, f k)) m2, fun H2 p2 => ⟨n - (i + 1), by omega, rfl, p2⟩, fun x H2 yl => ?_⟩
      · show i < (n : Int).toNat
        omega
      · obtain ⟨rfl, rfl⟩ := yl
        have E2 : Sl K H2 ((wipeG G vs).set j (some (nD i))) ((L2.wipe σ vs).set j (some (.int ((0 : Int) + (i : Int))))) := ((E.ext ((e0.trans e1).trans e2)).wipe vs).set (d := nD i) (show V.int _ = V.int _ by rw [Int.zero_add])
        refine ⟨by rw [wipe_in _ hj, wipe_twice], ?_⟩
        refine gt_yes (H := H2) H2 Ext.rfl' _ fun H3 e3 => ?_
        rw [if_pos rfl]
        have e03 := ((e0.trans e1).trans e2).trans e3
        refine hk i hlt _ H3 e03 (E2.ext e3) H3 Ext.rfl' _ fun y H4 e4 ry => hv i hlt _ H4 (e03.trans e4) ((E2.ext e3).ext e4) H4 Ext.rfl' _ fun z H5 e5 rz => ?_
        have ey : y = .int i := ry
        subst ey
        have e25 := (e3.trans e4).trans e5
        have h5 := e25 _ _ h2
        have k5 := k2.ext e25
        refine ⟨m2, nK i, rfl, h5, sz_lt (by rw [k2.len, List.length_map, List.length_range]; omega), hlt, fun b o hb => ?_, _, upd_same, ?_⟩
        · rw [upd_ne (ne_of_none hb hD)]
          exact e25 _ _ (e2 _ _ hb)
        · have g : Gr K H5 (upd H5 Dl (.dK (putK m2 (nK i) z))) := Gr.updD h5
          have q1 := KR.put (k := i) (a := f i) k5 rz
          rw [putN_new (by
            rw [List.map_map]
            intro hm
            obtain ⟨b, hb, e⟩ := List.mem_map.mp hm
            have h1 := List.mem_range.mp hb
            have h2 : b = i := e
            omega)] at q1
          rw [List.range_succ, List.map_append]
          exact q1.gr hp g
    · have e : i = n := by omega
      subst e
      refine .inl ⟨?_, q Dl m2 H' (fresh_back e1 hD) (e1.trans e2) h2 k2⟩
      show (i : Int).toNat ≤ i
      omega
theorem getD_of' {α : Type} {l : List α} {i : Nat} {d : α} (h : i < l.length) : l[i]? = some (l.getD i d) := by
  rw [List.getD_eq_getElem?_getD, List.getElem?_eq_getElem h]
  rfl
def ansL (z0 : BkA) (bs : List BkA) : List (Nat × BkA) := (List.range bs.length).map fun k => (k, bs.getD k z0)
theorem ansL_lk {z0 : BkA} {bs : List BkA} {k : Nat} : lk (ansL z0 bs) k = bs[k]? := by
  by_cases h : k < bs.length
  · have hn : ((ansL z0 bs).map (·.1)).Nodup := by
      have e : (ansL z0 bs).map (·.1) = List.range bs.length := by
        rw [ansL, List.map_map]
        exact List.map_id _
      rw [e]
      exact List.nodup_range
    have q := lk_at (l := ansL z0 bs) (i := k) (a := (k, bs.getD k z0)) hn (by rw [ansL, List.getElem?_map, List.getElem?_range h]; rfl)
    rw [q, List.getElem?_eq_getElem h]
    show some (bs.getD k z0) = _
    rw [List.getD_eq_getElem?_getD, List.getElem?_eq_getElem h]
    rfl
  · rw [List.getElem?_eq_none (by omega)]
    unfold lk
    rw [List.find?_eq_none.mpr]
    · rfl
    · intro p hp
      obtain ⟨b, hb, rfl⟩ := List.mem_map.mp hp
      have := List.mem_range.mp hb
      simp
      omega
abbrev n_Node_answers : List Str := ["self", "k"]
theorem sc_Node_answers : FnScope n_Node_answers ["self"] (defScope s_Node_answers) := ⟨rfl, rfl, rfl, by decide +kernel, rfl, by decide +kernel, by decide +kernel⟩
def spAns (K : PySem.W.Frag) : Sp := fun vs H Q _ => ∃ (n : Nod) (z0 : BkA), n.bs.length ≤ 1000 ∧ Rps K H [nodD n] vs ∧ ∀ p m H', H p = none → Ext H H' → H' p = some (.dK m) → KR K H' bkA (ansL z0 n.bs) m → Q (.ref p) H'
theorem met_Node_answers (T : Txt K mg) : C8.Met P w K mg base 1 (He.ga K "Node") "answers" (spAns K) [] := by
  obtain ⟨fd, F⟩ := T.f_Node_answers
  refine metD T.cl_Node T.me_Node_answers F (fun _ _ _ _ _ _ us hl => match us, hl with | [_], _ => rfl) sc_Node_answers (fun vs H Q E h => (by obtain ⟨n, z0, _, r, _⟩ := h; exact r.len)) (fun cdv A outer s H vs Q E hr h => ?_)
  obtain ⟨n, z0, hl, hvs, k⟩ := h
  refine ⟨_, (pss_one (ps_ret (pe_dc (own := [("k", 1)]) rfl sc_Node_answers.nd (pi_range1 rfl T.b_range (pa_cons (pe_callB call_len_seq (by rfl) T.b_len (by decide +kernel) (pa_cons (pe_fld (pv 0) rfl) pa_nil)) pa_nil)) (blkOk_by (own := [("k", 1)]) (N := n_Node_answers) (sc := defScope s_Node_answers) (by decide +kernel)) (fun _ _ _ _ _ => (pg_name (i := 1) sc_Node_answers.nd rfl (Or.inl rfl))) (fun _ _ _ _ _ => pts_nil) (fun _ _ _ _ _ => (pv 1)) (fun _ _ _ _ _ => (pe_ix (ix_list : IxR _ (rIxL K)) (show PE _ _ (tFld K _ _) from pe_fld (pv 0) rfl) (pv 1) (fun _ _ => rfl)))))), ?_⟩
  have E : Sl K H [some (nodD n), none] _ := Sl.start (N := n_Node_answers) hvs
  exact (gd_dcR (n := n.bs.length) (f := fun k => n.bs.getD k z0) (emb := bkA) E (ga_cons ((gv_lenL (gv_Nd_blocks T (gv_var E rfl))).is (by rw [List.length_map])) ga_nil) (by omega) (by simp) (fun a _ σ2 H2 e2 E2 => gv_var E2 rfl) fun a ha σ2 H2 e2 E2 => gv_ixLN (gv_Nd_blocks T (gv_var E2 rfl)) (gv_var E2 rfl) (by rw [List.getElem?_map, getD_of' ha]; rfl)) H Ext.rfl' _ fun p m H' hp e h r => k p m H' hp e h r
end
end K38

set_option Elab.async false
set_option linter.all false
set_option maxRecDepth 100000
set_option maxHeartbeats 4000000
namespace K38
open PySem PySem.Spec PyProof.Rows L2
open PySem.W (Datum Tup)
local macro_rules | `(tactic| walk_at "gv1") => `(tactic| first | exact gv_int | exact gv_str | exact gv_non | exact gv_bl | (refine gv_var (by assumption) ?_; exact rfl) | refine gv_I0 ?_ ?_ | refine gv_Ib ?_ ?_ | refine gv_eqI ?_ ?_ | refine gv_neI ?_ ?_ | refine gt_test ?_ | refine gt_B ?_ | exact ga_nil | refine ga_cons ?_ ?_)
local macro_rules | `(tactic| walk_at "gv") => `(tactic| repeat walk_at "gv1")

def lnum (c : Int) (k : Nat) : Nat := if c ≥ 1000000000000000000 then c.toNat else ((((c * 48271 + (k : Int) * 69621 + 11) % 2147483647) * ((c * 48271 + (k : Int) * 69621 + 11) % 2147483647) + (k : Int) * 40692) % 2147483399).toNat
section
variable {P : Program} {w : World} {K : PySem.W.Frag} {mg : Str → Option Value} {base : Heap} {B H : Hp} {σ : L2.St} {ta te tb : TE} {G : Sg} {nx : L2.St → Hp → Prop} {rt : V → Hp → Prop} {bk ct : L2.St → Hp → Prop}
abbrev n_law_number : List Str := ["_law_cell", "_law_k", "_law_mixed"]
theorem sc_law_number : FnScope n_law_number ["_law_cell", "_law_k"] (defScope s_law_number) := ⟨rfl, rfl, rfl, by decide +kernel, rfl, by decide +kernel, by decide +kernel⟩
def spNum (K : PySem.W.Frag) : Sp := spD K (α := Int × Nat) (fun z => z.2 ≤ 1000) (fun z => [.int z.1, nD z.2]) (fun z => nD (lnum z.1 z.2))
theorem cal_law_number (T : Txt K mg) : C8.Cal P w K mg base 1 "_law_number" (spNum K) [] := by
  obtain ⟨fd, F⟩ := T.f_law_number
  refine calD F T.g_law_number (fun _ _ _ _ _ _ us hl => match us, hl with | [_, _], _ => rfl) sc_law_number (fun vs H Q E h => (by obtain ⟨z, _, h, _⟩ := h; exact h.len)) (fun cdv A outer s H vs Q E hr h => ?_)
  obtain ⟨⟨c, k0⟩, hk, hvs, k⟩ := h
  dsimp only at hvs k hk
  refine ⟨_, (pss_cons (ps_if (pt_cmpR op_ge (pv 0) (pe_op op_pow pe_int pe_int) (nomark _)) (pss_one (ps_ret (pv 0))) pss_nil)
      (pss_cons (ps_set (i := 2) sc_law_number.nd rfl (Or.inl rfl) (pe_op op_mod (pe_callTy call_int1 (by rfl) T.b_int (by decide +kernel) (pa_cons (pe_op op_add (pe_op op_add (pe_op op_mul (pv 0) pe_int) (pe_op op_mul (pv 1) pe_int)) pe_int) pa_nil)) pe_int))
      (pss_one (ps_ret (pe_op op_mod (pe_callTy call_int1 (by rfl) T.b_int (by decide +kernel) (pa_cons (pe_op op_add (pe_op op_mul (pv 2) (pv 2)) (pe_op op_mul (pv 1) pe_int)) pa_nil)) pe_int))))), ?_⟩
  have E := Sl.start (N := n_law_number) hvs
  have p18 : (10 : Int) ^ Int.toNat 18 = 1000000000000000000 := by decide
  refine s_if E (gt_test (gv_Ib (f := fun i j => decide (i ≥ j)) (gv_var (i := 0) (d := .int c) E rfl) ((gv_I (f := fun i j => i ^ j.toNat) gv_int gv_int ⟨by decide, by decide, by decide⟩).is (by rw [p18])))) (fun hc H1 e1 E1 => ?_) fun hc H1 e1 E1 => ?_
  · have h1 : c ≥ 1000000000000000000 := of_decide_eq_true hc
    refine s_ret ((gv_var (i := 0) (d := .int c) E1 rfl).is ?_) fun v H2 e2 r2 => k v H2 (e1.trans e2) r2
    rw [lnum, if_pos h1]
    show D.int c = D.int _
    rw [Int.toNat_of_nonneg (by omega)]
  have h1 : ¬ c ≥ 1000000000000000000 := of_decide_eq_false hc
  refine s_nop ?_
  have hm1 := Int.emod_nonneg (c * 48271 + (k0 : Int) * 69621 + 11) (by decide : (2147483647 : Int) ≠ 0)
  have hm2 := Int.emod_lt_of_pos (c * 48271 + (k0 : Int) * 69621 + 11) (by decide : (0 : Int) < 2147483647)
  refine s_asg (d := .int ((c * 48271 + (k0 : Int) * 69621 + 11) % 2147483647)) E1 (gv_I (f := fun i j => i % j) (C := fun _ j => 0 < j) (gv_intI (gv_I0 (f := fun i j => i + j) (gv_I0 (f := fun i j => i + j) (gv_I (f := fun i j => i * j) (gv_var E1 rfl) gv_int (.inr ⟨by decide, by decide⟩)) (gv_I (f := fun i j => i * j) (gv_var E1 rfl) gv_int (.inr ⟨by decide, by decide⟩))) gv_int)) gv_int (by decide)) fun v2 H2 e2 _ E2 => ?_
  have hl : lnum c k0 = ((((c * 48271 + (k0 : Int) * 69621 + 11) % 2147483647) * ((c * 48271 + (k0 : Int) * 69621 + 11) % 2147483647) + (k0 : Int) * 40692) % 2147483399).toNat := by rw [lnum, if_neg h1]
  generalize (c * 48271 + (k0 : Int) * 69621 + 11) % 2147483647 = x at hm1 hm2 E2 hl
  have e64 : (2 : Int) ^ 64 = 18446744073709551616 := by decide
  have hcm : CMul x x := by
    refine .inl ?_
    rw [e64]
    omega
  refine s_ret (d := nD (lnum c k0)) (Gv.is (gv_I (f := fun i j => i % j) (C := fun _ j => 0 < j) (gv_intI (gv_I0 (f := fun i j => i + j) (gv_I (f := fun i j => i * j) (gv_var E2 rfl) (gv_var E2 rfl) hcm) (gv_I (f := fun i j => i * j) (gv_var E2 rfl) gv_int (.inr ⟨by decide, by decide⟩)))) gv_int (by decide)) ?_) fun v H3 e3 r3 => k v H3 ((e1.trans e2).trans e3) r3
  rw [hl, nD, Int.toNat_of_nonneg (Int.emod_nonneg _ (by decide))]
theorem ok_num {c : Int} {k : Nat} (h : k ≤ 1000) : SpOk K (spNum K) [.int c, nD k] H (nD (lnum c k)) := spD_ok (c, k) h
end
end K38

set_option Elab.async false
set_option linter.all false
set_option maxRecDepth 100000
set_option maxHeartbeats 4000000
namespace K38
open PySem PySem.Spec PyProof.Rows L2
open PySem.W (Datum Tup)
local macro_rules | `(tactic| walk_at "gv1") => `(tactic| first | exact gv_int | exact gv_str | exact gv_non | exact gv_bl | (refine gv_var (by assumption) ?_; exact rfl) | refine gv_I0 ?_ ?_ | refine gv_Ib ?_ ?_ | refine gv_eqI ?_ ?_ | refine gv_neI ?_ ?_ | refine gt_test ?_ | refine gt_B ?_ | exact ga_nil | refine ga_cons ?_ ?_)
local macro_rules | `(tactic| walk_at "gv") => `(tactic| repeat walk_at "gv1")

def sgAt (w x bl k : Nat) : Sgn := ⟨w, x / 64 % 1000003 + 7 * k, 2 + (if 3 < bl then 1 else 0)⟩
def lsgS (w x bl : Nat) (l : List Sgn) (k : Nat) : List Sgn := if (sgAt w x bl k).pub ∈ l.map Sgn.pub then l else l ++ [sgAt w x bl k]
def lsg (w x bl n : Nat) : List Sgn := (List.range n).foldl (lsgS w x bl) []
theorem lsg_snoc {w x bl n : Nat} : lsg w x bl (n + 1) = lsgS w x bl (lsg w x bl n) n := by
  rw [lsg, List.range_succ, List.foldl_append]
  rfl
theorem lsg_len (w x bl : Nat) : ∀ n, (lsg w x bl n).length ≤ n
  | 0 => Nat.le_refl _
  | n + 1 => by
    rw [lsg_snoc, lsgS]
    have ih := lsg_len w x bl n
    split
    · omega
    · rw [List.length_append, List.length_singleton]
      omega
theorem sgAt_ok {w x bl k : Nat} (hw : WOk w) (hk : k ≤ 1000) : (sgAt w x bl k).Ok := ⟨hw, by
  show x / 64 % 1000003 + 7 * k < 4294967296
  have := Nat.mod_lt (x / 64) (by decide : 0 < 1000003)
  omega, by
  show 2 + (if 3 < bl then 1 else 0) = 2 ∨ 2 + (if 3 < bl then 1 else 0) = 3
  split
  · exact .inr rfl
  · exact .inl rfl⟩
section
variable {P : Program} {w : World} {K : PySem.W.Frag} {mg : Str → Option Value} {base : Heap} {B H : Hp} {σ : L2.St} {ta te tb : TE} {G : Sg} {nx : L2.St → Hp → Prop} {rt : V → Hp → Prop} {bk ct : L2.St → Hp → Prop}
/-- two lists beside a world -/
structure L2C (B H : Hp) (p q : Addr) (xs ys : List V) : Prop where
  a : LCell B H p xs
  b : LCell B H q ys
  ne : p ≠ q
theorem L2C.bs {p q : Addr} {xs ys : List V} (c : L2C B H p q xs ys) : Beside B H [p, q] := bs_add c.b.bs c.a
theorem L2C.mono {H' : Hp} {p q : Addr} {xs ys : List V} (c : L2C B H p q xs ys) (e : Ext H H') : L2C B H' p q xs ys := ⟨c.a.mono e, c.b.mono e, c.ne⟩
theorem L2C.after {B' H' : Hp} {p q : Addr} {xs ys : List V} (c : L2C B H p q xs ys) (a : After B H B' H' [p, q]) : L2C B' H' p q xs ys := ⟨c.a.afterL a (by simp), c.b.afterL a (by simp), c.ne⟩
theorem L2C.setA {p q : Addr} {xs ys zs : List V} (c : L2C B H p q xs ys) : L2C B (upd H p (.lst zs)) p q zs ys := ⟨c.a.set, c.b.keep c.ne.symm c.a.fx, c.ne⟩
theorem L2C.setB {p q : Addr} {xs ys zs : List V} (c : L2C B H p q xs ys) : L2C B (upd H q (.lst zs)) p q xs zs := ⟨c.a.keep c.ne c.b.fx, c.b.set, c.ne⟩
theorem s_asgF {L : List Addr} {i : Nat} {d : D} (E : Sl K B G σ) (b : Beside B H L) (h : Gv K te σ B d) (k : ∀ v B' H', After B H B' H' L → Rp K B' d v → Sl K B' G σ → nx (σ.set i (some v)) H') : tAsg (tFr te) (gName i) ⟨nx, rt, bk, ct⟩ σ H :=
  fr_gv b h fun v B' H' a r => k v B' H' a r (E.ext a.b)
abbrev n_law_signers : List Str := ["_law_hasher", "_law_x", "_law_count", "_law_blocks", "_law_found", "_law_publics", "_law_k", "_law_signer"]
theorem sc_law_signers : FnScope n_law_signers ["_law_hasher", "_law_x", "_law_count", "_law_blocks"] (defScope s_law_signers) := ⟨rfl, rfl, rfl, by decide +kernel, rfl, by decide +kernel, by decide +kernel⟩
def spSs (K : PySem.W.Frag) : Sp := spN K (α := Nat × Nat × Nat × Nat) (fun z => WOk z.1 ∧ z.2.2.1 ≤ 100 ∧ z.2.2.2 ≤ 100) (fun z => [hshD z.1, nD z.2.1, nD z.2.2.1, nD z.2.2.2]) (fun z => (lsg z.1 z.2.1 z.2.2.2 z.2.2.1).map sgD)
theorem cal_law_signers (T : Txt K mg) : C8.Cal P w K mg base 7 "_law_signers" (spSs K) [] := by
  obtain ⟨fd, F⟩ := T.f_law_signers
  refine calD F T.g_law_signers (fun _ _ _ _ _ _ us hl => match us, hl with | [_, _, _, _], _ => rfl) sc_law_signers (fun vs H Q E h => (by obtain ⟨z, _, h, _⟩ := h; exact h.len)) (fun cdv A outer s H vs Q E hr h => ?_)
  obtain ⟨⟨wd, x, n, bl⟩, ⟨hw, hn, hbl⟩, hvs, k⟩ := h
  dsimp only at hvs k hw hn hbl
  refine ⟨_, (pss_cons (ps_set (i := 4) sc_law_signers.nd rfl (Or.inl rfl) (pe_lst pa_nil))
      (pss_cons (ps_set (i := 5) sc_law_signers.nd rfl (Or.inl rfl) (pe_lst pa_nil))
      (pss_cons (ps_for PassesOwn.never rfl (pi_range1 rfl T.b_range (pa_cons (pv 2) pa_nil)) (pg_name (i := 6) sc_law_signers.nd rfl (Or.inl rfl)) (pss_cons (ps_set (i := 7) sc_law_signers.nd rfl (Or.inl rfl) (pe_fr (C8.pe_mk (mak_Signer T) hr (by decide) rfl (pa_cons (pv 0) (pa_cons (pe_op op_add (pe_op op_mod (pe_op op_fdiv (pv 1) pe_int) pe_int) (pe_op op_mul pe_int (pv 6))) (pa_cons (pe_op op_add pe_int (pe_callTy call_int1 (by rfl) T.b_int (by decide +kernel) (pa_cons (pe_cmpR op_gt (pv 3) pe_int (nomark _)) pa_nil))) pa_nil))))))
      (pss_one (ps_if (pt_cmpR (op_notIn_seq : OpR _ (compareOp .NotIn) (rIn K true)) (pe_fld (pv 7) rfl) (pv 5) (by rfl)) (pss_cons (ps_expr (pe_bm PySem.F.plainAttrs_list PySem.F.slot_list_append PySem.F.type_list_append mt_append (pv 4) (pa_cons (pv 7) pa_nil)))
      (pss_one (ps_expr (pe_bm PySem.F.plainAttrs_list PySem.F.slot_list_append PySem.F.type_list_append mt_append (pv 5) (pa_cons (pe_fld (pv 7) rfl) pa_nil))))) pss_nil))))
      (pss_one (ps_ret (pv 4)))))), ?_⟩
  have E := Sl.start (N := n_law_signers) hvs
  refine s_new E fun pF H1 hpF cF E1 => ?_
  refine s_new (E1.ext cF.ext) fun pP H2 hpP cP E2 => ?_
  have hpP0 : H pP = none := fresh_back cF.ext hpP
  have ne : pF ≠ pP := fun z => by
    rw [← z, cF.at_] at hpP
    cases hpP
  have c0 : L2C H H2 pF pP [] [] := ⟨⟨cF.ext.trans cP.ext, hpF, cP.ext _ _ cF.at_⟩, ⟨cF.ext.trans cP.ext, hpP0, cP.at_⟩, ne⟩
  have EB : Sl K H [some (hshD wd), some (nD x), some (nD n), some (nD bl), some (.adr pF), some (.adr pP), none, none] _ := (E1.set (i := 5) (d := .adr pP) (v := .ref pP) rfl)
  refine s_forR1 (j := 6) (n := n) (ga_cons (gv_var (EB.ext c0.a.ext) rfl) ga_nil) (by omega) (fun i σ' H' => ∃ B' xs, i ≤ n ∧ Ext H B' ∧ L2C B' H' pF pP xs ((lsg wd x bl i).map fun s => nV s.pub) ∧ Rps K B' ((lsg wd x bl i).map sgD) xs ∧ Sl K B' [some (hshD wd), some (nD x), some (nD n), some (nD bl), some (.adr pF), some (.adr pP), none, none] σ') (fun H3 e3 => ⟨H, [], Nat.zero_le _, Ext.rfl', c0.mono e3, .nil, EB⟩) ?_ ?_
  · rintro i σ' H' hi ⟨B', xs, hin, e, c, rs, E3⟩
    have E4 := E3.set (i := 6) (d := nD i) (v := .int ((i : Nat) : Int)) rfl
    have hok : (sgAt wd x bl i).Ok := sgAt_ok hw (by omega)
    have hll := lsg_len wd x bl i
    refine s_asgF (i := 7) (d := sgD (sgAt wd x bl i)) E4 c.bs (gv_make (K := K) (c := "Signer") (α := Sgn) (out := sgD) (ins := fun s : Sgn => [hshD s.w, nD s.sec, nD s.L]) (pre := Sgn.Ok) (sgAt wd x bl i) hok (ga_cons (gv_var E4 rfl) (ga_cons (gv_addN (gv_modN (gv_divN (gv_var E4 rfl) (gv_nat 64) (by decide) (by decide)) (gv_nat 1000003) (by decide)) (gv_mulN (gv_nat 7) (gv_var E4 rfl) (.inl (by decide)))) (ga_cons (gv_addN (gv_nat 2) (Gv.is (gv_intB (gv_gtN (gv_var E4 rfl) (gv_nat 3))) ?_)) ga_nil)))) fun v B5 H5 a r5 E5 => ?_
    · show D.int _ = nD (if 3 < bl then 1 else 0)
      by_cases q : 3 < bl <;> simp [q]
    obtain ⟨ad, dd, us, rfl, h6, h7⟩ := id r5
    have c5 := c.after a
    have E6 := E5.set (i := 7) (d := sgD (sgAt wd x bl i)) (v := .ref ad) r5
    have E6' := E6.ext c5.a.ext
    have rP5 : Rp K H5 (.lst (((lsg wd x bl i).map Sgn.pub).map nD)) (.ref pP) := ⟨pP, _, rfl, c5.b.at_, by
      have q := rps_nat (K := K) (H := H5) ((lsg wd x bl i).map Sgn.pub)
      rw [List.map_map, List.map_map] at q
      rw [List.map_map]
      exact q⟩
    have rP : ∀ {H2 : Hp}, Ext H5 H2 → Rp K H2 (.lst (((lsg wd x bl i).map Sgn.pub).map nD)) (.ref pP) := fun e => Rp.ext e _ rP5
    have gpub : ∀ {H2 : Hp}, Ext H5 H2 → Gv K (tFld K (tVar 7) "public") ((σ'.set 6 (some (.int ((i : Nat) : Int)))).set 7 (some (.ref ad))) H2 (nD (sgAt wd x bl i).pub) := fun e => gv_fld (gv_var (i := 7) (E6'.ext e) rfl) T.cl_Signer T.na_Signer_public (n := 5) (by decide +kernel) (by decide) rfl
    refine s_if E6' (gt_test (gv_ninLN (gpub Ext.rfl') (gv_view (gv_var E6' rfl) (rP Ext.rfl')))) (fun hc H8 e8 E8 => ?_) fun hc H8 e8 E8 => ?_
    · have hnin : (sgAt wd x bl i).pub ∉ (lsg wd x bl i).map Sgn.pub := by simpa using hc
      have el : lsg wd x bl (i + 1) = lsg wd x bl i ++ [sgAt wd x bl i] := by rw [lsg_snoc, lsgS, if_neg hnin]
      have c8 := c5.mono e8
      have Ea := E5.set (i := 7) (d := .adr ad) (v := .ref ad) rfl
      refine s_app (xs := xs) (d := .adr ad) (Ea.ext c8.a.ext) c8.a.at_ (gv_var (Ea.ext c8.a.ext) rfl) (gv_var (i := 7) (Ea.ext c8.a.ext) rfl) (by rw [rs.len, List.length_map]; omega) fun v9 H9 e9 r9 _ _ => ?_
      have ev9 : v9 = .ref ad := r9
      subst ev9
      have c9 := (c8.mono e9).setA (zs := xs ++ [V.ref ad])
      have E9 := E6.ext c9.a.ext
      refine s_app (d := nD (sgAt wd x bl i).pub) E9 c9.b.at_ (gv_var E9 rfl) (gv_fld (gv_var (i := 7) E9 rfl) T.cl_Signer T.na_Signer_public (n := 5) (by decide +kernel) (by decide) rfl) (by rw [List.length_map]; omega) fun v10 H10 e10 r10 _ _ => ?_
      have ev10 : v10 = nV (sgAt wd x bl i).pub := r10
      subst ev10
      have c10 := (c9.mono e10).setB (zs := ((lsg wd x bl i).map fun s => nV s.pub) ++ [nV (sgAt wd x bl i).pub])
      refine ⟨B5, xs ++ [V.ref ad], hi, e.trans a.b, by rw [el, List.map_append]; exact c10, by rw [el, List.map_append]; exact (rs.ext a.b).snoc r5, E6.wk ⟨.inr rfl, .inr rfl, .inr rfl, .inr rfl, .inr rfl, .inr rfl, .inl rfl, .inl rfl, trivial⟩⟩
    · have hin2 : (sgAt wd x bl i).pub ∈ (lsg wd x bl i).map Sgn.pub := by simpa using hc
      have el : lsg wd x bl (i + 1) = lsg wd x bl i := by rw [lsg_snoc, lsgS, if_pos hin2]
      exact s_nop ⟨B5, xs, hi, e.trans a.b, by rw [el]; exact c5.mono e8, by rw [el]; exact rs.ext a.b, E6.wk ⟨.inr rfl, .inr rfl, .inr rfl, .inr rfl, .inr rfl, .inr rfl, .inl rfl, .inl rfl, trivial⟩⟩
  · rintro σ' H' ⟨B', xs, hin, e, c, rs, E3⟩
    refine s_ret (gv_var (E3.ext c.a.ext) rfl) fun v H3 e3 r3 => ?_
    have ev : v = .ref pF := r3
    subst ev
    exact k pF xs H3 hpF (e.trans (c.a.ext.trans e3)) (e3 _ _ c.a.at_) ((rs.ext c.a.ext).ext e3)
theorem ok_Ss {w x n bl : Nat} (hw : WOk w) (hn : n ≤ 100) (hb : bl ≤ 100) : SpN K (spSs K) [hshD w, nD x, nD n, nD bl] H ((lsg w x bl n).map sgD) := spN_ok (w, x, n, bl) ⟨hw, hn, hb⟩
end
end K38

set_option Elab.async false
set_option linter.all false
set_option maxRecDepth 100000
set_option maxHeartbeats 4000000
namespace K38
open PySem PySem.Spec PyProof.Rows L2
open PySem.W (Datum Tup)
local macro_rules | `(tactic| walk_at "gv1") => `(tactic| first | exact gv_int | exact gv_str | exact gv_non | exact gv_bl | (refine gv_var (by assumption) ?_; exact rfl) | refine gv_I0 ?_ ?_ | refine gv_Ib ?_ ?_ | refine gv_eqI ?_ ?_ | refine gv_neI ?_ ?_ | refine gt_test ?_ | refine gt_B ?_ | exact ga_nil | refine ga_cons ?_ ?_)
local macro_rules | `(tactic| walk_at "gv") => `(tactic| repeat walk_at "gv1")

def lmS (a : Mem × Nat) (s : Sgn) : Mem × Nat := (if 0 < a.2 % 4 then a.1 ++ [(s.pub, 1 + a.2 / 4 % 9)] else a.1, a.2 / 36)
def lmF (x : Nat) (ss : List Sgn) : Mem × Nat := ss.foldl lmS ([], x)
def lmR (x : Nat) (ss : List Sgn) : Mem := if (lmF x ss).1 = [] then (match ss with | [] => [] | s :: _ => [(s.pub, 3)]) else (lmF x ss).1
def lmem (x : Nat) (ss : List Sgn) : Mem := srtM (lmR x ss)
theorem lmF_snoc {x : Nat} {ss : List Sgn} {s : Sgn} : lmF x (ss ++ [s]) = lmS (lmF x ss) s := by
  unfold lmF
  rw [List.foldl_append]
  rfl
theorem lmF_sub (x : Nat) : ∀ ss : List Sgn, List.Sublist ((lmF x ss).1.map (·.1)) (ss.map Sgn.pub) := by
  have : ∀ (ss : List Sgn) (a : Mem × Nat), ∃ r, (ss.foldl lmS a).1 = a.1 ++ r ∧ List.Sublist (r.map (·.1)) (ss.map Sgn.pub) := by
    intro ss
    induction ss with
    | nil => exact fun a => ⟨[], by simp, List.Sublist.slnil⟩
    | cons s r ih =>
      intro a
      obtain ⟨t, h1, h2⟩ := ih (lmS a s)
      rw [List.foldl_cons, h1]
      unfold lmS
      by_cases q : 0 < a.2 % 4
      · rw [if_pos q]
        exact ⟨(s.pub, 1 + a.2 / 4 % 9) :: t, by simp, by rw [List.map_cons, List.map_cons]; exact h2.cons₂ _⟩
      · rw [if_neg q]
        exact ⟨t, rfl, by rw [List.map_cons]; exact h2.cons _⟩
  intro ss
  obtain ⟨r, h1, h2⟩ := this ss ([], x)
  unfold lmF
  rw [h1]
  exact h2
theorem lmR_nd {x : Nat} {ss : List Sgn} (h : (ss.map Sgn.pub).Nodup) : ((lmR x ss).map (·.1)).Nodup := by
  unfold lmR
  split
  · cases ss with
    | nil => exact List.nodup_nil
    | cons s r => simp
  · exact (lmF_sub x ss).nodup h
section
variable {P : Program} {w : World} {K : PySem.W.Frag} {mg : Str → Option Value} {base : Heap} {B H : Hp} {σ : L2.St} {ta te tb : TE} {G : Sg} {nx : L2.St → Hp → Prop} {rt : V → Hp → Prop} {bk ct : L2.St → Hp → Prop}
abbrev n_law_members : List Str := ["_law_x", "_law_signers_here", "_law_found", "_law_rest", "_law_signer"]
theorem sc_law_members : FnScope n_law_members ["_law_x", "_law_signers_here"] (defScope s_law_members) := ⟨rfl, rfl, rfl, by decide +kernel, rfl, by decide +kernel, by decide +kernel⟩
def spLm (K : PySem.W.Frag) : Sp := spD K (α := Nat × List Sgn) (fun z => z.2 ≠ [] ∧ (z.2.map Sgn.pub).Nodup ∧ z.2.length ≤ 60) (fun z => [nD z.1, .lst (z.2.map sgD)]) (fun z => memD (lmem z.1 z.2))
theorem cal_law_members (T : Txt K mg) : C8.Cal P w K mg base 1 "_law_members" (spLm K) [] := by
  obtain ⟨fd, F⟩ := T.f_law_members
  refine calD F T.g_law_members (fun _ _ _ _ _ _ us hl => match us, hl with | [_, _], _ => rfl) sc_law_members (fun vs H Q E h => (by obtain ⟨z, _, h, _⟩ := h; exact h.len)) (fun cdv A outer s H vs Q E hr h => ?_)
  obtain ⟨⟨x, ss⟩, ⟨hne, hnd, hl⟩, hvs, k⟩ := h
  dsimp only at hvs k hne hnd hl
  refine ⟨_, (pss_cons (ps_set (i := 2) sc_law_members.nd rfl (Or.inl rfl) (pe_lst pa_nil))
      (pss_cons (ps_set (i := 3) sc_law_members.nd rfl (Or.inl rfl) (pv 0))
      (pss_cons (ps_for PassesOwn.never rfl (pi_list (pv 1)) (pg_name (i := 4) sc_law_members.nd rfl (Or.inl rfl)) (pss_cons (ps_if (pt_cmpR op_gt (pe_op op_mod (pe_callTy call_int1 (by rfl) T.b_int (by decide +kernel) (pa_cons (pv 3) pa_nil)) pe_int) pe_int (nomark _)) (pss_one (ps_expr (pe_bm PySem.F.plainAttrs_list PySem.F.slot_list_append PySem.F.type_list_append mt_append (pv 2) (pa_cons (pe_tup (pa_cons (pe_fld (pv 4) rfl) (pa_cons (pe_op op_add pe_int (pe_op op_mod (pe_op op_fdiv (pv 3) pe_int) pe_int)) pa_nil))) pa_nil)))) pss_nil)
      (pss_one (ps_set (i := 3) sc_law_members.nd rfl (Or.inl rfl) (pe_op op_fdiv (pv 3) pe_int)))))
      (pss_cons (ps_if (pt_not (pt_truth (pv 2) (by intro _; rfl))) (pss_one (ps_set (i := 2) sc_law_members.nd rfl (Or.inl rfl) (pe_lst (pa_cons (pe_tup (pa_cons (pe_fld (pe_ix (ix_list : IxR _ (rIxL K)) (pv 1) pe_int (fun _ _ => rfl)) rfl) (pa_cons pe_int pa_nil))) pa_nil)))) pss_nil)
      (pss_one (ps_ret (pe_callTy call_tuple_of (by rfl) T.b_tuple (by decide +kernel) (pa_cons (pe_callB cr_sortedPO (by rfl) T.b_sorted (by decide +kernel) (pa_cons (pv 2) pa_nil)) pa_nil)))))))), ?_⟩
  have E : Sl K H [some (nD x), some (.lst (ss.map sgD)), none, none, none] _ := Sl.start (N := n_law_members) hvs
  refine s_new E fun pF H1 hpF cF E1 => ?_
  refine s_asg (E1.ext cF.ext) (gv_var (E1.ext cF.ext) rfl) fun v2 H2 e2 r2 _ => ?_
  have ev2 : v2 = nV x := r2
  subst ev2
  have EB : Sl K H [some (nD x), some (.lst (ss.map sgD)), some (.adr pF), some (nD x), none] _ := E1.set (i := 3) (d := nD x) (v := nV x) rfl
  have c2 := cF.mono e2
  refine s_forLV (l := ss) (emb := sgD) EB rfl fun v rv => ⟨fun i σ' H' => i ≤ ss.length ∧ Ext H H' ∧ (∃ xs, H' pF = some (.lst xs) ∧ Rps K H' ((lmF x (ss.take i)).1.map prD) xs) ∧ Sl K H [some (nD x), some (.lst (ss.map sgD)), some (.adr pF), some (nD (lmF x (ss.take i)).2), none] σ', ⟨?_, ⟨Nat.zero_le _, c2.ext, ⟨[], c2.at_, .nil⟩, EB⟩, ?_, ?_⟩⟩
  · rintro i σ' H' ⟨_, e, _⟩
    exact rv.ext e
  · rintro i s x' σ' H' ha ⟨hi, e, ⟨xs, hpp, rs⟩, E'⟩ rx
    have hil : i < ss.length := (List.getElem?_eq_some_iff.mp ha).1
    have tk : ss.take (i + 1) = ss.take i ++ [s] := take_snoc ha
    have el : lmF x (ss.take (i + 1)) = lmS (lmF x (ss.take i)) s := by rw [tk, lmF_snoc]
    have lf : xs.length ≤ 60 := by
      rw [rs.len, List.length_map]
      have := (lmF_sub x (ss.take i)).length_le
      rw [List.length_map, List.length_map, List.length_take] at this
      omega
    refine g_name (E'.ext e) rx fun E2 => ?_
    have EBx := E'.set (i := 4) (d := .any) (v := x') trivial
    refine s_if E2 (gt_test (gv_gtN (gv_modN (gv_intI (gv_var (i := 3) (d := nD (lmF x (ss.take i)).2) E2 rfl)) (gv_nat 4) (by decide)) (gv_nat 0))) (fun hc H3 e3 E3 => ?_) fun hc H3 e3 E3 => ?_
    · have hc2 : 0 < (lmF x (ss.take i)).2 % 4 := of_decide_eq_true hc
      refine s_app (d := prD (s.pub, 1 + (lmF x (ss.take i)).2 / 4 % 9)) E3 (e3 _ _ hpp) (gv_var E3 rfl) (gv_tup (ga_cons (gv_fld (gv_var (i := 4) E3 rfl) T.cl_Signer T.na_Signer_public (n := 5) (by decide +kernel) (by decide) rfl) (ga_cons (gv_addN (gv_nat 1) (gv_modN (gv_divN (gv_var E3 rfl) (gv_nat 4) (by decide) (by decide)) (gv_nat 9) (by decide))) ga_nil)) (by simp)) (by omega) fun v5 H5 e5 r5 _ h5 => ?_
      have g := Gr.updL (K := K) (u := .lst (xs ++ [v5])) h5
      have eH : Ext H (upd H5 pF (.lst (xs ++ [v5]))) := fun b o hb => by
        rw [upd_ne (ne_of_none hb hpF)]
        exact e5 _ _ (e3 _ _ (e _ _ hb))
      have EX := EBx.ext eH
      refine s_asg EX (gv_divN (gv_var (i := 3) (d := nD (lmF x (ss.take i)).2) EX rfl) (gv_nat 36) (by decide) (by decide)) fun v6 H6 e6 r6 _ => ⟨hil, eH.trans e6, ⟨xs ++ [v5], e6 _ _ upd_same, ?_⟩, ?_⟩
      · rw [el, lmS, if_pos hc2, List.map_append]
        refine Rps.ext e6 _ ?_
        exact ((((rs.ext e3).ext e5).gr g _ (pus_iff.mpr fun d hd => by
          obtain ⟨q, _, rfl⟩ := List.mem_map.mp hd
          exact (inferInstance : Pu (prD q)).pu)).snoc (r5.gr g _ (inferInstance : Pu (prD _)).pu))
      · rw [el, lmS]
        exact (EBx.set (i := 3) (d := nD ((lmF x (ss.take i)).2 / 36)) (v := v6) r6).wk ⟨.inr rfl, .inr rfl, .inr rfl, .inr rfl, .inl rfl, trivial⟩
    · have hc2 : ¬ 0 < (lmF x (ss.take i)).2 % 4 := of_decide_eq_false hc
      refine s_nop ?_
      have eH := e.trans e3
      have EX := EBx.ext eH
      refine s_asg EX (gv_divN (gv_var (i := 3) (d := nD (lmF x (ss.take i)).2) EX rfl) (gv_nat 36) (by decide) (by decide)) fun v6 H6 e6 r6 _ => ⟨hil, eH.trans e6, ⟨xs, e6 _ _ (e3 _ _ hpp), ?_⟩, ?_⟩
      · rw [el, lmS, if_neg hc2]
        exact (rs.ext e3).ext e6
      · rw [el, lmS]
        exact (EBx.set (i := 3) (d := nD ((lmF x (ss.take i)).2 / 36)) (v := v6) r6).wk ⟨.inr rfl, .inr rfl, .inr rfl, .inr rfl, .inl rfl, trivial⟩
  · rintro σ' H' ⟨_, e, ⟨xs, hpp, rs⟩, E'⟩
    rw [List.take_length] at rs
    have E3 := E'.ext e
    have rl : Rp K H' (.lst ((lmF x ss).1.map prD)) (.ref pF) := ⟨pF, xs, rfl, hpp, rs⟩
    have hnr := lmR_nd (x := x) hnd
    refine s_if E3 (gt_not (gt_truL (gv_view (gv_var E3 rfl) rl))) (fun hc H4 e4 E4 => ?_) fun hc H4 e4 E4 => ?_
    · have h0 : (lmF x ss).1 = [] := by
        cases q : (lmF x ss).1 with
        | nil => rfl
        | cons a r =>
          rw [q] at hc
          cases hc
      cases ss with
      | nil => exact absurd rfl hne
      | cons s0 r0 =>
      have er : lmR x (s0 :: r0) = [(s0.pub, 3)] := by rw [lmR, if_pos h0]
      rw [er] at hnr
      refine s_asg (d := .lst ([(s0.pub, 3)].map prD)) E4 (gn_lst (ga_cons (d := prD (s0.pub, 3)) (gv_tup (ga_cons (gv_fld (gv_ixLN (d := sgD s0) (gv_var (i := 1) E4 rfl) (gv_nat 0) rfl) T.cl_Signer T.na_Signer_public (n := 5) (by decide +kernel) (by decide) rfl) (ga_cons (gv_nat 3) ga_nil)) (by simp)) ga_nil) (by simp)).gv fun v5 H5 e5 r5 E5 => ?_
      exact s_ret (d := memD (lmem x (s0 :: r0))) ((gv_tupL (gn_sortedM hnr (gv_var E5 rfl)).gv).is (by rw [lmem, er]; rfl)) fun v H6 e6 r6 => k v H6 (((e.trans e4).trans e5).trans e6) r6
    · have h0 : ¬ (lmF x ss).1 = [] := fun z => by
        rw [z] at hc
        cases hc
      have er : lmR x ss = (lmF x ss).1 := by
        unfold lmR
        exact if_neg h0
      rw [er] at hnr
      refine s_nop ?_
      exact s_ret (d := memD (lmem x ss)) ((gv_tupL (gn_sortedM hnr (gv_view (gv_var E4 rfl) (rl.ext e4))).gv).is (by rw [lmem, er]; rfl)) fun v H6 e6 r6 => k v H6 ((e.trans e4).trans e6) r6
theorem ok_Lm {x : Nat} {ss : List Sgn} (h1 : ss ≠ []) (h2 : (ss.map Sgn.pub).Nodup) (h3 : ss.length ≤ 60) : SpOk K (spLm K) [nD x, .lst (ss.map sgD)] H (memD (lmem x ss)) := spD_ok (x, ss) ⟨h1, h2, h3⟩
end
end K38

set_option Elab.async false
set_option linter.all false
set_option maxRecDepth 100000
set_option maxHeartbeats 4000000
namespace K38
open PySem PySem.Spec PyProof.Rows L2
open PySem.W (Datum Tup)
local macro_rules | `(tactic| walk_at "gv1") => `(tactic| first | exact gv_int | exact gv_str | exact gv_non | exact gv_bl | (refine gv_var (by assumption) ?_; exact rfl) | refine gv_I0 ?_ ?_ | refine gv_Ib ?_ ?_ | refine gv_eqI ?_ ?_ | refine gv_neI ?_ ?_ | refine gt_test ?_ | refine gt_B ?_ | exact ga_nil | refine ga_cons ?_ ?_)
local macro_rules | `(tactic| walk_at "gv") => `(tactic| repeat walk_at "gv1")

def corP (x : Nat) (s : Sgn) : Bool := decide (0 < (s.pub + x) % 3)
def lcor (x : Nat) (ss : List Sgn) : List Sgn := if ss.filter (corP x) = [] then ss.take 1 else ss.filter (corP x)
section
variable {P : Program} {w : World} {K : PySem.W.Frag} {mg : Str → Option Value} {base : Heap} {B H : Hp} {σ : L2.St} {ta te tb tl : TE} {tt : TT} {G : Sg} {nx : L2.St → Hp → Prop} {rt : V → Hp → Prop} {bk ct : L2.St → Hp → Prop}
/-- a list's items that a test keeps, whatever they are -/
theorem gn_filLF {α : Type} {emb f : α → D} {p : α → Bool} {l : List α} {vs : List Nat} {j : Nat} (E : Sl K H G σ) (hx : Gv K tl σ H (.lst (l.map emb))) (hl : l.length ≤ 50000) (hj : j ∈ vs)
    (ht : ∀ a ∈ l, ∀ σ2 H2, Ext H H2 → Sl K H2 ((wipeG G vs).set j (some (emb a))) σ2 → Gt tt σ2 H2 (p a))
    (he : ∀ a ∈ l, p a = true → ∀ σ2 H2, Ext H H2 → Sl K H2 ((wipeG G vs).set j (some (emb a))) σ2 → Gv K te σ2 H2 (f a)) : GvN K (tLc (iList K tl) (gName j) tt (tFr te) vs) σ H ((l.filter p).map f) := fun H0 e0 Q q =>
  hx H0 e0 _ fun v H1 e1 rv => by
    obtain ⟨a, us, rfl, h1, h2⟩ := id rv
    refine ⟨a, rfl, ⟨us, SqL.of h1⟩, fun Dl hD => ?_⟩
    have e01 := e0.trans e1
    refine ⟨fun i m H => m = l.length - i ∧ i ≤ l.length ∧ ∃ B xs, Ext H1 B ∧ LCell B H Dl xs ∧ Rps K B (((l.take i).filter p).map f) xs, ⟨l.length, by simp, Nat.zero_le _, H1, [], Ext.rfl', ⟨Ext.upd hD, hD, upd_same⟩, .nil⟩, ?_⟩
    rintro i m H' ⟨rfl, hi, B, xs, e2, cl, h3⟩
    by_cases hlt : i < l.length
    · have hiu : i < us.length := by rw [h2.len, List.length_map]; exact hlt
      refine .inr ⟨⟨us, us[i], SqL.of (cl.ext _ _ (e2 _ _ h1)), List.getElem?_eq_getElem hiu⟩, fun H2 => i + 1 ≤ l.length ∧ ∃ B xs, Ext H1 B ∧ LCell B H2 Dl xs ∧ Rps K B (((l.take (i + 1)).filter p).map f) xs, fun H2 p2 => ⟨l.length - (i + 1), by omega, rfl, p2⟩, fun x H2 yl => ?_⟩
      obtain ⟨rfl, hy⟩ := yl
      have hx2 := hy us (SqL.of (cl.ext _ _ (e2 _ _ h1)))
      have ha : l[i]? = some l[i] := List.getElem?_eq_getElem hlt
      have hm : l[i] ∈ l := List.getElem_mem hlt
      obtain ⟨d, hd1, hd2⟩ := h2.got hx2
      rw [List.getElem?_map, ha] at hd1
      have ed : emb l[i] = d := Option.some.inj hd1
      subst ed
      have tk : l.take (i + 1) = l.take i ++ [l[i]] := by rw [List.take_add_one, ha]; rfl
      have E2 : Sl K B ((wipeG G vs).set j (some (emb l[i]))) ((L2.wipe σ vs).set j (some x)) := ((E.ext (e01.trans e2)).wipe vs).set (hd2.ext e2)
      refine ⟨by rw [wipe_in _ hj, wipe_twice], ?_⟩
      refine ht l[i] hm _ H2 ((e01.trans e2).trans cl.ext) (E2.ext cl.ext) H2 Ext.rfl' _ fun H3 e3 => ?_
      have cl3 := cl.mono e3
      cases hp : p l[i] with
      | false =>
        rw [if_neg (by decide)]
        refine ⟨hlt, B, xs, e2, cl3, ?_⟩
        rw [tk, List.filter_append, List.filter_cons, if_neg (by rw [hp]; decide)]
        simpa using h3
      | true =>
        rw [if_pos rfl]
        refine fr_gv cl3.bs (he l[i] hm hp _ B (e01.trans e2) E2) fun y B' H4 af r => ?_
        have c2 := cl3.after af
        refine ⟨xs, c2.at_, sz_lt ?_, hlt, B', xs ++ [y], e2.trans af.b, c2.set, ?_⟩
        · rw [h3.len, List.length_map]
          have q1 := List.length_filter_le p (l.take i)
          rw [List.length_take] at q1
          omega
        · rw [tk, List.filter_append, List.filter_cons, if_pos hp, List.map_append]
          exact (h3.ext af.b).append (.cons r .nil)
    · have e : i = l.length := by omega
      subst e
      rw [List.take_length] at h3
      refine .inl ⟨⟨us, SqL.of (cl.ext _ _ (e2 _ _ h1)), by rw [h2.len, List.length_map]; exact Nat.le_refl _⟩, q Dl xs H' (fresh_back e1 hD) (e1.trans (e2.trans cl.ext)) cl.at_ (h3.ext cl.ext)⟩
abbrev n_law_corrupt : List Str := ["_law_signers_here", "_law_x", "_law_found", "_law_signer"]
theorem sc_law_corrupt : FnScope n_law_corrupt ["_law_signers_here", "_law_x"] (defScope s_law_corrupt) := ⟨rfl, rfl, rfl, by decide +kernel, rfl, by decide +kernel, by decide +kernel⟩
def spCo (K : PySem.W.Frag) : Sp := spD K (α := Nat × List Sgn) (fun z => z.2.length ≤ 60) (fun z => [.lst (z.2.map sgD), nD z.1]) (fun z => .lst ((lcor z.1 z.2).map sgD))
theorem cal_law_corrupt (T : Txt K mg) : C8.Cal P w K mg base 1 "_law_corrupt" (spCo K) [] := by
  obtain ⟨fd, F⟩ := T.f_law_corrupt
  refine calD F T.g_law_corrupt (fun _ _ _ _ _ _ us hl => match us, hl with | [_, _], _ => rfl) sc_law_corrupt (fun vs H Q E h => (by obtain ⟨z, _, h, _⟩ := h; exact h.len)) (fun cdv A outer s H vs Q E hr h => ?_)
  obtain ⟨⟨x, ss⟩, hl, hvs, k⟩ := h
  dsimp only at hvs k hl
  refine ⟨_, (pss_cons (ps_setLc (i := 2) (own := [("_law_signer", 3)]) (by rfl) sc_law_corrupt.nd rfl rfl (sw_true rfl rfl rfl (by decide +kernel)) (pi_list (pv 0)) (blkOk_by (own := [("_law_signer", 3)]) (N := n_law_corrupt) (sc := defScope s_law_corrupt) (by decide +kernel)) (fun _ _ _ _ _ => (pg_name (i := 3) sc_law_corrupt.nd rfl (Or.inl rfl))) (fun _ _ _ _ _ => (pts_one (pt_cmpR op_gt (pe_op op_mod (pe_callTy call_int1 (by rfl) T.b_int (by decide +kernel) (pa_cons (pe_op op_add (show PE _ _ (tFld K _ _) from pe_fld (pv 3) rfl) (pv 1)) pa_nil)) pe_int) pe_int (nomark _)))) (fun _ _ _ _ _ => (pe_fr (pv 3))))
      (pss_one (ps_ret (pe_ifExp (pt_truth (pv 2) (by intro _; rfl)) (pv 2) (pe_slice sl_list (pv 0) po_none (po_some pe_int)))))), ?_⟩
  have E : Sl K H [some (.lst (ss.map sgD)), some (nD x), none, none] _ := Sl.start (N := n_law_corrupt) hvs
  refine s_asg (d := .lst ((ss.filter (corP x)).map sgD)) E (gn_filLF (l := ss) (emb := sgD) (f := sgD) (p := corP x) E (gv_var E rfl) (by omega) (by simp) (fun s _ σ2 H2 e2 E2 => gt_test (gv_gtN (gv_modN (gv_intI (gv_addN (gv_fld (gv_var (i := 3) E2 rfl) T.cl_Signer T.na_Signer_public (n := 5) (by decide +kernel) (by decide) rfl) (gv_var E2 rfl))) (gv_nat 3) (by decide)) (gv_nat 0))) fun s _ _ σ2 H2 e2 E2 => gv_var E2 rfl).gv fun v1 H1 e1 r1 E1 => ?_
  refine s_ret (d := .lst ((lcor x ss).map sgD)) (gv_if (gt_truL (gv_var E1 rfl)) (fun hc => ?_) fun hc => ?_) fun v H2 e2 r2 => k v H2 (e1.trans e2) r2
  · refine (gv_var E1 rfl).is ?_
    have h0 : ¬ ss.filter (corP x) = [] := fun z => by
      rw [z] at hc
      cases hc
    unfold lcor
    rw [if_neg h0]
  · have h0 : ss.filter (corP x) = [] := by
      cases q : ss.filter (corP x) with
      | nil => rfl
      | cons a r =>
        rw [q] at hc
        cases hc
    refine (gn_slL (gv_var E1 rfl) go_none (go_some (K := K) (gv_nat 1)) rfl).gv.is ?_
    unfold lcor cutD
    rw [if_pos h0, HT.sIx_none, HT.sIx_nat, List.length_map, List.drop_zero, Nat.sub_zero, List.map_take]
    congr 1
    cases ss with
    | nil => rfl
    | cons s r =>
      rw [List.length_cons, Nat.min_eq_left (by omega)]
theorem ok_Co {x : Nat} {ss : List Sgn} (h : ss.length ≤ 60) : SpOk K (spCo K) [.lst (ss.map sgD), nD x] H (.lst ((lcor x ss).map sgD)) := spD_ok (x, ss) h
end
end K38

set_option Elab.async false
set_option linter.all false
set_option maxRecDepth 100000
set_option maxHeartbeats 4000000
namespace K38
open PySem PySem.Spec PyProof.Rows L2
open PySem.W (Datum Tup)
local macro_rules | `(tactic| walk_at "gv1") => `(tactic| first | exact gv_int | exact gv_str | exact gv_non | exact gv_bl | (refine gv_var (by assumption) ?_; exact rfl) | refine gv_I0 ?_ ?_ | refine gv_Ib ?_ ?_ | refine gv_eqI ?_ ?_ | refine gv_neI ?_ ?_ | refine gt_test ?_ | refine gt_B ?_ | exact ga_nil | refine ga_cons ?_ ?_)
local macro_rules | `(tactic| walk_at "gv") => `(tactic| repeat walk_at "gv1")

def lvH (w : Nat) (h : Hdr) (ss : List Sgn) : Votes := ss.map fun s : Sgn => (s.pub, s.sig (h.ht % 2 ^ s.L) (vmsg w h))
def lvP (w : Nat) (h : Hdr) (ss : List Sgn) (v : Nat × Sig) : Bool := !decide (v.1 ∈ (lvH w h ss).map (·.1))
def lvts (w : Nat) (h : Hdr) (ss : List Sgn) (ex : Votes) : Votes := srtV (lvH w h ss ++ ex.filter (lvP w h ss))
section
variable {P : Program} {w : World} {K : PySem.W.Frag} {mg : Str → Option Value} {base : Heap} {B H : Hp} {σ : L2.St} {ta te tb tl : TE} {tt : TT} {G : Sg} {nx : L2.St → Hp → Prop} {rt : V → Hp → Prop} {bk ct : L2.St → Hp → Prop}
abbrev n_law_votes : List Str := ["_law_hasher", "_law_header", "_law_signers_here", "_law_extra", "_law_message", "_law_votes_here", "_law_known", "_law_signer", "_law_vote"]
theorem sc_law_votes : FnScope n_law_votes ["_law_hasher", "_law_header", "_law_signers_here", "_law_extra"] (defScope s_law_votes) := ⟨rfl, rfl, rfl, by decide +kernel, rfl, by decide +kernel, by decide +kernel⟩
structure LvA where
  w : Nat
  h : Hdr
  ss : List Sgn
  ex : Votes
structure LvOk (a : LvA) : Prop where
  hw : WOk a.w
  h : HdrOk a.h
  ss : ∀ s ∈ a.ss, s.Ok
  sl : a.ss.length ≤ 1000
  el : a.ex.length ≤ 1000
def spLv (K : PySem.W.Frag) : Sp := spN K (α := LvA) LvOk (fun a => [hshD a.w, hdrD a.h, .lst (a.ss.map sgD), votD a.ex]) (fun a => (lvts a.w a.h a.ss a.ex).map vtD)
theorem cal_law_votes (T : Txt K mg) : C8.Cal P w K mg base 5 "_law_votes" (spLv K) [] := by
  obtain ⟨fd, F⟩ := T.f_law_votes
  refine calD F T.g_law_votes (fun _ _ _ _ _ _ us hl => match us, hl with | [_, _, _, _], _ => rfl) sc_law_votes (fun vs H Q E h => (by obtain ⟨z, _, h, _⟩ := h; exact h.len)) (fun cdv A outer s H vs Q E hr h => ?_)
  obtain ⟨⟨wd, h, ss, ex⟩, ok, hvs, k⟩ := h
  have hw := ok.hw
  have hh := ok.h
  have hsl := ok.sl
  have hel := ok.el
  dsimp only at hvs k hw hh hsl hel
  refine ⟨_, (pss_cons (ps_set (i := 4) sc_law_votes.nd rfl (Or.inr rfl) (C8.pe_c (cal_vote_message T) hr (by decide) rfl (pa_cons (pv 0) (pa_cons (pv 1) pa_nil))))
      (pss_cons (ps_setLc (i := 5) (own := [("_law_signer", 7)]) (by rfl) sc_law_votes.nd rfl rfl (sw_true rfl rfl rfl (by decide +kernel)) (pi_list (pv 2)) (blkOk_by (own := [("_law_signer", 7)]) (N := n_law_votes) (sc := defScope s_law_votes) (by decide +kernel)) (fun _ _ _ _ _ => (pg_name (i := 7) sc_law_votes.nd rfl (Or.inl rfl))) (fun _ _ _ _ _ => pts_nil) (fun _ _ _ _ _ => (pe_tup (pa_cons (show PE _ _ (tFld K _ _) from pe_fld (pv 7) rfl) (pa_cons (C8.pe_mt (met_Signer_sign T) hr (by decide) (pv 7) (pa_cons (pe_op op_mod (show PE _ _ (tFld K _ _) from pe_fld (pv 1) rfl) (pe_op op_shl pe_int (show PE _ _ (tFld K _ _) from pe_fld (pv 7) rfl))) (pa_cons (pv 4) pa_nil))) pa_nil)))))
      (pss_cons (ps_set (i := 6) sc_law_votes.nd rfl (Or.inr rfl) (pe_lc (own := [("_law_vote", 8)]) (by rfl) sc_law_votes.nd (pi_list (pv 5)) (blkOk_by (own := [("_law_vote", 8)]) (N := n_law_votes) (sc := defScope s_law_votes) (by decide +kernel)) (fun _ _ _ _ _ => (pg_name (i := 8) sc_law_votes.nd rfl (Or.inl rfl))) (fun _ _ _ _ _ => pts_nil) (fun _ _ _ _ _ => (pe_ix (ix_tup : IxR _ (rIxT K)) (pv 8) pe_int (fun _ _ => rfl)))))
      (pss_one (ps_ret (pe_callB (cr_sortedV hr) (by rfl) T.b_sorted (by decide +kernel) (pa_cons (pe_op op_cat (pv 5) (pe_lc (own := [("_law_vote", 8)]) (by rfl) sc_law_votes.nd (pi_tup (pv 3)) (blkOk_by (own := [("_law_vote", 8)]) (N := n_law_votes) (sc := defScope s_law_votes) (by decide +kernel)) (fun _ _ _ _ _ => (pg_name (i := 8) sc_law_votes.nd rfl (Or.inl rfl))) (fun _ _ _ _ _ => (pts_one (pt_cmpR (op_notIn_seq : OpR _ (compareOp .NotIn) (rIn K true)) (pe_ix (ix_tup : IxR _ (rIxT K)) (pv 8) pe_int (fun _ _ => rfl)) (pv 6) (by rfl)))) (fun _ _ _ _ _ => (pv 8)))) pa_nil))))))), ?_⟩
  have E : Sl K H [some (hshD wd), some (hdrD h), some (.lst (ss.map sgD)), some (votD ex), none, none, none, none, none] _ := Sl.start (N := n_law_votes) hvs
  refine s_asg (d := nD (vmsg wd h)) E (gv_call (ga_cons (gv_var E rfl) (ga_cons (gv_var E rfl) ga_nil)) (ok_vm hw hh)) fun v1 H1 e1 _ E1 => ?_
  refine s_asg (d := .lst ((lvH wd h ss).map vtD)) E1 ((gn_mapL (l := ss) (emb := sgD) (f := fun s : Sgn => vtD (s.pub, s.sig (h.ht % 2 ^ s.L) (vmsg wd h))) E1 (gv_var E1 rfl) (by omega) (by simp) fun s hs σ2 H2 e2 E2 => ?_).is (by rw [lvH, List.map_map]; rfl)).gv fun v2 H2 e2 _ E2 => ?_
  · have oks := ok.ss s hs
    have h2p : 0 < 2 ^ s.L := Nat.pow_pos (by decide)
    have hL := oks.hL
    exact gv_tup (ga_cons (gv_fld (gv_var (i := 7) (d := sgD s) E2 rfl) T.cl_Signer T.na_Signer_public (n := 5) (by decide +kernel) (by decide) rfl) (ga_cons (gv_meth (gv_var (i := 7) (d := sgD s) E2 rfl) rfl (ga_cons (gv_modN (gv_Header_height T (gv_var E2 rfl)) (Gv.is (gv_shlN (gv_nat 1) (gv_fld (gv_var (i := 7) (d := sgD s) E2 rfl) T.cl_Signer T.na_Signer_levels (n := 2) (by decide +kernel) (by decide) rfl) (by decide) (by omega)) (by rw [Nat.one_mul])) h2p) (ga_cons (gv_var E2 rfl) ga_nil)) (ok_sign oks (Nat.mod_lt _ h2p))) ga_nil)) (by simp)
  have lv : (lvH wd h ss).length ≤ 1000 := by rw [lvH, List.length_map]; exact hsl
  refine s_asg (d := .lst (((lvH wd h ss).map (·.1)).map nD)) E2 ((gn_mapL (l := lvH wd h ss) (emb := vtD) (f := fun v : Nat × Sig => nD v.1) E2 (gv_var E2 rfl) (by omega) (by simp) fun v _ σ2 H3 e3 E3 => gv_ixTN (ds := [nD v.1, sigD v.2]) (gv_var (i := 8) E3 rfl) (gv_nat 0) rfl).is (by rw [List.map_map]; rfl)).gv fun v3 H3 e3 _ E3 => ?_
  refine s_retN (ds := (lvts wd h ss ex).map vtD) (gn_sortedV (l := lvH wd h ss ++ ex.filter (lvP wd h ss)) (Gv.is (GvN.gv (gn_cat (gv_var E3 rfl) (gn_filT (l := ex) (emb := vtD) (f := vtD) (p := lvP wd h ss) E3 (gv_var E3 rfl) (by omega) (by simp) (fun v _ σ2 H4 e4 E4 => gt_test (gv_ninLN (gv_ixTN (ds := [nD v.1, sigD v.2]) (gv_var (i := 8) E4 rfl) (gv_nat 0) rfl) (gv_var E4 rfl))) fun v _ _ σ2 H4 e4 E4 => gv_var E4 rfl).gv ?_)) (by rw [List.map_append]))) fun p xs H4 hp e4 h4 r4 => k p xs H4 (fresh_back ((e1.trans e2).trans e3) hp) (((e1.trans e2).trans e3).trans e4) h4 r4
  rw [List.length_map, List.length_map]
  have := List.length_filter_le (lvP wd h ss) ex
  omega
theorem ok_Lv (a : LvA) (h : LvOk a) : SpN K (spLv K) [hshD a.w, hdrD a.h, .lst (a.ss.map sgD), votD a.ex] H ((lvts a.w a.h a.ss a.ex).map vtD) := spN_ok a h
end
end K38

set_option Elab.async false
set_option linter.all false
set_option maxRecDepth 100000
set_option maxHeartbeats 4000000
namespace K38
open PySem PySem.Spec PyProof.Rows L2
open PySem.W (Datum Tup)
local macro_rules | `(tactic| walk_at "gv1") => `(tactic| first | exact gv_int | exact gv_str | exact gv_non | exact gv_bl | (refine gv_var (by assumption) ?_; exact rfl) | refine gv_I0 ?_ ?_ | refine gv_Ib ?_ ?_ | refine gv_eqI ?_ ?_ | refine gv_neI ?_ ?_ | refine gt_test ?_ | refine gt_B ?_ | exact ga_nil | refine ga_cons ?_ ?_)
local macro_rules | `(tactic| walk_at "gv") => `(tactic| repeat walk_at "gv1")

def seenD (c : CSt) (h : Nat) : List D := [.lst ((srtN (c.tr.map (·.1))).map nD), nD c.st.length, opD bkA (lk c.tr h)]
theorem seen_det (c : CSt) (h : Nat) : D.dets (seenD c h) = true := by
  have h1 : D.dets ((srtN (c.tr.map (·.1))).map nD) = true := dets_all fun d hd => by
    obtain ⟨n, _, rfl⟩ := List.mem_map.mp hd
    rfl
  have h2 : D.det (opD bkA (lk c.tr h)) = true := by cases lk c.tr h <;> rfl
  show (D.dets ((srtN (c.tr.map (·.1))).map nD) && (true && (D.det (opD bkA (lk c.tr h)) && true))) = true
  rw [h1, h2]
  rfl
theorem seen_dep (c : CSt) (h : Nat) : D.deps (seenD c h) ≤ 50 := by
  have h1 : D.deps ((srtN (c.tr.map (·.1))).map nD) ≤ 0 := deps_all fun d hd => by
    obtain ⟨n, _, rfl⟩ := List.mem_map.mp hd
    exact Nat.le_refl _
  have h2 : D.dep (opD bkA (lk c.tr h)) = 0 := by cases lk c.tr h <;> rfl
  show max (D.deps ((srtN (c.tr.map (·.1))).map nD) + 1) (max 0 (max (D.dep (opD bkA (lk c.tr h))) 0)) ≤ 50
  rw [h2]
  omega
section
variable {P : Program} {w : World} {K : PySem.W.Frag} {mg : Str → Option Value} {base : Heap} {B H : Hp} {σ : L2.St} {ta te tb tl : TE} {tt : TT} {G : Sg} {nx : L2.St → Hp → Prop} {rt : V → Hp → Prop} {bk ct : L2.St → Hp → Prop}
abbrev n_law_seen : List Str := ["_law_client", "_law_height"]
theorem sc_law_seen : FnScope n_law_seen ["_law_client", "_law_height"] (defScope s_law_seen) := ⟨rfl, rfl, rfl, by decide +kernel, rfl, by decide +kernel, by decide +kernel⟩
def spSn (K : PySem.W.Frag) : Sp := spN K (α := CliA × Nat) (fun z => z.1.c.tr.length < 64) (fun z => [cliD z.1.w z.1.p z.1.d z.1.c, nD z.2]) (fun z => seenD z.1.c z.2)
theorem cal_law_seen (T : Txt K mg) : C8.Cal P w K mg base 2 "_law_seen" (spSn K) [] := by
  obtain ⟨fd, F⟩ := T.f_law_seen
  refine calD F T.g_law_seen (fun _ _ _ _ _ _ us hl => match us, hl with | [_, _], _ => rfl) sc_law_seen (fun vs H Q E h => (by obtain ⟨z, _, h, _⟩ := h; exact h.len)) (fun cdv A outer s H vs Q E hr h => ?_)
  obtain ⟨⟨z, h⟩, hl, hvs, k⟩ := h
  dsimp only at hvs k hl
  refine ⟨_, (pss_one (ps_ret (pe_lst (pa_cons (C8.pe_mt0 (met_Client_heights T) hr (by decide) (pv 0)) (pa_cons (pe_callB call_len_seq (by rfl) T.b_len (by decide +kernel) (pa_cons (pe_fld (pv 0) rfl) pa_nil)) (pa_cons (C8.pe_mt (met_Client_block T) hr (by decide) (pv 0) (pa_cons (pv 1) pa_nil)) pa_nil)))))), ?_⟩
  have E : Sl K H [some (cliD z.w z.p z.d z.c), some (nD h)] _ := Sl.start (N := n_law_seen) hvs
  exact s_retN (ds := seenD z.c h) (gn_lst (ga_cons (gn_meth (gv_var (i := 0) E rfl) rfl ga_nil (ok_hts z hl)).gv (ga_cons ((gv_lenL (gv_Cl_steps T (gv_var E rfl))).is (by rw [List.length_map])) (ga_cons (gv_meth (gv_var (i := 0) E rfl) rfl (ga_cons (gv_var E rfl) ga_nil) (ok_cb z)) ga_nil))) (by show 3 ≤ 100000; decide)) k
theorem ok_Sn (z : CliA) {h : Nat} (hl : z.c.tr.length < 64) : SpN K (spSn K) [cliD z.w z.p z.d z.c, nD h] H (seenD z.c h) := spN_ok (z, h) hl
end
end K38

set_option Elab.async false
set_option linter.all false
set_option maxRecDepth 100000
set_option maxHeartbeats 4000000
namespace K38
open PySem PySem.Spec PyProof.Rows L2
open PySem.W (Datum Tup)
local macro_rules | `(tactic| walk_at "gv1") => `(tactic| first | exact gv_int | exact gv_str | exact gv_non | exact gv_bl | (refine gv_var (by assumption) ?_; exact rfl) | refine gv_I0 ?_ ?_ | refine gv_Ib ?_ ?_ | refine gv_eqI ?_ ?_ | refine gv_neI ?_ ?_ | refine gt_test ?_ | refine gt_B ?_ | exact ga_nil | refine ga_cons ?_ ?_)
local macro_rules | `(tactic| walk_at "gv") => `(tactic| repeat walk_at "gv1")

def lcl (ns : List Int) (n : Nat) : List Int := ns ++ (List.range (n - ns.length)).map fun i => ((ns.length + i + 5 : Nat) : Int)
section
variable {P : Program} {w : World} {K : PySem.W.Frag} {mg : Str → Option Value} {base : Heap} {B H : Hp} {σ : L2.St} {ta te tb tl : TE} {tt : TT} {G : Sg} {nx : L2.St → Hp → Prop} {rt : V → Hp → Prop} {bk ct : L2.St → Hp → Prop}
/-- int(x) for x in the script -/
theorem gn_scr {a : Addr} {ns : List Int} {i j : Nat} {vs : List Nat} (E : Sl K H G σ) (hi : G[i]? = some (some (.adr a))) (hs : SqL K H a (ns.map V.int)) (hl : ns.length ≤ 50000) (hj : j ∈ vs)
    (he : ∀ n : Int, ∀ σ2 H2, Ext H H2 → Sl K H2 ((wipeG G vs).set j (some (.int n))) σ2 → Gv K te σ2 H2 (.int n)) : GvN K (tLc (iList K (tVar i)) (gName j) tYes te vs) σ H (ns.map D.int) := fun H1 e1 Q q => by
  obtain ⟨v, h1, h2⟩ := (E.ext e1).2 i _ hi
  have ev : v = .ref a := h2
  subst ev
  have hs1 := hs.ext e1
  refine ⟨_, h1, a, rfl, ⟨_, hs1⟩, fun Dl hD => ?_⟩
  refine lc_core (J := Itl K a) (l := ns) (emb := D.int) (f := D.int) (p := fun _ => true) (G' := fun n => (wipeG G vs).set j (some (.int n))) (E.ext e1) hD hl (fun i H2 e2 hi => ?_) (fun i H2 e2 hi => ?_) (fun i x H2 H3 e2 hy => ?_) (fun n _ => tg_name hj) (fun _ _ _ _ _ _ => gt_yes) (fun n _ _ σ2 H2 e2 E2 => he n σ2 H2 (e1.trans e2) E2) fun ys H2 e2 h3 h4 => q Dl ys H2 hD e2 h3 (by rw [filter_yes] at h4; exact h4)
  · exact ⟨_, _, hs1.ext e2, List.getElem?_eq_getElem (by rw [List.length_map]; exact hi)⟩
  · exact ⟨_, hs1.ext e2, by rw [List.length_map]; exact hi⟩
  · obtain ⟨rfl, hy⟩ := hy
    refine ⟨rfl, fun n hn => ?_⟩
    have h5 := hy _ (hs1.ext e2)
    rw [List.getElem?_map, hn] at h5
    exact (Option.some.inj h5).symm
abbrev n_law_cells : List Str := ["_law_script", "_law_count", "_law_cells_here", "_law_cell"]
theorem sc_law_cells : FnScope n_law_cells ["_law_script", "_law_count"] (defScope s_law_cells) := ⟨rfl, rfl, rfl, by decide +kernel, rfl, by decide +kernel, by decide +kernel⟩
def spCe (K : PySem.W.Frag) : Sp := fun vs H Q _ => ∃ (a : Addr) (ns : List Int) (n : Nat) (v : V), ns.length ≤ 1000 ∧ n ≤ 1000 ∧ vs = [.ref a, v] ∧ SqL K H a (ns.map V.int) ∧ Rp K H (nD n) v ∧ ∀ v H', Ext H H' → Rp K H' (.lst ((lcl ns n).map D.int)) v → Q v H'
theorem cal_law_cells (T : Txt K mg) : C8.Cal P w K mg base 1 "_law_cells" (spCe K) [] := by
  obtain ⟨fd, F⟩ := T.f_law_cells
  refine calD F T.g_law_cells (fun _ _ _ _ _ _ us hl => match us, hl with | [_, _], _ => rfl) sc_law_cells (fun vs H Q E h => (by obtain ⟨a, ns, n, v, _, _, rfl, _⟩ := h; rfl)) (fun cdv A outer s H vs Q E hr h => ?_)
  obtain ⟨a, ns, n, v, hl, hn, rfl, hs, rv, k⟩ := h
  refine ⟨_, (pss_cons (ps_setLc (i := 2) (own := [("_law_cell", 3)]) (by rfl) sc_law_cells.nd rfl rfl (sw_true rfl rfl rfl (by decide +kernel)) (pi_list (pv 0)) (blkOk_by (own := [("_law_cell", 3)]) (N := n_law_cells) (sc := defScope s_law_cells) (by decide +kernel)) (fun _ _ _ _ _ => (pg_name (i := 3) sc_law_cells.nd rfl (Or.inl rfl))) (fun _ _ _ _ _ => pts_nil) (fun _ _ _ _ _ => (pe_callTy call_int1 (by rfl) T.b_int (by decide +kernel) (pa_cons (pv 3) pa_nil))))
      (pss_cons (ps_while PassesOwn.never (pt_cmpR op_lt (pe_callB call_len_seq (by rfl) T.b_len (by decide +kernel) (pa_cons (pv 2) pa_nil)) (pv 1) (nomark _)) (pss_one (ps_expr (pe_bm PySem.F.plainAttrs_list PySem.F.slot_list_append PySem.F.type_list_append mt_append (pv 2) (pa_cons (pe_op op_add (pe_callB call_len_seq (by rfl) T.b_len (by decide +kernel) (pa_cons (pv 2) pa_nil)) pe_int) pa_nil)))))
      (pss_one (ps_ret (pv 2))))), ?_⟩
  have E : Sl K H [some (.adr a), some (nD n), none, none] _ := Sl.start (N := n_law_cells) (Rps.cons (d := .adr a) rfl (.cons rv .nil))
  refine s_asgN (ds := ns.map D.int) E (gn_scr E rfl hs (by omega) (by simp) fun m σ2 H2 e2 E2 => gv_intI (gv_var E2 rfl)) fun p xs H1 hp e1 h1 r1 E1 => ?_
  have exs : xs = ns.map V.int := r1.ints_eq
  subst exs
  let fr : Nat → List Int := fun i => ns ++ (List.range i).map fun i => ((ns.length + i + 5 : Nat) : Int)
  have frl : ∀ i, (fr i).length = ns.length + i := fun i => by
    show (ns ++ (List.range i).map _).length = _
    rw [List.length_append, List.length_map, List.length_range]
  refine s_while (fun m σ' H' => ∃ i, m = n - ns.length - i ∧ i ≤ n - ns.length ∧ Ext H H' ∧ H' p = some (.lst ((fr i).map V.int)) ∧ Sl K H' [some (.adr a), some (nD n), some (.adr p), none] σ') (n - ns.length) ⟨0, rfl, Nat.zero_le _, e1, by rw [h1]; show _ = some (HO.lst (List.map V.int (ns ++ List.map _ (List.range 0)))); simp, E1⟩ ?_
  rintro m σ' H' ⟨i, rfl, hi, e, hpp, E2⟩
  have rl : ∀ {H2 : Hp}, Ext H' H2 → Rp K H2 (.lst ((fr i).map D.int)) (.ref p) := fun e2 => ⟨p, _, rfl, e2 _ _ hpp, Rps.ints⟩
  refine ⟨_, gt_test (gv_ltN (Gv.is (gv_lenL (gv_view (gv_var E2 rfl) (rl Ext.rfl'))) (show D.int _ = nD (ns.length + i) by rw [List.length_map, frl])) (gv_var E2 rfl)), fun hb H3 e3 => ?_, fun hb H3 e3 => ?_⟩
  · have hlt := of_decide_eq_true hb
    refine ⟨fun σ2 H2 => ∃ m', m' < n - ns.length - i ∧ ∃ i, m' = n - ns.length - i ∧ i ≤ n - ns.length ∧ Ext H H2 ∧ H2 p = some (.lst ((fr i).map V.int)) ∧ Sl K H2 [some (.adr a), some (nD n), some (.adr p), none] σ2, fun _ _ h => h, ?_⟩
    refine s_app (d := nD (ns.length + i + 5)) (E2.ext e3) (e3 _ _ hpp) (gv_var (E2.ext e3) rfl) (gv_addN (Gv.is (gv_lenL (gv_view (gv_var (E2.ext e3) rfl) (rl e3))) (show D.int _ = nD (ns.length + i) by rw [List.length_map, frl])) (gv_nat 5)) (by rw [List.length_map, frl]; omega) fun v4 H4 e4 r4 E4 h4 => ⟨n - ns.length - (i + 1), by omega, i + 1, rfl, by omega, fun b o hb2 => ?_, ?_, E4.gr (Gr.updL h4)⟩
    · rw [upd_ne (ne_of_none hb2 hp)]
      exact e4 _ _ (e3 _ _ (e _ _ hb2))
    · have q : fr (i + 1) = fr i ++ [((ns.length + i + 5 : Nat) : Int)] := by
        show ns ++ _ = (ns ++ _) ++ _
        rw [List.range_succ, List.map_append, List.append_assoc]
        rfl
      rw [upd_same, show v4 = .int ((ns.length + i + 5 : Nat) : Int) from r4, q]
      exact congrArg (fun l => some (HO.lst l)) (List.map_append (f := V.int) (l₁ := fr i) (l₂ := [((ns.length + i + 5 : Nat) : Int)])).symm
  · have hge := of_decide_eq_false hb
    have ei : i = n - ns.length := by omega
    subst ei
    exact s_ret (gv_view (gv_var (E2.ext e3) rfl) (rl e3)) fun v4 H4 e4 r4 => k v4 H4 ((e.trans e3).trans e4) r4
end
end K38

set_option Elab.async false
set_option linter.all false
set_option maxRecDepth 100000
set_option maxHeartbeats 4000000
namespace K38
/-! ### honest signatures verify -/
theorem cw_comp {w ix ch first word i : Nat} : ∀ j, cw w ix ch (first + i) (cw w ix ch first word i) j = cw w ix ch first word (i + j)
  | 0 => rfl
  | j + 1 => by
    show dg w 4 [ix, ch, first + i + j, cw w ix ch (first + i) (cw w ix ch first word i) j] = dg w 4 [ix, ch, first + (i + j), cw w ix ch first word (i + j)]
    rw [cw_comp j, Nat.add_assoc]
theorem xor_one (n : Nat) : n ^^^ 1 = if n % 2 = 0 then n + 1 else n - 1 := by
  have h1 : (n ^^^ 1) / 2 = n / 2 := by
    rw [Nat.xor_div_two]
    simp
  have h2 : (n ^^^ 1) % 2 = 1 ↔ ¬ (n % 2 = 1 ↔ 1 % 2 = 1) := Nat.xor_mod_two_eq_one
  have h3 : ((n ^^^ 1) % 2 = 1) ↔ ¬ n % 2 = 1 := by
    rw [h2]
    simp
  split <;> omega
section
variable {s : Sgn} {ix m : Nat}
theorem sig_len : (s.sig ix m).length = 1 + chs s.w + s.L := by
  simp [Sgn.sig, Sgn.path]
  omega
theorem sig_ix : (s.sig ix m).getD 0 0 = ix := rfl
theorem sig_word {k : Nat} (hk : k < chs s.w) : (s.sig ix m).getD (1 + k) 0 = s.wrd ix k ((digs s.w m).getD k 0) := by
  rw [Sgn.sig, Nat.add_comm 1 k, List.getD_eq_getElem?_getD, List.cons_append, List.getElem?_cons_succ, List.getElem?_append_left (by rw [List.length_map, List.length_range]; exact hk), rng_get hk]
  rfl
theorem sig_path {l : Nat} (hl : l < s.L) : (s.sig ix m).getD (1 + chs s.w + l) 0 = s.row l ((ix / 2 ^ l) ^^^ 1) := by
  rw [Sgn.sig, show 1 + chs s.w + l = (chs s.w + l) + 1 by omega, List.getD_eq_getElem?_getD, List.cons_append, List.getElem?_cons_succ, List.getElem?_append_right (by rw [List.length_map, List.length_range]; omega), List.length_map, List.length_range, Nat.add_sub_cancel_left, Sgn.path, rng_get hl]
  rfl
theorem top_eq {k : Nat} (hk : k < chs s.w) : vTop s.w (s.sig ix m) m k = s.wrd ix k 15 := by
  have hd : (digs s.w m).getD k 0 < 16 := digs_lt (List.mem_of_getElem? (getD_of (by rw [digs_len]; exact hk)))
  rw [vTop, sig_ix, sig_word hk, Sgn.wrd, Sgn.wrd]
  have q := cw_comp (w := s.w) (ix := ix) (ch := k) (first := 0) (word := dg s.w 7 [s.sec, ix, k]) (i := (digs s.w m).getD k 0) (15 - (digs s.w m).getD k 0)
  rw [Nat.zero_add] at q
  rw [q]
  congr 1
  omega
theorem dg_row : ∀ {l : Nat}, l ≤ s.L → vDg s.w (s.sig ix m) m l = s.row l (ix / 2 ^ l)
  | 0, _ => by
    show dg s.w 5 ((s.sig ix m).getD 0 0 :: vTops s.w (s.sig ix m) m) = dg s.w 5 (ix / 2 ^ 0 :: s.top (ix / 2 ^ 0))
    rw [sig_ix, Nat.pow_zero, Nat.div_one]
    congr 2
    rw [vTops, Sgn.top]
    exact List.map_congr_left fun k hk => top_eq (List.mem_range.mp hk)
  | l + 1, h => by
    have ih := dg_row (l := l) (by omega)
    show dg s.w 6 (if (s.sig ix m).getD 0 0 / 2 ^ l % 2 = 0 then [l, vDg s.w (s.sig ix m) m l, (s.sig ix m).getD (1 + chs s.w + l) 0] else [l, (s.sig ix m).getD (1 + chs s.w + l) 0, vDg s.w (s.sig ix m) m l]) = dg s.w 6 [l, s.row l (2 * (ix / 2 ^ (l + 1))), s.row l (2 * (ix / 2 ^ (l + 1)) + 1)]
    rw [sig_ix, ih, sig_path (by omega), xor_one]
    have e : ix / 2 ^ (l + 1) = ix / 2 ^ l / 2 := by rw [Nat.pow_succ, Nat.div_div_eq_div_mul]
    rw [e]
    generalize ix / 2 ^ l = y
    by_cases q : y % 2 = 0
    · rw [if_pos q, if_pos q, show 2 * (y / 2) = y by omega]
    · rw [if_neg q, if_neg q, show 2 * (y / 2) + 1 = y by omega, show 2 * (y / 2) = y - 1 by omega]
/-- an honest signature verifies -/
theorem honest (hi : ix < 2 ^ s.L) : vfy s.w s.L s.pub m (s.sig ix m) = true := by
  unfold vfy
  rw [dg_row (Nat.le_refl _), Nat.div_eq_of_lt hi]
  exact decide_eq_true rfl
theorem sig_ok (h : s.Ok) (hi : ix < 2 ^ s.L) : SigOk s.w s.L (s.sig ix m) := by
  refine ⟨h.hw, sig_len, by rw [sig_ix]; exact hi, fun n hn => ?_, h.hL⟩
  have e : (s.sig ix m).drop 1 = ((List.range (chs s.w)).map fun ch => s.wrd ix ch ((digs s.w m).getD ch 0)) ++ s.path ix := rfl
  rw [e] at hn
  rcases List.mem_append.mp hn with hn | hn
  · obtain ⟨c, _, rfl⟩ := List.mem_map.mp hn
    unfold Sgn.wrd
    cases (digs s.w m).getD c 0 with
    | zero => exact dg_lt h.hw.le _ _
    | succ n => exact dg_lt h.hw.le _ _
  · obtain ⟨l, _, rfl⟩ := List.mem_map.mp hn
    generalize (ix / 2 ^ l) ^^^ 1 = y
    cases l with
    | zero => exact dg_lt h.hw.le _ _
    | succ n => exact dg_lt h.hw.le _ _
end
end K38

set_option Elab.async false
set_option linter.all false
set_option maxRecDepth 100000
set_option maxHeartbeats 4000000
namespace K38
/-! ### who signed -/
theorem sgFold_mem {w L msg : Nat} {m : Mem} {p : Nat} : ∀ {vs : Votes}, (∀ v ∈ vs, vfy w L v.1 msg v.2 = true) → (p ∈ sgFold w L msg m vs ↔ p ∈ pubs m ∧ p ∈ vs.map (·.1)) := by
  have key : ∀ (vs : Votes) (f : List Nat), (∀ v ∈ vs, vfy w L v.1 msg v.2 = true) → (p ∈ vs.foldl (sgStep w L msg (pubs m)) f ↔ p ∈ f ∨ (p ∈ pubs m ∧ p ∈ vs.map (·.1))) := by
    intro vs
    induction vs with
    | nil => intro f _; simp
    | cons v r ih =>
      intro f hv
      rw [List.foldl_cons, ih _ fun u hu => hv u (List.mem_cons_of_mem _ hu), List.map_cons, List.mem_cons]
      have h1 := hv v List.mem_cons_self
      unfold sgStep
      by_cases q : v.1 ∈ pubs m ∧ v.1 ∉ f ∧ vfy w L v.1 msg v.2 = true
      · rw [if_pos q, List.mem_append, List.mem_singleton]
        constructor
        · rintro ((h | h) | h)
          · exact .inl h
          · exact .inr ⟨by rw [h]; exact q.1, .inl h⟩
          · exact .inr ⟨h.1, .inr h.2⟩
        · rintro (h | ⟨h, h2 | h2⟩)
          · exact .inl (.inl h)
          · exact .inl (.inr h2)
          · exact .inr ⟨h, h2⟩
      · rw [if_neg q]
        constructor
        · rintro (h | h)
          · exact .inl h
          · exact .inr ⟨h.1, .inr h.2⟩
        · rintro (h | ⟨h, h2 | h2⟩)
          · exact .inl h
          · subst h2
            by_cases hf : v.1 ∈ f
            · exact .inl hf
            · exact absurd ⟨h, hf, h1⟩ q
          · exact .inr ⟨h, h2⟩
  intro vs hv
  have q := key vs [] hv
  simpa [sgFold] using q
theorem sgs_mem {w L msg : Nat} {m : Mem} {p : Nat} {vs : Votes} (h : ∀ v ∈ vs, vfy w L v.1 msg v.2 = true) : p ∈ sgs w L msg m vs ↔ p ∈ pubs m ∧ p ∈ vs.map (·.1) := by
  rw [sgs, (srtN_perm _).mem_iff]
  exact sgFold_mem h
/-- only members are said to have signed -/
theorem sgFold_sub {w L msg : Nat} {m : Mem} : ∀ {vs : Votes} {p : Nat}, p ∈ sgFold w L msg m vs → p ∈ pubs m := by
  have key : ∀ (vs : Votes) (f : List Nat), (∀ p ∈ f, p ∈ pubs m) → ∀ p ∈ vs.foldl (sgStep w L msg (pubs m)) f, p ∈ pubs m := by
    intro vs
    induction vs with
    | nil => exact fun f h => h
    | cons v r ih =>
      intro f h
      refine ih _ fun p hp => ?_
      unfold sgStep at hp
      split at hp
      · rename_i q
        rcases List.mem_append.mp hp with hp | hp
        · exact h p hp
        · rw [List.mem_singleton.mp hp]
          exact q.1
      · exact h p hp
  exact fun {vs p} h => key vs [] (fun _ h => nomatch h) p h
theorem wof_all {m : Mem} {ps : List Nat} (h : ∀ p ∈ pubs m, p ∈ ps) : wof m ps = tot m := by
  unfold wof tot
  rw [List.filter_eq_self.mpr]
  intro p hp
  exact decide_eq_true (h _ (List.mem_map.mpr ⟨p, hp, rfl⟩))
theorem tot_pos {m : Mem} (h : MemOk m) : 0 < tot m := by
  cases m with
  | nil => exact absurd h.ne (by decide)
  | cons p r =>
    have := (h.wt p List.mem_cons_self).1
    unfold tot
    rw [List.map_cons, List.sum_cons]
    omega
theorem mth_all {m : Mem} {ps : List Nat} {a b : Nat} (hm : MemOk m) (h : ∀ p ∈ pubs m, p ∈ ps) (hab : a < b) : mth m ps a b = true := by
  unfold mth
  rw [wof_all h]
  exact decide_eq_true (Nat.mul_lt_mul_of_pos_left hab (tot_pos hm))
/-- what weight the same publics have -/
theorem wof_congr {m : Mem} {ps qs : List Nat} (h : ∀ p ∈ pubs m, p ∈ ps ↔ p ∈ qs) : wof m ps = wof m qs := by
  unfold wof
  congr 2
  refine List.filter_congr fun p hp => ?_
  exact decide_eq_decide.mpr (h _ (List.mem_map.mpr ⟨p, hp, rfl⟩))
/-! ### members' numbers tell the members -/
theorem nums_inj : ∀ {a b : Mem}, nums a = nums b → a = b := by
  have key : ∀ (a b : Mem), (a.flatMap fun p => [p.1, p.2]) = (b.flatMap fun p => [p.1, p.2]) → a = b := by
    intro a
    induction a with
    | nil =>
      intro b h
      cases b with
      | nil => rfl
      | cons q r => simp at h
    | cons p r ih =>
      intro b h
      cases b with
      | nil => simp at h
      | cons q t =>
        rw [List.flatMap_cons, List.flatMap_cons] at h
        simp only [List.cons_append, List.nil_append] at h
        injection h with h1 h2
        injection h2 with h2 h3
        rw [ih t h3, Prod.ext h1 h2]
  intro a b h
  unfold nums at h
  injection h with _ h2
  exact key a b h2
/-- two member lists of one root that differ: a good collision -/
theorem mc_ok {w : Nat} {a b : Mem} (hw : WOk w) (ha : MemOk a) (hb : MemOk b) (ne : a ≠ b) (he : dg w 9 (nums a) = dg w 9 (nums b)) : ColOk w (9, nums a) (9, nums b) :=
  ⟨hw, by show 9 < 16; decide, by show 9 < 16; decide, nums_ok ha, nums_ok hb, fun z => ne (nums_inj (congrArg Prod.snd z)), he⟩
theorem hdr_list_inj {a b : Hdr} (h : a.list = b.list) : a = b := by
  unfold Hdr.list at h
  cases a
  cases b
  simpa using h
/-- a vote collision is good -/
theorem vc_ok {w : Nat} {a b : Hdr} (hw : WOk w) (ha : HdrOk a) (hb : HdrOk b) (ne : a ≠ b) (he : vmsg w a = vmsg w b) : ColOk w (vcP w a b).1 (vcP w a b).2 := by
  unfold vcP
  split
  · rename_i q
    exact ⟨hw, by show 8 < 16; decide, by show 8 < 16; decide, ha.ns, hb.ns, fun z => ne (hdr_list_inj (congrArg Prod.snd z)), q⟩
  · rename_i q
    have h1 : hdg w a < 4096 := dg_small hw _ _
    have h2 : hdg w b < 4096 := dg_small hw _ _
    exact ⟨hw, by show 10 < 16; decide, by show 10 < 16; decide, nsOk_of (by simp) (by simp; omega), nsOk_of (by simp) (by simp; omega), fun z => q (by
      have z2 : [hdg w a] = [hdg w b] := congrArg Prod.snd z
      injection z2), he⟩
end K38

set_option Elab.async false
set_option linter.all false
set_option maxRecDepth 100000
set_option maxHeartbeats 4000000
namespace K38
/-! ### steps of a client, judged -/
inductive Run (w L p d now : Nat) : BkA → List (Nat × BkA) → Prop
  | nil (b : BkA) : Run w L p d now b []
  | cons {b y : BkA} {r : List (Nat × BkA)} : stF w L p d b.2 y.2 now = none → BlkOk w L y.2 → Run w L p d now y r → Run w L p d now b ((b.2.h.ht, y) :: r)
/-- what of the node's blocks the verdicts rest on -/
structure NdGood (n : Nod) : Prop where
  ok : n.Ok
  ls : ∀ (i : Nat) z, n.bs[i]? = some z → lsF n.w z.2 = none ∧ z.2.h.ht = i
def CL (n : Nod) (b : Blk) : Prop := ∃ o : BkA, n.bs[b.h.ht]? = some o ∧ o.2.h = b.h ∧ o.2.mem = b.mem ∧ o.2.fol = b.fol
theorem lsF_roots {w : Nat} {b : Blk} (h : lsF w b = none) : dg w 9 (nums b.mem) = b.h.mb ∧ dg w 9 (nums b.fol) = b.h.fo := by
  unfold lsF at h
  split at h
  · split at h
    · rename_i q1 q2
      exact ⟨q1, q2⟩
    · cases h
  · cases h
structure StpN (w L : Nat) (b y : Blk) : Prop where
  ls : lsF w y = none
  vt : mth y.mem (bsg w L y) 2 3 = true
  lk : lkF w L b y = none
theorem stF_parts {w L p d now : Nat} {b y : Blk} (h : stF w L p d b y now = none) : StpN w L b y := by
  unfold stF at h
  split at h
  · cases h
  · split at h
    · cases h
    · rename_i hb
      split at h
      · cases h
      · unfold bkF at hb
        split at hb
        · split at hb
          · cases hb
          · rename_i hl
            split at hb
            · rename_i hm
              exact ⟨hl, hm, h⟩
            · cases hb
        · cases hb
theorem own_at {bs : List BkA} {h : Hdr} (hc : ownF bs h = true) : ∃ o, bs[h.ht]? = some o ∧ o.2.h = h := by
  unfold ownF at hc
  split at hc
  · rename_i o ho
    exact ⟨o, ho, of_decide_eq_true hc⟩
  · cases hc
theorem lcF_none {a b : Blk} (h : lcF a b = none) : a.mem = b.mem ∧ a.fol = b.fol := by
  unfold lcF at h
  split at h
  · split at h
    · rename_i q1 q2
      exact ⟨q1, q2⟩
    · cases h
  · cases h
theorem lcF_some {w L : Nat} {a b : Blk} {c : Col} (hw : WOk w) (ha : BlkOk w L a) (hb : BlkOk w L b) (la : lsF w a = none) (lb : lsF w b = none) (hh : a.h = b.h) (h : lcF a b = some c) : ColOk w c.1 c.2 := by
  obtain ⟨a1, a2⟩ := lsF_roots la
  obtain ⟨b1, b2⟩ := lsF_roots lb
  unfold lcF at h
  split at h
  · split at h
    · cases h
    · rename_i q
      cases h
      exact mc_ok hw ha.fol hb.fol q (by rw [a2, b2, hh])
  · rename_i q
    cases h
    exact mc_ok hw ha.mem hb.mem q (by rw [a1, b1, hh])
/-- a step on the chain's ground is judged well -/
theorem js_ok {n : Nod} {b y : BkA} (g : NdGood n) (hy : BlkOk n.w n.L y.2) (hb : CL n b.2) (s : StpN n.w n.L b.2 y.2) : (∃ v, jsF n b.2.h.ht y = some v ∧ VdOk n v) ∨ (jsF n b.2.h.ht y = none ∧ CL n y.2 ∧ ownF n.bs y.2.h = true) := by
  have hw := g.ok.hw
  obtain ⟨o, ho, h1, h2, h3⟩ := hb
  have oko := g.ok.ok _ _ ho
  obtain ⟨lo, _⟩ := g.ls _ _ ho
  obtain ⟨y1, y2⟩ := lsF_roots s.ls
  by_cases hc : ownF n.bs y.2.h = true
  · obtain ⟨o2, ho2, h4⟩ := own_at hc
    have ok2 := g.ok.ok _ _ ho2
    obtain ⟨lo2, _⟩ := g.ls _ _ ho2
    have ej : jsF n b.2.h.ht y = (lcF o2.2 y.2).map Vd.col := by rw [jsF, if_pos hc, ho2]
    cases q : lcF o2.2 y.2 with
    | none =>
      obtain ⟨q1, q2⟩ := lcF_none q
      exact .inr ⟨by rw [ej, q]; rfl, ⟨o2, ho2, h4, q1, q2⟩, hc⟩
    | some c => exact .inl ⟨.col c, by rw [ej, q]; rfl, ⟨lcF_some hw ok2 hy lo2 s.ls h4 q⟩⟩
  · left
    have hc' : ownF n.bs y.2.h = false := by
      cases q : ownF n.bs y.2.h with
      | false => rfl
      | true => exact absurd q hc
    by_cases q : y.2.h.ht = b.2.h.ht + 1 ∧ y.2.mem ≠ o.2.fol
    · refine ⟨.col (mcF o.2.fol y.2.mem), ?_, ⟨?_⟩⟩
      · rw [jsF, if_neg hc, ho]
        dsimp only
        rw [if_pos q]
      · have hl := s.lk
        unfold lkF at hl
        rw [if_pos q.1] at hl
        have hmb : y.2.h.mb = b.2.h.fo := by
          split at hl
          · split at hl
            · rename_i z
              exact z
            · cases hl
          · cases hl
        exact mc_ok hw oko.fol hy.mem (fun z => q.2 z.symm) (by rw [(lsF_roots lo).2, y1, hmb, h1])
    · have ej : jsF n b.2.h.ht y = match vcF n.w n.bs y.2.h with
          | some c => some (.col c)
          | none => some (.cul b.2.h.ht (cuF n o y) y) := by
        rw [jsF, if_neg hc, ho]
        dsimp only
        rw [if_neg q] <;> rfl
      cases hv : vcF n.w n.bs y.2.h with
      | some c =>
        refine ⟨.col c, by rw [ej, hv], ⟨?_⟩⟩
        unfold vcF at hv
        cases hf : n.bs.find? (fun z => decide (vmsg n.w z.2.h = vmsg n.w y.2.h)) with
        | none =>
          rw [hf] at hv
          cases hv
        | some o3 =>
          rw [hf] at hv
          cases hv
          have hm := List.mem_of_find?_eq_some hf
          have hp0 := List.find?_some hf
          have hp : vmsg n.w o3.2.h = vmsg n.w y.2.h := by simpa using hp0
          obtain ⟨i, hi, e3⟩ := List.getElem_of_mem hm
          have e4 : n.bs[i]? = some o3 := by rw [List.getElem?_eq_getElem hi, e3]
          refine vc_ok hw (g.ok.ok _ _ e4).h hy.h (fun z => hc ?_) hp
          have e5 := (g.ls _ _ e4).2
          rw [z] at e5
          unfold ownF
          rw [e5, e4]
          exact decide_eq_true z
      | none =>
        refine ⟨.cul b.2.h.ht (cuF n o y) y, by rw [ej, hv], ⟨o, ho, hy, hc', hv, ⟨?_, fun p hp => ?_⟩, ?_⟩⟩
        · exact Nat.le_trans (List.length_filter_le _ _) (bsg_len hy)
        · obtain ⟨q1, q2⟩ := List.mem_filter.mp hp
          exact ⟨q1, of_decide_eq_true q2⟩
        · have ew : wof o.2.fol (cuF n o y) = wof o.2.fol (bsg n.w n.L y.2) := wof_congr fun p hp => by
            unfold cuF
            rw [List.mem_filter]
            exact ⟨fun z => z.1, fun z => ⟨z, decide_eq_true hp⟩⟩
          unfold mth
          rw [ew]
          apply decide_eq_true
          by_cases hh : y.2.h.ht = b.2.h.ht + 1
          · have em : y.2.mem = o.2.fol := by
              by_cases z : y.2.mem = o.2.fol
              · exact z
              · exact absurd ⟨hh, z⟩ q
            have hvt := s.vt
            unfold mth at hvt
            rw [em] at hvt
            have := of_decide_eq_true hvt
            omega
          · have hl := s.lk
            unfold lkF at hl
            rw [if_neg hh, ← h3] at hl
            split at hl
            · rename_i z
              exact of_decide_eq_true z
            · cases hl
/-- judging a run -/
theorem jss_ok {n : Nod} {p d now : Nat} (g : NdGood n) : ∀ {b : BkA} {st : List (Nat × BkA)}, Run n.w n.L p d now b st → CL n b.2 → (∃ s ∈ st, ownF n.bs s.2.2.h = false) → ∃ v, jssF n st = some v ∧ VdOk n v
  | _, _, .nil _, _, h => by
    obtain ⟨_, h, _⟩ := h
    cases h
  | b, _, .cons (y := y) (r := r) h1 h2 h3, hb, ⟨s, hs, ho⟩ => by
    unfold jssF
    rw [List.findSome?_cons]
    rcases js_ok g h2 hb (stF_parts h1) with ⟨v, e, hv⟩ | ⟨e, hy, hown⟩
    · dsimp only
      rw [e]
      exact ⟨v, rfl, hv⟩
    · dsimp only
      rw [e]
      refine jss_ok g h3 hy ⟨s, ?_, ho⟩
      rcases List.mem_cons.mp hs with rfl | hs
      · dsimp only at ho
        rw [hown] at ho
        cases ho
      · exact hs
end K38

set_option Elab.async false
set_option linter.all false
set_option maxRecDepth 100000
set_option maxHeartbeats 4000000
namespace K38
/-! ### what a reach leaves -/
theorem lk_cons {α : Type} {p : Nat × α} {l : List (Nat × α)} {j : Nat} : lk (p :: l) j = if p.1 = j then some p.2 else lk l j := by
  unfold lk
  rw [List.find?_cons]
  by_cases e : p.1 = j <;> simp [e]
theorem lk_map {α : Type} {k j : Nat} {a : α} : ∀ {l : List (Nat × α)}, lk (l.map fun p => if p.1 = k then (p.1, a) else p) j = if j = k then (if (l.any fun p => decide (p.1 = k)) = true then some a else none) else lk l j
  | [] => by
    by_cases h : j = k <;> simp [lk, h]
  | p :: l => by
    rw [List.map_cons, lk_cons, lk_map, List.any_cons, lk_cons]
    by_cases e : p.1 = k
    · rw [if_pos e]
      by_cases h : j = k
      · subst h
        simp [e]
      · have h2 : ¬ k = j := fun z => h z.symm
        simp [e, h, h2]
    · rw [if_neg e]
      by_cases h : j = k
      · subst h
        rw [if_pos rfl, if_pos rfl, if_neg e, decide_eq_false e, Bool.false_or]
      · simp [h]
theorem lk_put {α : Type} {l : List (Nat × α)} {k j : Nat} {a : α} : lk (putN l k a) j = if j = k then some a else lk l j := by
  unfold putN
  by_cases q : (l.any fun p => decide (p.1 = k)) = true
  · rw [if_pos q, lk_map, if_pos q]
  · rw [if_neg q]
    have key : ∀ l : List (Nat × α), ¬ (l.any fun p => decide (p.1 = k)) = true → lk (l ++ [(k, a)]) j = if j = k then some a else lk l j := by
      intro l
      induction l with
      | nil =>
        intro _
        rw [List.nil_append, lk_cons]
        by_cases h : j = k
        · simp [h]
        · have h2 : ¬ k = j := fun z => h z.symm
          simp [h, h2]
      | cons p r ih =>
        intro h
        rw [List.any_cons, Bool.or_eq_true, not_or] at h
        rw [List.cons_append, lk_cons, ih h.2, lk_cons]
        have h3 : ¬ p.1 = k := fun z => h.1 (decide_eq_true z)
        by_cases h4 : p.1 = j
        · have h5 : ¬ j = k := fun z => h3 (h4.trans z)
          simp [h4, h5]
        · simp [h4]
    exact key l q
theorem clF_stF {w L p d h now : Nat} {t : Blk} {y : BkA} (e : clF w L p d t (some y) h now = none) : stF w L p d t y.2 now = none := by
  unfold clF at e
  dsimp only at e
  split at e
  · exact e
  · cases e
structure RunTo (r : RP) (b : BkA) (c c' : CSt) (new : List (Nat × BkA)) : Prop where
  st : c'.st = c.st ++ new
  run : Run r.w r.L r.p r.d r.now b new
  hal : c'.hal = c.hal
  tr : ∀ k z, lk c'.tr k = some z → lk c.tr k = some z ∨ ((∃ s ∈ new, s.2 = z) ∧ z.2.h.ht = k)
  old : ∀ k, (lk c.tr k).isSome = true → (lk c'.tr k).isSome = true
theorem rgo_run {r : RP} (hr : r.Ok) : ∀ (n : Nat) (c : CSt) (b : BkA) (st : List Nat), ∃ new, RunTo r b c (rgo r n c b st).2 new
  | 0, c, b, st => ⟨[], by simp [rgo], .nil _, rfl, fun k z h => .inl h, fun k h => h⟩
  | n + 1, c, b, [] => ⟨[], by simp [rgo], .nil _, rfl, fun k z h => .inl h, fun k h => h⟩
  | n + 1, c, b, t :: st => by
    unfold rgo
    cases q : clF r.w r.L r.p r.d b.2 (lk r.A t) t r.now with
    | some f =>
      dsimp only
      by_cases h : f = "overlap"
      · rw [if_pos h]
        exact rgo_run hr n c b _
      · rw [if_neg h]
        exact ⟨[], by simp, .nil _, rfl, fun k z h => .inl h, fun k h => h⟩
    | none =>
      dsimp only
      cases q2 : lk r.A t with
      | none => exact ⟨[], by simp, .nil _, rfl, fun k z h => .inl h, fun k h => h⟩
      | some y =>
        dsimp only
        obtain ⟨new, g⟩ := rgo_run hr n (stepC c b y) y st
        rw [q2] at q
        refine ⟨(b.2.h.ht, y) :: new, ?_, .cons (clF_stF q) (hr.A t y q2) g.run, g.hal, fun k z hk => ?_, fun k hk => ?_⟩
        · rw [g.st]
          show (c.st ++ [(b.2.h.ht, y)]) ++ new = _
          rw [List.append_assoc]
          rfl
        · rcases g.tr k z hk with h | ⟨⟨s, hs, e⟩, h2⟩
          · have h3 : lk (putN c.tr y.2.h.ht y) k = some z := h
            rw [lk_put] at h3
            split at h3
            · rename_i e
              cases h3
              exact .inr ⟨⟨_, List.mem_cons_self, rfl⟩, e.symm⟩
            · exact .inl h3
          · exact .inr ⟨⟨s, List.mem_cons_of_mem _ hs, e⟩, h2⟩
        · refine g.old k ?_
          show (lk (putN c.tr y.2.h.ht y) k).isSome = true
          rw [lk_put]
          split
          · rfl
          · exact hk
end K38

set_option Elab.async false
set_option linter.all false
set_option maxRecDepth 100000
set_option maxHeartbeats 4000000
namespace K38
open PySem PySem.Spec PyProof.Rows L2
/-! ### an honest chain -/
structure Chn (n : Nod) : Prop where
  ok : n.Ok
  ht : ∀ (i : Nat) z, n.bs[i]? = some z → z.2.h.ht = i
  ch : ∀ (i : Nat) z, n.bs[i]? = some z → z.2.h.ch = 7
  ls : ∀ (i : Nat) z, n.bs[i]? = some z → lsF n.w z.2 = none
  vt : ∀ (i : Nat) z, n.bs[i + 1]? = some z → ∀ p ∈ pubs z.2.mem, p ∈ bsg n.w n.L z.2
  pv : ∀ (i : Nat) z y, n.bs[i]? = some z → n.bs[i + 1]? = some y → y.2.h.pv = hdg n.w z.2.h
  fo : ∀ (i : Nat) z y, n.bs[i]? = some z → n.bs[i + 1]? = some y → y.2.mem = z.2.fol
  tm : ∀ (i : Nat) z y, n.bs[i]? = some z → n.bs[i + 1]? = some y → z.2.h.tm < y.2.h.tm
theorem Chn.good {n : Nod} (c : Chn n) : NdGood n := ⟨c.ok, fun i z h => ⟨c.ls i z h, c.ht i z h⟩⟩
theorem Chn.tms {n : Nod} (c : Chn n) {i : Nat} {z : BkA} (hz : n.bs[i]? = some z) : ∀ (k : Nat) {y : BkA}, n.bs[i + k + 1]? = some y → z.2.h.tm < y.2.h.tm
  | 0, y, hy => c.tm i z y hz hy
  | k + 1, y, hy => by
    have hl := (List.getElem?_eq_some_iff.mp hy).1
    obtain ⟨x, hx⟩ : ∃ x, n.bs[i + k + 1]? = some x := ⟨_, List.getElem?_eq_getElem (by omega)⟩
    exact Nat.lt_trans (c.tms hz k hx) (c.tm _ x y hx hy)
theorem stF_hon {n : Nod} (c : Chn n) {i j d now : Nat} {z y : BkA} (hz : n.bs[i]? = some z) (hy : n.bs[j]? = some y) (hij : i < j) (h1 : now < 1000) (h2 : y.2.h.tm ≤ now) : stF n.w n.L 1000 d z.2 y.2 now = none ∨ stF n.w n.L 1000 d z.2 y.2 now = some ("overlap" : Str) := by
  have okz := c.ok.ok _ _ hz
  have oky := c.ok.ok _ _ hy
  have hbk : bkF n.w n.L z.2.h.ch y.2 = none := by
    unfold bkF
    rw [if_pos (by rw [c.ch _ _ hy, c.ch _ _ hz]), c.ls _ _ hy]
    dsimp only
    rw [if_pos (mth_all oky.mem (c.vt (j - 1) _ (by rw [show j - 1 + 1 = j by omega]; exact hy)) (by decide))]
  have htm : z.2.h.tm < y.2.h.tm := c.tms hz (j - i - 1) (by rw [show i + (j - i - 1) + 1 = j by omega]; exact hy)
  have hor : orF d z.2.h y.2.h now = none := by
    unfold orF
    rw [c.ht _ _ hz, c.ht _ _ hy, if_neg (by omega), if_neg (by omega), if_neg (by omega)]
  have e : stF n.w n.L 1000 d z.2 y.2 now = lkF n.w n.L z.2 y.2 := by
    unfold stF
    rw [if_neg (by
      unfold exF
      rw [decide_eq_true_iff]
      omega), hbk]
    dsimp only
    rw [hor]
  rw [e]
  unfold lkF
  rw [c.ht _ _ hz, c.ht _ _ hy]
  by_cases q : j = i + 1
  · subst q
    left
    rw [if_pos rfl, if_pos (c.pv i z y hz hy), if_pos]
    rw [← (lsF_roots (c.ls _ _ hy)).1, ← (lsF_roots (c.ls _ _ hz)).2, c.fo i z y hz hy]
  · rw [if_neg q]
    split
    · exact .inl rfl
    · exact .inr rfl
/-- an honest reach -/
theorem rgo_hon {n : Nod} (c : Chn n) {r : RP} (hw : r.w = n.w) (hL : r.L = n.L) (hp : r.p = 1000) (hA : ∀ k, lk r.A k = n.bs[k]?) (h1 : r.now < 1000) (h2 : ∀ (i : Nat) z, n.bs[i]? = some z → z.2.h.tm ≤ r.now) {h : Nat} (hh : h < n.bs.length) : ∀ (m : Nat) (cc : CSt) (b : BkA) (i : Nat) (st : List Nat), n.bs[i]? = some b → (st ≠ [] → Stk h i st m) →
    (rgo r m cc b st).1 = none ∧ ∃ new, (rgo r m cc b st).2.st = cc.st ++ new ∧ ∀ s ∈ new, ∃ j : Nat, n.bs[j]? = some s.2
  | 0, cc, b, i, st, _, _ => ⟨rfl, [], by simp [rgo], fun _ h => nomatch h⟩
  | m + 1, cc, b, i, [], _, _ => ⟨rfl, [], by simp [rgo], fun _ h => nomatch h⟩
  | m + 1, cc, b, i, t :: st, hb, hs => by
    have s := hs (by simp)
    have hlen := asc_len s.last s.asc
    have ht : t ≤ h := by
      have p := (List.pairwise_cons.mp s.asc).2
      cases st with
      | nil =>
        have := s.last
        simp at this
        omega
      | cons u st =>
        have := asc_len (st := u :: st) (b := t) (h := h) (by rw [← s.last, List.getLast?_cons_cons]) p
        omega
    have hit : i < t := (List.pairwise_cons.mp s.asc).1 t (by simp)
    obtain ⟨y, hy⟩ : ∃ y, n.bs[t]? = some y := ⟨_, List.getElem?_eq_getElem (by omega)⟩
    have hlk : lk r.A t = some y := by rw [hA, hy]
    have hcl : clF r.w r.L r.p r.d b.2 (lk r.A t) t r.now = stF n.w n.L 1000 r.d b.2 y.2 r.now := by
      rw [hlk, hw, hL, hp]
      unfold clF
      dsimp only
      rw [if_pos (c.ht _ _ hy)]
    unfold rgo
    rw [hcl]
    rcases stF_hon c (d := r.d) (now := r.now) hb hy hit h1 (h2 _ _ hy) with e | e
    · rw [e]
      dsimp only
      rw [hlk]
      dsimp only
      obtain ⟨q1, new, q2, q3⟩ := rgo_hon c hw hL hp hA h1 h2 hh m (stepC cc b y) y t st hy fun hne => by
        cases st with
        | nil => exact absurd rfl hne
        | cons u st => exact s.pop
      refine ⟨q1, (b.2.h.ht, y) :: new, ?_, fun s hs => ?_⟩
      · rw [q2]
        show (cc.st ++ [(b.2.h.ht, y)]) ++ new = _
        rw [List.append_assoc]
        rfl
      · rcases List.mem_cons.mp hs with rfl | hs
        · exact ⟨t, hy⟩
        · exact q3 s hs
    · have hov : clF r.w r.L r.p r.d b.2 (lk r.A t) t r.now = some ("overlap" : Str) := by rw [hcl, e]
      have h5 := clF_over hov
      rw [c.ht _ _ hb] at h5
      rw [e]
      dsimp only
      rw [if_pos rfl, c.ht _ _ hb]
      exact rgo_hon c hw hL hp hA h1 h2 hh m cc b i _ hb fun _ => s.push h5
end K38

set_option Elab.async false
set_option linter.all false
set_option maxRecDepth 100000
set_option maxHeartbeats 4000000
namespace K38
open PySem PySem.Spec PyProof.Rows L2
theorem ownF_chain {n : Nod} (c : Chn n) {j : Nat} {z : BkA} (h : n.bs[j]? = some z) : ownF n.bs z.2.h = true := by
  unfold ownF
  rw [c.ht _ _ h, h]
  exact decide_eq_true rfl
theorem jsF_chain {n : Nod} (c : Chn n) {j s : Nat} {z : BkA} (h : n.bs[j]? = some z) : jsF n s z = none := by
  rw [jsF, if_pos (ownF_chain c h), c.ht _ _ h, h]
  show (lcF z.2 z.2).map Vd.col = none
  rw [lcF, if_pos rfl, if_pos rfl]
  rfl
/-- honest steps: no verdict -/
theorem jss_hon {n : Nod} (c : Chn n) {st : List (Nat × BkA)} (h : ∀ s ∈ st, ∃ j : Nat, n.bs[j]? = some s.2) : jssF n st = none :=
  findSome_none (f := fun s : Nat × BkA => jsF n s.1 s.2) fun j y _ hy => by
    obtain ⟨i, hi⟩ := h y (List.mem_of_getElem? hy)
    exact jsF_chain c hi
theorem Run.blk {w L p d now : Nat} : ∀ {b : BkA} {st : List (Nat × BkA)}, Run w L p d now b st → ∀ s ∈ st, BlkOk w L s.2.2
  | _, _, .nil _, _, h => nomatch h
  | _, _, .cons _ h2 h3, s, hs => by
    rcases List.mem_cons.mp hs with rfl | hs
    · exact h2
    · exact h3.blk s hs
/-- where a run may be judged -/
theorem Run.at_ {n : Nod} {p d now : Nat} (g : NdGood n) : ∀ {b : BkA} {st : List (Nat × BkA)}, Run n.w n.L p d now b st → CL n b.2 → ∀ (i : Nat) (s : Nat × BkA), st[i]? = some s → (∀ (j : Nat) (y : Nat × BkA), j < i → st[j]? = some y → jsF n y.1 y.2 = none) → ∃ o, n.bs[s.1]? = some o
  | _, _, .nil _, _, i, s, h, _ => by simp at h
  | b, _, .cons (y := y) h1 h2 h3, hb, 0, s, h, _ => by
    have e := Option.some.inj h
    subst e
    obtain ⟨o, ho, _⟩ := hb
    exact ⟨o, ho⟩
  | b, _, .cons (y := y) h1 h2 h3, hb, i + 1, s, h, hj => by
    have h0 := hj 0 _ (by omega) rfl
    rcases js_ok g h2 hb (stF_parts h1) with ⟨v, e, _⟩ | ⟨_, hy, _⟩
    · dsimp only at h0
      rw [e] at h0
      cases h0
    · exact h3.at_ g hy i s (by simpa using h) fun j z hz hzz => hj (j + 1) z (by omega) (by simpa using hzz)
theorem jss_pre {n : Nod} {p d now : Nat} {b : BkA} {st : List (Nat × BkA)} (g : NdGood n) (hr : Run n.w n.L p d now b st) (hb : CL n b.2) (hl : st.length ≤ 50000) : JssOk n st := ⟨g.ok, hl, hr.blk, hr.at_ g hb⟩
theorem jss_pre_hon {n : Nod} {p d now : Nat} {b : BkA} {st : List (Nat × BkA)} (g : NdGood n) (hr : Run n.w n.L p d now b st) (hb : CL n b.2) (hl : st.length ≤ 50000) : JssOk n st := jss_pre g hr hb hl
end K38

set_option Elab.async false
set_option linter.all false
set_option maxRecDepth 100000
set_option maxHeartbeats 4000000
namespace K38
open PySem PySem.Spec PyProof.Rows L2
/-! ### what all values of a dict have -/
def AllV {α : Type} (Q : α → Prop) (l : List (Nat × α)) : Prop := ∀ k a, lk l k = some a → Q a
section
variable {α : Type} {Q : α → Prop} {l l2 : List (Nat × α)} {k : Nat} {a : α}
theorem av_nil : AllV Q ([] : List (Nat × α)) := fun k a h => by simp [lk] at h
theorem av_put (h : AllV Q l) (ha : Q a) : AllV Q (putN l k a) := fun j b hb => by
  rw [lk_put] at hb
  split at hb
  · cases hb
    exact ha
  · exact h j b hb
theorem lk_drop {j : Nat} : ∀ {l : List (Nat × α)}, lk (dropN l k) j = if j = k then none else lk l j
  | [] => by simp [dropN, lk]
  | p :: l => by
    unfold dropN
    rw [List.filter_cons]
    have ih := lk_drop (l := l) (j := j)
    unfold dropN at ih
    by_cases e : p.1 = k
    · rw [if_neg (by simp [e]), ih, lk_cons]
      by_cases h : j = k
      · simp [h]
      · have h2 : ¬ p.1 = j := fun z => h (z.symm.trans e)
        simp [h, h2]
    · rw [if_pos (by simp [e]), lk_cons, ih, lk_cons]
      by_cases h : p.1 = j
      · have h2 : ¬ j = k := fun z => e (h.trans z)
        simp [h, h2]
      · simp [h]
theorem av_drop (h : AllV Q l) : AllV Q (dropN l k) := fun j b hb => by
  rw [lk_drop] at hb
  split at hb
  · cases hb
  · exact h j b hb
theorem av_mrg : ∀ {l2 l : List (Nat × α)}, AllV Q l → (∀ p ∈ l2, Q p.2) → AllV Q (mrgN l l2)
  | [], _, h, _ => h
  | p :: l2, l, h, h2 => av_mrg (l2 := l2) (l := putN l p.1 p.2) (av_put h (h2 p List.mem_cons_self)) fun q hq => h2 q (List.mem_cons_of_mem _ hq)
end
end K38

set_option Elab.async false
set_option linter.all false
set_option maxRecDepth 100000
set_option maxHeartbeats 4000000
namespace K38
open PySem PySem.Spec PyProof.Rows L2
/-! ### a block that the node adds -/
structure AdOk2 (a : AdA) : Prop where
  ok : AdOk a
  L : ∀ s ∈ a.ss, s.L = a.n.L
section
variable {a : AdA}
theorem vts_mem {v : Nat × Sig} (h : v ∈ a.vts) : ∃ s ∈ a.ss, v = (s.pub, s.sig a.n.bs.length (vmsg a.n.w a.hdr)) := by
  obtain ⟨s, hs, rfl⟩ := List.mem_map.mp h
  exact ⟨s, (List.mem_filter.mp hs).1, rfl⟩
theorem ad_ls (h : AdOk2 a) : lsF a.n.w a.blk = none := by
  unfold lsF
  rw [if_pos (show dg a.n.w 9 (nums a.blk.mem) = a.blk.h.mb from rfl), if_pos (show dg a.n.w 9 (nums a.blk.fol) = a.blk.h.fo from rfl)]
theorem ad_votes (h : AdOk2 a) : VotesOk a.n.w a.n.L a.blk.votes := by
  have hp := srtV_perm a.vts
  refine ⟨?_, fun v hv => ?_⟩
  · show (srtV a.vts).length ≤ 1000
    rw [hp.length_eq, AdA.vts, List.length_map]
    exact Nat.le_trans (List.length_filter_le _ _) h.ok.sl
  · obtain ⟨s, hs, rfl⟩ := vts_mem (hp.mem_iff.mp hv)
    obtain ⟨h1, h2, h3⟩ := h.ok.ss s hs
    have q := sig_ok (s := s) (ix := a.n.bs.length) (m := vmsg a.n.w a.hdr) h1 h3
    rw [h2, h.L s hs] at q
    exact q
theorem ad_blk (h : AdOk2 a) : BlkOk a.n.w a.n.L a.blk := ⟨h.ok.hw, h.ok.h, h.ok.m, h.ok.f, ad_votes h⟩
theorem ad_vt (h : AdOk2 a) (hm : ∀ p ∈ pubs a.m, p ∈ a.ss.map Sgn.pub) : ∀ p ∈ pubs a.blk.mem, p ∈ bsg a.n.w a.n.L a.blk := fun p hp => by
  have hperm := srtV_perm a.vts
  unfold bsg
  rw [sgs_mem (fun v hv => ?_)]
  · refine ⟨hp, ?_⟩
    obtain ⟨s, hs, e⟩ := List.mem_map.mp (hm p hp)
    refine List.mem_map.mpr ⟨(s.pub, s.sig a.n.bs.length (vmsg a.n.w a.hdr)), hperm.mem_iff.mpr (List.mem_map.mpr ⟨s, List.mem_filter.mpr ⟨hs, ?_⟩, rfl⟩), e⟩
    exact decide_eq_true (by rw [e]; exact hp)
  · obtain ⟨s, hs, rfl⟩ := vts_mem (hperm.mem_iff.mp hv)
    obtain ⟨h1, h2, h3⟩ := h.ok.ss s hs
    have q := honest (s := s) (ix := a.n.bs.length) (m := vmsg a.n.w a.hdr) h3
    rw [h2, h.L s hs] at q
    exact q
end
end K38

set_option Elab.async false
set_option linter.all false
set_option maxRecDepth 100000
set_option maxHeartbeats 4000000
namespace K38
open PySem PySem.Spec PyProof.Rows L2
theorem snoc_get {α : Type} {l : List α} {x z : α} {i : Nat} (h : (l ++ [x])[i]? = some z) : l[i]? = some z ∨ (i = l.length ∧ z = x) := by
  rcases Nat.lt_or_ge i l.length with q | q
  · rw [List.getElem?_append_left q] at h
    exact .inl h
  · rw [List.getElem?_append_right q] at h
    have hl := (List.getElem?_eq_some_iff.mp h).1
    rw [List.length_singleton] at hl
    have e : i - l.length = 0 := by omega
    rw [e] at h
    exact .inr ⟨by omega, (Option.some.inj h).symm⟩
/-- a chain, one block longer -/
theorem Chn.snoc {a : AdA} {p : Addr} (c : Chn a.n) (h : AdOk2 a) (hm : ∀ p ∈ pubs a.m, p ∈ a.ss.map Sgn.pub) (hl : a.n.bs.length < 100) (hpv : ∀ z, a.n.bs[a.n.bs.length - 1]? = some z → a.pv = hdg a.n.w z.2.h ∧ a.m = z.2.fol ∧ z.2.h.tm < a.t) : Chn ⟨a.n.w, a.n.L, a.n.bs ++ [(p, a.blk)]⟩ := by
  have nb : ∀ {i : Nat} {z y : BkA}, (a.n.bs ++ [(p, a.blk)])[i]? = some z → (a.n.bs ++ [(p, a.blk)])[i + 1]? = some y → (a.n.bs[i]? = some z ∧ a.n.bs[i + 1]? = some y) ∨ (a.n.bs[a.n.bs.length - 1]? = some z ∧ y = (p, a.blk)) := fun {i z y} h1 h2 => by
    rcases snoc_get h2 with h2 | ⟨e2, rfl⟩
    · have hi := (List.getElem?_eq_some_iff.mp h2).1
      rcases snoc_get h1 with h1 | ⟨e1, _⟩
      · exact .inl ⟨h1, h2⟩
      · omega
    · rcases snoc_get h1 with h1 | ⟨e1, _⟩
      · exact .inr ⟨by rw [show a.n.bs.length - 1 = i by omega]; exact h1, rfl⟩
      · omega
  refine ⟨⟨c.ok.hw, by simp, by simp; omega, fun i z hz => ?_⟩, fun i z hz => ?_, fun i z hz => ?_, fun i z hz => ?_, fun i z hz => ?_, fun i z y hz hy => ?_, fun i z y hz hy => ?_, fun i z y hz hy => ?_⟩
  · rcases snoc_get hz with hz | ⟨_, rfl⟩
    · exact c.ok.ok i z hz
    · exact ad_blk h
  · rcases snoc_get hz with hz | ⟨e, rfl⟩
    · exact c.ht i z hz
    · exact e.symm
  · rcases snoc_get hz with hz | ⟨_, rfl⟩
    · exact c.ch i z hz
    · rfl
  · rcases snoc_get hz with hz | ⟨_, rfl⟩
    · exact c.ls i z hz
    · exact ad_ls h
  · rcases snoc_get hz with hz | ⟨_, rfl⟩
    · exact c.vt i z hz
    · exact ad_vt h hm
  · rcases nb hz hy with ⟨h1, h2⟩ | ⟨h1, rfl⟩
    · exact c.pv i z y h1 h2
    · exact (hpv z h1).1
  · rcases nb hz hy with ⟨h1, h2⟩ | ⟨h1, rfl⟩
    · exact c.fo i z y h1 h2
    · exact (hpv z h1).2.1
  · rcases nb hz hy with ⟨h1, h2⟩ | ⟨h1, rfl⟩
    · exact c.tm i z y h1 h2
    · exact (hpv z h1).2.2
/-- the first block -/
theorem Chn.one {a : AdA} {p : Addr} (h : AdOk2 a) (hb : a.n.bs = []) : Chn ⟨a.n.w, a.n.L, [(p, a.blk)]⟩ := by
  have g1 : ∀ {i : Nat} {z : BkA}, ([(p, a.blk)] : List BkA)[i]? = some z → i = 0 ∧ z = (p, a.blk) := fun {i z} hz => by
    have hl := (List.getElem?_eq_some_iff.mp hz).1
    rw [List.length_singleton] at hl
    have e : i = 0 := by omega
    subst e
    exact ⟨rfl, (Option.some.inj hz).symm⟩
  have g2 : ∀ {i : Nat} {y : BkA}, ¬ ([(p, a.blk)] : List BkA)[i + 1]? = some y := fun {i y} hy => by
    have := (g1 hy).1
    omega
  have h0 : a.blk.h.ht = 0 := by
    show a.n.bs.length = 0
    rw [hb]
    rfl
  refine ⟨⟨h.ok.hw, by simp, by simp, fun i z hz => ?_⟩, fun i z hz => ?_, fun i z hz => ?_, fun i z hz => ?_, fun i z hz => ?_, fun i z y hz hy => absurd hy g2, fun i z y hz hy => absurd hy g2, fun i z y hz hy => absurd hy g2⟩
  · obtain ⟨_, rfl⟩ := g1 hz
    exact ad_blk h
  · obtain ⟨rfl, rfl⟩ := g1 hz
    exact h0
  · obtain ⟨_, rfl⟩ := g1 hz
    rfl
  · obtain ⟨_, rfl⟩ := g1 hz
    exact ad_ls h
  · exact absurd hz g2
end K38

set_option Elab.async false
set_option linter.all false
set_option maxRecDepth 100000
set_option maxHeartbeats 4000000
namespace K38
open PySem PySem.Spec PyProof.Rows L2
/-! ### the law's signers and members -/
theorem lsg_nd (w x bl : Nat) : ∀ n, ((lsg w x bl n).map Sgn.pub).Nodup
  | 0 => List.nodup_nil
  | n + 1 => by
    rw [lsg_snoc, lsgS]
    have ih := lsg_nd w x bl n
    split
    · exact ih
    · rename_i q
      rw [List.map_append]
      refine List.nodup_append.mpr ⟨ih, by simp, fun a ha b hb => ?_⟩
      simp at hb
      subst hb
      exact fun z => q (z ▸ ha)
theorem lsg_all {w x bl : Nat} : ∀ n, ∀ s ∈ lsg w x bl n, ∃ k, k < n ∧ s = sgAt w x bl k
  | 0, s, h => nomatch h
  | n + 1, s, h => by
    rw [lsg_snoc, lsgS] at h
    split at h
    · obtain ⟨k, hk, e⟩ := lsg_all n s h
      exact ⟨k, by omega, e⟩
    · rcases List.mem_append.mp h with h | h
      · obtain ⟨k, hk, e⟩ := lsg_all n s h
        exact ⟨k, by omega, e⟩
      · exact ⟨n, by omega, List.mem_singleton.mp h⟩
theorem lsg_ne {w x bl n : Nat} (h : 1 ≤ n) : lsg w x bl n ≠ [] := by
  cases n with
  | zero => omega
  | succ n =>
    induction n with
    | zero =>
      rw [lsg_snoc, lsgS]
      split
      · rename_i q
        exact absurd q (by simp [lsg])
      · simp
    | succ n ih =>
      rw [lsg_snoc, lsgS]
      split
      · exact ih (by omega)
      · simp
end K38

set_option Elab.async false
set_option linter.all false
set_option maxRecDepth 100000
set_option maxHeartbeats 4000000
namespace K38
open PySem PySem.Spec PyProof.Rows L2
theorem lmF_all {x : Nat} : ∀ (ss : List Sgn), ∀ p ∈ (lmF x ss).1, 1 ≤ p.2 ∧ p.2 ≤ 9 ∧ p.1 ∈ ss.map Sgn.pub := by
  have key : ∀ (ss : List Sgn) (a : Mem × Nat), (∀ p ∈ a.1, 1 ≤ p.2 ∧ p.2 ≤ 9) → ∀ p ∈ (ss.foldl lmS a).1, (1 ≤ p.2 ∧ p.2 ≤ 9) := by
    intro ss
    induction ss with
    | nil => exact fun a h => h
    | cons s r ih =>
      intro a h
      refine ih _ fun p hp => ?_
      unfold lmS at hp
      dsimp only at hp
      split at hp
      · rcases List.mem_append.mp hp with hp | hp
        · exact h p hp
        · rw [List.mem_singleton.mp hp]
          have := Nat.mod_lt (a.2 / 4) (by decide : 0 < 9)
          dsimp only
          omega
      · exact h p hp
  intro ss p hp
  obtain ⟨h1, h2⟩ := key ss ([], x) (fun _ h => nomatch h) p hp
  exact ⟨h1, h2, (lmF_sub x ss).subset (List.mem_map.mpr ⟨p, hp, rfl⟩)⟩
theorem lmR_all {x : Nat} {ss : List Sgn} : ∀ p ∈ lmR x ss, 1 ≤ p.2 ∧ p.2 ≤ 9 ∧ p.1 ∈ ss.map Sgn.pub := by
  unfold lmR
  split
  · cases ss with
    | nil => exact fun p h => nomatch h
    | cons s r =>
      intro p hp
      rw [List.mem_singleton.mp hp]
      exact ⟨by show 1 ≤ 3; decide, by show 3 ≤ 9; decide, by simp⟩
  · exact lmF_all ss
theorem lmR_ne {x : Nat} {ss : List Sgn} (h : ss ≠ []) : lmR x ss ≠ [] := by
  unfold lmR
  split
  · cases ss with
    | nil => exact absurd rfl h
    | cons s r => simp
  · assumption
/-- members drawn are good -/
theorem lmem_ok {x : Nat} {ss : List Sgn} (h : ss ≠ []) (hn : (ss.map Sgn.pub).Nodup) (hl : ss.length ≤ 60) (hp : ∀ s ∈ ss, s.pub < 4294967296) : MemOk (lmem x ss) := by
  have pm := srtM_perm (lmR x ss)
  have hnd : ((lmem x ss).map (·.1)).Nodup := (pm.map _).nodup_iff.mpr (lmR_nd hn)
  have hsub : ∀ p ∈ lmem x ss, 1 ≤ p.2 ∧ p.2 ≤ 9 ∧ p.1 ∈ ss.map Sgn.pub := fun p hp => lmR_all p (pm.mem_iff.mp hp)
  refine ⟨?_, ?_, ?_, fun p hp => ⟨(hsub p hp).1, by have := (hsub p hp).2.1; omega⟩, fun p hp2 => ?_⟩
  · refine List.length_pos_iff.mpr fun z => lmR_ne (x := x) h ?_
    exact List.length_eq_zero_iff.mp (by rw [← pm.length_eq]; exact (congrArg List.length z))
  · have h1 : (lmem x ss).length = (lmR x ss).length := pm.length_eq
    rw [h1]
    unfold lmR
    split
    · cases ss with
      | nil => exact Nat.zero_le _
      | cons s r => show 1 ≤ 64; decide
    · have := (lmF_sub x ss).length_le
      rw [List.length_map, List.length_map] at this
      omega
  · have hs := srtM_sorted (lmR x ss)
    unfold pubs
    rw [List.pairwise_map]
    have hnd2 := List.pairwise_map.mp hnd
    exact (hs.and hnd2).imp fun h => Nat.lt_of_le_of_ne h.1 h.2
  · obtain ⟨s, hs, e⟩ := List.mem_map.mp (hsub p hp2).2.2
    rw [← e]
    exact hp s hs
end K38

set_option Elab.async false
set_option linter.all false
set_option maxRecDepth 100000
set_option maxHeartbeats 4000000
namespace K38
open PySem PySem.Spec PyProof.Rows L2
/-! ### the pairs of the law's node: keys of two bits -/
def QK (k : Nat) : Prop := k = 0 ∨ k = 1073741824 ∨ k = 2147483648 ∨ k = 3221225472
structure PK (P : Prs2) : Prop where
  nd : (P.map (·.1)).Nodup
  al : ∀ p ∈ P, QK p.1 ∧ p.2 < 4294967296
theorem pk_fil {P : Prs2} (h : PK P) (f : Nat × Nat → Bool) : PK (P.filter f) := ⟨List.Sublist.nodup (List.Sublist.map _ List.filter_sublist) h.nd, fun p hp => h.al p (List.mem_filter.mp hp).1⟩
theorem one_key {P : Prs2} {c : Nat} (h : (P.map (·.1)).Nodup) (h2 : ∀ p ∈ P, p.1 = c) : P.length ≤ 1 := by
  match P, h, h2 with
  | [], _, _ => exact Nat.zero_le _
  | [p], _, _ => exact Nat.le_refl _
  | p :: q :: r, h, h2 =>
    have h1 := h2 p (by simp)
    have h3 := h2 q (by simp)
    simp only [List.map_cons, List.nodup_cons] at h
    exact absurd (by rw [h1, h3]; simp) h.1
theorem len_two {α : Type} (f : α → Bool) : ∀ l : List α, l.length = (l.filter f).length + (l.filter fun a => !f a).length
  | [] => rfl
  | a :: l => by
    rw [List.length_cons, len_two f l, List.filter_cons, List.filter_cons]
    cases f a <;> simp <;> omega
theorem qk_bits {k : Nat} (h : QK k) : (bit k 0 = 0 ∧ bit k 1 = 0 ∧ k = 0) ∨ (bit k 0 = 0 ∧ bit k 1 ≠ 0 ∧ k = 1073741824) ∨ (bit k 0 ≠ 0 ∧ bit k 1 = 0 ∧ k = 2147483648) ∨ (bit k 0 ≠ 0 ∧ bit k 1 ≠ 0 ∧ k = 3221225472) := by
  rcases h with rfl | rfl | rfl | rfl <;> simp [bit]
theorem PK.c0 {P : Prs2} (h : PK P) : C0 P := by
  have g1 := pk_fil h fun p => decide (bit p.1 0 = 0)
  have g2 := pk_fil h fun p => !decide (bit p.1 0 = 0)
  refine ⟨⟨?_, ?_⟩, ?_, ?_⟩
  · refine one_key (c := 0) (pk_fil g1 _).nd fun p hp => ?_
    obtain ⟨hp1, hp2⟩ := List.mem_filter.mp hp
    obtain ⟨hp3, hp4⟩ := List.mem_filter.mp hp1
    have a := of_decide_eq_true hp2
    have b := of_decide_eq_true hp4
    rcases qk_bits (h.al p hp3).1 with q | q | q | q
    · exact q.2.2
    · exact absurd a q.2.1
    · exact absurd b q.1
    · exact absurd b q.1
  · refine one_key (c := 1073741824) (pk_fil g1 _).nd fun p hp => ?_
    obtain ⟨hp1, hp2⟩ := List.mem_filter.mp hp
    obtain ⟨hp3, hp4⟩ := List.mem_filter.mp hp1
    have a : bit p.1 1 ≠ 0 := by simpa using hp2
    have b := of_decide_eq_true hp4
    rcases qk_bits (h.al p hp3).1 with q | q | q | q
    · exact absurd q.2.1 a
    · exact q.2.2
    · exact absurd b q.1
    · exact absurd b q.1
  · refine one_key (c := 2147483648) (pk_fil g2 _).nd fun p hp => ?_
    obtain ⟨hp1, hp2⟩ := List.mem_filter.mp hp
    obtain ⟨hp3, hp4⟩ := List.mem_filter.mp hp1
    have a := of_decide_eq_true hp2
    have b : bit p.1 0 ≠ 0 := by simpa using hp4
    rcases qk_bits (h.al p hp3).1 with q | q | q | q
    · exact absurd q.1 b
    · exact absurd q.1 b
    · exact q.2.2
    · exact absurd a q.2.1
  · refine one_key (c := 3221225472) (pk_fil g2 _).nd fun p hp => ?_
    obtain ⟨hp1, hp2⟩ := List.mem_filter.mp hp
    obtain ⟨hp3, hp4⟩ := List.mem_filter.mp hp1
    have a : bit p.1 1 ≠ 0 := by simpa using hp2
    have b : bit p.1 0 ≠ 0 := by simpa using hp4
    rcases qk_bits (h.al p hp3).1 with q | q | q | q
    · exact absurd q.1 b
    · exact absurd q.1 b
    · exact absurd q.2.1 a
    · exact q.2.2
theorem PK.ok {P : Prs2} (h : PK P) : PsOk P := by
  refine ⟨h.nd, ?_, fun p hp => ⟨?_, (h.al p hp).2⟩⟩
  · obtain ⟨⟨h1, h2⟩, h3, h4⟩ := h.c0
    have a := len_two (fun p : Nat × Nat => decide (bit p.1 0 = 0)) P
    have b := len_two (fun p : Nat × Nat => decide (bit p.1 1 = 0)) (lef P 0)
    have c := len_two (fun p : Nat × Nat => decide (bit p.1 1 = 0)) (rig P 0)
    have e1 : (lef (lef P 0) 1).length ≤ 1 := h1
    have e2 : (rig (lef P 0) 1).length ≤ 1 := h2
    have e3 : (lef (rig P 0) 1).length ≤ 1 := h3
    have e4 : (rig (rig P 0) 1).length ≤ 1 := h4
    have a' : P.length = (lef P 0).length + (rig P 0).length := a
    have b' : (lef P 0).length = (lef (lef P 0) 1).length + (rig (lef P 0) 1).length := b
    have c' : (rig P 0).length = (lef (rig P 0) 1).length + (rig (rig P 0) 1).length := c
    omega
  · rcases (h.al p hp).1 with q | q | q | q <;> omega
theorem PK.put {P : Prs2} (h : PK P) {k v : Nat} (hk : QK k) (hv : v < 4294967296) : PK (putN P k v) := by
  by_cases q : (P.any fun p => decide (p.1 = k)) = true
  · unfold putN
    rw [if_pos q]
    refine ⟨?_, fun p hp => ?_⟩
    · rw [List.map_map]
      have e : P.map ((fun p : Nat × Nat => p.1) ∘ fun p => if p.1 = k then (p.1, v) else p) = P.map (·.1) := List.map_congr_left fun p _ => by
        show (if p.1 = k then (p.1, v) else p).1 = p.1
        split <;> rfl
      rw [e]
      exact h.nd
    · obtain ⟨q, hq, rfl⟩ := List.mem_map.mp hp
      have := h.al q hq
      split
      · exact ⟨this.1, hv⟩
      · exact this
  · have hn : k ∉ P.map (·.1) := fun hm => q (by
      obtain ⟨p, hp, e⟩ := List.mem_map.mp hm
      exact List.any_eq_true.mpr ⟨p, hp, decide_eq_true e⟩)
    rw [putN_new hn]
    refine ⟨?_, fun p hp => ?_⟩
    · rw [List.map_append]
      refine List.nodup_append.mpr ⟨h.nd, by simp, fun a ha b hb => ?_⟩
      simp at hb
      subst hb
      exact fun z => hn (z ▸ ha)
    · rcases List.mem_append.mp hp with hp | hp
      · exact h.al p hp
      · rw [List.mem_singleton.mp hp]
        exact ⟨hk, hv⟩
theorem PK.nPs {P : Prs2} (h : PK P) {k : Nat} {o : Option Nat} (hk : QK k) (ho : ∀ v, o = some v → v < 4294967296) : PK (nPs P k o) := by
  unfold K38.nPs
  cases o with
  | some v => exact h.put hk (ho v rfl)
  | none =>
    dsimp only
    split
    · exact pk_fil h _
    · exact h
/-! ### how the law's node grows -/
structure LnA where
  w : Nat
  L : Nat
  cs : List Int
  ss : List Sgn
  n : Nat
structure LnOk (a : LnA) : Prop where
  hw : WOk a.w
  cl : 3 ≤ a.cs.length
  ne : a.ss ≠ []
  nd : (a.ss.map Sgn.pub).Nodup
  sl : a.ss.length ≤ 60
  ok : ∀ s ∈ a.ss, s.Ok ∧ s.w = a.w ∧ s.L = a.L
  nl : a.n < 2 ^ a.L
  n10 : a.n ≤ 10
structure LnI (a : LnA) (i : Nat) (n : Nod) (ps : List Prs2) : Prop where
  c : Chn n
  w : n.w = a.w
  L : n.L = a.L
  len : n.bs.length = i + 1
  pl : ps.length = i + 1
  pk : ∀ P ∈ ps, PK P
  fo : ∀ z ∈ n.bs, ∀ p ∈ pubs z.2.fol, p ∈ a.ss.map Sgn.pub
  tm : ∀ (j : Nat) z, n.bs[j]? = some z → 100 ≤ z.2.h.tm ∧ z.2.h.tm ≤ 100 + 9 * j
  vl : ∀ z ∈ n.bs, z.2.votes.length ≤ 60
theorem ad_vl {a : AdA} : a.blk.votes.length ≤ a.ss.length := by
  show (srtV a.vts).length ≤ _
  rw [(srtV_perm a.vts).length_eq, AdA.vts, List.length_map]
  exact List.length_filter_le _ _
theorem pub_lt {s : Sgn} (h : s.Ok) : s.pub < 4294967296 := Nat.lt_of_lt_of_le (dg_small h.hw _ _) (by decide)
theorem lmem_sub {x : Nat} {ss : List Sgn} : ∀ p ∈ pubs (lmem x ss), p ∈ ss.map Sgn.pub := fun p hp => by
  obtain ⟨q, hq, e⟩ := List.mem_map.mp hp
  rw [← e]
  exact (lmR_all q ((srtM_perm (lmR x ss)).mem_iff.mp hq)).2.2
theorem ln_mem {a : LnA} (h : LnOk a) (x : Nat) : MemOk (lmem x a.ss) := lmem_ok h.ne h.nd h.sl fun s hs => pub_lt (h.ok s hs).1
def ad0 (a : LnA) (m f : Mem) : AdA := ⟨⟨a.w, a.L, []⟩, [], 100, m, f, [(1073741824, 5)], 0, []⟩
theorem pk0 : PK [(1073741824, 5)] := ⟨by simp, fun p hp => by
  rw [List.mem_singleton.mp hp]
  exact ⟨.inr (.inl rfl), by show 5 < 4294967296; decide⟩⟩
theorem hdr_ok {a : AdA} (hw : WOk a.n.w) (h1 : a.n.bs.length ≤ 1000) (h2 : a.t < 4294967296) (h3 : a.pv < 4294967296) : HdrOk a.hdr := fun n hn => by
  have e1 := dg_small hw (mpF a.n.w 2 0 a.Ps).1 (mpF a.n.w 2 0 a.Ps).2
  have e2 := dg_small hw 9 (nums a.m)
  have e3 := dg_small hw 9 (nums a.f)
  have hn2 : n ∈ [7, a.n.bs.length, a.t, a.pv, mpD a.n.w 2 0 a.Ps, dg a.n.w 9 (nums a.m), dg a.n.w 9 (nums a.f)] := hn
  have e4 : mpD a.n.w 2 0 a.Ps < 4096 := e1
  simp only [List.mem_cons, List.not_mem_nil, or_false] at hn2
  rcases hn2 with rfl | rfl | rfl | rfl | rfl | rfl | rfl <;> omega
theorem ad0_ok {a : LnA} (h : LnOk a) {m f : Mem} (hm : MemOk m) (hf : MemOk f) : AdOk (ad0 a m f) :=
  ⟨h.hw, hm, hf, pk0.ok, pk0.c0, fun s hs => (nomatch hs), Nat.zero_le _, Nat.zero_le _, Nat.zero_le _, hdr_ok h.hw (Nat.zero_le _) (by show 100 < _; decide) (by show 0 < _; decide)⟩
theorem ln_zero {a : LnA} (h : LnOk a) {m f : Mem} (hm : MemOk m) (hf : MemOk f) (hs : ∀ p ∈ pubs f, p ∈ a.ss.map Sgn.pub) (p : Addr) : LnI a 0 ⟨a.w, a.L, [(p, (ad0 a m f).blk)]⟩ [[(1073741824, 5)]] := by
  refine ⟨Chn.one (a := ad0 a m f) ⟨ad0_ok h hm hf, fun s hs => nomatch hs⟩ rfl, rfl, rfl, rfl, rfl, fun P hP => ?_, fun z hz => ?_, fun j z hz => ?_, fun z hz => ?_⟩
  · rw [List.mem_singleton.mp hP]
    exact pk0
  · rw [List.mem_singleton.mp hz]
    exact hs
  · have hl := (List.getElem?_eq_some_iff.mp hz).1
    rw [List.length_singleton] at hl
    have e : j = 0 := by omega
    subst e
    have e2 := Option.some.inj hz
    subst e2
    exact ⟨Nat.le_refl _, Nat.le_refl _⟩
  · rw [List.mem_singleton.mp hz]
    exact Nat.le_trans (ad_vl (a := ad0 a m f)) (by show 0 ≤ 60; decide)
theorem ln_step {a : LnA} (h : LnOk a) {i : Nat} {n : Nod} {ps : List Prs2} (g : LnI a i n ps) (hi : i < a.n) {z : BkA} (hz : n.bs[i]? = some z) {Ps : Prs2} (hP : ps[i]? = some Ps) {t k0 : Nat} {o0 : Option Nat} {f : Mem} (ht : z.2.h.tm < t) (ht2 : t ≤ z.2.h.tm + 9) (hk : QK k0) (ho : ∀ v, o0 = some v → v < 4294967296) (hf : MemOk f) (hs : ∀ p ∈ pubs f, p ∈ a.ss.map Sgn.pub) :
    GrOk ⟨n, ps, t, k0, o0, f, a.ss, z, Ps⟩ ∧ ∀ p, LnI a (i + 1) ⟨n.w, n.L, n.bs ++ [(p, (GrA.ad ⟨n, ps, t, k0, o0, f, a.ss, z, Ps⟩).blk)]⟩ (ps ++ [nPs Ps k0 o0]) := by
  have hw : WOk n.w := by rw [g.w]; exact h.hw
  have hlen := g.len
  have hpl := g.pl
  have h10 := h.n10
  have hzm := List.mem_of_getElem? hz
  have hzb := g.c.ok.ok _ _ hz
  have hztm := (g.tm _ _ hz).2
  have hPk := g.pk _ (List.mem_of_getElem? hP)
  have pkn := hPk.nPs hk ho
  have ad : AdOk (GrA.ad ⟨n, ps, t, k0, o0, f, a.ss, z, Ps⟩) := by
    refine ⟨hw, hzb.fol, hf, pkn.ok, pkn.c0, fun s hs => ?_, by show a.ss.length ≤ 1000; have := h.sl; omega, by show n.bs.length ≤ 1000; omega, by show ps.length ≤ 1000; omega, hdr_ok hw (by show n.bs.length ≤ 1000; omega) (by show t < _; omega) ?_⟩
    · obtain ⟨h1, h2, h3⟩ := h.ok s hs
      refine ⟨h1, by rw [h2]; exact g.w.symm, ?_⟩
      show n.bs.length < 2 ^ s.L
      rw [h3]
      have := h.nl
      omega
    · exact Nat.lt_of_lt_of_le (dg_small hw _ _) (by decide)
  have ad2 : AdOk2 (GrA.ad ⟨n, ps, t, k0, o0, f, a.ss, z, Ps⟩) := ⟨ad, fun s hs => by rw [(h.ok s hs).2.2]; exact g.L.symm⟩
  have hzl : n.bs[n.bs.length - 1]? = some z := by rw [hlen]; exact hz
  have hbs : n.bs = n.bs.take i ++ [z] := by
    have e : n.bs.take (i + 1) = n.bs.take i ++ [z] := take_snoc hz
    rw [← e, ← hlen, List.take_length]
  refine ⟨⟨ad, ⟨_, hbs⟩, ?_, hzb.h, hPk.ok⟩, fun p => ?_⟩
  · show ps[n.bs.length - 1]? = some Ps
    rw [hlen]
    exact hP
  · refine ⟨Chn.snoc (a := GrA.ad ⟨n, ps, t, k0, o0, f, a.ss, z, Ps⟩) g.c ad2 (g.fo z hzm) (by show n.bs.length < 100; omega) fun z' hz' => ?_, g.w, g.L, by rw [List.length_append, hlen]; rfl, by rw [List.length_append, hpl]; rfl, fun P hP' => ?_, fun z' hz' => ?_, fun j z' hz' => ?_, fun z' hz' => ?_⟩
    · have hz2 : n.bs[n.bs.length - 1]? = some z' := hz'
      rw [hzl] at hz2
      have e := Option.some.inj hz2
      subst e
      exact ⟨rfl, rfl, ht⟩
    · rcases List.mem_append.mp hP' with q | q
      · exact g.pk _ q
      · rw [List.mem_singleton.mp q]
        exact pkn
    · rcases List.mem_append.mp hz' with q | q
      · exact g.fo _ q
      · rw [List.mem_singleton.mp q]
        exact hs
    · rcases snoc_get hz' with q | ⟨e, rfl⟩
      · exact g.tm _ _ q
      · have e1 : 100 ≤ z.2.h.tm := (g.tm _ _ hz).1
        show 100 ≤ t ∧ t ≤ 100 + 9 * j
        rw [hlen] at e
        omega
    · rcases List.mem_append.mp hz' with q | q
      · exact g.vl _ q
      · rw [List.mem_singleton.mp q]
        exact Nat.le_trans (ad_vl (a := GrA.ad ⟨n, ps, t, k0, o0, f, a.ss, z, Ps⟩)) h.sl
end K38

set_option Elab.async false
set_option linter.all false
set_option maxRecDepth 100000
set_option maxHeartbeats 4000000
namespace K38
open PySem PySem.Spec PyProof.Rows L2
/-! ### forged blocks are good, too -/
structure Cx2 (n : Nod) (co : List Sgn) : Prop where
  c : Chn n
  le : n.bs.length ≤ 20
  tm : ∀ (j : Nat) z, n.bs[j]? = some z → 100 ≤ z.2.h.tm ∧ z.2.h.tm ≤ 1000
  vl : ∀ (j : Nat) z, n.bs[j]? = some z → z.2.votes.length ≤ 60
  ne : co ≠ []
  nd : (co.map Sgn.pub).Nodup
  sl : co.length ≤ 60
  ok : ∀ s ∈ co, s.Ok ∧ s.w = n.w ∧ s.L = n.L
theorem Cx2.mem {n : Nod} {co : List Sgn} (h : Cx2 n co) (x : Nat) : MemOk (lmem x co) := lmem_ok h.ne h.nd h.sl fun s hs => pub_lt (h.ok s hs).1
theorem lv_len {w : Nat} {h : Hdr} {ss : List Sgn} {ex : Votes} : (lvts w h ss ex).length ≤ ss.length + ex.length := by
  unfold lvts
  rw [(srtV_perm _).length_eq, List.length_append, lvH, List.length_map]
  have := List.length_filter_le (lvP w h ss) ex
  omega
theorem lv_ok {w L : Nat} {h : Hdr} {ss : List Sgn} {ex : Votes} (hs : ∀ s ∈ ss, s.Ok ∧ s.w = w ∧ s.L = L) (hl : ss.length ≤ 60) (he : ∀ v ∈ ex, SigOk w L v.2) (hel : ex.length ≤ 60) : VotesOk w L (lvts w h ss ex) := by
  refine ⟨by have := lv_len (w := w) (h := h) (ss := ss) (ex := ex); omega, fun v hv => ?_⟩
  unfold lvts at hv
  rcases List.mem_append.mp ((srtV_perm _).mem_iff.mp hv) with q | q
  · obtain ⟨s, hs2, rfl⟩ := List.mem_map.mp q
    obtain ⟨h1, h2, h3⟩ := hs s hs2
    have q := sig_ok (s := s) (ix := h.ht % 2 ^ s.L) (m := vmsg w h) h1 (Nat.mod_lt _ (Nat.pow_pos (by decide)))
    rw [h2, h3] at q
    show SigOk w L (s.sig (h.ht % 2 ^ s.L) (vmsg w h))
    rw [h3]
    exact q
  · exact he v (List.mem_filter.mp q).1
theorem hd_small {a b c d e f g : Nat} (h1 : a < 4294967296) (h2 : b < 4294967296) (h3 : c < 4294967296) (h4 : d < 4294967296) (h5 : e < 4294967296) (h6 : f < 4294967296) (h7 : g < 4294967296) : HdrOk ⟨a, b, c, d, e, f, g⟩ := fun n hn => by
  have hn2 : n ∈ [a, b, c, d, e, f, g] := hn
  simp only [List.mem_cons, List.not_mem_nil, or_false] at hn2
  rcases hn2 with rfl | rfl | rfl | rfl | rfl | rfl | rfl <;> assumption
theorem dg32 {w : Nat} (h : WOk w) (t : Nat) (ns : List Nat) : dg w t ns < 4294967296 := Nat.lt_of_lt_of_le (dg_small h t ns) (by decide)
theorem st32 {w x : Nat} (h : WOk w) : x % 2 ^ w < 4294967296 := Nat.lt_of_lt_of_le (Nat.mod_lt _ (Nat.pow_pos (by decide))) (by
  have := two_pow_le h
  omega)
theorem HdrOk.tm {h : Hdr} (k : HdrOk h) : h.tm < 4294967296 := k _ (by simp [Hdr.list])
theorem HdrOk.pv {h : Hdr} (k : HdrOk h) : h.pv < 4294967296 := k _ (by simp [Hdr.list])
theorem HdrOk.st {h : Hdr} (k : HdrOk h) : h.st < 4294967296 := k _ (by simp [Hdr.list])
theorem HdrOk.mb {h : Hdr} (k : HdrOk h) : h.mb < 4294967296 := k _ (by simp [Hdr.list])
theorem HdrOk.fo {h : Hdr} (k : HdrOk h) : h.fo < 4294967296 := k _ (by simp [Hdr.list])
end K38

set_option Elab.async false
set_option linter.all false
set_option maxRecDepth 100000
set_option maxHeartbeats 4000000
namespace K38
open PySem PySem.Spec PyProof.Rows L2
open PySem.W (Datum Tup)
local macro_rules | `(tactic| walk_at "gv1") => `(tactic| first | exact gv_int | exact gv_str | exact gv_non | exact gv_bl | (refine gv_var (by assumption) ?_; exact rfl) | refine gv_I0 ?_ ?_ | refine gv_Ib ?_ ?_ | refine gv_eqI ?_ ?_ | refine gv_neI ?_ ?_ | refine gt_test ?_ | refine gt_B ?_ | exact ga_nil | refine ga_cons ?_ ?_)
local macro_rules | `(tactic| walk_at "gv") => `(tactic| repeat walk_at "gv1")

section
variable {P : Program} {w : World} {K : PySem.W.Frag} {mg : Str → Option Value} {base : Heap} {B H : Hp} {σ : L2.St} {ta te tb tl : TE} {tt : TT} {G : Sg} {nx : L2.St → Hp → Prop} {rt : V → Hp → Prop} {bk ct : L2.St → Hp → Prop}
/-- two ways that meet -/
theorem s_join {t : TT} {tu tw : TS} (J : L2.St → Hp → Prop) (h : ∀ nx' : L2.St → Hp → Prop, (∀ σ' H', J σ' H' → nx' σ' H') → tIfS t tu tw ⟨nx', rt, bk, ct⟩ σ H) (k : ∀ σ' H', J σ' H' → nx σ' H') : tIfS t tu tw ⟨nx, rt, bk, ct⟩ σ H := h nx k
instance {o : Option Nat} : Pu (opD nD o) := ⟨by cases o <;> trivial⟩
theorem shl30 {y : Nat} : QK (y % 4 * 2 ^ 30) := by
  have h : y % 4 < 4 := Nat.mod_lt _ (by decide)
  generalize y % 4 = x at h
  unfold QK
  omega
abbrev n_law_node : List Str := ["_law_hasher", "_law_cells_here", "_law_signers_here", "_law_count", "_law_x", "_law_first", "_law_node_here", "_law_k", "_law_y", "_law_following", "_law_changes"]
theorem sc_law_node : FnScope n_law_node ["_law_hasher", "_law_cells_here", "_law_signers_here", "_law_count"] (defScope s_law_node) := ⟨rfl, rfl, rfl, by decide +kernel, rfl, by decide +kernel, by decide +kernel⟩
def spLn (K : PySem.W.Frag) : Sp := fun vs H Q _ => ∃ a : LnA, LnOk a ∧ Rps K H [hshD a.w, .lst (a.cs.map D.int), .lst (a.ss.map sgD), nD a.n] vs ∧ ∀ x n ps B' H', Ext H B' → NdAt K B' H' x n ps → LnI a a.n n ps → Q (.ref x) H'
theorem cal_law_node (T : Txt K mg) : C8.Cal P w K mg base 20 "_law_node" (spLn K) [] := by
  obtain ⟨fd, F⟩ := T.f_law_node
  refine calD F T.g_law_node (fun _ _ _ _ _ _ us hl => match us, hl with | [_, _, _, _], _ => rfl) sc_law_node (fun vs H Q E h => (by obtain ⟨z, _, h, _⟩ := h; exact h.len)) (fun cdv A outer s H vs Q E hr h => ?_)
  obtain ⟨a, ok, hvs, k⟩ := h
  refine ⟨_, (pss_cons (ps_set (i := 4) sc_law_node.nd rfl (Or.inl rfl) (C8.pe_c (cal_law_number T) hr (by decide) rfl (pa_cons (pe_ix (ix_list : IxR _ (rIxL K)) (pv 1) pe_int (fun _ _ => rfl)) (pa_cons pe_int pa_nil))))
      (pss_cons (ps_set (i := 5) sc_law_node.nd rfl (Or.inl rfl) (C8.pe_c (cal_law_members T) hr (by decide) rfl (pa_cons (pv 4) (pa_cons (pv 2) pa_nil))))
      (pss_cons (ps_set (i := 6) sc_law_node.nd rfl (Or.inl rfl) (C8.pe_mk (mak_Node T) hr (by decide) rfl (pa_cons (pv 0) (pa_cons pe_int (pa_cons pe_int (pa_cons (pv 5) (pa_cons (C8.pe_c (cal_law_members T) hr (by decide) rfl (pa_cons (pe_op op_fdiv (pv 4) pe_int) (pa_cons (pv 2) pa_nil))) (pa_cons (pe_disp (pps_cons (pe_op op_shl pe_int pe_int) pe_int pps_nil) (by rfl) (by rfl) (fun z => by cases z) (by decide)) pa_nil))))))))
      (pss_cons (ps_for PassesOwn.never rfl (pi_range1 rfl T.b_range (pa_cons (pv 3) pa_nil)) (pg_name (i := 7) sc_law_node.nd rfl (Or.inl rfl)) (pss_cons (ps_set (i := 8) sc_law_node.nd rfl (Or.inl rfl) (C8.pe_c (cal_law_number T) hr (by decide) rfl (pa_cons (pe_op op_add (pe_op op_fdiv (pe_ix (ix_list : IxR _ (rIxL K)) (pv 1) pe_int (fun _ _ => rfl)) pe_int) (pe_op op_mul pe_int (pv 7))) (pa_cons (pe_op op_add pe_int (pv 7)) pa_nil))))
      (pss_cons (ps_set (i := 9) sc_law_node.nd rfl (Or.inl rfl) (C8.pe_c (cal_law_members T) hr (by decide) rfl (pa_cons (pe_op op_fdiv (pv 8) pe_int) (pa_cons (pv 2) pa_nil))))
      (pss_cons (ps_if (pt_cmpR op_eq (pe_op op_mod (pe_callTy call_int1 (by rfl) T.b_int (by decide +kernel) (pa_cons (pv 8) pa_nil)) pe_int) pe_int (nomark _)) (pss_one (ps_set (i := 9) sc_law_node.nd rfl (Or.inl rfl) (pe_fld (C8.pe_mt (met_Node_block T) hr (by decide) (pv 6) (pa_cons (pv 7) pa_nil)) rfl))) pss_nil)
      (pss_cons (ps_set (i := 10) sc_law_node.nd rfl (Or.inl rfl) (pe_disp (pps_cons (pe_op op_shl (pe_op op_mod (pe_callTy call_int1 (by rfl) T.b_int (by decide +kernel) (pa_cons (pv 8) pa_nil)) pe_int) pe_int) (pe_ix (ix_list : IxR _ (rIxL K)) (pe_lst (pa_cons pe_non (pa_cons (pe_op op_mod (pe_op op_fdiv (pv 8) pe_int) pe_int) pa_nil))) (pe_op op_mod (pe_op op_fdiv (pv 8) pe_int) pe_int) (fun _ _ => rfl)) pps_nil) (by rfl) (by rfl) (fun z => by cases z) (by decide)))
      (pss_one (ps_expr (C8.pe_mt (met_Node_grow T) hr (by decide) (pv 6) (pa_cons (pe_op op_add (pe_op op_add (pe_fld (pe_fld (C8.pe_mt (met_Node_block T) hr (by decide) (pv 6) (pa_cons (pv 7) pa_nil)) rfl) rfl) pe_int) (pe_op op_mod (pe_op op_fdiv (pv 8) pe_int) pe_int)) (pa_cons (pv 10) (pa_cons (pv 9) (pa_cons (pv 2) pa_nil))))))))))))
      (pss_one (ps_ret (pv 6))))))), ?_⟩
  have hcl := ok.cl
  have hn10 := ok.n10
  obtain ⟨c1, hc1⟩ : ∃ c, a.cs[1]? = some c := ⟨_, List.getElem?_eq_getElem (by omega)⟩
  obtain ⟨c2, hc2⟩ : ∃ c, a.cs[2]? = some c := ⟨_, List.getElem?_eq_getElem (by omega)⟩
  obtain ⟨u0, _, rfl, q0, u1, _, rfl, q1, u2, _, rfl, rSg, u3, _, rfl, q3, rfl⟩ := hvs
  obtain ⟨pSg, zSg, rfl, _⟩ := id rSg
  have E : Sl K H [some (hshD a.w), some (.lst (a.cs.map D.int)), some (.adr pSg), some (nD a.n), none, none, none, none, none, none, none] _ := Sl.start (N := n_law_node) (Rps.cons q0 (.cons q1 (.cons (d := .adr pSg) rfl (.cons q3 .nil))))
  have gs : ∀ {H2 : Hp} {σ : L2.St} {G : Sg}, Sl K H2 G σ → G[2]? = some (some (.adr pSg)) → Ext H H2 → Gv K (tVar 2) σ H2 (.lst (a.ss.map sgD)) := fun E h e => gv_view (gv_var E h) (rSg.ext e)
  refine s_asg (d := nD (lnum c1 1)) E (gv_call (ga_cons (gv_ixLN (d := .int c1) (gv_var E rfl) (gv_nat 1) (by rw [List.getElem?_map, hc1]; rfl)) (ga_cons (gv_nat 1) ga_nil)) (ok_num (by decide))) fun v4 H1 e1 _ E1 => ?_
  refine s_asg (d := memD (lmem (lnum c1 1) a.ss)) E1 (gv_call (ga_cons (gv_var E1 rfl) (ga_cons (gs E1 rfl e1) ga_nil)) (ok_Lm ok.ne ok.nd ok.sl)) fun v5 H2 e2 _ E2 => ?_
  refine s_asgMake (ga_cons (gv_var E2 rfl) (ga_cons (gv_nat 7) (ga_cons (gv_nat 100) (ga_cons (gv_var E2 rfl) (ga_cons (gv_call (ga_cons (gv_divN (gv_var E2 rfl) (gv_nat 77) (by decide) (by decide)) (ga_cons (gs E2 rfl (e1.trans e2)) ga_nil)) (ok_Lm (K := K) ok.ne ok.nd ok.sl)) (ga_cons (GvDN.gv (gd_disp (emb := nD) (k := 1073741824) (z := 5) (Gv.is (gv_shlN (gv_nat 1) (gv_nat 30) (by decide) (by decide)) (congrArg nD (by decide))) (gv_nat 5))) ga_nil)))))) fun vs H3 x dx e3 r3 hx hd ne => ?_
  have m0 := ln_mem ok (lnum c1 1)
  have f0 := ln_mem ok (lnum c1 1 / 77)
  have E3 := ((E2.ext e3).set (i := 6) (d := .adr x) (v := .ref x) rfl).wk (G' := [some (hshD a.w), some (.lst (a.cs.map D.int)), some (.adr pSg), some (nD a.n), none, none, some (.adr x), none, none, none, none]) ⟨.inr rfl, .inr rfl, .inr rfl, .inr rfl, .inl rfl, .inl rfl, .inr rfl, .inl rfl, .inl rfl, .inl rfl, .inl rfl, trivial⟩
  refine ⟨x, dx, vs, H3, ad0 a (lmem (lnum c1 1) a.ss) (lmem (lnum c1 1 / 77) a.ss), ⟨ad0_ok ok m0 f0, rfl, rfl, rfl, rfl⟩, rfl, cell_new hx hd ne, r3, fun p B4 H4 e4 nd4 => ⟨rfl, ?_⟩⟩
  have e04 := ((e1.trans e2).trans e3).trans e4
  refine s_forR1 (j := 7) (n := a.n) (ga_cons (gv_var ((E3.ext e4).ext (let ⟨_, _, _, _, _, _, q⟩ := nd4; q.ce.ext)) rfl) ga_nil) (by omega) (fun i σ' H' => ∃ B n ps, i ≤ a.n ∧ Ext H B ∧ NdAt K B H' x n ps ∧ LnI a i n ps ∧ Sl K B [some (hshD a.w), some (.lst (a.cs.map D.int)), some (.adr pSg), some (nD a.n), none, none, some (.adr x), none, none, none, none] σ') (fun H5 e5 => ⟨B4, _, _, Nat.zero_le _, e04, (let ⟨dx, pB, pS, v1, xs, ys, q⟩ := nd4; ⟨dx, pB, pS, v1, xs, ys, q.mono e5⟩), ln_zero ok m0 f0 lmem_sub p, E3.ext e4⟩) ?_ ?_
  · rintro i σ' H' hi ⟨B, n, ps, hin, e, ⟨dx, pB, pS, u1, xs, ys, nd⟩, g, EB⟩
    have glen := g.len
    have gpl := g.pl
    obtain ⟨z, hz⟩ : ∃ z, n.bs[i]? = some z := ⟨_, List.getElem?_eq_getElem (by omega)⟩
    obtain ⟨Ps, hPs⟩ : ∃ z, ps[i]? = some z := ⟨_, List.getElem?_eq_getElem (by omega)⟩
    have zok := g.c.ok.ok _ _ hz
    have zsub := g.fo _ (List.mem_of_getElem? hz)
    have EB7 := EB.set (i := 7) (d := nD i) (v := .int ((i : Nat) : Int)) rfl
    have E5 := EB7.ext nd.ce.ext
    obtain ⟨y, hy⟩ : ∃ y, y = lnum (c2 / 5 + ((11 * i : Nat) : Int)) (20 + i) := ⟨_, rfl⟩
    refine s_asg (d := nD y) E5 ((gv_call (ga_cons (gv_I0 (f := fun i j => i + j) (gv_I (f := fun i j => i / j) (gv_ixLN (d := .int c2) (gv_var E5 rfl) (gv_nat 2) (by rw [List.getElem?_map, hc2]; rfl)) gv_int ⟨by decide, by decide⟩) (gv_mulN (gv_nat 11) (gv_var E5 rfl) (.inl (by decide)))) (ga_cons (gv_addN (gv_nat 20) (gv_var E5 rfl)) ga_nil)) (ok_num (by omega))).is (by rw [hy])) fun v8 H6 e6 _ E6 => ?_
    refine s_asg (d := memD (lmem (y / 3) a.ss)) E6 (gv_call (ga_cons (gv_divN (gv_var E6 rfl) (gv_nat 3) (by decide) (by decide)) (ga_cons (gs E6 rfl ((e.trans nd.ce.ext).trans e6)) ga_nil)) (ok_Lm ok.ne ok.nd ok.sl)) fun v9 H7 e7 r9 E7 => ?_
    have nd7 := (nd.mono e6).mono e7
    refine s_join (fun σ2 H2 => ∃ f v, MemOk f ∧ (∀ p ∈ pubs f, p ∈ a.ss.map Sgn.pub) ∧ Ext H7 H2 ∧ Rp K H2 (memD f) v ∧ σ2 = ((σ'.set 7 (some (.int ((i : Nat) : Int)))).set 8 (some v8)).set 9 (some v)) (fun nx' kj => s_if E7 (gt_test (gv_eqN (gv_modN (gv_intI (gv_var (i := 8) (d := nD y) E7 rfl)) (gv_nat 3) (by decide)) (gv_nat 0))) (fun _ H8 e8 E8 => ?_) fun _ H8 e8 E8 => ?_) ?_
    · have nd8 := nd7.mono e8
      refine s_asg (d := memD z.2.fol) E8 (gv_Block_following T (gv_un (gv_meth (gv_view (gv_var E8 rfl) nd8.view) rfl (ga_cons (gv_var E8 rfl) ga_nil) (ok_nb hz)))) fun v H9 e9 r9' E9 => kj _ _ ⟨z.2.fol, v, zok.fol, zsub, e8.trans e9, r9', by rw [List.set_set]⟩
    · exact s_nop (kj _ _ ⟨lmem (y / 3) a.ss, v9, ln_mem ok _, lmem_sub, e8, r9.ext e8, rfl⟩)
    rintro σ2 H8 ⟨f, vf, hf, hfs, e8, rf, rfl⟩
    have E8 := (E6.ext (e7.trans e8)).set (i := 9) (d := memD f) (v := vf) rf
    obtain ⟨k0, hk0⟩ : ∃ k0, k0 = y % 4 * 2 ^ 30 := ⟨_, rfl⟩
    obtain ⟨o0, ho0⟩ : ∃ o0, o0 = if y / 5 % 2 = 0 then none else some (y / 7 % 50) := ⟨_, rfl⟩
    have y2 : y / 5 % 2 < 2 := Nat.mod_lt _ (by decide)
    refine s_asgD (emb := opD nD) (l := [(k0, o0)]) E8 (gd_disp (emb := opD nD) (k := k0) (z := o0) (Gv.is (gv_shlN (gv_modN (gv_intI (gv_var (i := 8) (d := nD y) E8 rfl)) (gv_nat 4) (by decide)) (gv_nat 30) (by have : y % 4 < 4 := Nat.mod_lt _ (by decide); omega) (by decide)) (by rw [hk0])) (gv_ixLN (gn_lst (ds := [.non, nD (y / 7 % 50)]) (ga_cons gv_non (ga_cons (gv_modN (gv_divN (gv_var (i := 8) (d := nD y) E8 rfl) (gv_nat 7) (by decide) (by decide)) (gv_nat 50) (by decide)) ga_nil)) (by show 2 ≤ 100000; decide)).gv (gv_modN (gv_divN (gv_var (i := 8) (d := nD y) E8 rfl) (gv_nat 5) (by decide) (by decide)) (gv_nat 2) (by decide)) (by
      rw [ho0]
      generalize y / 5 % 2 = q at y2
      rcases (by omega : q = 0 ∨ q = 1) with rfl | rfl <;> rfl))) fun pC mC H9 hpC e9 hC kC E9 => ?_
    have nd9 := (nd7.mono e8).mono e9
    refine s_meth E9 rfl nd9.ce.at_ (by exact lookup_zip_none (fs := fNd) (by decide +kernel)) (ga_cons (gv_addN (gv_addN (gv_Header_time T (gv_Block_header T (gv_un (gv_meth (gv_view (gv_var E9 rfl) nd9.view) rfl (ga_cons (gv_var E9 rfl) ga_nil) (ok_nb hz))))) (gv_nat 1)) (gv_modN (gv_divN (gv_var (i := 8) (d := nD y) E9 rfl) (gv_nat 11) (by decide) (by decide)) (gv_nat 9) (by decide))) (ga_cons (gv_var E9 rfl) (ga_cons (gv_var E9 rfl) (ga_cons (gv_var E9 rfl) ga_nil)))) fun vs H10 e10 r10 => ?_
    obtain ⟨w1, _, rfl, s1, w2, _, rfl, s2, w3, _, rfl, s3, w4, _, rfl, s4, rfl⟩ := r10
    have ew2 : w2 = .ref pC := s2
    subst ew2
    have nd10 := nd9.mono e10
    have g10 := nd10.gr T
    have b10 := nd10.ehid
    have hpC0 : H' pC = none := fresh_back ((e6.trans e7).trans e8) hpC
    have hC10 : hide (ndL x dx pB pS) H10 pC = some (.dK mC) := by
      rw [hide_out]
      · exact e10 _ _ hC
      · intro hq
        obtain ⟨o, ho⟩ := nd.hok.some hq
        rw [hpC0] at ho
        cases ho
    have y9 : y / 11 % 9 < 9 := Nat.mod_lt _ (by decide)
    obtain ⟨gok, gnx⟩ := ln_step ok g hi hz hPs (t := z.2.h.tm + 1 + y / 11 % 9) (k0 := k0) (o0 := o0) (f := f) (by omega) (by omega) (by rw [hk0]; exact shl30) (fun v hv => by
      rw [ho0] at hv
      split at hv
      · cases hv
      · cases hv
        have : y / 7 % 50 < 50 := Nat.mod_lt _ (by decide)
        omega) hf hfs
    have ew4 : w4 = .ref pSg := s4
    subst ew4
    refine ⟨_, x, ⟨n, ps, z.2.h.tm + 1 + y / 11 % 9, k0, o0, f, a.ss, z, Ps⟩, w1, .ref pC, w3, .ref pSg, gok, rfl, ⟨dx, pB, pS, u1, xs, ys, nd10.wide⟩, .cons s1 (.cons (dcD_rp.mpr ⟨pC, mC, rfl, hC10, kC.gr (fun a => inferInstance) ((Gr.of e10).trans g10)⟩) (.cons (s3.gr g10 _ (inferInstance : Pu (memD f)).pu) (.cons (rSg.ext (e.trans b10)) .nil))), fun p B' H' e11 nd' => ?_⟩
    exact ⟨B', _, _, hi, e.trans (b10.trans e11), nd', gnx p, (((((EB7.set (i := 8) (d := .any) (v := v8) trivial).set (i := 9) (d := .any) (v := vf) trivial).set (i := 10) (d := .any) (v := .ref pC) trivial).ext b10).ext e11).wk ⟨.inr rfl, .inr rfl, .inr rfl, .inr rfl, .inr rfl, .inr rfl, .inr rfl, .inl rfl, .inl rfl, .inl rfl, .inl rfl, trivial⟩⟩
  · rintro σ' H' ⟨B, n, ps, hin, e, ⟨dx, pB, pS, u1, xs, ys, nd⟩, g, EB⟩
    refine s_ret (d := .adr x) (gv_var (EB.ext nd.ce.ext) rfl) fun v H2 e2 r2 => ?_
    have ev : v = .ref x := r2
    subst ev
    exact k x n ps B H2 e ⟨dx, pB, pS, u1, xs, ys, nd.mono e2⟩ g
end
end K38

set_option Elab.async false
set_option linter.all false
set_option maxRecDepth 100000
set_option maxHeartbeats 4000000
namespace K38
open PySem PySem.Spec PyProof.Rows L2
open PySem.W (Datum Tup)
local macro_rules | `(tactic| walk_at "gv1") => `(tactic| first | exact gv_int | exact gv_str | exact gv_non | exact gv_bl | (refine gv_var (by assumption) ?_; exact rfl) | refine gv_I0 ?_ ?_ | refine gv_Ib ?_ ?_ | refine gv_eqI ?_ ?_ | refine gv_neI ?_ ?_ | refine gt_test ?_ | refine gt_B ?_ | exact ga_nil | refine ga_cons ?_ ?_)
local macro_rules | `(tactic| walk_at "gv") => `(tactic| repeat walk_at "gv1")

/-- facts of the same slots, joined -/
def mgG (G G' : Sg) : Sg := List.zipWith Option.or G G'
section
variable {P : Program} {w : World} {K : PySem.W.Frag} {mg : Str → Option Value} {base : Heap} {B H : Hp} {σ : L2.St} {ta te tb tl tv tk : TE} {tt : TT} {G : Sg} {nx : L2.St → Hp → Prop} {rt : V → Hp → Prop} {bk ct : L2.St → Hp → Prop}
theorem Sl.both {G' : Sg} (E1 : Sl K H G σ) (E2 : Sl K H G' σ) : Sl K H (mgG G G') σ := by
  refine ⟨?_, fun i d h => ?_⟩
  · show _ = (List.zipWith Option.or G G').length
    rw [List.length_zipWith, ← E1.1, ← E2.1, Nat.min_self]
  · have h : (List.zipWith Option.or G G')[i]? = some (some d) := h
    rw [List.getElem?_zipWith] at h
    cases q1 : G[i]? with
    | none =>
      rw [q1] at h
      cases h
    | some a =>
      cases q2 : G'[i]? with
      | none =>
        rw [q1, q2] at h
        cases h
      | some b =>
        rw [q1, q2] at h
        cases a with
        | some c => exact E1.2 i d (by rw [q1]; exact h)
        | none => exact E2.2 i d (by rw [q2]; exact h)
/-- d[k] = e -/
theorem s_dput {d : D} {p : Addr} {m : List (L2.Key × V)} {kk : Nat} (hp : H p = some (.dK m)) (hv : Gv K tv σ H d) (ha : Gv K ta σ H (.adr p)) (hk : Gv K tk σ H (nD kk)) (hl : m.length < 100000) (k : ∀ v H1, Ext H H1 → Rp K H1 d v → H1 p = some (.dK m) → nx σ (upd H1 p (.dK (putK m (nK kk) v)))) : sDPut ta tk tv ⟨nx, rt, bk, ct⟩ σ H :=
  hv H Ext.rfl' _ fun v H1 e1 r1 => ha H1 e1 _ fun x H2 e2 r2 => hk H2 (e1.trans e2) _ fun y H3 e3 r3 => by
    have ex : x = .ref p := r2
    have ey : y = .int (kk : Int) := r3
    subst ex ey
    have h3 := ((e1.trans e2).trans e3) _ _ hp
    exact ⟨p, _, rfl, DPut.k (k := nK kk) h3 (sz_lt hl), k v H3 ((e1.trans e2).trans e3) ((r1.ext e2).ext e3) h3⟩
theorem blk_at {b : Blk} {v : V} (h : Rp K H (blkD b) v) : ∃ p, v = .ref p ∧ Rp K H (bkA (p, b)) v := by
  obtain ⟨p, dx, us, rfl, h1, h2⟩ := id h
  exact ⟨p, rfl, rfl, h⟩
abbrev n_law_row : List Str := ["_law_node_here", "_law_corrupt_here", "_law_y", "_law_hasher", "_law_answers", "_law_height", "_law_last", "_law_members_here", "_law_k", "_law_following", "_law_state", "_law_roots", "_law_header"]
theorem sc_law_row : FnScope n_law_row ["_law_node_here", "_law_corrupt_here", "_law_y"] (defScope s_law_row) := ⟨rfl, rfl, rfl, by decide +kernel, rfl, by decide +kernel, by decide +kernel⟩
def spRo2 (K : PySem.W.Frag) : Sp := fun vs H Q _ => ∃ (n : Nod) (co : List Sgn) (y : Nat), Cx2 n co ∧ Rps K H [nodD n, .lst (co.map sgD), nD y] vs ∧ ∀ p m l H', H p = none → Ext H H' → H' p = some (.dK m) → KR K H' bkA l m → (∀ q ∈ l, BlkOk n.w n.L q.2.2) → l.length ≤ 4 → Q (.ref p) H'
theorem cal_law_row (T : Txt K mg) : C8.Cal P w K mg base 6 "_law_row" (spRo2 K) [] := by
  obtain ⟨fd, F⟩ := T.f_law_row
  refine calD F T.g_law_row (fun _ _ _ _ _ _ us hl => match us, hl with | [_, _, _], _ => rfl) sc_law_row (fun vs H Q E h => (by obtain ⟨n, co, y, _, h, _⟩ := h; exact h.len)) (fun cdv A outer s H vs Q E hr h => ?_)
  obtain ⟨n, co, y, ok, hvs, k⟩ := h
  refine ⟨_, (pss_cons (ps_set (i := 3) sc_law_row.nd rfl (Or.inl rfl) (pe_fld (pv 0) rfl))
      (pss_cons (ps_set (i := 4) sc_law_row.nd rfl (Or.inl rfl) pe_dnewK)
      (pss_cons (ps_set (i := 5) sc_law_row.nd rfl (Or.inl rfl) (pe_op op_add pe_int (pe_op op_mod (pe_callTy call_int1 (by rfl) T.b_int (by decide +kernel) (pa_cons (pv 2) pa_nil)) (pe_op op_add (C8.pe_mt0 (met_Node_height T) hr (by decide) (pv 0)) pe_int))))
      (pss_cons (ps_set (i := 6) sc_law_row.nd rfl (Or.inl rfl) (C8.pe_mt (met_Node_block T) hr (by decide) (pv 0) (pa_cons (pe_op op_sub (pv 5) pe_int) pa_nil)))
      (pss_cons (ps_set (i := 7) sc_law_row.nd rfl (Or.inl rfl) (pe_fld (pv 6) rfl))
      (pss_cons (ps_for PassesOwn.never rfl (pi_range1 rfl T.b_range (pa_cons (pe_op op_add pe_int (pe_op op_mod (pe_op op_fdiv (pv 2) pe_int) pe_int)) pa_nil)) (pg_name (i := 8) sc_law_row.nd rfl (Or.inl rfl)) (pss_cons (ps_set (i := 9) sc_law_row.nd rfl (Or.inl rfl) (C8.pe_c (cal_law_members T) hr (by decide) rfl (pa_cons (pe_op op_fdiv (pv 2) (pe_op op_add pe_int (pe_op op_mul pe_int (pv 8)))) (pa_cons (pv 1) pa_nil))))
      (pss_cons (ps_set (i := 10) sc_law_row.nd rfl (Or.inl rfl) (pe_op op_mod (pe_op op_fdiv (pv 2) (pe_op op_add pe_int (pv 8))) (pe_op op_shl pe_int (pe_fld (pv 3) rfl))))
      (pss_cons (ps_set (i := 11) sc_law_row.nd rfl (Or.inl rfl) (pe_tup (pa_cons (C8.pe_c (cal_members_root T) hr (by decide) rfl (pa_cons (pv 3) (pa_cons (pv 7) pa_nil))) (pa_cons (C8.pe_c (cal_members_root T) hr (by decide) rfl (pa_cons (pv 3) (pa_cons (pv 9) pa_nil))) pa_nil))))
      (pss_cons (ps_set (i := 12) sc_law_row.nd rfl (Or.inl rfl) (C8.pe_mk (mak_Header T) hr (by decide) rfl (pa_cons pe_int (pa_cons (pe_op op_add (pv 5) (pv 8)) (pa_cons (pe_op op_add (pe_fld (pe_fld (pv 6) rfl) rfl) pe_int) (pa_cons (C8.pe_c (cal_header_digest T) hr (by decide) rfl (pa_cons (pv 3) (pa_cons (pe_fld (pv 6) rfl) pa_nil))) (pa_cons (pv 10) (pa_cons (pe_ix (ix_tup : IxR _ (rIxT K)) (pv 11) pe_int (fun _ _ => rfl)) (pa_cons (pe_ix (ix_tup : IxR _ (rIxT K)) (pv 11) pe_int (fun _ _ => rfl)) pa_nil)))))))))
      (pss_cons (ps_set (i := 6) sc_law_row.nd rfl (Or.inl rfl) (C8.pe_mk (mak_Block T) hr (by decide) rfl (pa_cons (pv 12) (pa_cons (pv 7) (pa_cons (pv 9) (pa_cons (C8.pe_c (cal_law_votes T) hr (by decide) rfl (pa_cons (pv 3) (pa_cons (pv 12) (pa_cons (pv 1) (pa_cons (pe_tup pa_nil) pa_nil))))) pa_nil))))))
      (pss_cons (ps_dput (hu_of hr) (pv 4) (pe_op op_add (pv 5) (pv 8)) (pv 6) rfl)
      (pss_one (ps_set (i := 7) sc_law_row.nd rfl (Or.inl rfl) (pv 9))))))))))
      (pss_one (ps_ret (pv 4))))))))), ?_⟩
  have hnb := ok.c.ok.ne
  have hnl := ok.le
  have hw := ok.c.ok.hw
  have E : Sl K H [some (nodD n), some (.lst (co.map sgD)), some (nD y), none, none, none, none, none, none, none, none, none, none] _ := Sl.start (N := n_law_row) hvs
  refine s_asg (d := hshD n.w) E (gv_Nd_hasher T (gv_var E rfl)) fun v3 H1 e1 _ E1 => ?_
  refine s_asgD (emb := bkA) (l := []) E1 gd_new fun pA mA H2 hpA e2 hA kA E2 => ?_
  obtain ⟨hh, hhe⟩ : ∃ hh, hh = 1 + y % (n.bs.length - 1 + 1) := ⟨_, rfl⟩
  have hhm : y % (n.bs.length - 1 + 1) < n.bs.length - 1 + 1 := Nat.mod_lt _ (by omega)
  refine s_asg (d := nD hh) E2 ((gv_addN (gv_nat 1) (gv_modN (gv_intI (gv_var (i := 2) (d := nD y) E2 rfl)) (gv_addN (gv_meth (gv_var E2 rfl) rfl ga_nil (ok_nh hnb)) (gv_nat 1)) (by omega))).is (by rw [hhe])) fun v5 H3 e3 r5 E3 => ?_
  obtain ⟨z, hz⟩ : ∃ z, n.bs[hh - 1]? = some z := ⟨_, List.getElem?_eq_getElem (by omega)⟩
  have zok := ok.c.ok.ok _ _ hz
  have ztm := (ok.tm _ _ hz).2
  refine s_asg (d := bkA z) E3 (gv_meth (gv_var E3 rfl) rfl (ga_cons (gv_subN (gv_var E3 rfl) (gv_nat 1) (by omega)) ga_nil) (ok_nb hz)) fun v6 H4 e4 r6 E4 => ?_
  refine s_asg (d := memD z.2.fol) E4 (gv_Block_following T (gv_un (gv_var E4 rfl))) fun v7 H5 e5 r7 E5 => ?_
  have e25 := ((e3.trans e4).trans e5)
  have EB : Sl K H1 [some (nodD n), some (.lst (co.map sgD)), some (nD y), some (hshD n.w), some (.adr pA), some (nD hh), none, none, none, none, none, none, none] _ := (((E1.set (i := 4) (d := .adr pA) (v := .ref pA) rfl).set (i := 5) (d := nD hh) (v := v5) r5).set (i := 6) (d := .any) (v := v6) trivial).set (i := 7) (d := .any) (v := v7) trivial |>.wk ⟨.inr rfl, .inr rfl, .inr rfl, .inr rfl, .inr rfl, .inr rfl, .inl rfl, .inl rfl, .inr rfl, .inr rfl, .inr rfl, .inr rfl, .inr rfl, trivial⟩
  have EP := E5.wk (G' := [none, none, none, none, none, none, some (bkA z), some (memD z.2.fol), none, none, none, none, none]) ⟨.inl rfl, .inl rfl, .inl rfl, .inl rfl, .inl rfl, .inl rfl, .inr rfl, .inr rfl, .inr rfl, .inr rfl, .inr rfl, .inr rfl, .inr rfl, trivial⟩
  have y4 : y / 9 % 4 < 4 := Nat.mod_lt _ (by decide)
  refine s_forR1 (j := 8) (n := 1 + y / 9 % 4) (ga_cons (gv_addN (gv_nat 1) (gv_modN (gv_divN (gv_var (i := 2) (d := nD y) E5 rfl) (gv_nat 9) (by decide) (by decide)) (gv_nat 4) (by decide))) ga_nil) (by omega) (fun i σ' H' => ∃ m l z M, i ≤ 4 ∧ Ext H1 H' ∧ H' pA = some (.dK m) ∧ KR K H' bkA l m ∧ (∀ q ∈ l, BlkOk n.w n.L q.2.2) ∧ l.length ≤ i ∧ BlkOk n.w n.L z.2 ∧ z.2.h.tm ≤ 1000 + i ∧ MemOk M ∧ Sl K H1 [some (nodD n), some (.lst (co.map sgD)), some (nD y), some (hshD n.w), some (.adr pA), some (nD hh), none, none, none, none, none, none, none] σ' ∧ Sl K H' [none, none, none, none, none, none, some (bkA z), some (memD M), none, none, none, none, none] σ') (fun H6 e6 => ⟨mA, [], z, z.2.fol, by omega, e2.trans (e25.trans e6), e6 _ _ (e25 _ _ hA), by cases kA; exact rfl, fun q hq => (by cases hq), Nat.le_refl _, zok, ztm, zok.fol, EB, EP.ext e6⟩) ?_ ?_
  · rintro i σ' H' hi ⟨m, l, z, M, hi4, e, hm, km, hl, hll, zok, ztm, hM, EB', EP'⟩
    have EBi := EB'.set (i := 8) (d := nD i) (v := .int ((i : Nat) : Int)) rfl
    have E1' : Sl K H' [some (nodD n), some (.lst (co.map sgD)), some (nD y), some (hshD n.w), some (.adr pA), some (nD hh), some (bkA z), some (memD M), some (nD i), none, none, none, none] _ := (EBi.ext e).both (EP'.set (i := 8) (d := nD i) (v := .int ((i : Nat) : Int)) rfl)
    refine s_asg (d := memD (lmem (y / (27 + 5 * i)) co)) E1' (gv_call (ga_cons (gv_divN (gv_var E1' rfl) (gv_addN (gv_nat 27) (gv_mulN (gv_nat 5) (gv_var E1' rfl) (.inl (by decide)))) (by omega) (by omega)) (ga_cons (gv_var E1' rfl) ga_nil)) (ok_Lm ok.ne ok.nd ok.sl)) fun w9 H6 e6 _ E6 => ?_
    have w2p : 0 < 2 ^ n.w := Nat.pow_pos (by decide)
    refine s_asg (d := nD (y / (31 + i) % 2 ^ n.w)) E6 (gv_modN (gv_divN (gv_var (i := 2) (d := nD y) E6 rfl) (gv_addN (gv_nat 31) (gv_var E6 rfl)) (by omega) (by omega)) (Gv.is (gv_shlN (gv_nat 1) (gv_Hasher_width T (gv_var E6 rfl)) (by decide) (by have := hw.le; omega)) (by rw [Nat.one_mul])) w2p) fun w10 H7 e7 _ E7 => ?_
    refine s_asg (d := .tup [nD (dg n.w 9 (nums M)), nD (dg n.w 9 (nums (lmem (y / (27 + 5 * i)) co)))]) E7 (gv_tup (ga_cons (gv_call (ga_cons (gv_var E7 rfl) (ga_cons (gv_var E7 rfl) ga_nil)) (ok_MR hw hM)) (ga_cons (gv_call (ga_cons (gv_var E7 rfl) (ga_cons (gv_var E7 rfl) ga_nil)) (ok_MR hw (ok.mem _))) ga_nil)) (by simp)) fun w11 H8 e8 _ E8 => ?_
    obtain ⟨hd, ehd⟩ : ∃ hd : Hdr, hd = ⟨7, hh + i, z.2.h.tm + 1, hdg n.w z.2.h, y / (31 + i) % 2 ^ n.w, dg n.w 9 (nums M), dg n.w 9 (nums (lmem (y / (27 + 5 * i)) co))⟩ := ⟨_, rfl⟩
    have hdk : HdrOk hd := by
      rw [ehd]
      exact hd_small (by decide) (by omega) (by omega) (dg32 hw _ _) (st32 hw) (dg32 hw _ _) (dg32 hw _ _)
    refine s_asg (d := hdrD hd) E8 (gv_make (K := K) (c := "Header") (out := hdrD) (α := Hdr) (ins := fun h : Hdr => h.list.map nD) (pre := fun _ => True) hd trivial (by
      rw [ehd]
      exact ga_cons (gv_nat 7) (ga_cons (gv_addN (gv_var E8 rfl) (gv_var E8 rfl)) (ga_cons (gv_addN (gv_Header_time T (gv_Block_header T (gv_un (gv_var E8 rfl)))) (gv_nat 1)) (ga_cons (gv_call (ga_cons (gv_var E8 rfl) (ga_cons (gv_Block_header T (gv_un (gv_var E8 rfl))) ga_nil)) (ok_hd hw zok.h)) (ga_cons (gv_var E8 rfl) (ga_cons (gv_ixTN (gv_var E8 rfl) (gv_nat 0) rfl) (ga_cons (gv_ixTN (gv_var E8 rfl) (gv_nat 1) rfl) ga_nil)))))))) fun w12 H9 e9 _ E9 => ?_
    obtain ⟨b, eb⟩ : ∃ b : Blk, b = ⟨hd, M, lmem (y / (27 + 5 * i)) co, lvts n.w hd co []⟩ := ⟨_, rfl⟩
    have bok : BlkOk n.w n.L b := by
      rw [eb]
      exact ⟨hw, hdk, hM, ok.mem _, lv_ok ok.ok ok.sl (fun v hv => (by cases hv)) (Nat.zero_le _)⟩
    have btm : b.h.tm ≤ 1000 + (i + 1) := by
      rw [eb]
      show hd.tm ≤ _
      rw [ehd]
      show z.2.h.tm + 1 ≤ _
      omega
    refine s_asg (d := blkD b) E9 (gv_make (K := K) (c := "Block") (out := blkD) (α := Blk) (ins := fun b : Blk => [hdrD b.h, memD b.mem, memD b.fol, .lst (b.votes.map vtD)]) (pre := fun _ => True) b trivial (by
      rw [eb]
      exact ga_cons (gv_var E9 rfl) (ga_cons (gv_var E9 rfl) (ga_cons (gv_var E9 rfl) (ga_cons (gn_call (ga_cons (gv_var E9 rfl) (ga_cons (gv_var E9 rfl) (ga_cons (gv_var E9 rfl) (ga_cons (d := votD []) (gv_tup ga_nil (by simp)) ga_nil)))) (ok_Lv ⟨n.w, hd, co, []⟩ ⟨hw, hdk, fun s hs => (ok.ok s hs).1, by have := ok.sl; show co.length ≤ 1000; omega, Nat.zero_le _⟩)).gv ga_nil))))) fun w6 H10 e10 r10 E10 => ?_
    obtain ⟨pb, epb, rb⟩ := blk_at r10
    have e0 := ((((e6.trans e7).trans e8).trans e9).trans e10)
    have E11 := (E9.ext e10).set (i := 6) (d := bkA (pb, b)) rb
    have hm10 := e0 _ _ hm
    refine s_dput (m := m) (d := bkA (pb, b)) hm10 (gv_var (i := 6) E11 rfl) (gv_var E11 rfl) (gv_addN (gv_var E11 rfl) (gv_var E11 rfl)) (by rw [km.len]; omega) fun w H11 e11 rw11 hm11 => ?_
    have g11 : Gr K H11 (upd H11 pA (.dK (putK m (nK (hh + i)) w))) := Gr.updD hm11
    have km' := ((km.ext (e0.trans e11)).put (k := hh + i) (a := (pb, b)) rw11).gr (fun a => inferInstance) g11
    have eN : Ext H1 (upd H11 pA (.dK (putK m (nK (hh + i)) w))) := fun b o hb => by
      rw [upd_ne (ne_of_none hb hpA)]
      exact (e.trans (e0.trans e11)) _ _ hb
    have E12 := ((E11.ext e11).wk (G' := [none, none, none, none, none, none, some (bkA (pb, b)), none, none, some (memD (lmem (y / (27 + 5 * i)) co)), none, none, none]) ⟨.inl rfl, .inl rfl, .inl rfl, .inl rfl, .inl rfl, .inl rfl, .inr rfl, .inl rfl, .inl rfl, .inr rfl, .inl rfl, .inl rfl, .inl rfl, trivial⟩).gr g11
    refine s_asg (d := memD (lmem (y / (27 + 5 * i)) co)) E12 (gv_var E12 rfl) fun w7 H12 e12 r12 E13 => ?_
    refine ⟨_, putN l (hh + i) (pb, b), (pb, b), lmem (y / (27 + 5 * i)) co, by omega, eN.trans e12, e12 _ _ upd_same, km'.ext e12, fun q hq => ?_, Nat.le_trans putN_len (by omega), bok, btm, ok.mem _, ?_, E13.wk ⟨.inr rfl, .inr rfl, .inr rfl, .inr rfl, .inr rfl, .inr rfl, .inr rfl, .inr rfl, .inr rfl, .inl rfl, .inr rfl, .inr rfl, .inr rfl, trivial⟩⟩
    · unfold putN at hq
      split at hq
      · obtain ⟨q0, h1, rfl⟩ := List.mem_map.mp hq
        split
        · exact bok
        · exact hl _ h1
      · rcases List.mem_append.mp hq with h1 | h1
        · exact hl _ h1
        · rw [List.mem_singleton.mp h1]
          exact bok
    · exact ((((((EBi.set (i := 9) (d := .any) (v := w9) trivial).set (i := 10) (d := .any) (v := w10) trivial).set (i := 11) (d := .any) (v := w11) trivial).set (i := 12) (d := .any) (v := w12) trivial).set (i := 6) (d := .any) (v := w6) trivial).set (i := 7) (d := .any) (v := w7) trivial).wk ⟨.inr rfl, .inr rfl, .inr rfl, .inr rfl, .inr rfl, .inr rfl, .inl rfl, .inl rfl, .inl rfl, .inl rfl, .inl rfl, .inl rfl, .inl rfl, trivial⟩
  · rintro σ' H' ⟨m, l, z, M, _, e, hm, km, hl, hll, _, _, _, EB', EP'⟩
    refine s_ret (d := .adr pA) (gv_var (EB'.ext e) rfl) fun v H2 e2 r2 => ?_
    have ev : v = .ref pA := r2
    subst ev
    exact k pA m l H2 (fresh_back e1 hpA) (e1.trans (e.trans e2)) (e2 _ _ hm) (km.ext e2) hl (by omega)
end
end K38

set_option Elab.async false
set_option linter.all false
set_option maxRecDepth 100000
set_option maxHeartbeats 4000000
namespace K38
open PySem PySem.Spec PyProof.Rows L2
open PySem.W (Datum Tup)
local macro_rules | `(tactic| walk_at "gv1") => `(tactic| first | exact gv_int | exact gv_str | exact gv_non | exact gv_bl | (refine gv_var (by assumption) ?_; exact rfl) | refine gv_I0 ?_ ?_ | refine gv_Ib ?_ ?_ | refine gv_eqI ?_ ?_ | refine gv_neI ?_ ?_ | refine gt_test ?_ | refine gt_B ?_ | exact ga_nil | refine ga_cons ?_ ?_)
local macro_rules | `(tactic| walk_at "gv") => `(tactic| repeat walk_at "gv1")

theorem pick {α : Type} {l : List α} {n : Nat} (h : n < l.length) {Q : α → Prop} (hq : ∀ a ∈ l, Q a) : ∃ a, l[n]? = some a ∧ Q a := ⟨l[n], List.getElem?_eq_getElem h, hq _ (List.getElem_mem h)⟩
section
variable {P : Program} {w : World} {K : PySem.W.Frag} {mg : Str → Option Value} {base : Heap} {B H : Hp} {σ : L2.St} {ta te tb tl tv tk : TE} {tt : TT} {G : Sg} {nx : L2.St → Hp → Prop} {rt : V → Hp → Prop} {bk ct : L2.St → Hp → Prop}
theorem gv_minN {m n : Nat} (ha : Gv K ta σ H (nD m)) (hb : Gv K tb σ H (nD n)) : Gv K (tCB rMin2Q (tCons ta (tCons tb tNil))) σ H (nD (min m n)) := (gv_min2 ha hb).is (by
  show D.int _ = D.int _
  congr 1
  split <;> omega)
theorem gv_max0 {i : Int} (hb : Gv K tb σ H (.int i)) : Gv K (tCB rMax2Q (tCons (tC (.int 0)) (tCons tb tNil))) σ H (nD i.toNat) := (gv_max2 (gv_nat 0) hb).is (by
  show D.int _ = D.int _
  congr 1
  split <;> omega)
abbrev n_law_forged : List Str := ["_law_node_here", "_law_corrupt_here", "_law_y", "_law_hasher", "_law_rest", "_law_height", "_law_own", "_law_base", "_law_members_here", "_law_following", "_law_time", "_law_previous", "_law_block", "_law_turn", "_law_state", "_law_roots", "_law_header"]
theorem sc_law_forged : FnScope n_law_forged ["_law_node_here", "_law_corrupt_here", "_law_y"] (defScope s_law_forged) := ⟨rfl, rfl, rfl, by decide +kernel, rfl, by decide +kernel, by decide +kernel⟩
def spFg (K : PySem.W.Frag) : Sp := fun vs H Q _ => ∃ (n : Nod) (co : List Sgn) (y : Nat), Cx2 n co ∧ Rps K H [nodD n, .lst (co.map sgD), nD y] vs ∧ ∀ z v H', Ext H H' → BlkOk n.w n.L z.2 → Rp K H' (bkA z) v → Q v H'
theorem cal_law_forged (T : Txt K mg) : C8.Cal P w K mg base 7 "_law_forged" (spFg K) [] := by
  obtain ⟨fd, F⟩ := T.f_law_forged
  refine calD F T.g_law_forged (fun _ _ _ _ _ _ us hl => match us, hl with | [_, _, _], _ => rfl) sc_law_forged (fun vs H Q E h => (by obtain ⟨n, co, y, _, h, _⟩ := h; exact h.len)) (fun cdv A outer s H vs Q E hr h => ?_)
  obtain ⟨n, co, y, ok, hvs, k⟩ := h
  refine ⟨_, (pss_cons (ps_set (i := 3) sc_law_forged.nd rfl (Or.inl rfl) (pe_fld (pv 0) rfl))
      (pss_cons (ps_set (i := 4) sc_law_forged.nd rfl (Or.inl rfl) (pe_op op_fdiv (pv 2) pe_int))
      (pss_cons (ps_set (i := 5) sc_law_forged.nd rfl (Or.inl rfl) (pe_op op_add pe_int (pe_op op_mod (pe_callTy call_int1 (by rfl) T.b_int (by decide +kernel) (pa_cons (pv 4) pa_nil)) (pe_op op_add (C8.pe_mt0 (met_Node_height T) hr (by decide) (pv 0)) pe_int))))
      (pss_cons (ps_set (i := 6) sc_law_forged.nd rfl (Or.inl rfl) (C8.pe_mt (met_Node_block T) hr (by decide) (pv 0) (pa_cons (pe_callB (call_min2 rfl) (by rfl) T.b_min (by decide +kernel) (pa_cons (pv 5) (pa_cons (C8.pe_mt0 (met_Node_height T) hr (by decide) (pv 0)) pa_nil))) pa_nil)))
      (pss_cons (ps_set (i := 7) sc_law_forged.nd rfl (Or.inl rfl) (C8.pe_mt (met_Node_block T) hr (by decide) (pv 0) (pa_cons (pe_op op_mod (pe_op op_fdiv (pv 4) pe_int) (pe_op op_add (C8.pe_mt0 (met_Node_height T) hr (by decide) (pv 0)) pe_int)) pa_nil)))
      (pss_cons (ps_set (i := 8) sc_law_forged.nd rfl (Or.inl rfl) (pe_ix (ix_list : IxR _ (rIxL K)) (pe_lst (pa_cons (pe_fld (pv 6) rfl) (pa_cons (pe_fld (pv 7) rfl) (pa_cons (pe_fld (pv 7) rfl) (pa_cons (C8.pe_c (cal_law_members T) hr (by decide) rfl (pa_cons (pe_op op_fdiv (pv 4) pe_int) (pa_cons (pv 1) pa_nil))) pa_nil))))) (pe_op op_mod (pe_op op_fdiv (pv 2) pe_int) pe_int) (fun _ _ => rfl)))
      (pss_cons (ps_set (i := 9) sc_law_forged.nd rfl (Or.inl rfl) (pe_ix (ix_list : IxR _ (rIxL K)) (pe_lst (pa_cons (pe_fld (pv 6) rfl) (pa_cons (pv 8) (pa_cons (C8.pe_c (cal_law_members T) hr (by decide) rfl (pa_cons (pe_op op_fdiv (pv 4) pe_int) (pa_cons (pv 1) pa_nil))) pa_nil)))) (pe_op op_mod (pe_op op_fdiv (pv 4) pe_int) pe_int) (fun _ _ => rfl)))
      (pss_cons (ps_set (i := 10) sc_law_forged.nd rfl (Or.inl rfl) (pe_op op_add (pe_fld (pe_fld (pv 6) rfl) rfl) (pe_ix (ix_list : IxR _ (rIxL K)) (pe_lst (pa_cons pe_int (pa_cons pe_int (pa_cons pe_int (pa_cons (pe_un un_neg pe_int) (pa_cons pe_int pa_nil)))))) (pe_op op_mod (pe_op op_fdiv (pv 4) pe_int) pe_int) (fun _ _ => rfl))))
      (pss_cons (ps_set (i := 11) sc_law_forged.nd rfl (Or.inl rfl) (pe_ix (ix_list : IxR _ (rIxL K)) (pe_lst (pa_cons (pe_fld (pe_fld (pv 6) rfl) rfl) (pa_cons (C8.pe_c (cal_header_digest T) hr (by decide) rfl (pa_cons (pv 3) (pa_cons (pe_fld (C8.pe_mt (met_Node_block T) hr (by decide) (pv 0) (pa_cons (pe_callB (call_min2 rfl) (by rfl) T.b_min (by decide +kernel) (pa_cons (pe_op op_sub (pv 5) pe_int) (pa_cons (C8.pe_mt0 (met_Node_height T) hr (by decide) (pv 0)) pa_nil))) pa_nil)) rfl) pa_nil))) pa_nil))) (pe_op op_mod (pe_callTy call_int1 (by rfl) T.b_int (by decide +kernel) (pa_cons (pv 4) pa_nil)) pe_int) (fun _ _ => rfl)))
      (pss_cons (ps_set (i := 12) sc_law_forged.nd rfl (Or.inl rfl) (pv 6))
      (pss_cons (ps_for PassesOwn.never rfl (pi_range1 rfl T.b_range (pa_cons (pe_ix (ix_list : IxR _ (rIxL K)) (pe_lst (pa_cons pe_int (pa_cons pe_int pa_nil))) (pe_op op_mod (pe_callTy call_int1 (by rfl) T.b_int (by decide +kernel) (pa_cons (pv 2) pa_nil)) pe_int) (fun _ _ => rfl)) pa_nil)) (pg_name (i := 13) sc_law_forged.nd rfl (Or.inl rfl)) (pss_cons (ps_set (i := 14) sc_law_forged.nd rfl (Or.inl rfl) (pe_ix (ix_list : IxR _ (rIxL K)) (pe_lst (pa_cons (pe_op op_mod (pe_callTy call_int1 (by rfl) T.b_int (by decide +kernel) (pa_cons (pe_op op_add (pv 4) (pv 13)) pa_nil)) (pe_op op_shl pe_int (pe_fld (pv 3) rfl))) (pa_cons (pe_fld (pe_fld (pv 6) rfl) rfl) pa_nil))) (pe_op op_mod (pe_op op_fdiv (pv 4) pe_int) pe_int) (fun _ _ => rfl)))
      (pss_cons (ps_set (i := 15) sc_law_forged.nd rfl (Or.inl rfl) (pe_tup (pa_cons (C8.pe_c (cal_members_root T) hr (by decide) rfl (pa_cons (pv 3) (pa_cons (pv 8) pa_nil))) (pa_cons (C8.pe_c (cal_members_root T) hr (by decide) rfl (pa_cons (pv 3) (pa_cons (pv 9) pa_nil))) pa_nil))))
      (pss_cons (ps_if (pt_cmpR op_eq (pe_op op_mod (pe_op op_fdiv (pv 4) pe_int) pe_int) pe_int (nomark _)) (pss_one (ps_set (i := 15) sc_law_forged.nd rfl (Or.inl rfl) (pe_tup (pa_cons (pe_fld (pe_fld (pv 6) rfl) rfl) (pa_cons (pe_fld (pe_fld (pv 6) rfl) rfl) pa_nil))))) pss_nil)
      (pss_cons (ps_set (i := 16) sc_law_forged.nd rfl (Or.inl rfl) (C8.pe_mk (mak_Header T) hr (by decide) rfl (pa_cons pe_int (pa_cons (pv 5) (pa_cons (pe_callB (call_max2 rfl) (by rfl) T.b_max (by decide +kernel) (pa_cons pe_int (pa_cons (pv 10) pa_nil))) (pa_cons (pv 11) (pa_cons (pv 14) (pa_cons (pe_ix (ix_tup : IxR _ (rIxT K)) (pv 15) pe_int (fun _ _ => rfl)) (pa_cons (pe_ix (ix_tup : IxR _ (rIxT K)) (pv 15) pe_int (fun _ _ => rfl)) pa_nil)))))))))
      (pss_one (ps_if (PW.pt (pw_or (pt_cmpR op_eq (pv 13) pe_int (nomark _)) (pw_or1 (pt_cmpR op_eq (C8.pe_c (cal_vote_message T) hr (by decide) rfl (pa_cons (pv 3) (pa_cons (pv 16) pa_nil))) (C8.pe_c (cal_vote_message T) hr (by decide) rfl (pa_cons (pv 3) (pa_cons (pe_fld (pv 6) rfl) pa_nil))) (nomark _))))) (pss_one (ps_set (i := 12) sc_law_forged.nd rfl (Or.inl rfl) (C8.pe_mk (mak_Block T) hr (by decide) rfl (pa_cons (pv 16) (pa_cons (pv 8) (pa_cons (pv 9) (pa_cons (C8.pe_c (cal_law_votes T) hr (by decide) rfl (pa_cons (pv 3) (pa_cons (pv 16) (pa_cons (pv 1) (pa_cons (pe_fld (pv 6) rfl) pa_nil))))) pa_nil))))))) pss_nil)))))))
      (pss_one (ps_ret (pv 12)))))))))))))), ?_⟩
  have hnb := ok.c.ok.ne
  have hnl := ok.le
  have hw := ok.c.ok.hw
  have E : Sl K H [some (nodD n), some (.lst (co.map sgD)), some (nD y), none, none, none, none, none, none, none, none, none, none, none, none, none, none] _ := Sl.start (N := n_law_forged) hvs
  refine s_asg (d := hshD n.w) E (gv_Nd_hasher T (gv_var E rfl)) fun v3 H1 e1 _ E1 => ?_
  obtain ⟨re, hre⟩ : ∃ re, re = y / 8 := ⟨_, rfl⟩
  refine s_asg (d := nD re) E1 ((gv_divN (gv_var E1 rfl) (gv_nat 8) (by decide) (by decide)).is (by rw [hre])) fun v4 H2 e2 _ E2 => ?_
  obtain ⟨hh, hhe⟩ : ∃ hh, hh = 1 + re % (n.bs.length - 1 + 2) := ⟨_, rfl⟩
  have hhm : re % (n.bs.length - 1 + 2) < n.bs.length - 1 + 2 := Nat.mod_lt _ (by omega)
  refine s_asg (d := nD hh) E2 ((gv_addN (gv_nat 1) (gv_modN (gv_intI (gv_var (i := 4) (d := nD re) E2 rfl)) (gv_addN (gv_meth (gv_var E2 rfl) rfl ga_nil (ok_nh hnb)) (gv_nat 2)) (by omega))).is (by rw [hhe])) fun v5 H3 e3 r5 E3 => ?_
  obtain ⟨ow, how⟩ : ∃ z, n.bs[min hh (n.bs.length - 1)]? = some z := ⟨_, List.getElem?_eq_getElem (by omega)⟩
  have owk := ok.c.ok.ok _ _ how
  have owt := ok.tm _ _ how
  have owv := ok.vl _ _ how
  refine s_asg (d := bkA ow) E3 (gv_meth (gv_var E3 rfl) rfl (ga_cons (gv_minN (gv_var E3 rfl) (gv_meth (gv_var E3 rfl) rfl ga_nil (ok_nh hnb))) ga_nil) (ok_nb how)) fun v6 H4 e4 _ E4 => ?_
  have hbm : re / 9 % (n.bs.length - 1 + 1) < n.bs.length - 1 + 1 := Nat.mod_lt _ (by omega)
  obtain ⟨ba, hba⟩ : ∃ z, n.bs[re / 9 % (n.bs.length - 1 + 1)]? = some z := ⟨_, List.getElem?_eq_getElem (by omega)⟩
  have bak := ok.c.ok.ok _ _ hba
  refine s_asg (d := bkA ba) E4 (gv_meth (gv_var E4 rfl) rfl (ga_cons (gv_modN (gv_divN (gv_var E4 rfl) (gv_nat 9) (by decide) (by decide)) (gv_addN (gv_meth (gv_var E4 rfl) rfl ga_nil (ok_nh hnb)) (gv_nat 1)) (by omega)) ga_nil) (ok_nb hba)) fun v7 H5 e5 _ E5 => ?_
  have y24 : y / 2 % 4 < 4 := Nat.mod_lt _ (by decide)
  obtain ⟨M, hM, Mk⟩ := pick (l := [ow.2.mem, ba.2.fol, ba.2.mem, lmem (re / 81) co]) (n := y / 2 % 4) y24 (Q := MemOk) (fun m hm => by
    simp only [List.mem_cons, List.not_mem_nil, or_false] at hm
    rcases hm with rfl | rfl | rfl | rfl
    · exact owk.mem
    · exact bak.fol
    · exact bak.mem
    · exact ok.mem _)
  refine s_asg (d := memD M) E5 (gv_ixLN (gn_lst (ds := [ow.2.mem, ba.2.fol, ba.2.mem, lmem (re / 81) co].map memD) (ga_cons (gv_Block_members T (gv_un (gv_var (i := 6) (d := bkA ow) E5 rfl))) (ga_cons (gv_Block_following T (gv_un (gv_var (i := 7) (d := bkA ba) E5 rfl))) (ga_cons (gv_Block_members T (gv_un (gv_var (i := 7) (d := bkA ba) E5 rfl))) (ga_cons (gv_call (ga_cons (gv_divN (gv_var (i := 4) (d := nD re) E5 rfl) (gv_nat 81) (by decide) (by decide)) (ga_cons (gv_var E5 rfl) ga_nil)) (ok_Lm ok.ne ok.nd ok.sl)) ga_nil)))) (by show 4 ≤ 100000; decide)).gv (gv_modN (gv_divN (gv_var (i := 2) (d := nD y) E5 rfl) (gv_nat 2) (by decide) (by decide)) (gv_nat 4) (by decide)) (by rw [List.getElem?_map, hM]; rfl)) fun v8 H6 e6 _ E6 => ?_
  have r53 : re / 5 % 3 < 3 := Nat.mod_lt _ (by decide)
  obtain ⟨F, hF, Fk⟩ := pick (l := [ow.2.fol, M, lmem (re / 324) co]) (n := re / 5 % 3) r53 (Q := MemOk) (fun m hm => by
    simp only [List.mem_cons, List.not_mem_nil, or_false] at hm
    rcases hm with rfl | rfl | rfl
    · exact owk.fol
    · exact Mk
    · exact ok.mem _)
  refine s_asg (d := memD F) E6 (gv_ixLN (gn_lst (ds := [ow.2.fol, M, lmem (re / 324) co].map memD) (ga_cons (gv_Block_following T (gv_un (gv_var (i := 6) (d := bkA ow) E6 rfl))) (ga_cons (gv_var E6 rfl) (ga_cons (gv_call (ga_cons (gv_divN (gv_var (i := 4) (d := nD re) E6 rfl) (gv_nat 324) (by decide) (by decide)) (ga_cons (gv_var E6 rfl) ga_nil)) (ok_Lm ok.ne ok.nd ok.sl)) ga_nil))) (by show 3 ≤ 100000; decide)).gv (gv_modN (gv_divN (gv_var (i := 4) (d := nD re) E6 rfl) (gv_nat 5) (by decide) (by decide)) (gv_nat 3) (by decide)) (by rw [List.getElem?_map, hF]; rfl)) fun v9 H7 e7 _ E7 => ?_
  have r75 : re / 7 % 5 < 5 := Nat.mod_lt _ (by decide)
  obtain ⟨dt, hdt, dtk⟩ := pick (l := ([0, 0, 1, -1, 30] : List Int)) (n := re / 7 % 5) r75 (Q := fun d => -1 ≤ d ∧ d ≤ 30) (fun m hm => by
    simp only [List.mem_cons, List.not_mem_nil, or_false] at hm
    rcases hm with rfl | rfl | rfl | rfl | rfl <;> decide)
  refine s_asg (d := .int ((ow.2.h.tm : Int) + dt)) E7 (gv_I0 (f := fun i j => i + j) (gv_Header_time T (gv_Block_header T (gv_un (gv_var (i := 6) (d := bkA ow) E7 rfl)))) (gv_ixLN (d := .int dt) (gn_lst (ds := ([0, 0, 1, -1, 30] : List Int).map D.int) (ga_cons gv_int (ga_cons gv_int (ga_cons gv_int (ga_cons gv_neg1 (ga_cons gv_int ga_nil))))) (by show 5 ≤ 100000; decide)).gv (gv_modN (gv_divN (gv_var (i := 4) (d := nD re) E7 rfl) (gv_nat 7) (by decide) (by decide)) (gv_nat 5) (by decide)) (by rw [List.getElem?_map, hdt]; rfl))) fun v10 H8 e8 _ E8 => ?_
  obtain ⟨pr, hpr⟩ : ∃ z, n.bs[min (hh - 1) (n.bs.length - 1)]? = some z := ⟨_, List.getElem?_eq_getElem (by omega)⟩
  have prk := ok.c.ok.ok _ _ hpr
  have r2 : re % 2 < 2 := Nat.mod_lt _ (by decide)
  obtain ⟨pv, hpv, pvk⟩ := pick (l := [ow.2.h.pv, hdg n.w pr.2.h]) (n := re % 2) r2 (Q := fun d => d < 4294967296) (fun m hm => by
    simp only [List.mem_cons, List.not_mem_nil, or_false] at hm
    rcases hm with rfl | rfl
    · exact owk.h.pv
    · exact dg32 hw _ _)
  refine s_asg (d := nD pv) E8 (gv_ixLN (gn_lst (ds := [ow.2.h.pv, hdg n.w pr.2.h].map nD) (ga_cons (gv_Header_previous T (gv_Block_header T (gv_un (gv_var (i := 6) (d := bkA ow) E8 rfl)))) (ga_cons (gv_call (ga_cons (gv_var E8 rfl) (ga_cons (gv_Block_header T (gv_un (gv_meth (gv_var E8 rfl) rfl (ga_cons (gv_minN (gv_subN (gv_var E8 rfl) (gv_nat 1) (by omega)) (gv_meth (gv_var E8 rfl) rfl ga_nil (ok_nh hnb))) ga_nil) (ok_nb hpr)))) ga_nil)) (ok_hd hw prk.h)) ga_nil)) (by show 2 ≤ 100000; decide)).gv (gv_modN (gv_intI (gv_var (i := 4) (d := nD re) E8 rfl)) (gv_nat 2) (by decide)) (by rw [List.getElem?_map, hpv]; rfl)) fun v11 H9 e9 _ E9 => ?_
  refine s_asg (d := bkA ow) E9 (gv_var E9 rfl) fun v12 H10 e10 _ E10 => ?_
  have y2 : y % 2 < 2 := Nat.mod_lt _ (by decide)
  obtain ⟨tn, htn, tnk⟩ := pick (l := [1, 6]) (n := y % 2) y2 (Q := fun d => d ≤ 6) (fun m hm => by
    simp only [List.mem_cons, List.not_mem_nil, or_false] at hm
    rcases hm with rfl | rfl <;> decide)
  have e010 : Ext H H10 := ((((((((e1.trans e2).trans e3).trans e4).trans e5).trans e6).trans e7).trans e8).trans e9).trans e10
  refine s_forR1 (j := 13) (n := tn) (ga_cons (gv_ixLN (gn_lst (ds := [1, 6].map nD) (ga_cons (gv_nat 1) (ga_cons (gv_nat 6) ga_nil)) (by show 2 ≤ 100000; decide)).gv (gv_modN (gv_intI (gv_var (i := 2) (d := nD y) E10 rfl)) (gv_nat 2) (by decide)) (by rw [List.getElem?_map, htn]; rfl)) ga_nil) (by omega) (fun i σ' H' => ∃ z, i ≤ 6 ∧ Ext H10 H' ∧ BlkOk n.w n.L z.2 ∧ Sl K H' [some (nodD n), some (.lst (co.map sgD)), some (nD y), some (hshD n.w), some (nD re), some (nD hh), some (bkA ow), some (bkA ba), some (memD M), some (memD F), some (.int ((ow.2.h.tm : Int) + dt)), some (nD pv), some (bkA z), none, none, none, none] σ') (fun H11 e11 => ⟨ow, by omega, e11, owk, E10.ext e11⟩) ?_ ?_
  · rintro i σ' H' hi ⟨z, hi6, e, zok, E'⟩
    have E11 := E'.set (i := 13) (d := nD i) (v := .int ((i : Nat) : Int)) rfl
    have w2p : 0 < 2 ^ n.w := Nat.pow_pos (by decide)
    have r13 : re / 13 % 2 < 2 := Nat.mod_lt _ (by decide)
    obtain ⟨st, hst, stk⟩ := pick (l := [(re + i) % 2 ^ n.w, ow.2.h.st]) (n := re / 13 % 2) r13 (Q := fun d => d < 4294967296) (fun m hm => by
      simp only [List.mem_cons, List.not_mem_nil, or_false] at hm
      rcases hm with rfl | rfl
      · exact st32 hw
      · exact owk.h.st)
    refine s_asg (d := nD st) E11 (gv_ixLN (gn_lst (ds := [(re + i) % 2 ^ n.w, ow.2.h.st].map nD) (ga_cons (gv_modN (gv_intI (gv_addN (gv_var (i := 4) (d := nD re) E11 rfl) (gv_var (i := 13) (d := nD i) E11 rfl))) (Gv.is (gv_shlN (gv_nat 1) (gv_Hasher_width T (gv_var E11 rfl)) (by decide) (by have := hw.le; omega)) (by rw [Nat.one_mul])) w2p) (ga_cons (gv_Header_state T (gv_Block_header T (gv_un (gv_var (i := 6) (d := bkA ow) E11 rfl)))) ga_nil)) (by show 2 ≤ 100000; decide)).gv (gv_modN (gv_divN (gv_var (i := 4) (d := nD re) E11 rfl) (gv_nat 13) (by decide) (by decide)) (gv_nat 2) (by decide)) (by rw [List.getElem?_map, hst]; rfl)) fun v14 H12 e12 _ E12 => ?_
    refine s_asg (d := .tup [nD (dg n.w 9 (nums M)), nD (dg n.w 9 (nums F))]) E12 (gv_tup (ga_cons (gv_call (ga_cons (gv_var E12 rfl) (ga_cons (gv_var E12 rfl) ga_nil)) (ok_MR hw Mk)) (ga_cons (gv_call (ga_cons (gv_var E12 rfl) (ga_cons (gv_var E12 rfl) ga_nil)) (ok_MR hw Fk)) ga_nil)) (by simp)) fun v15 H13 e13 r15 E13 => ?_
    refine s_join (fun σ2 H2 => ∃ a b, a < 4294967296 ∧ b < 4294967296 ∧ Ext H13 H2 ∧ Sl K H2 [some (nodD n), some (.lst (co.map sgD)), some (nD y), some (hshD n.w), some (nD re), some (nD hh), some (bkA ow), some (bkA ba), some (memD M), some (memD F), some (.int ((ow.2.h.tm : Int) + dt)), some (nD pv), some (bkA z), some (nD i), some (nD st), some (.tup [nD a, nD b]), none] σ2) (fun nx' kj => s_if E13 (gt_test (gv_eqN (gv_modN (gv_divN (gv_var (i := 4) (d := nD re) E13 rfl) (gv_nat 11) (by decide) (by decide)) (gv_nat 4) (by decide)) (gv_nat 0))) (fun _ H14 e14 E14 => ?_) fun _ H14 e14 E14 => ?_) ?_
    · refine s_asg (d := .tup [nD ow.2.h.mb, nD ow.2.h.fo]) E14 (gv_tup (ga_cons (gv_Header_members T (gv_Block_header T (gv_un (gv_var (i := 6) (d := bkA ow) E14 rfl)))) (ga_cons (gv_Header_following T (gv_Block_header T (gv_un (gv_var (i := 6) (d := bkA ow) E14 rfl)))) ga_nil)) (by simp)) fun v H15 e15 _ E15 => kj _ _ ⟨_, _, owk.h.mb, owk.h.fo, e14.trans e15, E15⟩
    · exact s_nop (kj _ _ ⟨_, _, dg32 hw _ _, dg32 hw _ _, e14, E14⟩)
    rintro σ2 H14 ⟨a, b, ha, hb, e14, E14⟩
    obtain ⟨hd, ehd⟩ : ∃ hd : Hdr, hd = ⟨7, hh, ((ow.2.h.tm : Int) + dt).toNat, pv, st, a, b⟩ := ⟨_, rfl⟩
    have hdk : HdrOk hd := by
      rw [ehd]
      exact hd_small (by decide) (by omega) (by omega) pvk stk ha hb
    refine s_asg (d := hdrD hd) E14 (gv_make (K := K) (c := "Header") (out := hdrD) (α := Hdr) (ins := fun h : Hdr => h.list.map nD) (pre := fun _ => True) hd trivial (by
      rw [ehd]
      exact ga_cons (gv_nat 7) (ga_cons (gv_var E14 rfl) (ga_cons (gv_max0 (gv_var E14 rfl)) (ga_cons (gv_var E14 rfl) (ga_cons (gv_var E14 rfl) (ga_cons (gv_ixTN (gv_var E14 rfl) (gv_nat 0) rfl) (ga_cons (gv_ixTN (gv_var E14 rfl) (gv_nat 1) rfl) ga_nil)))))))) fun v16 H15 e15 _ E15 => ?_
    have e1015 := (((e.trans e12).trans e13).trans e14).trans e15
    refine s_if E15 (gt_or (gt_test (gv_eqN (gv_var (i := 13) (d := nD i) E15 rfl) (gv_nat 0))) fun _ => gt_test (gv_eqN (gv_call (ga_cons (gv_var E15 rfl) (ga_cons (gv_var (i := 16) (d := hdrD hd) E15 rfl) ga_nil)) (ok_vm hw hdk)) (gv_call (ga_cons (gv_var E15 rfl) (ga_cons (gv_Block_header T (gv_un (gv_var (i := 6) (d := bkA ow) E15 rfl))) ga_nil)) (ok_vm hw owk.h)))) (fun _ H16 e16 E16 => ?_) fun _ H16 e16 E16 => ?_
    · obtain ⟨bb, eb⟩ : ∃ b : Blk, b = ⟨hd, M, F, lvts n.w hd co ow.2.votes⟩ := ⟨_, rfl⟩
      have bok : BlkOk n.w n.L bb := by
        rw [eb]
        exact ⟨hw, hdk, Mk, Fk, lv_ok ok.ok ok.sl owk.vt.2 owv⟩
      refine s_asg (d := blkD bb) E16 (gv_make (K := K) (c := "Block") (out := blkD) (α := Blk) (ins := fun b : Blk => [hdrD b.h, memD b.mem, memD b.fol, .lst (b.votes.map vtD)]) (pre := fun _ => True) bb trivial (by
        rw [eb]
        exact ga_cons (gv_var E16 rfl) (ga_cons (gv_var E16 rfl) (ga_cons (gv_var E16 rfl) (ga_cons (gn_call (ga_cons (gv_var E16 rfl) (ga_cons (gv_var E16 rfl) (ga_cons (gv_var E16 rfl) (ga_cons (gv_Block_votes T (gv_un (gv_var (i := 6) (d := bkA ow) E16 rfl))) ga_nil)))) (ok_Lv ⟨n.w, hd, co, ow.2.votes⟩ ⟨hw, hdk, fun s hs => (ok.ok s hs).1, by have := ok.sl; show co.length ≤ 1000; omega, by show ow.2.votes.length ≤ 1000; omega⟩)).gv ga_nil))))) fun v12 H17 e17 r17 E17 => ?_
      obtain ⟨pb, epb, rb⟩ := blk_at r17
      exact ⟨(pb, bb), by omega, (e1015.trans e16).trans e17, bok, ((E16.ext e17).set (i := 12) (d := bkA (pb, bb)) rb).wk ⟨.inr rfl, .inr rfl, .inr rfl, .inr rfl, .inr rfl, .inr rfl, .inr rfl, .inr rfl, .inr rfl, .inr rfl, .inr rfl, .inr rfl, .inr rfl, .inl rfl, .inl rfl, .inl rfl, .inl rfl, trivial⟩⟩
    · exact s_nop ⟨z, by omega, e1015.trans e16, zok, E16.wk ⟨.inr rfl, .inr rfl, .inr rfl, .inr rfl, .inr rfl, .inr rfl, .inr rfl, .inr rfl, .inr rfl, .inr rfl, .inr rfl, .inr rfl, .inr rfl, .inl rfl, .inl rfl, .inl rfl, .inl rfl, trivial⟩⟩
  · rintro σ' H' ⟨z, _, e, zok, E'⟩
    exact s_ret (d := bkA z) (gv_var E' rfl) fun v H2 e2 r2 => k z v H2 ((e010.trans e).trans e2) zok r2
end
end K38

set_option Elab.async false
set_option linter.all false
set_option maxRecDepth 100000
set_option maxHeartbeats 4000000
namespace K38
open PySem PySem.Spec PyProof.Rows L2
open PySem.W (Datum Tup)
local macro_rules | `(tactic| walk_at "gv1") => `(tactic| first | exact gv_int | exact gv_str | exact gv_non | exact gv_bl | (refine gv_var (by assumption) ?_; exact rfl) | refine gv_I0 ?_ ?_ | refine gv_Ib ?_ ?_ | refine gv_eqI ?_ ?_ | refine gv_neI ?_ ?_ | refine gt_test ?_ | refine gt_B ?_ | exact ga_nil | refine ga_cons ?_ ?_)
local macro_rules | `(tactic| walk_at "gv") => `(tactic| repeat walk_at "gv1")

theorem mrgN_len {α : Type} : ∀ {l2 l : List (Nat × α)}, (mrgN l l2).length ≤ l.length + l2.length
  | [], l => Nat.le_refl _
  | p :: l2, l => by
    have h := mrgN_len (l2 := l2) (l := putN l p.1 p.2)
    have h2 := putN_len (l := l) (k := p.1) (a := p.2)
    rw [List.length_cons]
    have e : mrgN l (p :: l2) = mrgN (putN l p.1 p.2) l2 := rfl
    rw [e]
    omega
section
variable {P : Program} {w : World} {K : PySem.W.Frag} {mg : Str → Option Value} {base : Heap} {B H : Hp} {σ : L2.St} {ta te tb tl tv tk tx : TE} {tA : TA} {tt : TT} {G : Sg} {nx : L2.St → Hp → Prop} {rt : V → Hp → Prop} {bk ct : L2.St → Hp → Prop}
/-- d.update(f(..)) -/
theorem s_updC {sp : Sp} {E0' : XK} {ds : List D} {p : Addr} {m : List (L2.Key × V)} (hp : H p = some (.dK m)) (ha : Gv K ta σ H (.adr p)) (hA : GvA K tA σ H ds) (k : ∀ vs H1, Ext H H1 → Rps K H1 ds vs → H1 p = some (.dK m) → sp vs H1 (fun v H2 => ∃ o more, v = .ref o ∧ p ≠ o ∧ H2 p = some (.dK m) ∧ H2 o = some (.dK more) ∧ m.length + more.length ≤ 100000 ∧ nx σ (upd H2 p (.dK (mergeK m more)))) E0')
    (hm : ∀ (vs : List V) (H1 : Hp) (Q Q' : VK), (∀ v H2, Q v H2 → Q' v H2) → sp vs H1 Q E0' → sp vs H1 Q' E0') : tDrop (tBM K "dict" rUpdD ta (tCons (tCall sp [] E0' tA) tNil)) ⟨nx, rt, bk, ct⟩ σ H :=
  ha H Ext.rfl' _ fun x H1 e1 r1 => by
    have ex : x = .ref p := r1
    subst ex
    refine ⟨.inr (.inr (.inl ⟨rfl, .inl ⟨m, e1 _ _ hp⟩⟩)), hA H1 e1 _ fun vs H2 e2 r2 => ?_⟩
    show sp (vs ++ []) H2 _ E0'
    rw [List.append_nil]
    refine hm _ _ _ _ ?_ (k vs H2 (e1.trans e2) r2 ((e1.trans e2) _ _ hp))
    rintro v H3 ⟨o, more, rfl, h1, h2, h3, h4, h5⟩
    exact ⟨p, o, m, more, rfl, rfl, h1, h2, h3, sz_of h4, h5⟩
/-- d.pop(k, None) -/
theorem s_dpop2 {p : Addr} {m : List (L2.Key × V)} {kk : Nat} (hp : H p = some (.dK m)) (ha : Gv K ta σ H (.adr p)) (hk : Gv K tk σ H (nD kk)) (hx : Gv K tx σ H .non) (k1 : ∀ H1, Ext H H1 → H1 p = some (.dK m) → nx σ (upd H1 p (.dK (dropK m (nK kk))))) (k2 : ∀ H1, Ext H H1 → nx σ H1) : tDrop (tDPop2 ta tk tx) ⟨nx, rt, bk, ct⟩ σ H :=
  ha H Ext.rfl' _ fun x H1 e1 r1 => by
    have ex : x = .ref p := r1
    subst ex
    refine ⟨p, rfl, .inl ⟨m, .inl (e1 _ _ hp)⟩, hk H1 e1 _ fun y H2 e2 r2 => hx H2 (e1.trans e2) _ fun z H3 e3 _ => ?_⟩
    have ey : y = .int (kk : Int) := r2
    subst ey
    have e03 := (e1.trans e2).trans e3
    exact ⟨m, nK kk, e03 _ _ hp, rfl, fun v _ => k1 H3 e03 (e03 _ _ hp), fun _ => k2 H3 e03⟩
abbrev n_law_server : List Str := ["_law_node_here", "_law_corrupt_here", "_law_cells_here", "_law_start", "_law_answers", "_law_k", "_law_y", "_law_kind", "_law_block"]
theorem sc_law_server : FnScope n_law_server ["_law_node_here", "_law_corrupt_here", "_law_cells_here", "_law_start"] (defScope s_law_server) := ⟨rfl, rfl, rfl, by decide +kernel, rfl, by decide +kernel, by decide +kernel⟩
def spSv (K : PySem.W.Frag) : Sp := fun vs H Q _ => ∃ (n : Nod) (co : List Sgn) (cs : List Int) (st : Nat), (Cx2 n co ∧ cs.length ≤ 100 ∧ st ≤ 20) ∧ Rps K H [nodD n, .lst (co.map sgD), .lst (cs.map D.int), nD st] vs ∧ ∀ p m l H', H p = none → Ext H H' → H' p = some (.dK m) → KR K H' bkA l m → AllV (fun z : BkA => BlkOk n.w n.L z.2) l → Q (.ref p) H'
theorem cal_law_server (T : Txt K mg) : C8.Cal P w K mg base 8 "_law_server" (spSv K) [] := by
  obtain ⟨fd, F⟩ := T.f_law_server
  refine calD F T.g_law_server (fun _ _ _ _ _ _ us hl => match us, hl with | [_, _, _, _], _ => rfl) sc_law_server (fun vs H Q E h => (by obtain ⟨n, co, cs, st, _, h, _⟩ := h; exact h.len)) (fun cdv A outer s H vs Q E hr h => ?_)
  obtain ⟨n, co, cs, st, ⟨ok, hcs, hst⟩, hvs, k⟩ := h
  refine ⟨_, (pss_cons (ps_set (i := 4) sc_law_server.nd rfl (Or.inl rfl) (C8.pe_mt0 (met_Node_answers T) hr (by decide) (pv 0)))
      (pss_cons (ps_for PassesOwn.never rfl (pi_range2 rfl T.b_range (pa_cons (pv 3) (pa_cons (pe_callB (call_min2 rfl) (by rfl) T.b_min (by decide +kernel) (pa_cons (pe_callB call_len_seq (by rfl) T.b_len (by decide +kernel) (pa_cons (pv 2) pa_nil)) (pa_cons (pe_op op_add (pv 3) pe_int) pa_nil))) pa_nil))) (pg_name (i := 5) sc_law_server.nd rfl (Or.inl rfl)) (pss_cons (ps_set (i := 6) sc_law_server.nd rfl (Or.inl rfl) (C8.pe_c (cal_law_number T) hr (by decide) rfl (pa_cons (pe_ix (ix_list : IxR _ (rIxL K)) (pv 2) (pv 5) (fun _ _ => rfl)) (pa_cons (pv 5) pa_nil))))
      (pss_cons (ps_set (i := 7) sc_law_server.nd rfl (Or.inl rfl) (pe_op op_mod (pe_callTy call_int1 (by rfl) T.b_int (by decide +kernel) (pa_cons (pv 6) pa_nil)) pe_int))
      (pss_one (ps_if (pt_cmpR op_lt (pv 7) pe_int (nomark _)) (pss_cons (ps_set (i := 8) sc_law_server.nd rfl (Or.inl rfl) (C8.pe_c (cal_law_forged T) hr (by decide) rfl (pa_cons (pv 0) (pa_cons (pv 1) (pa_cons (pe_op op_fdiv (pv 6) pe_int) pa_nil)))))
      (pss_one (ps_dput (hu_of hr) (pv 4) (pe_fld (pe_fld (pv 8) rfl) rfl) (pv 8) rfl))) (pss_one (ps_if (pt_cmpR op_eq (pv 7) pe_int (nomark _)) (pss_one (ps_expr (pe_bm PySem.F.plainAttrs_dict PySem.F.slot_dict_update PySem.F.type_dict_update mt_updateD (pv 4) (pa_cons (C8.pe_c (cal_law_row T) hr (by decide) rfl (pa_cons (pv 0) (pa_cons (pv 1) (pa_cons (pe_op op_fdiv (pv 6) pe_int) pa_nil)))) pa_nil)))) (pss_one (ps_if (pt_cmpR op_eq (pv 7) pe_int (nomark _)) (pss_one (ps_dput (hu_of hr) (pv 4) (pe_op op_mod (pe_op op_fdiv (pv 6) pe_int) (pe_op op_add (C8.pe_mt0 (met_Node_height T) hr (by decide) (pv 0)) pe_int)) (C8.pe_mt (met_Node_block T) hr (by decide) (pv 0) (pa_cons (pe_op op_mod (pe_op op_fdiv (pv 6) pe_int) (pe_op op_add (C8.pe_mt0 (met_Node_height T) hr (by decide) (pv 0)) pe_int)) pa_nil)) rfl)) (pss_one (ps_if (pt_cmpR op_eq (pe_op op_mod (pe_op op_fdiv (pv 6) pe_int) pe_int) pe_int (nomark _)) (pss_one (ps_expr (pe_dpop2 (pv 4) (pe_op op_mod (pe_op op_fdiv (pv 6) pe_int) (pe_op op_add (C8.pe_mt0 (met_Node_height T) hr (by decide) (pv 0)) pe_int)) pe_non ⟨rfl, rfl, rfl, rfl⟩))) pss_nil)))))))))))
      (pss_one (ps_ret (pv 4))))), ?_⟩
  have hnb := ok.c.ok.ne
  have hnl := ok.le
  have hw := ok.c.ok.hw
  have E : Sl K H [some (nodD n), some (.lst (co.map sgD)), some (.lst (cs.map D.int)), some (nD st), none, none, none, none, none] _ := Sl.start (N := n_law_server) hvs
  obtain ⟨vn, hn1, hn2⟩ := E.2 0 _ rfl
  obtain ⟨xn, dxn, un, rfl, hxn, hun⟩ := id hn2
  have Ea := (E.set (i := 0) (d := .adr xn) (v := .ref xn) rfl)
  have eσ : ∀ {s : L2.St}, s[0]? = some (some (V.ref xn)) → s.set 0 (some (V.ref xn)) = s := fun {s} h => by
    cases s with
    | nil => rfl
    | cons a s =>
      have : a = some (V.ref xn) := by simpa using h
      rw [this]
      rfl
  rw [eσ hn1] at Ea
  obtain ⟨z0, hz0⟩ : ∃ z, n.bs[0]? = some z := ⟨_, List.getElem?_eq_getElem (by omega)⟩
  refine s_methA Ea rfl hxn (by exact lookup_zip_none (fs := fNd) (by decide +kernel)) ga_nil fun vs H1 e1 r1 => ?_
  have evs : vs = [] := r1
  subst evs
  refine ⟨n, z0, by omega, .cons (hn2.ext e1) .nil, fun pA mA H2 hpA1 e2 hA kA => ?_⟩
  have hpA : H pA = none := fresh_back e1 hpA1
  have EB := E.set (i := 4) (d := .adr pA) (v := .ref pA) rfl
  have e02 := e1.trans e2
  have ansk : AllV (fun z : BkA => BlkOk n.w n.L z.2) (ansL z0 n.bs) := fun j z hz => by
    rw [ansL_lk] at hz
    exact ok.c.ok.ok _ _ hz
  have ansn : (ansL z0 n.bs).length = n.bs.length := by rw [ansL, List.length_map, List.length_range]
  refine s_forR2 (j := 5) (lo := st) (n := min cs.length (st + 4)) (ga_cons (gv_var (i := 3) (d := nD st) (EB.ext e02) rfl) (ga_cons (gv_minN ((gv_lenL (gv_var (i := 2) (EB.ext e02) rfl)).is (show D.int _ = nD cs.length by rw [List.length_map])) (gv_addN (gv_var (EB.ext e02) rfl) (gv_nat 4))) ga_nil)) (by omega) (by omega) (fun i σ' H' => ∃ m l, Ext H H' ∧ H' pA = some (.dK m) ∧ KR K H' bkA l m ∧ AllV (fun z : BkA => BlkOk n.w n.L z.2) l ∧ l.length ≤ 20 + 10 * i ∧ Sl K H [some (nodD n), some (.lst (co.map sgD)), some (.lst (cs.map D.int)), some (nD st), some (.adr pA), none, none, none, none] σ') (fun H3 e3 => ⟨mA, _, e02.trans e3, e3 _ _ hA, kA.ext e3, ansk, by omega, EB⟩) ?_ ?_
  · rintro i σ' H' hi ⟨m, l, e, hm, km, hl, hll, EB'⟩
    have EBi := EB'.set (i := 5) (d := nD (st + i)) (v := .int ((st + i : Nat) : Int)) rfl
    have E5 := EBi.ext e
    obtain ⟨c, hc⟩ : ∃ c, cs[st + i]? = some c := ⟨_, List.getElem?_eq_getElem (by omega)⟩
    obtain ⟨y, hy⟩ : ∃ y, y = lnum c (st + i) := ⟨_, rfl⟩
    refine s_asg (d := nD y) E5 ((gv_call (ga_cons (gv_ixLN (d := .int c) (gv_var E5 rfl) (gv_var E5 rfl) (by rw [List.getElem?_map, hc]; rfl)) (ga_cons (gv_var E5 rfl) ga_nil)) (ok_num (by omega))).is (by rw [hy])) fun v6 H6 e6 r6 E6 => ?_
    refine s_asg (d := nD (y % 5)) E6 (gv_modN (gv_intI (gv_var (i := 6) (d := nD y) E6 rfl)) (gv_nat 5) (by decide)) fun v7 H7 e7 r7 E7 => ?_
    have EB7 := (EBi.set (i := 6) (d := nD y) (v := v6) r6).set (i := 7) (d := nD (y % 5)) (v := v7) r7
    have e07 := (e.trans e6).trans e7
    have hm7 := e7 _ _ (e6 _ _ hm)
    have km7 := (km.ext e6).ext e7
    have lm : m.length = l.length := km.len
    -- one turn's end
    have fin : ∀ {v8 : Option V} {m2 l2 H2}, l2.length ≤ l.length + 10 → Ext H H2 → H2 pA = some (.dK m2) → KR K H2 bkA l2 m2 → AllV (fun z : BkA => BlkOk n.w n.L z.2) l2 → ∀ {s : L2.St}, Sl K H [some (nodD n), some (.lst (co.map sgD)), some (.lst (cs.map D.int)), some (nD st), some (.adr pA), some (nD (st + i)), some (nD y), some (nD (y % 5)), none] s → ∃ m l, Ext H H2 ∧ H2 pA = some (.dK m) ∧ KR K H2 bkA l m ∧ AllV (fun z : BkA => BlkOk n.w n.L z.2) l ∧ l.length ≤ 20 + 10 * (i + 1) ∧ Sl K H [some (nodD n), some (.lst (co.map sgD)), some (.lst (cs.map D.int)), some (nD st), some (.adr pA), none, none, none, none] s := fun {v8 m2 l2 H2} h1 h2 h3 h4 h5 {s} h6 => ⟨m2, l2, h2, h3, h4, h5, by omega, h6.wk ⟨.inr rfl, .inr rfl, .inr rfl, .inr rfl, .inr rfl, .inl rfl, .inl rfl, .inl rfl, .inl rfl, trivial⟩⟩
    have exu : ∀ {H2 : Hp} {u : HO}, Ext H H2 → Ext H (upd H2 pA u) := fun {H2 u} e b o hb => by
      rw [upd_ne (ne_of_none hb hpA)]
      exact e _ _ hb
    refine s_if E7 (gt_test (gv_ltN (gv_var E7 rfl) (gv_nat 2))) (fun _ H8 e8 E8 => ?_) fun _ H8 e8 E8 => ?_
    · refine s_asgCall (ga_cons (gv_var E8 rfl) (ga_cons (gv_var E8 rfl) (ga_cons (gv_divN (gv_var E8 rfl) (gv_nat 5) (by decide) (by decide)) ga_nil))) fun vs H9 e9 r9 => ?_
      refine ⟨n, co, y / 5, ok, r9, fun z v8 H10 e10 zok rz => ?_⟩
      have E10 := (E8.ext (e9.trans e10)).set (i := 8) (d := bkA z) (v := v8) rz
      have e710 := (e8.trans e9).trans e10
      refine s_dput (m := m) (kk := z.2.h.ht) (d := bkA z) (e710 _ _ hm7) (gv_var (i := 8) E10 rfl) (gv_var E10 rfl) (gv_Header_height T (gv_Block_header T (gv_un (gv_var (i := 8) E10 rfl)))) (by omega) fun w H11 e11 rw11 hm11 => ?_
      have g11 : Gr K H11 (upd H11 pA (.dK (putK m (nK z.2.h.ht) w))) := Gr.updD hm11
      exact fin (v8 := none) (l2 := putN l z.2.h.ht z) (Nat.le_trans putN_len (by omega)) (exu ((e07.trans e710).trans e11)) upd_same (((km7.ext (e710.trans e11)).put (k := z.2.h.ht) (a := z) rw11).gr (fun a => inferInstance) g11) (av_put hl zok) ((EB7.set (i := 8) (d := .any) (v := v8) trivial).wk ⟨.inr rfl, .inr rfl, .inr rfl, .inr rfl, .inr rfl, .inr rfl, .inr rfl, .inr rfl, .inl rfl, trivial⟩)
    refine s_if E8 (gt_test (gv_eqN (gv_var E8 rfl) (gv_nat 2))) (fun _ H9 e9 E9 => ?_) fun _ H9 e9 E9 => ?_
    · have hm9 := e9 _ _ (e8 _ _ hm7)
      refine s_updC (m := m) hm9 (gv_var E9 rfl) (ga_cons (gv_var E9 rfl) (ga_cons (gv_var E9 rfl) (ga_cons (gv_divN (gv_var E9 rfl) (gv_nat 5) (by decide) (by decide)) ga_nil))) (fun vs H10 e10 r10 hm10 => ?_) ?_
      · refine ⟨n, co, y / 5, ok, r10, fun po mo lo H11 hpo e11 ho ko hok hlo => ⟨po, mo, rfl, ?_, e11 _ _ hm10, ho, ?_, ?_⟩⟩
        · exact fun z => by
            rw [← z, hm10] at hpo
            cases hpo
        · have := ko.len
          omega
        · have e711 := ((e8.trans e9).trans e10).trans e11
          have g11 : Gr K H11 (upd H11 pA (.dK (mergeK m mo))) := Gr.updD (e11 _ _ hm10)
          exact fin (v8 := none) (l2 := mrgN l lo) (Nat.le_trans mrgN_len (by omega)) (exu (e07.trans e711)) upd_same (((km7.ext e711).merge ko).gr (fun a => inferInstance) g11) (av_mrg hl hok) (EB7.wk ⟨.inr rfl, .inr rfl, .inr rfl, .inr rfl, .inr rfl, .inr rfl, .inr rfl, .inr rfl, .inl rfl, trivial⟩)
      · rintro vs H1 Q Q' hq ⟨n, co, y, h1, h2, h3⟩
        exact ⟨n, co, y, h1, h2, fun p m l H' a b c d e f => hq _ _ (h3 p m l H' a b c d e f)⟩
    have e79 := e8.trans e9
    have hp1 : 0 < n.bs.length - 1 + 1 := by omega
    refine s_if E9 (gt_test (gv_eqN (gv_var E9 rfl) (gv_nat 3))) (fun _ H10 e10 E10 => ?_) fun _ H10 e10 E10 => ?_
    · have hbm : y / 50 % (n.bs.length - 1 + 1) < n.bs.length - 1 + 1 := Nat.mod_lt _ hp1
      obtain ⟨z, hz⟩ : ∃ z, n.bs[y / 50 % (n.bs.length - 1 + 1)]? = some z := ⟨_, List.getElem?_eq_getElem (by omega)⟩
      have e710 := e79.trans e10
      refine s_dput (m := m) (kk := y / 5 % (n.bs.length - 1 + 1)) (d := bkA z) (e710 _ _ hm7) (gv_meth (gv_var E10 rfl) rfl (ga_cons (gv_modN (gv_divN (gv_var (i := 6) (d := nD y) E10 rfl) (gv_nat 50) (by decide) (by decide)) (gv_addN (gv_meth (gv_var E10 rfl) rfl ga_nil (ok_nh hnb)) (gv_nat 1)) hp1) ga_nil) (ok_nb hz)) (gv_var E10 rfl) (gv_modN (gv_divN (gv_var (i := 6) (d := nD y) E10 rfl) (gv_nat 5) (by decide) (by decide)) (gv_addN (gv_meth (gv_var E10 rfl) rfl ga_nil (ok_nh hnb)) (gv_nat 1)) hp1) (by omega) fun w H11 e11 rw11 hm11 => ?_
      have g11 : Gr K H11 (upd H11 pA (.dK (putK m (nK (y / 5 % (n.bs.length - 1 + 1))) w))) := Gr.updD hm11
      exact fin (v8 := none) (l2 := putN l (y / 5 % (n.bs.length - 1 + 1)) z) (Nat.le_trans putN_len (by omega)) (exu ((e07.trans e710).trans e11)) upd_same (((km7.ext (e710.trans e11)).put (k := y / 5 % (n.bs.length - 1 + 1)) (a := z) rw11).gr (fun a => inferInstance) g11) (av_put hl (ok.c.ok.ok _ _ hz)) (EB7.wk ⟨.inr rfl, .inr rfl, .inr rfl, .inr rfl, .inr rfl, .inr rfl, .inr rfl, .inr rfl, .inl rfl, trivial⟩)
    have fin0 : ∀ {H2 : Hp}, Ext H7 H2 → ∃ m l, Ext H H2 ∧ H2 pA = some (.dK m) ∧ KR K H2 bkA l m ∧ AllV (fun z : BkA => BlkOk n.w n.L z.2) l ∧ l.length ≤ 20 + 10 * (i + 1) ∧ Sl K H [some (nodD n), some (.lst (co.map sgD)), some (.lst (cs.map D.int)), some (nD st), some (.adr pA), none, none, none, none] _ := fun {H2} e2 => fin (v8 := none) (l2 := l) (by omega) (e07.trans e2) (e2 _ _ hm7) (km7.ext e2) hl (EB7.wk ⟨.inr rfl, .inr rfl, .inr rfl, .inr rfl, .inr rfl, .inr rfl, .inr rfl, .inr rfl, .inl rfl, trivial⟩)
    refine s_if E10 (gt_test (gv_eqN (gv_modN (gv_divN (gv_var (i := 6) (d := nD y) E10 rfl) (gv_nat 5) (by decide) (by decide)) (gv_nat 2) (by decide)) (gv_nat 0))) (fun _ H11 e11 E11 => ?_) fun _ H11 e11 E11 => ?_
    · have e711 := (e79.trans e10).trans e11
      refine s_dpop2 (m := m) (kk := y / 10 % (n.bs.length - 1 + 1)) (e711 _ _ hm7) (gv_var E11 rfl) (gv_modN (gv_divN (gv_var (i := 6) (d := nD y) E11 rfl) (gv_nat 10) (by decide) (by decide)) (gv_addN (gv_meth (gv_var E11 rfl) rfl ga_nil (ok_nh hnb)) (gv_nat 1)) hp1) gv_non (fun H12 e12 hm12 => ?_) fun H12 e12 => fin0 (e711.trans e12)
      have g12 : Gr K H12 (upd H12 pA (.dK (dropK m (nK (y / 10 % (n.bs.length - 1 + 1)))))) := Gr.updD hm12
      exact fin (v8 := none) (l2 := dropN l (y / 10 % (n.bs.length - 1 + 1))) (Nat.le_trans (List.length_filter_le _ _) (by omega)) (exu ((e07.trans e711).trans e12)) upd_same (((km7.ext (e711.trans e12)).drop).gr (fun a => inferInstance) g12) (av_drop hl) (EB7.wk ⟨.inr rfl, .inr rfl, .inr rfl, .inr rfl, .inr rfl, .inr rfl, .inr rfl, .inr rfl, .inl rfl, trivial⟩)
    · exact s_nop (fin0 ((e79.trans e10).trans e11))
  · rintro σ' H' ⟨m, l, e, hm, km, hl, _, EB'⟩
    refine s_ret (d := .adr pA) (gv_var (EB'.ext e) rfl) fun v H2 e2 r2 => ?_
    have ev : v = .ref pA := r2
    subst ev
    exact k pA m l H2 hpA (e.trans e2) (e2 _ _ hm) (km.ext e2) hl
end
end K38

set_option Elab.async false
set_option linter.all false
set_option maxRecDepth 100000
set_option maxHeartbeats 4000000
namespace K38
open PySem PySem.Spec PyProof.Rows L2
open PySem.W (Datum Tup)
local macro_rules | `(tactic| walk_at "gv1") => `(tactic| first | exact gv_int | exact gv_str | exact gv_non | exact gv_bl | (refine gv_var (by assumption) ?_; exact rfl) | refine gv_I0 ?_ ?_ | refine gv_Ib ?_ ?_ | refine gv_eqI ?_ ?_ | refine gv_neI ?_ ?_ | refine gt_test ?_ | refine gt_B ?_ | exact ga_nil | refine ga_cons ?_ ?_)
local macro_rules | `(tactic| walk_at "gv") => `(tactic| repeat walk_at "gv1")

theorem srtN_one {a : Nat} : srtN [a] = [a] := List.perm_singleton.mp (srtN_perm [a])
theorem res_tup (r : Res) : ∃ ds, resD r = .tup ds ∧ D.dets ds = true ∧ D.deps ds ≤ 50 := by
  cases r with
  | none => exact ⟨_, rfl, rfl, by show max 0 0 ≤ 50; decide⟩
  | some z => exact ⟨_, rfl, rfl, by show max 0 (max 0 (max 0 0)) ≤ 50; decide⟩
theorem st_dets (l : List (Nat × BkA)) : D.dets (l.map stD) = true := dets_all fun d hd => by
  obtain ⟨n, _, rfl⟩ := List.mem_map.mp hd
  rfl
theorem st_deps (l : List (Nat × BkA)) : D.deps (l.map stD) ≤ 50 := deps_all fun d hd => by
  obtain ⟨n, _, rfl⟩ := List.mem_map.mp hd
  show max 0 (max 0 0) + 1 ≤ 50
  decide
theorem lk_c1 {b : BkA} {lo : Nat} (h : b.2.h.ht = lo) : lk (c1st b).tr lo = some b := by
  show lk [(b.2.h.ht, b)] lo = some b
  rw [h]
  simp [lk]
section
variable {P : Program} {w : World} {K : PySem.W.Frag} {mg : Str → Option Value} {base : Heap} {B H : Hp} {σ : L2.St} {ta te tb tl tv tk tx : TE} {tA : TA} {tt : TT} {G : Sg} {nx : L2.St → Hp → Prop} {rt : V → Hp → Prop} {bk ct : L2.St → Hp → Prop}
/-- a client that another change has left alone -/
theorem ClX.again (T : Txt K mg) {H2 : Hp} {x dx pT pS : Addr} {v1 v2 : V} {m : List (L2.Key × V)} {xs : List V} {w p d : Nat} {c : CSt} (h : ClX K B H x dx pT pS v1 v2 m xs w p d c) (g : Gr K H H2) (hc : ∀ a ∈ clL x dx pT pS, H2 a = H a) : ClX K (hide (clL x dx pT pS) H2) H2 x dx pT pS v1 v2 m xs w p d c := by
  haveI : NF K "Client" := nf_of T 5 (by decide) rfl
  have a1 := (hc x (by simp)).trans h.ce.at_
  have a2 := (hc dx (by simp)).trans h.ce.own
  have a3 := (hc pT (by simp)).trans h.aT
  have a4 := (hc pS (by simp)).trans h.lc.at_
  have gh := cl_gr (K := K) a1 a2 a3 a4
  have ga := (Gr.of h.ce.ext).trans (g.trans gh)
  exact ⟨⟨hide_ext, hide_in (by simp), hide_in (by simp), h.ce.ne, a1, a2⟩, h.rh.gr ga _ (inferInstance : Pu (hshD w)).pu, h.rp.gr ga _ (inferInstance : Pu (polD p d)).pu, hide_in (by simp), a3, h.kr.gr (fun a => inferInstance) ga, ⟨hide_ext, hide_in (by simp), a4⟩, h.rs.gr ga _ (pus_iff.mpr fun d hd => by
    obtain ⟨s, _, rfl⟩ := List.mem_map.mp hd
    exact (inferInstance : Pu (stD s)).pu)⟩
/-- what the change of one client leaves alone -/
theorem hid_same {L : List Addr} {Hd H2 : Hp} (e : Ext (hide L Hd) H2) {a : Addr} {o : HO} (h : Hd a = some o) (ha : a ∉ L) : H2 a = Hd a := by
  rw [h]
  exact e _ _ (by rw [hide_out ha]; exact h)
theorem told_hide {L : List Addr} {t : Told} {v : V} {B' H0 Hd : Hp} (g : Gr K B' (hide L Hd)) (e : Ext B' Hd) (r : Rp K B' (toldD t) v) (fr : t.fr v B' H0) (hL : ∀ a ∈ L, ∃ o, H0 a = some o) : Rp K (hide L Hd) (toldD t) v := by
  cases t with
  | silent => exact r.gr g _ (inferInstance : Pu (.tup [.str "silent"])).pu
  | same => exact r.gr g _ (inferInstance : Pu (.tup [.str "same"])).pu
  | ref z => exact r.gr g _ (inferInstance : Pu (resD (some z))).pu
  | fork st =>
    obtain ⟨a, q, y, rfl, h1, h2⟩ := fr st rfl
    obtain ⟨a2, xs, e2, h3, h4⟩ := r
    cases e2
    rw [h1] at h3
    cases h3
    obtain ⟨x1, _, e3, rx1, x2, _, e4, rx2, e5⟩ := h4
    cases e3
    cases e4
    obtain ⟨q2, ys, e6, h5, h6⟩ := rx2
    cases e6
    refine ⟨a, _, rfl, g.tup _ _ h1, .cons rx1 (.cons ⟨q, ys, rfl, ?_, h6.gr g _ (pus_iff.mpr fun d hd => ?_)⟩ .nil)⟩
    · rw [hide_out fun hq => ?_]
      · exact e _ _ h5
      · obtain ⟨o, ho⟩ := hL q hq
        rw [h2] at ho
        cases ho
    · obtain ⟨s, _, rfl⟩ := List.mem_map.mp hd
      exact (inferInstance : Pu (stD s)).pu
theorem s_ifOrM {c mm : Str} {sp : Sp} {E0' : XK} {i : Nat} {x dx : Addr} {fs : List (Str × V)} {tA : TA} {ds : List D} {r : R2} {u : TT} {tu tw : TS} (E : Sl K H G σ) (hi : G[i]? = some (some (.adr x))) (hx : H x = some (.ins (He.ga K c) dx fs)) (hm : fs.lookup mm = none) (ha : GvA K tA σ H ds)
    (k : ∀ vs H1, Ext H H1 → Rps K H1 ds vs → ∀ Q' : VK, (∀ H4, tIfS u tu tw ⟨nx, rt, bk, ct⟩ σ H4 → Q' (.bl false) H4) → sp (.ref x :: vs) H1 (fun v H2 => tb σ H2 fun w H3 => r v w H3 Q') E0') : tIfS (tOr (tTest (tOp r (tMeth (He.ga K c) mm sp [] E0' (tVar i) tA) tb)) u) tu tw ⟨nx, rt, bk, ct⟩ σ H := by
  obtain ⟨v, h1, h2⟩ := E.2 i _ hi
  have ev : v = .ref x := h2
  subst ev
  refine ⟨_, h1, x, dx, fs, rfl, hx, hm, ha H Ext.rfl' _ fun vs H1 e1 r1 => ?_⟩
  rw [List.append_nil]
  exact k vs H1 e1 r1 _ fun H4 h => ⟨false, rfl, h⟩
abbrev n_law_lying : List Str := ["_law_client", "_law_answers", "_law_height", "_law_now", "_law_before", "_law_low", "_law_second", "_law_told", "_law_own", "_law_found"]
theorem sc_law_lying : FnScope n_law_lying ["_law_client", "_law_answers", "_law_height", "_law_now"] (defScope s_law_lying) := ⟨rfl, rfl, rfl, by decide +kernel, rfl, by decide +kernel, by decide +kernel⟩
def spLy (K : PySem.W.Frag) : Sp := fun vs H Q _ => ∃ (B : Hp) (a : AwA) (vA vh vn : V), (AwOk a ∧ a.c.hal = false) ∧ vs = [.ref a.x, vA, vh, vn] ∧ ClAt K B H a.x a.r.w a.r.p a.r.d a.c ∧ Rp K B (dcD bkA a.r.A) vA ∧ Rp K B (nD a.h) vh ∧ Rp K B (nD a.r.now) vn ∧
  ∀ B' H', Ext B B' → ClAt K B' H' a.x a.r.w a.r.p a.r.d ⟨a.c.tr, a.c.st, (askW a.r a.b a.z a.h).isF⟩ → Q (.bl true) H'
theorem cal_law_lying (T : Txt K mg) : C8.Cal P w K mg base 16 "_law_lying" (spLy K) [] := by
  obtain ⟨fd, F⟩ := T.f_law_lying
  refine calD F T.g_law_lying (fun _ _ _ _ _ _ us hl => match us, hl with | [_, _, _, _], _ => rfl) sc_law_lying (fun vs H Q E h => (by obtain ⟨B, a, vA, vh, vn, _, rfl, _⟩ := h; rfl)) (fun cdv A outer s H vs Q E hr h => ?_)
  obtain ⟨B, ⟨x, c, r, h, lo, b, z⟩, vA, vh, vn, ⟨hok, hal⟩, rfl, ⟨dx, pT, pS, u1, u2, m, xs, cx⟩, rA, rh, rn, k⟩ := h
  have hok0 := hok
  obtain ⟨hrk, hlen, hlo, hb, hbt, okb, hlf, hz, hh⟩ := hok
  dsimp only at hrk hlen hlo hb hbt okb hlf hz hh cx rA rh rn k hal
  refine ⟨_, (pss_cons (ps_set (i := 4) sc_law_lying.nd rfl (Or.inl rfl) (C8.pe_c (cal_law_seen T) hr (by decide) rfl (pa_cons (pv 0) (pa_cons (pv 2) pa_nil))))
      (pss_cons (ps_set (i := 5) sc_law_lying.nd rfl (Or.inl rfl) (pe_ix (ix_list : IxR _ (rIxL K)) (C8.pe_mt0 (met_Client_heights T) hr (by decide) (pv 0)) pe_int (fun _ _ => rfl)))
      (pss_cons (ps_set (i := 6) sc_law_lying.nd rfl (Or.inl rfl) (C8.pe_c (cal_second_client T) hr (by decide) rfl (pa_cons (pv 0) pa_nil)))
      (pss_cons (ps_if (PW.pt (pw_or (pt_cmpR (op_neS hr) (C8.pe_mt0 (met_Client_heights T) hr (by decide) (pv 6)) (pe_lst (pa_cons (pv 5) pa_nil)) (nomark _)) (pw_or (pt_cmpR (op_neS hr) (pe_fld (pv 6) rfl) (pe_lst pa_nil) (nomark _)) (pw_or (pt_cmpR op_notBl (pe_fld (pv 6) rfl) pe_bl (nomark _)) (pw_or1 (pt_not (pt_cmpR (op_own (met_Block_eq T) hr (by decide)) (C8.pe_mt (met_Client_block T) hr (by decide) (pv 6) (pa_cons (pv 5) pa_nil)) (C8.pe_mt (met_Client_block T) hr (by decide) (pv 0) (pa_cons (pv 5) pa_nil)) (nomark _)))))))) (pss_one (ps_ret pe_bl)) pss_nil)
      (pss_cons (ps_set (i := 7) sc_law_lying.nd rfl (Or.inl rfl) (C8.pe_c (cal_ask_witness T) hr (by decide) rfl (pa_cons (pv 0) (pa_cons (pv 1) (pa_cons (pv 2) (pa_cons (pv 3) pa_nil))))))
      (pss_cons (ps_if (pt_cmpR (op_neS hr) (C8.pe_c (cal_law_seen T) hr (by decide) rfl (pa_cons (pv 0) (pa_cons (pv 2) pa_nil))) (pv 4) (nomark _)) (pss_one (ps_ret pe_bl)) pss_nil)
      (pss_cons (ps_if (pt_cmp (pc_dnotin (hu_of hr) (pv 2) (pv 1)) (by rfl)) (pss_one (ps_ret (pe_and (pe_cmpR (op_eqS hr) (pv 7) (pe_tup (pa_cons pe_str pa_nil)) (nomark _)) (pe_one (pe_cmpR op_isBl (pe_fld (pv 0) rfl) pe_bl (nomark _)))))) pss_nil)
      (pss_cons (ps_if (pt_cmpR (op_own (met_Header_eq T) hr (by decide)) (pe_fld (pe_dget (hu_of hr) (pv 1) (pv 2) (fun _ _ => rfl)) rfl) (pe_fld (C8.pe_mt (met_Client_block T) hr (by decide) (pv 0) (pa_cons (pv 2) pa_nil)) rfl) (nomark _)) (pss_one (ps_ret (pe_and (pe_cmpR (op_eqS hr) (pv 7) (pe_tup (pa_cons pe_str pa_nil)) (nomark _)) (pe_one (pe_cmpR op_isBl (pe_fld (pv 0) rfl) pe_bl (nomark _)))))) pss_nil)
      (pss_cons (ps_set (i := 8) sc_law_lying.nd rfl (Or.inl rfl) (C8.pe_mk (mak_Client T) hr (by decide) rfl (pa_cons (pe_fld (pv 0) rfl) (pa_cons (pe_fld (pv 0) rfl) (pa_cons (C8.pe_mt (met_Client_block T) hr (by decide) (pv 0) (pa_cons (pv 5) pa_nil)) pa_nil)))))
      (pss_cons (ps_set (i := 9) sc_law_lying.nd rfl (Or.inl rfl) (C8.pe_mt (met_Client_reach T) hr (by decide) (pv 8) (pa_cons (pv 1) (pa_cons (pv 2) (pa_cons (pv 3) pa_nil)))))
      (pss_cons (ps_if (PW.pt (pw_or (pt_cmpR (op_neT hr) (C8.pe_mt (met_Client_reach T) hr (by decide) (pv 6) (pa_cons (pv 1) (pa_cons (pv 2) (pa_cons (pv 3) pa_nil)))) (pv 9) (nomark _)) (pw_or1 (pt_cmpR (op_neS hr) (pe_fld (pv 6) rfl) (pe_fld (pv 8) rfl) (nomark _))))) (pss_one (ps_ret pe_bl)) pss_nil)
      (pss_cons (ps_if (pt_cmpR (op_neT hr) (pv 9) (pe_tup (pa_cons pe_str pa_nil)) (nomark _)) (pss_one (ps_ret (pe_and (pe_cmpR (op_eqS hr) (pv 7) (pv 9) (nomark _)) (pe_one (pe_cmpR op_isBl (pe_fld (pv 0) rfl) pe_bl (nomark _)))))) pss_nil)
      (pss_one (ps_ret (pe_and (pe_cmpR op_eq (pe_callB call_len_seq (by rfl) T.b_len (by decide +kernel) (pa_cons (pv 7) pa_nil)) pe_int (nomark _)) (pe_and (pe_cmpR op_eq (pe_ix (ix_tup : IxR _ (rIxT K)) (pv 7) pe_int (fun _ _ => rfl)) pe_str (nomark _)) (pe_and (pe_cmpR (op_eqS hr) (pe_ix (ix_tup : IxR _ (rIxT K)) (pv 7) pe_int (fun _ _ => rfl)) (pe_fld (pv 8) rfl) (nomark _)) (pe_one (pe_cmpR op_isBl (pe_fld (pv 0) rfl) pe_bl (nomark _)))))))))))))))))))), ?_⟩
  obtain ⟨pA, mA, rfl, hA1, hA2⟩ := dcD_rp.mp rA
  have EB : Sl K B [some (.adr x), some (.adr pA), some (nD h), some (nD r.now), none, none, none, none, none, none] _ := Sl.start (N := n_law_lying) (.cons (d := .adr x) rfl (.cons (d := .adr pA) rfl (.cons rh (.cons rn .nil))))
  have E := EB.ext cx.ce.ext
  -- what is seen
  refine s_asgN (ds := seenD c h) E (gn_call (ga_cons (gv_view (gv_var E rfl) cx.view) (ga_cons (gv_var E rfl) ga_nil)) (ok_Sn ⟨r.w, r.p, r.d, c⟩ hlen)) fun pb bs H1 hpb e1 hb1 rb1 _ => ?_
  have cx1 := (cx.mono e1).wide
  have b1 := (cx.mono e1).ehid
  generalize eW1 : hide (clL x dx pT pS) H1 = W1 at cx1 b1
  have rbW : Rp K W1 (.lst (seenD c h)) (.ref pb) := by
    obtain ⟨y1, _, i1, q1, y2, _, i2, q2, y3, _, i3, q3, i4⟩ := id rb1
    obtain ⟨q, zs, rfl, hq1, hq2⟩ := id q1
    have hnn : srtN (c.tr.map (·.1)) ≠ [] := fun z => by
      rw [z] at hlo
      cases hlo
    have hq : q ∉ clL x dx pT pS := fun ha => by
      have c1 := cx.mono e1
      rcases List.mem_cons.mp ha with rfl | ha
      · rw [c1.aT] at hq1
        cases hq1
      rcases List.mem_cons.mp ha with rfl | ha
      · rw [c1.lc.at_] at hq1
        cases hq1
        have h2 := c1.rs
        cases hs : srtN (c.tr.map (·.1)) with
        | nil => exact hnn hs
        | cons n1 nr =>
          rw [hs] at hq2
          obtain ⟨t1, tr, et, ht1, _⟩ := hq2
          subst et
          cases hst : c.st with
          | nil =>
            rw [hst] at h2
            cases h2
          | cons s1 sr =>
            rw [hst] at h2
            obtain ⟨t2, tr2, et2, ht2, _⟩ := h2
            cases et2
            have e3 : t1 = .int (n1 : Int) := ht1
            obtain ⟨a4, _, e4, _⟩ := ht2
            rw [e3] at e4
            cases e4
      rcases List.mem_cons.mp ha with rfl | ha
      · rw [c1.ce.at_] at hq1
        cases hq1
      · rw [List.mem_singleton.mp ha, c1.ce.own] at hq1
        cases hq1
    have hp : pb ∉ clL x dx pT pS := fun ha => by
      obtain ⟨o, ho⟩ := cx.hok.some ha
      rw [hpb] at ho
      cases ho
    rw [← eW1]
    have g1 := (cx.mono e1).gr T
    refine ⟨pb, bs, rfl, by rw [hide_out hp]; exact hb1, ?_⟩
    rw [i1, i2, i3, i4]
    refine .cons ⟨q, zs, rfl, by rw [hide_out hq]; exact hq1, hq2.gr g1 _ (pus_iff.mpr fun d hd => ?_)⟩ (.cons q2 (.cons (q3.gr g1 _ ?_) .nil))
    · obtain ⟨n, _, rfl⟩ := List.mem_map.mp hd
      trivial
    · cases lk c.tr h with
      | none => trivial
      | some z => exact (inferInstance : Pu (bkA z)).pu
  have E1B := (EB.ext b1).set (i := 4) (d := .adr pb) (v := .ref pb) rfl
  have E1 := E1B.ext cx1.ce.ext
  -- the lowest
  refine s_asg (d := nD lo) E1 (gv_ixLN (gn_meth (gv_view (gv_var E1 rfl) cx1.view) rfl ga_nil (ok_hts ⟨r.w, r.p, r.d, c⟩ hlen)).gv (gv_nat 0) (by rw [List.getElem?_map, hlo]; rfl)) fun v5 H2 e2 r5 _ => ?_
  have E2B := E1B.set (i := 5) (d := nD lo) (v := v5) r5
  have cx2 := cx1.mono e2
  have E2 := E2B.ext cx2.ce.ext
  -- the second client
  refine s_asgCall (ga_cons (gv_var E2 rfl) ga_nil) fun vs H3 e3 r3 => ?_
  obtain ⟨vx, rfl, rx⟩ := one_of r3
  have evx : vx = .ref x := rx
  subst evx
  have cx3 := cx2.mono e3
  refine ⟨⟨r.w, r.p, r.d, c⟩, r.L, lo, b, ⟨hlen, hlo, hb, okb, hlf⟩, .cons cx3.view .nil, fun s2 B4 H4 e4 cl4 => ?_⟩
  obtain ⟨dy, pTy, pSy, w1, w2, my, ys, cy⟩ := cl4
  have e34 := e4.trans cy.ce.ext
  have cx4 := cx3.mono e34
  have E4B := E2B.set (i := 6) (d := .adr s2) (v := .ref s2) rfl
  have E4 := E4B.ext cx4.ce.ext
  have disj : ∀ a ∈ clL s2 dy pTy pSy, a ∉ clL x dx pT pS := fun a ha ha2 => by
    obtain ⟨o, ho⟩ := cx3.hok.some ha2
    have h1 := e4 _ _ ho
    rw [cy.free a ha] at h1
    cases h1
  have h1one : srtN ((c1st b).tr.map (·.1)) = [lo] := by
    show srtN [b.2.h.ht] = [lo]
    rw [srtN_one, hbt]
  refine s_if E4 (Gt.is (b := false) (gt_or (gt_test (gv_neS (ds := [nD lo]) rfl (by show max 0 0 ≤ 50; decide) ((gn_meth (gv_view (gv_var E4 rfl) cy.view) rfl ga_nil (ok_hts ⟨r.w, r.p, r.d, c1st b⟩ (by show 1 < 64; decide))).is (by rw [h1one]; rfl)).gv (gn_lst (ga_cons (gv_var E4 rfl) ga_nil) (by simp)).gv)) fun _ => gt_or (gt_test (gv_neS (ds := []) rfl (by show 0 ≤ 50; decide) (gv_Cl_steps T (gv_view (gv_var E4 rfl) cy.view)) (gn_none (ds := [])).gv)) fun _ => gt_or (gt_test (gv_notB (gv_fld (gv_view (gv_var E4 rfl) cy.view) T.cl_Client T.na_Client_halted (n := 4) (by decide +kernel) (by decide) rfl) gv_bl)) fun _ => gt_not (gt_test (gv_own (sp := spBe K) (x := bkA b) (y := bkA b) (Gv.is (gv_meth (gv_view (gv_var E4 rfl) cy.view) rfl (ga_cons (gv_var E4 rfl) ga_nil) (ok_cb ⟨r.w, r.p, r.d, c1st b⟩)) (by show opD bkA (lk (c1st b).tr lo) = bkA b; rw [lk_c1 hbt]; rfl)) (Gv.is (gv_meth (gv_view (gv_var E4 rfl) cx4.view) rfl (ga_cons (gv_var E4 rfl) ga_nil) (ok_cb ⟨r.w, r.p, r.d, c⟩)) (by show opD bkA (lk c.tr lo) = bkA b; rw [hb]; rfl)) ok_be))) rfl) (fun z => nomatch z) fun _ H5 e5 E5 => ?_
  refine s_nop ?_
  have cx5 := cx4.mono e5
  have cy5 := cy.mono e5
  -- asked
  refine s_asgCall (ga_cons (gv_var E5 rfl) (ga_cons (gv_var E5 rfl) (ga_cons (gv_var E5 rfl) (ga_cons (gv_var E5 rfl) ga_nil)))) fun vs H6 e6 r6 => ?_
  obtain ⟨va, _, rfl, ra, vb, _, rfl, rvb, vc, _, rfl, rvc, vd, _, rfl, rvd, rfl⟩ := r6
  have eva : va = .ref x := ra
  have evb : vb = .ref pA := rvb
  subst eva evb
  have cx6 := (cx5.mono e6).wide
  have b6 := (cx5.mono e6).ehid
  have g6 := (cx5.mono e6).gr T
  have cy6 := cy5.mono e6
  refine ⟨_, ⟨x, c, r, h, lo, b, z⟩, _, vc, vd, hok0, rfl, ⟨dx, pT, pS, u1, u2, m, xs, cx6⟩, (rA.ext b1).ext b6, rvc, rvd, fun v7 B7 H7 e7 cl7 r7 fr7 => ?_⟩
  obtain ⟨dx', pT', pS', u1', u2', m', xs', cx7⟩ := cl7
  dsimp only at cx7 e7 r7 fr7
  rw [hal, Bool.false_or] at cx7
  generalize et : askW r b z h = t at cx7 r7 fr7
  obtain ⟨a7, ea7⟩ : ∃ a, v7 = .ref a := by
    cases t with
    | silent => obtain ⟨a, _, e, _⟩ := r7; exact ⟨a, e⟩
    | same => obtain ⟨a, _, e, _⟩ := r7; exact ⟨a, e⟩
    | fork st => obtain ⟨a, _, e, _⟩ := r7; exact ⟨a, e⟩
    | ref f => obtain ⟨a, _, e, _⟩ := r7; exact ⟨a, e⟩
  subst ea7
  have e17 : Ext W1 B7 := b6.trans e7
  have E7B := (E4B.ext e17).set (i := 7) (d := .adr a7) (v := .ref a7) rfl
  have cy7 : ClX K (hide (clL s2 dy pTy pSy) B7) B7 s2 dy pTy pSy w1 w2 my ys r.w r.p r.d (c1st b) := cy6.again T (g6.trans (Gr.of e7)) fun a ha => by
    obtain ⟨o, ho⟩ := cy6.hok.some ha
    exact hid_same e7 ho (disj a ha)
  have W1y : ∀ a ∈ clL s2 dy pTy pSy, W1 a = none := fun a ha => by
    have h1 := cy.free a ha
    cases q : W1 a with
    | none => rfl
    | some o =>
      have h2 := e4 _ _ (cx3.ce.ext _ _ q)
      rw [h1] at h2
      cases h2
  have E7 := E7B.ext cx7.ce.ext
  have rA7 := ((rA.ext b1).ext e17)
  have viewx : ∀ {H2 : Hp}, Ext H7 H2 → Rp K H2 (cliD r.w r.p r.d ⟨c.tr, c.st, t.isF⟩) (.ref x) := fun e => cx7.view.ext e
  refine s_if E7 (gt_test (gv_neS (ds := seenD c h) (seen_det c h) (seen_dep c h) (gn_call (ga_cons (gv_view (gv_var E7 rfl) (viewx Ext.rfl')) (ga_cons (gv_var E7 rfl) ga_nil)) (ok_Sn ⟨r.w, r.p, r.d, ⟨c.tr, c.st, t.isF⟩⟩ hlen)).gv (gv_view (gv_var (i := 4) E7 rfl) ((rbW.ext e17).ext cx7.ce.ext)))) (fun z => nomatch z) fun _ H8 e8 E8 => ?_
  refine s_nop ?_
  have rt7 : Rp K H7 (toldD t) (.ref a7) := r7.ext cx7.ce.ext
  have b07 : Ext B B7 := b1.trans e17
  -- an end before the third client
  have fin : ∀ {v : V} {H' : Hp}, Ext H7 H' → Rp K H' (.bl true) v → Q v H' := fun {v H'} e rv => by
    have ev : v = .bl true := rv
    subst ev
    exact k B7 H' b07 (by rw [et]; exact ⟨dx', pT', pS', u1', u2', m', xs', cx7.mono e⟩)
  have halx : ∀ {H2 : Hp} {σ : L2.St} {G : Sg}, Sl K H2 G σ → G[0]? = some (some (.adr x)) → Rp K H2 (cliD r.w r.p r.d ⟨c.tr, c.st, t.isF⟩) (.ref x) → Gv K (tFld K (tVar 0) "halted") σ H2 (.bl t.isF) := fun E h0 v => gv_fld (gv_view (gv_var E h0) v) T.cl_Client T.na_Client_halted (n := 4) (by decide +kernel) (by decide) rfl
  cases q : lk r.A h with
  | none =>
    have ht : t = .silent := by rw [← et, askW, q]
    subst ht
    refine s_if E8 (gt_test (gv_dnotin (gv_var E8 rfl) (gv_view (gv_var E8 rfl) ((rA7.ext cx7.ce.ext).ext e8)))) (fun _ H9 e9 E9 => ?_) fun z => by rw [q] at z; cases z
    exact s_ret (d := .bl true) (gv_andV (a := true) (b := true) (gv_eqST (ds := [.str "silent"]) rfl (by show max 0 0 ≤ 50; decide) (gv_view (gv_var E9 rfl) ((rt7.ext e8).ext e9)) (gv_tup (ga_cons gv_str ga_nil) (by simp))) fun _ => (gv_isB (halx E9 rfl (viewx (e8.trans e9))) gv_bl).is rfl) fun v H10 e10 r10 => fin ((e8.trans e9).trans e10) r10
  | some y =>
    refine s_if E8 (gt_test (gv_dnotin (gv_var E8 rfl) (gv_view (gv_var E8 rfl) ((rA7.ext cx7.ce.ext).ext e8)))) (fun z => by rw [q] at z; cases z) fun _ H9 e9 E9 => ?_
    refine s_nop ?_
    have e79 := e8.trans e9
    refine s_if E9 (gt_test (gv_own (sp := spHe K) (x := hdrD y.2.h) (y := hdrD z.2.h) (gv_Block_header T (gv_un (gv_dget (emb := bkA) (gv_view (gv_var (i := 1) E9 rfl) ((rA7.ext cx7.ce.ext).ext e79)) (gv_var E9 rfl) q))) (gv_Block_header T (gv_un (Gv.is (d' := bkA z) (gv_meth (gv_view (gv_var E9 rfl) (viewx e79)) rfl (ga_cons (gv_var E9 rfl) ga_nil) (ok_cb ⟨r.w, r.p, r.d, ⟨c.tr, c.st, t.isF⟩⟩)) (by show opD bkA (lk c.tr h) = bkA z; rw [hz]; rfl)))) ok_he)) (fun hc H10 e10 E10 => ?_) fun hc H10 e10 E10 => ?_
    · have ht : t = .same := by rw [← et, askW, q]; exact if_pos (of_decide_eq_true hc)
      subst ht
      exact s_ret (d := .bl true) (gv_andV (a := true) (b := true) (gv_eqST (ds := [.str "same"]) rfl (by show max 0 0 ≤ 50; decide) (gv_view (gv_var E10 rfl) ((rt7.ext e79).ext e10)) (gv_tup (ga_cons gv_str ga_nil) (by simp))) fun _ => (gv_isB (halx E10 rfl (viewx (e79.trans e10))) gv_bl).is rfl) fun v H11 e11 r11 => fin ((e79.trans e10).trans e11) r11
    have hne := of_decide_eq_false hc
    have haw : t = match (rch r (c1st b) h).1 with
      | none => .fork (rch r (c1st b) h).2.st
      | some f => .ref f := by rw [← et, askW, q]; exact if_neg hne
    refine s_nop ?_
    have e710 := e79.trans e10
    have hcx := viewx e710
    refine s_asgMake (ga_cons (gv_Cl_hasher T (gv_view (gv_var E10 rfl) hcx)) (ga_cons (gv_Cl_policy T (gv_view (gv_var E10 rfl) hcx)) (ga_cons (Gv.is (d' := bkA b) (gv_meth (gv_view (gv_var E10 rfl) hcx) rfl (ga_cons (gv_var E10 rfl) ga_nil) (ok_cb ⟨r.w, r.p, r.d, ⟨c.tr, c.st, t.isF⟩⟩)) (by show opD bkA (lk c.tr lo) = bkA b; rw [hb]; rfl)) ga_nil))) fun vs H11 o dO e11 r11 ho hdo neo => ?_
    refine ⟨o, dO, vs, H11, r.w, r.L, r.p, r.d, b, ⟨okb, hlf⟩, rfl, cell_new ho hdo neo, r11, fun B12 H12 e12 cl12 => ⟨rfl, ?_⟩⟩
    obtain ⟨do', pTo, pSo, o1, o2, mo, os, co⟩ := cl12
    have e712 : Ext H7 B12 := (e710.trans e11).trans e12
    have E12 := (E7.ext e712).set (i := 8) (d := .adr o) (v := .ref o) rfl
    have E12H := E12.ext co.ce.ext
    refine s_methA E12H rfl co.ce.at_ (by exact lookup_zip_none (fs := fCl) (by decide +kernel)) (ga_cons (gv_var E12H rfl) (ga_cons (gv_var E12H rfl) (ga_cons (gv_var E12H rfl) ga_nil))) fun vs H13 e13 r13 => ?_
    obtain ⟨va, _, rfl, ra, vb, _, rfl, rvb, vc, _, rfl, rvc, rfl⟩ := r13
    have eva : va = .ref pA := ra
    subst eva
    have trok : TrOk r (c1st b) := ⟨fun k y2 hk => by
      obtain ⟨h1, h2⟩ := lk_one hk
      subst h2
      exact ⟨okb, h1⟩⟩
    have sz : (c1st b).tr.length + h ≤ 50000 ∧ (c1st b).st.length + h ≤ 50000 := by
      show 1 + h ≤ 50000 ∧ 0 + h ≤ 50000
      omega
    refine ⟨B12, ⟨o, c1st b, r, h⟩, _, vb, vc, ⟨hrk, trok, sz.1, sz.2⟩, rfl, ⟨do', pTo, pSo, o1, o2, mo, os, co.mono e13⟩, (rA7.ext cx7.ce.ext).ext e712, rvb, rvc, fun v9 B14 H14 e14 cl14 r14 => ?_⟩
    obtain ⟨do2, pTo2, pSo2, o1', o2', mo', os', co⟩ := cl14
    dsimp only at co r14 e14
    generalize hR : rch r (c1st b) h = R at haw co r14
    have e714 : Ext H7 B14 := e712.trans e14
    have E14 := (((E7.ext e714).set (i := 8) (d := .adr o) (v := .ref o) rfl).set (i := 9) (d := resD R.1) (v := v9) r14)
    have E14H := E14.ext co.ce.ext
    have e714H := e714.trans co.ce.ext
    have cy14 := (cy7.mono cx7.ce.ext).mono e714H
    obtain ⟨ds, eds, hd1, hd2⟩ := res_tup R.1
    have disjo : ∀ a ∈ clL o do2 pTo2 pSo2, a ∉ clL s2 dy pTy pSy := fun a ha ha2 => by
      obtain ⟨o', ho'⟩ := (cy7.mono cx7.ce.ext).hok.some ha2
      have h1 := e714 _ _ ho'
      rw [co.free a ha] at h1
      cases h1
    refine s_ifOrM E14H rfl cy14.ce.at_ (by exact lookup_zip_none (fs := fCl) (by decide +kernel)) (ga_cons (gv_var E14H rfl) (ga_cons (gv_var E14H rfl) (ga_cons (gv_var E14H rfl) ga_nil))) fun vs H15 e15 r15 Q' hQ => ?_
    obtain ⟨va, _, rfl, ra, vb, _, rfl, rvb, vc, _, rfl, rvc, rfl⟩ := r15
    have eva : va = .ref pA := ra
    subst eva
    have cy15 := (cy14.mono e15).wide
    have g15 := (cy14.mono e15).gr T
    have B7W : ∀ {Ba : Hp}, Ext Ba H15 → (∀ a ∈ clL s2 dy pTy pSy, Ba a = none) → Ext Ba (hide (clL s2 dy pTy pSy) H15) := fun e h => ext_hide e h
    have e115 : Ext W1 H15 := ((e17.trans cx7.ce.ext).trans e714H).trans e15
    have bW := B7W e115 W1y
    refine ⟨_, ⟨s2, c1st b, r, h⟩, _, vb, vc, ⟨hrk, trok, sz.1, sz.2⟩, rfl, ⟨dy, pTy, pSy, w1, w2, my, ys, cy15⟩, (rA.ext b1).ext bW, rvb, rvc, fun v16 B16 H16 e16 cl16 r16 => ?_⟩
    obtain ⟨dy2, pTy2, pSy2, w1', w2', my', ys', cy⟩ := cl16
    dsimp only at cy r16 e16
    rw [hR] at cy r16
    have g1516 : Gr K H15 B16 := g15.trans (Gr.of e16)
    have co16 := (co.mono e15).again T g1516 fun a ha => by
      obtain ⟨o', ho'⟩ := (co.mono e15).hok.some ha
      exact hid_same e16 ho' (disjo a ha)
    have cx15 := (cx7.mono e714H).mono e15
    have disjx : ∀ a ∈ clL x dx' pT' pS', a ∉ clL s2 dy pTy pSy := fun a ha ha2 => by
      obtain ⟨o', ho'⟩ := cy7.hok.some ha2
      rw [cx7.free a ha] at ho'
      cases ho'
    have cx16 := cx15.again T g1516 fun a ha => by
      obtain ⟨o', ho'⟩ := cx15.hok.some ha
      exact hid_same e16 ho' (disjx a ha)
    have rt15 : Rp K (hide (clL s2 dy pTy pSy) H15) (toldD t) (.ref a7) := told_hide ((Gr.of ((cx7.ce.ext.trans e714H).trans e15)).trans g15) ((cx7.ce.ext.trans e714H).trans e15) r7 fr7 fun a ha => cy6.hok.some ha
    have E16 : Sl K B16 [some (.adr x), some (.adr pA), some (nD h), some (nD r.now), some (.adr pb), some (nD lo), some (.adr s2), some (.adr a7), some (.adr o), some (resD R.1)] _ := E14H.gr ((Gr.of e15).trans g1516)
    have E16H := E16.ext cy.ce.ext
    have rt16 := (rt15.ext e16).ext cy.ce.ext
    have cxF := cx16.mono cy.ce.ext
    have coF := co16.mono cy.ce.ext
    have bF : Ext W1 (hide (clL x dx' pT' pS') B16) := ext_hide (bW.trans e16) fun a ha => by
      cases q2 : W1 a with
      | none => rfl
      | some o2 =>
        have h2 := e17 _ _ q2
        rw [cx7.free a ha] at h2
        cases h2
    have fin2 : ∀ {v : V} {H' : Hp}, Ext H16 H' → Rp K H' (.bl true) v → Q v H' := fun {v H'} e rv => by
      have ev : v = .bl true := rv
      subst ev
      exact k _ H' (b1.trans bF) (by rw [et]; exact ⟨dx', pT', pS', u1', u2', m', xs', cxF.mono e⟩)
    refine (gv_var (i := 9) E16H rfl : Gv K (tVar 9) _ H16 (resD R.1)) H16 Ext.rfl' _ fun w9 H17 e17' rw9 => ?_
    refine ⟨ds, ds, ⟨by rw [← eds]; exact (r16.ext cy.ce.ext).ext e17', by rw [← eds]; exact rw9⟩, .inl ⟨rfl, hd1, hd2, hQ _ ?_⟩⟩
    have E17 := E16H.ext e17'
    refine s_if E17 (gt_test (gv_neS (ds := R.2.st.map stD) (st_dets _) (st_deps _) (gv_Cl_steps T (gv_view (gv_var E17 rfl) (cy.view.ext e17'))) (gv_Cl_steps T (gv_view (gv_var (i := 8) E17 rfl) (coF.view.ext e17'))))) (fun z => nomatch z) fun _ H18 e18 E18 => ?_
    refine s_nop ?_
    have e1618 := e17'.trans e18
    cases qr : R.1 with
    | some f =>
      rw [qr] at haw E18
      dsimp only at haw
      subst haw
      refine s_if E18 (gt_test (gv_neT1 (s1 := "refused") (s2 := "trusted") (r1 := [.str f.1, nD f.2]) (r2 := []) (by decide +kernel) (.inr rfl) (gv_var (i := 9) E18 rfl) (gv_tup (ga_cons gv_str ga_nil) (by simp)))) (fun _ H19 e19 E19 => ?_) fun z => nomatch z
      exact s_ret (d := .bl true) (gv_andV (a := true) (b := true) (gv_eqST (ds := [.str "refused", .str f.1, nD f.2]) rfl (by show max 0 (max 0 (max 0 0)) ≤ 50; decide) (gv_view (gv_var E19 rfl) (rt16.ext (e1618.trans e19))) (gv_var (i := 9) E19 rfl)) fun _ => (gv_isB (halx E19 rfl (cxF.view.ext (e1618.trans e19))) gv_bl).is rfl) fun v H20 e20 r20 => fin2 ((e1618.trans e19).trans e20) r20
    | none =>
      rw [qr] at haw E18
      dsimp only at haw
      subst haw
      refine s_if E18 (gt_test (gv_neT (ds := [.str "trusted"]) rfl (by show max 0 0 ≤ 50; decide) (gv_var (i := 9) E18 rfl) (gv_tup (ga_cons gv_str ga_nil) (by simp)))) (fun z => nomatch z) fun _ H19 e19 E19 => ?_
      refine s_nop ?_
      have e1619 := e1618.trans e19
      have gt : Gv K (tVar 7) _ H19 (.tup [.str "fork", .lst (R.2.st.map stD)]) := gv_view (gv_var E19 rfl) (rt16.ext e1619)
      refine s_ret (d := .bl true) (gv_andV (a := true) (b := true) ((gv_eqN (gv_lenT gt) (gv_nat 2)).is rfl) fun _ => gv_andV (a := true) (b := true) ((gv_eqStr (x := "fork") (y := "fork") (gv_ixTN gt (gv_nat 0) rfl) gv_str).is (by rw [decide_eq_true rfl])) fun _ => gv_andV (a := true) (b := true) (gv_eqS (ds := R.2.st.map stD) (st_dets _) (st_deps _) (gv_ixTN gt (gv_nat 1) rfl) (gv_Cl_steps T (gv_view (gv_var (i := 8) E19 rfl) (coF.view.ext e1619)))) fun _ => (gv_isB (halx E19 rfl (cxF.view.ext e1619)) gv_bl).is rfl) fun v H20 e20 r20 => fin2 (e1619.trans e20) r20
end
end K38

set_option Elab.async false
set_option linter.all false
set_option maxRecDepth 100000
set_option maxHeartbeats 4000000
namespace K38
open PySem PySem.Spec PyProof.Rows L2
open PySem.W (Datum Tup)
local macro_rules | `(tactic| walk_at "gv1") => `(tactic| first | exact gv_int | exact gv_str | exact gv_non | exact gv_bl | (refine gv_var (by assumption) ?_; exact rfl) | refine gv_I0 ?_ ?_ | refine gv_Ib ?_ ?_ | refine gv_eqI ?_ ?_ | refine gv_neI ?_ ?_ | refine gt_test ?_ | refine gt_B ?_ | exact ga_nil | refine ga_cons ?_ ?_)
local macro_rules | `(tactic| walk_at "gv") => `(tactic| repeat walk_at "gv1")

def keptD (c : CSt) : List D := [.lst ((srtN (c.tr.map (·.1))).map nD), nD c.st.length]
theorem kept_det (c : CSt) : D.dets (keptD c) = true := by
  have h1 : D.dets ((srtN (c.tr.map (·.1))).map nD) = true := dets_all fun d hd => by
    obtain ⟨n, _, rfl⟩ := List.mem_map.mp hd
    rfl
  show (D.dets ((srtN (c.tr.map (·.1))).map nD) && (true && true)) = true
  rw [h1]
  rfl
theorem kept_dep (c : CSt) : D.deps (keptD c) ≤ 50 := by
  have h1 : D.deps ((srtN (c.tr.map (·.1))).map nD) ≤ 0 := deps_all fun d hd => by
    obtain ⟨n, _, rfl⟩ := List.mem_map.mp hd
    exact Nat.le_refl _
  show max (D.deps ((srtN (c.tr.map (·.1))).map nD) + 1) (max 0 0) ≤ 50
  omega
section
variable {P : Program} {w : World} {K : PySem.W.Frag} {mg : Str → Option Value} {base : Heap} {B H : Hp} {σ : L2.St} {ta te tb tl tv tk tx : TE} {tA : TA} {tt : TT} {G : Sg} {nx : L2.St → Hp → Prop} {rt : V → Hp → Prop} {bk ct : L2.St → Hp → Prop}
/-- arguments, the first of them a new dict -/
def GvAD {α : Type} (K : PySem.W.Frag) (ta : TA) (σ : L2.St) (H : Hp) (emb : α → D) (l : List (Nat × α)) (ds : List D) : Prop := ∀ H1, Ext H H1 → ∀ Q : List V → Hp → Prop, (∀ p m vs H2, H1 p = none → Ext H1 H2 → H2 p = some (.dK m) → KR K H2 emb l m → Rps K H2 ds vs → Q (.ref p :: vs) H2) → ta σ H1 Q
theorem gad_cons {α : Type} {emb : α → D} {l : List (Nat × α)} {ds : List D} (h : GvDN K te σ H emb l) (hs : GvA K tA σ H ds) : GvAD K (tCons te tA) σ H emb l ds := fun H1 e Q q => h H1 e _ fun p m H2 hp e2 h2 k2 => hs H2 (e.trans e2) _ fun vs H3 e3 rs => q p m vs H3 hp (e2.trans e3) (e3 _ _ h2) (k2.ext e3) rs
theorem gd_ans {n : Nod} {E0' : XK} (z0 : BkA) (hl : n.bs.length ≤ 1000) (ho : Gv K ta σ H (nodD n)) : GvDN K (tMeth (He.ga K "Node") "answers" (spAns K) [] E0' ta tNil) σ H bkA (ansL z0 n.bs) := fun H1 e Q q =>
  ho H1 e _ fun v H2 e2 rv => by
    obtain ⟨a, dx, xs, rfl, h1, h2⟩ := id rv
    exact ⟨a, dx, _, rfl, h1, lookup_zip_none (fs := fNd) (by decide +kernel), n, z0, hl, .cons rv .nil, fun p m H3 hp e3 h3 k3 => q p m H3 (fresh_back e2 hp) (e2.trans e3) h3 k3⟩
theorem s_ifMD {α : Type} {emb : α → D} {l : List (Nat × α)} {c mm : Str} {sp : Sp} {E0' : XK} {i : Nat} {x dx : Addr} {fs : List (Str × V)} {tA : TA} {ds : List D} {r : R2} {tu tw : TS} (E : Sl K H G σ) (hi : G[i]? = some (some (.adr x))) (hx : H x = some (.ins (He.ga K c) dx fs)) (hm : fs.lookup mm = none) (ha : GvAD K tA σ H emb l ds)
    (k : ∀ p m vs H1, H p = none → Ext H H1 → H1 p = some (.dK m) → KR K H1 emb l m → Rps K H1 ds vs → ∀ Q' : VK, (∀ H4, tw ⟨nx, rt, bk, ct⟩ σ H4 → Q' (.bl false) H4) → sp (.ref x :: .ref p :: vs) H1 (fun v H2 => tb σ H2 fun w H3 => r v w H3 Q') E0') : tIfS (tTest (tOp r (tMeth (He.ga K c) mm sp [] E0' (tVar i) tA) tb)) tu tw ⟨nx, rt, bk, ct⟩ σ H := by
  obtain ⟨v, h1, h2⟩ := E.2 i _ hi
  have ev : v = .ref x := h2
  subst ev
  refine ⟨_, h1, x, dx, fs, rfl, hx, hm, ha H Ext.rfl' _ fun p m vs H1 hp e1 h1 k1 r1 => ?_⟩
  rw [List.append_nil]
  exact k p m vs H1 hp e1 h1 k1 r1 _ fun H4 h => ⟨false, rfl, h⟩
theorem s_retAndMD {α : Type} {emb : α → D} {l : List (Nat × α)} {c mm : Str} {sp : Sp} {E0' : XK} {i : Nat} {x dx : Addr} {fs : List (Str × V)} {tA : TA} {ds : List D} {r : R2} (E : Sl K H G σ) (hi : G[i]? = some (some (.adr x))) (hx : H x = some (.ins (He.ga K c) dx fs)) (hm : fs.lookup mm = none) (ha : GvAD K tA σ H emb l ds)
    (k : ∀ p m vs H1, H p = none → Ext H H1 → H1 p = some (.dK m) → KR K H1 emb l m → Rps K H1 ds vs → ∀ Q' : VK, (∀ H4, te σ H4 rt → Q' (.bl true) H4) → sp (.ref x :: .ref p :: vs) H1 (fun v H2 => tb σ H2 fun w H3 => r v w H3 Q') E0') : tRet (tAndV (tOp r (tMeth (He.ga K c) mm sp [] E0' (tVar i) tA) tb) te) ⟨nx, rt, bk, ct⟩ σ H := by
  obtain ⟨v, h1, h2⟩ := E.2 i _ hi
  have ev : v = .ref x := h2
  subst ev
  refine ⟨_, h1, x, dx, fs, rfl, hx, hm, ha H Ext.rfl' _ fun p m vs H1 hp e1 h1 k1 r1 => ?_⟩
  rw [List.append_nil]
  exact k p m vs H1 hp e1 h1 k1 r1 _ fun H4 h => ⟨true, rfl, h⟩
/-- a list of ints is none of a client's cells -/
theorem ints_out {x dx pT pS : Addr} {v1 v2 : V} {m : List (L2.Key × V)} {xs : List V} {w p d : Nat} {c : CSt} (c1 : ClX K B H x dx pT pS v1 v2 m xs w p d c) {q : Addr} {zs : List V} {ns : List Nat} (hq1 : H q = some (.lst zs)) (hq2 : Rps K H (ns.map nD) zs) (hn : ns ≠ []) : q ∉ clL x dx pT pS := fun ha => by
  rcases List.mem_cons.mp ha with rfl | ha
  · rw [c1.aT] at hq1
    cases hq1
  rcases List.mem_cons.mp ha with rfl | ha
  · rw [c1.lc.at_] at hq1
    cases hq1
    have h2 := c1.rs
    cases hs : ns with
    | nil => exact hn hs
    | cons n1 nr =>
      rw [hs] at hq2
      obtain ⟨t1, tr, et, ht1, _⟩ := hq2
      subst et
      cases hst : c.st with
      | nil =>
        rw [hst] at h2
        cases h2
      | cons s1 sr =>
        rw [hst] at h2
        obtain ⟨t2, tr2, et2, ht2, _⟩ := h2
        cases et2
        have e3 : t1 = .int (n1 : Int) := ht1
        obtain ⟨a4, _, e4, _⟩ := ht2
        rw [e3] at e4
        cases e4
  rcases List.mem_cons.mp ha with rfl | ha
  · rw [c1.ce.at_] at hq1
    cases hq1
  · rw [List.mem_singleton.mp ha, c1.ce.own] at hq1
    cases hq1
/-- a new dict beside a client -/
theorem new_dk {x dx pT pS : Addr} {v1 v2 : V} {m0 : List (L2.Key × V)} {xs : List V} {w p d : Nat} {c : CSt} {H1 : Hp} (T : Txt K mg) (cx : ClX K B H x dx pT pS v1 v2 m0 xs w p d c) (e : Ext H H1) {pD : Addr} {m : List (L2.Key × V)} {l : List (Nat × BkA)} (h0 : H pD = none) (h1 : H1 pD = some (.dK m)) (k1 : KR K H1 bkA l m) : Rp K (hide (clL x dx pT pS) H1) (dcD bkA l) (.ref pD) := by
  refine dcD_rp.mpr ⟨pD, m, rfl, ?_, k1.gr (fun a => inferInstance) ((cx.mono e).gr T)⟩
  rw [hide_out fun ha => ?_]
  · exact h1
  · obtain ⟨o, ho⟩ := cx.hok.some ha
    rw [h0] at ho
    cases ho
abbrev n_law_stays : List Str := ["_law_client", "_law_node_here", "_law_now", "_law_kept", "_law_low", "_law_k"]
theorem sc_law_stays : FnScope n_law_stays ["_law_client", "_law_node_here", "_law_now"] (defScope s_law_stays) := ⟨rfl, rfl, rfl, by decide +kernel, rfl, by decide +kernel, by decide +kernel⟩
structure SyA where
  x : Addr
  c : CSt
  n : Nod
  p : Nat
  d : Nat
  now : Nat
  lo : Nat
  b : BkA
structure SyOk (a : SyA) : Prop where
  hal : a.c.hal = true
  n : a.n.Ok
  tr : ∀ k y, lk a.c.tr k = some y → BlkOk a.n.w a.n.L y.2 ∧ y.2.h.ht = k
  len : a.c.tr.length < 64
  stl : a.c.st.length ≤ 5000
  lo : (srtN (a.c.tr.map (·.1)))[0]? = some a.lo
  hb : lk a.c.tr a.lo = some a.b
  ll : a.lo ≤ 40000
def spSy (K : PySem.W.Frag) : Sp := fun vs H Q _ => ∃ (B : Hp) (a : SyA) (vN vn : V), SyOk a ∧ vs = [.ref a.x, vN, vn] ∧ ClAt K B H a.x a.n.w a.p a.d a.c ∧ Rp K B (nodD a.n) vN ∧ Rp K B (nD a.now) vn ∧ ∀ H', Q (.bl true) H'
theorem cal_law_stays (T : Txt K mg) : C8.Cal P w K mg base 15 "_law_stays" (spSy K) [] := by
  obtain ⟨fd, F⟩ := T.f_law_stays
  refine calD F T.g_law_stays (fun _ _ _ _ _ _ us hl => match us, hl with | [_, _, _], _ => rfl) sc_law_stays (fun vs H Q E h => (by obtain ⟨B, a, vN, vn, _, rfl, _⟩ := h; rfl)) (fun cdv A outer s H vs Q E hr h => ?_)
  obtain ⟨B, ⟨x, c, n, p, d, now, lo, b⟩, vN, vn, hok, rfl, ⟨dx, pT, pS, u1, u2, m, xs, cx⟩, rN, rn, k⟩ := h
  obtain ⟨hal, nok, trk, hlen, hst, hlo, hb, hll⟩ := hok
  dsimp only at hal nok trk hlen hst hlo hb hll cx rN rn k
  refine ⟨_, (pss_cons (ps_set (i := 3) sc_law_stays.nd rfl (Or.inl rfl) (pe_lst (pa_cons (C8.pe_mt0 (met_Client_heights T) hr (by decide) (pv 0)) (pa_cons (pe_callB call_len_seq (by rfl) T.b_len (by decide +kernel) (pa_cons (pe_fld (pv 0) rfl) pa_nil)) pa_nil))))
      (pss_cons (ps_set (i := 4) sc_law_stays.nd rfl (Or.inl rfl) (pe_ix (ix_list : IxR _ (rIxL K)) (pe_ix (ix_list : IxR _ (rIxL K)) (pv 3) pe_int (fun _ _ => rfl)) pe_int (fun _ _ => rfl)))
      (pss_cons (ps_for PassesOwn.never rfl (pi_range1 rfl T.b_range (pa_cons (pe_op op_add (C8.pe_mt0 (met_Node_height T) hr (by decide) (pv 1)) pe_int) pa_nil)) (pg_name (i := 5) sc_law_stays.nd rfl (Or.inl rfl)) (pss_one (ps_if (pt_cmpR op_isN1 (C8.pe_mt (met_Client_block T) hr (by decide) (pv 0) (pa_cons (pv 5) pa_nil)) pe_non (nomark _)) (pss_cons (ps_if (pt_cmpR (op_neT hr) (C8.pe_mt (met_Client_reach T) hr (by decide) (pv 0) (pa_cons (C8.pe_mt0 (met_Node_answers T) hr (by decide) (pv 1)) (pa_cons (pv 5) (pa_cons (pv 2) pa_nil)))) (pe_tup (pa_cons pe_str (pa_cons pe_str (pa_cons (pv 5) pa_nil)))) (nomark _)) (pss_one (ps_ret pe_bl)) pss_nil)
      (pss_one (ps_if (pt_cmpR (op_neT hr) (C8.pe_mt (met_Client_follow T) hr (by decide) (pv 0) (pa_cons (C8.pe_mt0 (met_Node_answers T) hr (by decide) (pv 1)) (pa_cons (pe_lst (pa_cons (pv 4) (pa_cons (pv 5) pa_nil))) (pa_cons (pv 2) pa_nil)))) (pe_tup (pa_cons pe_str (pa_cons pe_str (pa_cons (pv 5) pa_nil)))) (nomark _)) (pss_one (ps_ret pe_bl)) pss_nil))) pss_nil)))
      (pss_one (ps_ret (pe_and (pe_cmpR (op_eqS hr) (C8.pe_mt (met_Client_reach T) hr (by decide) (pv 0) (pa_cons pe_dnewK (pa_cons (pv 4) (pa_cons (pv 2) pa_nil)))) (pe_tup (pa_cons pe_str pa_nil)) (nomark _)) (pe_one (pe_cmpR (op_eqS hr) (pe_lst (pa_cons (C8.pe_mt0 (met_Client_heights T) hr (by decide) (pv 0)) (pa_cons (pe_callB call_len_seq (by rfl) T.b_len (by decide +kernel) (pa_cons (pe_fld (pv 0) rfl) pa_nil)) pa_nil))) (pv 3) (nomark _))))))))), ?_⟩
  have EB : Sl K B [some (.adr x), some (nodD n), some (nD now), none, none, none] _ := Sl.start (N := n_law_stays) (.cons (d := .adr x) rfl (.cons rN (.cons rn .nil)))
  have E := EB.ext cx.ce.ext
  have hnn : srtN (c.tr.map (·.1)) ≠ [] := fun z => by
    rw [z] at hlo
    cases hlo
  have nnb := nok.ne
  have nnl := nok.le
  obtain ⟨z0, hz0⟩ : ∃ z, n.bs[0]? = some z := ⟨_, List.getElem?_eq_getElem (by omega)⟩
  refine s_asgN (ds := keptD c) E (gn_lst (ds := keptD c) (ga_cons (gn_meth (gv_view (gv_var E rfl) cx.view) rfl ga_nil (ok_hts ⟨n.w, p, d, c⟩ hlen)).gv (ga_cons ((gv_lenL (gv_Cl_steps T (gv_view (gv_var E rfl) cx.view))).is (by rw [List.length_map])) ga_nil)) (by show 2 ≤ 100000; decide)) fun pb bs H1 hpb e1 hb1 rb1 _ => ?_
  have cx1 := (cx.mono e1).wide
  have b1 := (cx.mono e1).ehid
  generalize eW1 : hide (clL x dx pT pS) H1 = W1 at cx1 b1
  have rbW : Rp K W1 (.lst (keptD c)) (.ref pb) := by
    obtain ⟨y1, _, i1, q1, y2, _, i2, q2, i3⟩ := id rb1
    obtain ⟨q, zs, rfl, hq1, hq2⟩ := id q1
    have hp : pb ∉ clL x dx pT pS := fun ha => by
      obtain ⟨o, ho⟩ := cx.hok.some ha
      rw [hpb] at ho
      cases ho
    have hq := ints_out (cx.mono e1) hq1 hq2 hnn
    rw [← eW1]
    have g1 := (cx.mono e1).gr T
    refine ⟨pb, bs, rfl, by rw [hide_out hp]; exact hb1, ?_⟩
    rw [i1, i2, i3]
    refine .cons ⟨q, zs, rfl, by rw [hide_out hq]; exact hq1, hq2.gr g1 _ (pus_iff.mpr fun d hd => ?_)⟩ (.cons q2 .nil)
    obtain ⟨n, _, rfl⟩ := List.mem_map.mp hd
    trivial
  have E1B := (EB.ext b1).set (i := 3) (d := .adr pb) (v := .ref pb) rfl
  have E1 := E1B.ext cx1.ce.ext
  refine s_asg (d := nD lo) E1 (gv_ixLN (gv_ixLN (d := .lst ((srtN (c.tr.map (·.1))).map nD)) (gv_view (gv_var (i := 3) E1 rfl) (rbW.ext cx1.ce.ext)) (gv_nat 0) rfl) (gv_nat 0) (by rw [List.getElem?_map, hlo]; rfl)) fun v4 H2 e2 r4 _ => ?_
  have E2B := E1B.set (i := 4) (d := nD lo) (v := v4) r4
  have cx2 := cx1.mono e2
  have E2 := E2B.ext cx2.ce.ext
  have rchH : ∀ (A : List (Nat × BkA)) (j : Nat), lk c.tr j = none → rch ⟨n.w, n.L, p, d, now, A⟩ c j = (some (("halted" : Str), j), c) := fun A j hj => by
    unfold rch
    rw [hj, if_neg (by decide)]
    have e : sfF c j = some ("halted" : Str) := by rw [sfF, if_pos hal]
    rw [e]
  refine s_forR1 (j := 5) (n := n.bs.length - 1 + 2) (ga_cons (gv_addN (gv_meth (gv_var (i := 1) E2 rfl) rfl ga_nil (ok_nh nnb)) (gv_nat 2)) ga_nil) (by omega) (fun i σ' H' => ∃ W, Ext W1 W ∧ ClAt K W H' x n.w p d c ∧ Sl K W1 [some (.adr x), some (nodD n), some (nD now), some (.adr pb), some (nD lo), none] σ') (fun H3 e3 => ⟨W1, Ext.rfl', ⟨dx, pT, pS, u1, u2, m, xs, cx2.mono e3⟩, E2B⟩) ?_ ?_
  · rintro i σ' H' hi ⟨W, eW, ⟨dx, pT, pS, u1, u2, m, xs, cx⟩, EB'⟩
    have EBi := EB'.set (i := 5) (d := nD i) (v := .int ((i : Nat) : Int)) rfl
    have Ei := (EBi.ext eW).ext cx.ce.ext
    have done : ∀ {H2 : Hp} {W2 : Hp}, Ext W1 W2 → ClAt K W2 H2 x n.w p d c → ∃ W, Ext W1 W ∧ ClAt K W H2 x n.w p d c ∧ Sl K W1 [some (.adr x), some (nodD n), some (nD now), some (.adr pb), some (nD lo), none] (σ'.set 5 (some (.int ((i : Nat) : Int)))) := fun {H2 W2} e h => ⟨W2, e, h, EBi.wk ⟨.inr rfl, .inr rfl, .inr rfl, .inr rfl, .inr rfl, .inl rfl, trivial⟩⟩
    cases q : lk c.tr i with
    | some z =>
      refine s_if Ei (gt_test (gv_isNA (w := 0) (Gv.is (d' := bkA z) (gv_meth (gv_view (gv_var Ei rfl) cx.view) rfl (ga_cons (gv_var Ei rfl) ga_nil) (ok_cb ⟨n.w, p, d, c⟩)) (by show opD bkA (lk c.tr i) = bkA z; rw [q]; rfl)))) (fun z => nomatch z) fun _ H3 e3 E3 => ?_
      exact s_nop (done eW ⟨dx, pT, pS, u1, u2, m, xs, cx.mono e3⟩)
    | none =>
      refine s_if Ei (gt_test (gv_isN (x := .non) (Gv.is (d' := .non) (gv_meth (gv_view (gv_var Ei rfl) cx.view) rfl (ga_cons (gv_var Ei rfl) ga_nil) (ok_cb ⟨n.w, p, d, c⟩)) (by show opD bkA (lk c.tr i) = .non; rw [q]; rfl)) rfl)) (fun _ H3 e3 E3 => ?_) fun z => nomatch z
      have cx3 := cx.mono e3
      refine s_ifMD (emb := bkA) (l := ansL z0 n.bs) E3 rfl cx3.ce.at_ (by exact lookup_zip_none (fs := fCl) (by decide +kernel)) (gad_cons (gd_ans z0 (by omega) (gv_var (i := 1) E3 rfl)) (ga_cons (gv_var E3 rfl) (ga_cons (gv_var E3 rfl) ga_nil))) fun pD mD vs H4 hpD e4 hD kD r4 Q' hQ => ?_
      obtain ⟨vb, _, rfl, rvb, vc, _, rfl, rvc, rfl⟩ := r4
      have rD := new_dk T cx3 e4 hpD hD kD
      have cx4 := (cx3.mono e4).wide
      have b4 := (cx3.mono e4).ehid
      refine ⟨_, ⟨x, c, ⟨n.w, n.L, p, d, now, ansL z0 n.bs⟩, i⟩, _, vb, vc, ⟨⟨fun j y hj => ?_⟩, ⟨trk⟩, by show c.tr.length + i ≤ 50000; omega, by show c.st.length + i ≤ 50000; omega⟩, rfl, ⟨dx, pT, pS, u1, u2, m, xs, cx4⟩, rD, rvb, rvc, fun v5 B5 H5 e5 cl5 r5 => ?_⟩
      · rw [ansL_lk] at hj
        exact nok.ok _ _ hj
      dsimp only at cl5 r5 e5
      rw [rchH _ _ q] at cl5 r5
      obtain ⟨dx, pT, pS, u1, u2, m, xs, cx5⟩ := cl5
      dsimp only at cx5 r5
      have eW5 := (eW.trans b4).trans e5
      have E5 := (EBi.ext eW5).ext cx5.ce.ext
      refine (gv_tup (K := K) (ds := [.str "refused", .str "halted", nD i]) (ga_cons gv_str (ga_cons gv_str (ga_cons (gv_var E5 rfl) ga_nil))) (by simp)) H5 Ext.rfl' _ fun w6 H6 e6 r6 => ?_
      refine ⟨_, _, ⟨(r5.ext cx5.ce.ext).ext e6, r6⟩, .inl ⟨rfl, rfl, by show max 0 (max 0 (max 0 0)) ≤ 50; decide, hQ _ ?_⟩⟩
      have cx6 := cx5.mono e6
      have E6 := E5.ext e6
      refine s_nop ?_
      refine s_if E6 (gt_test (gv_neT (ds := [.str "refused", .str "halted", nD i]) rfl (by show max 0 (max 0 (max 0 0)) ≤ 50; decide) (Gv.is (gv_meth (gv_view (gv_var E6 rfl) cx6.view) rfl (ga_cons (GvDN.gv (gd_ans z0 (by omega) (gv_var (i := 1) E6 rfl))) (ga_cons (gn_lst (ga_cons (gv_var E6 rfl) (ga_cons (gv_var E6 rfl) ga_nil)) (by simp)).gv (ga_cons (gv_var E6 rfl) ga_nil))) (spD_ok (K := K) (⟨⟨n.w, p, d, c⟩, ansL z0 n.bs, lo, i, now⟩ : FoA) ⟨hal, by show (lk c.tr lo).isSome = true; rw [hb]; rfl, by show (lk c.tr i).isSome = false; rw [q]; rfl, by show c.tr.length ≤ 50000; omega⟩)) rfl) (gv_tup (ga_cons gv_str (ga_cons gv_str (ga_cons (gv_var E6 rfl) ga_nil))) (by simp)))) (fun z => nomatch z) fun _ H7 e7 E7 => ?_
      exact s_nop (done eW5 ⟨dx, pT, pS, u1, u2, m, xs, cx6.mono e7⟩)
  · rintro σ' H' ⟨W, eW, ⟨dx, pT, pS, u1, u2, m, xs, cx⟩, EB'⟩
    have Ei := (EB'.ext eW).ext cx.ce.ext
    refine s_retAndMD (emb := bkA) (l := []) Ei rfl cx.ce.at_ (by exact lookup_zip_none (fs := fCl) (by decide +kernel)) (gad_cons gd_new (ga_cons (gv_var Ei rfl) (ga_cons (gv_var Ei rfl) ga_nil))) fun pD mD vs H4 hpD e4 hD kD r4 Q' hQ => ?_
    obtain ⟨vb, _, rfl, rvb, vc, _, rfl, rvc, rfl⟩ := r4
    have rD := new_dk T cx e4 hpD hD kD
    have cx4 := (cx.mono e4).wide
    have b4 := (cx.mono e4).ehid
    refine ⟨_, ⟨x, c, ⟨n.w, n.L, p, d, now, []⟩, lo⟩, _, vb, vc, ⟨⟨fun j y hj => ?_⟩, ⟨trk⟩, by show c.tr.length + lo ≤ 50000; omega, by show c.st.length + lo ≤ 50000; omega⟩, rfl, ⟨dx, pT, pS, u1, u2, m, xs, cx4⟩, rD, rvb, rvc, fun v5 B5 H5 e5 cl5 r5 => ?_⟩
    · cases hj
    dsimp only at cl5 r5 e5
    have er : rch ⟨n.w, n.L, p, d, now, []⟩ c lo = (none, c) := by
      unfold rch
      rw [hb]
      rfl
    rw [er] at cl5 r5
    obtain ⟨dx, pT, pS, u1, u2, m, xs, cx5⟩ := cl5
    dsimp only at cx5 r5
    have eW5 := (eW.trans b4).trans e5
    have E5 := (EB'.ext eW5).ext cx5.ce.ext
    refine (gv_tup (K := K) (ds := [.str "trusted"]) (ga_cons gv_str ga_nil) (by simp)) H5 Ext.rfl' _ fun w6 H6 e6 r6 => ?_
    refine ⟨_, rfl, by show max 0 0 ≤ 50; decide, .inr ⟨(r5.ext cx5.ce.ext).ext e6, r6⟩, hQ _ ?_⟩
    have cx6 := cx5.mono e6
    have E6 := E5.ext e6
    refine (gv_eqS (ds := keptD c) (kept_det c) (kept_dep c) (gn_lst (ds := keptD c) (ga_cons (gn_meth (gv_view (gv_var E6 rfl) cx6.view) rfl ga_nil (ok_hts ⟨n.w, p, d, c⟩ hlen)).gv (ga_cons ((gv_lenL (gv_Cl_steps T (gv_view (gv_var E6 rfl) cx6.view))).is (by rw [List.length_map])) ga_nil)) (by show 2 ≤ 100000; decide)).gv (gv_view (gv_var (i := 3) E6 rfl) (((rbW.ext eW5).ext cx5.ce.ext).ext e6))) H6 Ext.rfl' _ fun v7 H7 e7 r7 => ?_
    have ev : v7 = .bl true := r7
    subst ev
    exact k H7
end
end K38

set_option Elab.async false
set_option linter.all false
set_option maxRecDepth 100000
set_option maxHeartbeats 4000000
namespace K38
open PySem PySem.Spec PyProof.Rows L2
/-! ### what a reach of a fresh client leaves -/
theorem putN_nd {α : Type} {l : List (Nat × α)} {k : Nat} {a : α} (h : (l.map (·.1)).Nodup) : ((putN l k a).map (·.1)).Nodup := by
  by_cases q : (l.any fun p => decide (p.1 = k)) = true
  · unfold putN
    rw [if_pos q, List.map_map]
    have e : l.map ((fun p : Nat × α => p.1) ∘ fun p => if p.1 = k then (p.1, a) else p) = l.map (·.1) := List.map_congr_left fun p _ => by
      show (if p.1 = k then (p.1, a) else p).1 = p.1
      split <;> rfl
    rw [e]
    exact h
  · have hn : k ∉ l.map (·.1) := fun hm => q (by
      obtain ⟨p, hp, e⟩ := List.mem_map.mp hm
      exact List.any_eq_true.mpr ⟨p, hp, decide_eq_true e⟩)
    rw [putN_new hn, List.map_append]
    refine List.nodup_append.mpr ⟨h, by simp, fun x hx b hb => ?_⟩
    simp at hb
    subst hb
    exact fun z => hn (z ▸ hx)
theorem lk_key {α : Type} : ∀ {l : List (Nat × α)} {k : Nat}, (lk l k).isSome = true ↔ k ∈ l.map (·.1)
  | [], k => by simp [lk]
  | p :: l, k => by
    rw [lk_cons, List.map_cons, List.mem_cons]
    by_cases e : p.1 = k
    · rw [if_pos e]
      exact ⟨fun _ => .inl e.symm, fun _ => rfl⟩
    · rw [if_neg e, lk_key]
      exact ⟨.inr, fun h => h.resolve_left fun z => e z.symm⟩
theorem Stk.le {h bh n t : Nat} {st : List Nat} (s : Stk h bh (t :: st) n) : t ≤ h := by
  have p := (List.pairwise_cons.mp s.asc).2
  cases st with
  | nil =>
    have := s.last
    simp at this
    omega
  | cons u st =>
    have := asc_len (st := u :: st) (b := t) (h := h) (by rw [← s.last, List.getLast?_cons_cons]) p
    omega
structure Top (h : Nat) (st : List Nat) (m : Nat) (c : CSt) (o : Res × CSt) : Prop where
  al : o.1 = none → ∀ t ∈ st, (lk o.2.tr t).isSome = true
  old : ∀ k, (lk c.tr k).isSome = true → (lk o.2.tr k).isSome = true
  le : ∀ k, (lk o.2.tr k).isSome = true → (lk c.tr k).isSome = true ∨ k ≤ h
  tl : o.2.tr.length ≤ c.tr.length + m
  sl : o.2.st.length ≤ c.st.length + m
  nd : (o.2.tr.map (·.1)).Nodup
theorem rgo_top {r : RP} {h : Nat} : ∀ (m : Nat) (c : CSt) (b : BkA) (st : List Nat), (st ≠ [] → Stk h b.2.h.ht st m) → (c.tr.map (·.1)).Nodup → Top h st m c (rgo r m c b st)
  | 0, c, b, [], _, hn => ⟨fun _ t ht => (nomatch ht), fun k h => h, fun k h => .inl h, Nat.le_refl _, Nat.le_refl _, hn⟩
  | 0, c, b, t :: st, s, hn => absurd ((s (by simp)).pos (by simp)).1 (by decide)
  | m + 1, c, b, [], _, hn => ⟨fun _ t ht => (nomatch ht), fun k h => h, fun k h => .inl h, Nat.le_add_right _ _, Nat.le_add_right _ _, hn⟩
  | m + 1, c, b, t :: st, s, hn => by
    have s := s (by simp)
    unfold rgo
    cases q : clF r.w r.L r.p r.d b.2 (lk r.A t) t r.now with
    | some f =>
      dsimp only
      by_cases hf : f = "overlap"
      · rw [if_pos hf]
        rw [hf] at q
        have g := rgo_top (r := r) (h := h) m c b ((b.2.h.ht + t) / 2 :: t :: st) (fun _ => s.push (clF_over q)) hn
        exact ⟨fun e u hu => g.al e u (List.mem_cons_of_mem _ hu), g.old, g.le, by have := g.tl; omega, by have := g.sl; omega, g.nd⟩
      · rw [if_neg hf]
        exact ⟨fun e => (nomatch e), fun k h => h, fun k h => .inl h, Nat.le_add_right _ _, Nat.le_add_right _ _, hn⟩
    | none =>
      dsimp only
      obtain ⟨y, hy, hyt⟩ := clF_none q
      rw [hy]
      dsimp only
      have hn2 : ((stepC c b y).tr.map (·.1)).Nodup := putN_nd hn
      have g := rgo_top (r := r) (h := h) m (stepC c b y) y st (fun hne => by
        cases st with
        | nil => exact absurd rfl hne
        | cons u st =>
          rw [hyt]
          exact s.pop) hn2
      have hlk : ∀ k, lk (stepC c b y).tr k = if k = t then some y else lk c.tr k := fun k => by
        show lk (putN c.tr y.2.h.ht y) k = _
        rw [lk_put, hyt]
      refine ⟨fun e u hu => ?_, fun k hk => g.old k ?_, fun k hk => ?_, ?_, ?_, g.nd⟩
      · rcases List.mem_cons.mp hu with rfl | hu
        · exact g.old _ (by rw [hlk, if_pos rfl]; rfl)
        · exact g.al e u hu
      · rw [hlk]
        split
        · rfl
        · exact hk
      · rcases g.le k hk with h1 | h1
        · rw [hlk] at h1
          split at h1
          · rename_i e
            exact .inr (by rw [e]; exact s.le)
          · exact .inl h1
        · exact .inr h1
      · have h1 := g.tl
        have h2 : (stepC c b y).tr.length ≤ c.tr.length + 1 := putN_len
        omega
      · have h1 := g.sl
        have h2 : (stepC c b y).st.length = c.st.length + 1 := by
          show (c.st ++ [_]).length = _
          rw [List.length_append]
          rfl
        omega
theorem stk0 {bh h : Nat} (hb : bh < h) : Stk h bh [h] (2 * (h - bh) + 2) := ⟨rfl, List.pairwise_cons.mpr ⟨fun y hy => by rw [List.mem_singleton.mp hy]; exact hb, by simp⟩, by simp⟩
theorem rch_one {r : RP} {b : BkA} {h : Nat} (hb : b.2.h.ht < h) : rch r (c1st b) h = rgo r (2 * (h - b.2.h.ht) + 2) (c1st b) b [h] := by
  have h1 : lk (c1st b).tr h = none := by
    show lk [(b.2.h.ht, b)] h = none
    rw [lk_cons, if_neg (by omega)]
    rfl
  have hk : bsK (c1st b).tr h = [b.2.h.ht] := by
    show (([(b.2.h.ht, b)] : List (Nat × BkA)).map (·.1)).filter _ = _
    simp [hb]
  have h2 : bsF (c1st b).tr h = some b := by
    unfold bsF
    rw [hk, if_neg (by simp)]
    show lk [(b.2.h.ht, b)] (max b.2.h.ht 0) = some b
    rw [lk_cons, if_pos (by omega)]
  have h3 : sfF (c1st b) h = none := by
    unfold sfF
    rw [h2]
    rfl
  unfold rch
  rw [h1, if_neg (by decide), h3]
  dsimp only
  rw [h2]
theorem Run.up {w L p d now : Nat} : ∀ {b : BkA} {st : List (Nat × BkA)}, Run w L p d now b st → ∀ s ∈ st, b.2.h.ht < s.2.2.h.ht
  | _, _, .nil _, _, h => nomatch h
  | b, _, .cons h1 h2 h3, s, hs => by
    have h := stF_none h1
    rcases List.mem_cons.mp hs with rfl | hs
    · exact h
    · exact Nat.lt_trans h (h3.up s hs)
theorem low_first {l : List Nat} {a : Nat} (hn : l.Nodup) (ha : a ∈ l) (hl : ∀ k ∈ l, k ≠ a → a < k) : (srtN l)[0]? = some a ∧ ∀ (i : Nat) b, (srtN l)[i + 1]? = some b → b ∈ l ∧ a < b := by
  have hp := srtN_perm l
  have hs := srtN_sorted l
  cases q : srtN l with
  | nil =>
    rw [q] at hp
    exact absurd (hp.mem_iff.mpr ha) (by simp)
  | cons x r =>
    rw [q] at hp hs
    have hx : x ∈ l := hp.mem_iff.mp (by simp)
    have ex : x = a := by
      by_cases e : x = a
      · exact e
      · have h1 := hl x hx e
        have h2 : a ∈ x :: r := hp.mem_iff.mpr ha
        rcases List.mem_cons.mp h2 with h2 | h2
        · exact h2.symm
        · have := (List.pairwise_cons.mp hs).1 a h2
          omega
    subst ex
    refine ⟨rfl, fun i b hb => ?_⟩
    have hb2 : b ∈ r := List.mem_of_getElem? (by simpa using hb)
    have hbl : b ∈ l := hp.mem_iff.mp (List.mem_cons_of_mem _ hb2)
    have hnd : (x :: r).Nodup := hp.nodup_iff.mpr hn
    exact ⟨hbl, hl b hbl fun e => (List.nodup_cons.mp hnd).1 (e ▸ hb2)⟩
structure Rd (r : RP) (b : BkA) (h : Nat) (c : CSt) : Prop where
  hal : c.hal = false
  run : Run r.w r.L r.p r.d r.now b c.st
  nd : (c.tr.map (·.1)).Nodup
  tl : c.tr.length ≤ 2 * (h - b.2.h.ht) + 3
  sl : c.st.length ≤ 2 * (h - b.2.h.ht) + 2
  lo : lk c.tr b.2.h.ht = some b
  tr : ∀ k z, lk c.tr k = some z → (k = b.2.h.ht ∧ z = b) ∨ (b.2.h.ht < k ∧ k ≤ h ∧ (∃ s ∈ c.st, s.2 = z) ∧ z.2.h.ht = k)
theorem rch_rd {r : RP} (hr : r.Ok) {b : BkA} {h : Nat} (hb : b.2.h.ht < h) : Rd r b h (rch r (c1st b) h).2 ∧ ((rch r (c1st b) h).1 = none → (lk (rch r (c1st b) h).2.tr h).isSome = true) := by
  rw [rch_one hb]
  obtain ⟨new, g⟩ := rgo_run hr (2 * (h - b.2.h.ht) + 2) (c1st b) b [h]
  have t := rgo_top (r := r) (h := h) (2 * (h - b.2.h.ht) + 2) (c1st b) b [h] (fun _ => stk0 hb) (by show ([b.2.h.ht] : List Nat).Nodup; simp)
  generalize rgo r (2 * (h - b.2.h.ht) + 2) (c1st b) b [h] = R at g t
  have est : R.2.st = new := g.st
  have htr : ∀ k z, lk R.2.tr k = some z → (k = b.2.h.ht ∧ z = b) ∨ (b.2.h.ht < k ∧ k ≤ h ∧ (∃ s ∈ new, s.2 = z) ∧ z.2.h.ht = k) := fun k z hk => by
    rcases g.tr k z hk with h1 | ⟨⟨s, hs, e⟩, h2⟩
    · obtain ⟨e1, e2⟩ := lk_one h1
      exact .inl ⟨e1.symm, e2.symm⟩
    · have h3 := g.run.up s hs
      rw [e, h2] at h3
      refine .inr ⟨h3, ?_, ⟨s, hs, e⟩, h2⟩
      rcases t.le k (by rw [hk]; rfl) with h4 | h4
      · obtain ⟨z2, h5⟩ := Option.isSome_iff_exists.mp h4
        obtain ⟨e1, _⟩ := lk_one h5
        omega
      · exact h4
  refine ⟨⟨g.hal, by rw [est]; exact g.run, t.nd, ?_, ?_, ?_, ?_⟩, fun e => t.al e h (by simp)⟩
  · have := t.tl
    show _ ≤ _
    have e : (c1st b).tr.length = 1 := rfl
    omega
  · have := t.sl
    have e : (c1st b).st.length = 0 := rfl
    omega
  · have h1 := g.old b.2.h.ht (by
      show (lk [(b.2.h.ht, b)] b.2.h.ht).isSome = true
      rw [lk_cons, if_pos rfl]
      rfl)
    obtain ⟨z, hz⟩ := Option.isSome_iff_exists.mp h1
    rcases htr _ _ hz with ⟨_, e⟩ | ⟨h2, _⟩
    · rw [hz, e]
    · omega
  · rw [est]
    exact htr
theorem Rd.known {r : RP} {b : BkA} {h : Nat} {c : CSt} (g : Rd r b h c) (hs : (lk c.tr h).isSome = true) (hb : b.2.h.ht < h) : (srtN (c.tr.map (·.1)))[0]? = some b.2.h.ht ∧ 2 ≤ (srtN (c.tr.map (·.1))).length ∧ ∀ (i : Nat) a, (srtN (c.tr.map (·.1)))[i + 1]? = some a → b.2.h.ht < a ∧ a ≤ h ∧ ∃ z, lk c.tr a = some z ∧ z.2.h.ht = a ∧ ∃ s ∈ c.st, s.2 = z := by
  have hin : b.2.h.ht ∈ c.tr.map (·.1) := lk_key.mp (by rw [g.lo]; rfl)
  obtain ⟨h1, h2⟩ := low_first g.nd hin fun k hk hne => by
    obtain ⟨z, hz⟩ := Option.isSome_iff_exists.mp (lk_key.mpr hk)
    rcases g.tr _ _ hz with ⟨e, _⟩ | ⟨e, _⟩
    · exact absurd e hne
    · exact e
  refine ⟨h1, ?_, fun i a ha => ?_⟩
  · have h3 : h ∈ srtN (c.tr.map (·.1)) := (srtN_perm _).mem_iff.mpr (lk_key.mp hs)
    obtain ⟨i, hi, e⟩ := List.getElem_of_mem h3
    have h4 : i ≠ 0 := fun z => by
      subst z
      rw [List.getElem?_eq_getElem hi, e] at h1
      cases h1
      omega
    omega
  · obtain ⟨h3, h4⟩ := h2 i a ha
    obtain ⟨z, hz⟩ := Option.isSome_iff_exists.mp (lk_key.mpr h3)
    rcases g.tr _ _ hz with ⟨e, _⟩ | ⟨e1, e2, e3, e4⟩
    · omega
    · exact ⟨e1, e2, z, hz, e4, e3⟩
end K38

set_option Elab.async false
set_option linter.all false
set_option maxRecDepth 100000
set_option maxHeartbeats 4000000
namespace K38
open PySem PySem.Spec PyProof.Rows L2
theorem lcor_sub {x : Nat} {ss : List Sgn} : List.Sublist (lcor x ss) ss := by
  unfold lcor
  split
  · exact List.take_sublist _ _
  · exact List.filter_sublist
theorem lcor_ne {x : Nat} {ss : List Sgn} (h : ss ≠ []) : lcor x ss ≠ [] := by
  unfold lcor
  split
  · cases ss with
    | nil => exact absurd rfl h
    | cons a r => simp
  · assumption
theorem cx2_of {a : LnA} (h : LnOk a) {n : Nod} {ps : List Prs2} (g : LnI a a.n n ps) (x : Nat) : Cx2 n (lcor x a.ss) := by
  have hlen := g.len
  have h10 := h.n10
  refine ⟨g.c, by omega, fun j z hz => ?_, fun j z hz => g.vl z (List.mem_of_getElem? hz), lcor_ne h.ne, (lcor_sub.map Sgn.pub).nodup h.nd, Nat.le_trans lcor_sub.length_le h.sl, fun s hs => ?_⟩
  · have h1 := g.tm j z hz
    have h2 := (List.getElem?_eq_some_iff.mp hz).1
    omega
  · obtain ⟨h1, h2, h3⟩ := h.ok s (lcor_sub.subset hs)
    exact ⟨h1, h2.trans g.w.symm, h3.trans g.L.symm⟩
theorem ln_law {w x bl cnt : Nat} {cs : List Int} (hw : WOk w) (hbl : bl ≤ 5) (h1 : 1 ≤ cnt) (h2 : cnt ≤ 10) (hcs : 3 ≤ cs.length) : LnOk ⟨w, 2 + (if 3 < bl then 1 else 0), cs, lsg w x bl cnt, bl⟩ := by
  refine ⟨hw, hcs, lsg_ne h1, lsg_nd w x bl cnt, by have := lsg_len w x bl cnt; show (lsg w x bl cnt).length ≤ 60; omega, fun s hs => ?_, ?_, by show bl ≤ 10; omega⟩
  · obtain ⟨k, hk, rfl⟩ := lsg_all cnt s hs
    exact ⟨sgAt_ok hw (by omega), rfl, rfl⟩
  · show bl < 2 ^ (2 + (if 3 < bl then 1 else 0))
    split
    · show bl < 8
      omega
    · show bl < 4
      omega
section
variable {n : Nod} {d now : Nat} {z0 b z y : BkA} {asked : Nat}
theorem cl_of (hb : n.bs[b.2.h.ht]? = some b) : CL n b.2 := ⟨b, hb, rfl, rfl, rfl⟩
theorem hon_told (c : Chn n) (hb : n.bs[b.2.h.ht]? = some b) (h1 : now < 1000) (h2 : ∀ (i : Nat) z, n.bs[i]? = some z → z.2.h.tm ≤ now) (hlt : b.2.h.ht < asked) (hy : n.bs[asked]? = some y) (hne : y.2.h ≠ z.2.h) : ∃ st, askW ⟨n.w, n.L, 1000, d, now, ansL z0 n.bs⟩ b z asked = .fork st ∧ jssF n st = none ∧ JssOk n st ∧ ∀ s ∈ st, n.bs[s.2.2.h.ht]? = some s.2 := by
  have hok : RP.Ok ⟨n.w, n.L, 1000, d, now, ansL z0 n.bs⟩ := ⟨fun k y hk => by
    rw [ansL_lk] at hk
    exact c.ok.ok _ _ hk⟩
  have hal := (List.getElem?_eq_some_iff.mp hy).1
  have hle := c.ok.le
  obtain ⟨rd, _⟩ := rch_rd hok (b := b) (h := asked) hlt
  have e := rch_one (r := ⟨n.w, n.L, 1000, d, now, ansL z0 n.bs⟩) hlt
  obtain ⟨q1, new, q2, q3⟩ := rgo_hon c (r := ⟨n.w, n.L, 1000, d, now, ansL z0 n.bs⟩) rfl rfl rfl (fun k => ansL_lk) h1 h2 (h := asked) hal (2 * (asked - b.2.h.ht) + 2) (c1st b) b b.2.h.ht [asked] hb fun _ => stk0 hlt
  rw [← e] at q1 q2
  have q2' : (rch ⟨n.w, n.L, 1000, d, now, ansL z0 n.bs⟩ (c1st b) asked).2.st = new := q2
  refine ⟨new, ?_, jss_hon c q3, jss_pre c.good (by rw [← q2']; exact rd.run) (cl_of hb) ?_, fun s hs => ?_⟩
  · unfold askW
    have hl : lk (ansL z0 n.bs) asked = some y := by rw [ansL_lk, hy]
    dsimp only
    rw [hl]
    dsimp only
    rw [if_neg hne, q1]
    dsimp only
    rw [q2']
  · rw [← q2']
    have := rd.sl
    omega
  · obtain ⟨j, hj⟩ := q3 s hs
    rw [c.ht _ _ hj]
    exact hj
theorem own_verd (c : Chn n) (hb : n.bs[b.2.h.ht]? = some b) {p : Nat} {st : List (Nat × BkA)} (hr : Run n.w n.L p d now b st) (hl : st.length ≤ 50000) (hy : n.bs[asked]? = some y) (hz : z.2.h.ht = asked) (hs : ∃ s ∈ st, s.2 = z) (hne : y.2.h ≠ z.2.h) : ∃ v, jssF n st = some v ∧ VdOk n v ∧ JssOk n st := by
  obtain ⟨s, hs, e⟩ := hs
  obtain ⟨v, h1, h2⟩ := jss_ok c.good hr (cl_of hb) ⟨s, hs, by
    rw [e]
    unfold ownF
    rw [hz, hy]
    exact decide_eq_false hne⟩
  exact ⟨v, h1, h2, jss_pre c.good hr (cl_of hb) hl⟩
end
end K38

set_option Elab.async false
set_option linter.all false
set_option maxRecDepth 100000
set_option maxHeartbeats 4000000
namespace K38
open PySem PySem.Spec PyProof.Rows L2
open PySem.W (Datum Tup)
local macro_rules | `(tactic| walk_at "gv1") => `(tactic| first | exact gv_int | exact gv_str | exact gv_non | exact gv_bl | (refine gv_var (by assumption) ?_; exact rfl) | refine gv_I0 ?_ ?_ | refine gv_Ib ?_ ?_ | refine gv_eqI ?_ ?_ | refine gv_neI ?_ ?_ | refine gt_test ?_ | refine gt_B ?_ | exact ga_nil | refine ga_cons ?_ ?_)
local macro_rules | `(tactic| walk_at "gv") => `(tactic| repeat walk_at "gv1")

theorem lcl_len {ns : List Int} {n : Nat} : (lcl ns n).length = ns.length + (n - ns.length) := by
  unfold lcl
  rw [List.length_append, List.length_map, List.length_range]
section
variable {P : Program} {w : World} {K : PySem.W.Frag} {mg : Str → Option Value} {base : Heap} {B H : Hp} {σ : L2.St} {ta te tb tl tv tk tx : TE} {tA : TA} {tt : TT} {G : Sg} {nx : L2.St → Hp → Prop} {rt : V → Hp → Prop} {bk ct : L2.St → Hp → Prop}
def GvDA {α : Type} (K : PySem.W.Frag) (ta : TA) (σ : L2.St) (H : Hp) (d0 : D) (emb : α → D) (l : List (Nat × α)) (ds : List D) : Prop := ∀ H1, Ext H H1 → ∀ Q : List V → Hp → Prop, (∀ v p m vs H2, H1 p = none → Ext H1 H2 → Rp K H2 d0 v → H2 p = some (.dK m) → KR K H2 emb l m → Rps K H2 ds vs → Q (v :: .ref p :: vs) H2) → ta σ H1 Q
theorem gda_cons {α : Type} {emb : α → D} {l : List (Nat × α)} {d0 : D} {ds : List D} (h : Gv K te σ H d0) (hs : GvAD K tA σ H emb l ds) : GvDA K (tCons te tA) σ H d0 emb l ds := fun H1 e Q q => h H1 e _ fun v H2 e2 r2 => hs H2 (e.trans e2) _ fun p m vs H3 hp e3 h3 k3 rs => q v p m vs H3 (fresh_back e2 hp) (e2.trans e3) (r2.ext e3) h3 k3 rs
theorem s_asgCallD {α : Type} {emb : α → D} {l : List (Nat × α)} {d0 : D} {sp : Sp} {E0' : XK} {tA : TA} {ds : List D} {i : Nat} (ha : GvDA K tA σ H d0 emb l ds) (k : ∀ v p m vs H1, H p = none → Ext H H1 → Rp K H1 d0 v → H1 p = some (.dK m) → KR K H1 emb l m → Rps K H1 ds vs → sp (v :: .ref p :: vs) H1 (fun v H2 => nx (σ.set i (some v)) H2) E0') : tAsg (tCall sp [] E0' tA) (gName i) ⟨nx, rt, bk, ct⟩ σ H :=
  ha H Ext.rfl' _ fun v p m vs H1 hp e r h1 k1 rs => by
    show sp ((v :: .ref p :: vs) ++ []) H1 _ E0'
    rw [List.append_nil]
    exact k v p m vs H1 hp e r h1 k1 rs
theorem s_ifM {c mm : Str} {sp : Sp} {E0' : XK} {i : Nat} {x dx : Addr} {fs : List (Str × V)} {tA : TA} {ds : List D} {r : R2} {tu tw : TS} (E : Sl K H G σ) (hi : G[i]? = some (some (.adr x))) (hx : H x = some (.ins (He.ga K c) dx fs)) (hm : fs.lookup mm = none) (ha : GvA K tA σ H ds)
    (k : ∀ vs H1, Ext H H1 → Rps K H1 ds vs → ∀ Q' : VK, (∀ H4, tu ⟨nx, rt, bk, ct⟩ σ H4 → Q' (.bl true) H4) → (∀ H4, tw ⟨nx, rt, bk, ct⟩ σ H4 → Q' (.bl false) H4) → sp (.ref x :: vs) H1 (fun v H2 => tb σ H2 fun w H3 => r v w H3 Q') E0') : tIfS (tTest (tOp r (tMeth (He.ga K c) mm sp [] E0' (tVar i) tA) tb)) tu tw ⟨nx, rt, bk, ct⟩ σ H := by
  obtain ⟨v, h1, h2⟩ := E.2 i _ hi
  have ev : v = .ref x := h2
  subst ev
  refine ⟨_, h1, x, dx, fs, rfl, hx, hm, ha H Ext.rfl' _ fun vs H1 e1 r1 => ?_⟩
  rw [List.append_nil]
  exact k vs H1 e1 r1 _ (fun H4 h => ⟨true, rfl, h⟩) fun H4 h => ⟨false, rfl, h⟩
theorem s_ifAndNotC {sp : Sp} {E0' : XK} {tA : TA} {ds : List D} {t : TT} {tu tw : TS} (ht : Gt t σ H true) (ha : GvA K tA σ H ds) (k : ∀ vs H1, Ext H H1 → Rps K H1 ds vs → ∀ Q' : VK, (∀ H4, tw ⟨nx, rt, bk, ct⟩ σ H4 → Q' (.bl true) H4) → sp vs H1 Q' E0') : tIfS (tAnd t (tNot (tB (tCall sp [] E0' tA)))) tu tw ⟨nx, rt, bk, ct⟩ σ H :=
  ht H Ext.rfl' _ fun H1 e1 => by
    show tA σ H1 fun vs H2 => sp (vs ++ []) H2 _ E0'
    refine ha H1 e1 _ fun vs H2 e2 r2 => ?_
    rw [List.append_nil]
    exact k vs H2 (e1.trans e2) r2 _ fun H4 h => ⟨true, rfl, h⟩
theorem s_retCall {sp : Sp} {E0' : XK} {tA : TA} {ds : List D} (ha : GvA K tA σ H ds) (k : ∀ vs H1, Ext H H1 → Rps K H1 ds vs → sp vs H1 rt E0') : tRet (tCall sp [] E0' tA) ⟨nx, rt, bk, ct⟩ σ H :=
  ha H Ext.rfl' _ fun vs H1 e r => by
    show sp (vs ++ []) H1 _ E0'
    rw [List.append_nil]
    exact k vs H1 e r
/-- what is seen outlives the client's changes -/
theorem seen_keep (T : Txt K mg) {x dx pT pS : Addr} {v1 v2 : V} {m : List (L2.Key × V)} {xs bs : List V} {w p d h : Nat} {c : CSt} {H1 : Hp} {pb : Addr} (cx : ClX K B H x dx pT pS v1 v2 m xs w p d c) (e1 : Ext H H1) (hpb : H pb = none) (hb1 : H1 pb = some (.lst bs)) (rb1 : Rps K H1 (seenD c h) bs) (hnn : srtN (c.tr.map (·.1)) ≠ []) : Rp K (hide (clL x dx pT pS) H1) (.lst (seenD c h)) (.ref pb) := by
  obtain ⟨y1, _, i1, q1, y2, _, i2, q2, y3, _, i3, q3, i4⟩ := id rb1
  obtain ⟨q, zs, rfl, hq1, hq2⟩ := id q1
  have hq := ints_out (cx.mono e1) hq1 hq2 hnn
  have hp : pb ∉ clL x dx pT pS := fun ha => by
    obtain ⟨o, ho⟩ := cx.hok.some ha
    rw [hpb] at ho
    cases ho
  have g1 := (cx.mono e1).gr T
  refine ⟨pb, bs, rfl, by rw [hide_out hp]; exact hb1, ?_⟩
  rw [i1, i2, i3, i4]
  refine .cons ⟨q, zs, rfl, by rw [hide_out hq]; exact hq1, hq2.gr g1 _ (pus_iff.mpr fun d hd => ?_)⟩ (.cons q2 (.cons (q3.gr g1 _ ?_) .nil))
  · obtain ⟨n, _, rfl⟩ := List.mem_map.mp hd
    trivial
  · cases lk c.tr h with
    | none => trivial
    | some z => exact (inferInstance : Pu (bkA z)).pu
theorem gv_Nd (T : Txt K mg) {xn : Addr} {n : Nod} {i : Nat} (E : Sl K H G σ) (h : G[i]? = some (some (.at xn (nodD n)))) : Gv K (tVar i) σ H (nodD n) := gv_un (gv_var E h)
abbrev n_law : List Str := ["_law_script", "_law_cells_here", "_law_x", "_law_hasher", "_law_blocks", "_law_signers_here", "_law_node_here", "_law_corrupt_here", "_law_answers", "_law_now", "_law_policy", "_law_first", "_law_client", "_law_height", "_law_known", "_law_asked", "_law_lying_here", "_law_before", "_law_told", "_law_verdict", "_law_start", "_law_block"]
theorem sc_law : FnScope n_law ["_law_script"] (defScope s_law) := ⟨rfl, rfl, rfl, by decide +kernel, rfl, by decide +kernel, by decide +kernel⟩
def spLaw (K : PySem.W.Frag) : Sp := fun vs H Q _ => ∃ (a : Addr) (ns : List Int), vs = [.ref a] ∧ SqL K H a (ns.map V.int) ∧ ns.length ≤ 63 ∧ ∀ H', Q (.bl true) H'
theorem fnk_law (T : Txt K mg) {fd : FuncData} (F : FunD K "law" "law" (defArgs s_law) (defBody s_law) (defScope s_law) [] [] (He.ga K "law") fd) : FnOk P w K mg base C8.CX0 21 (He.ga K "law") fd ["_law_script"] (spLaw K) := by
  refine fnD F sc_law (fun vs H Q E h => by obtain ⟨a, ns, rfl, _⟩ := h; rfl) (fun cdv A outer s H vs Q E hr h => ?_)
  obtain ⟨a, ns, rfl, hS, hnl, k⟩ := h
  refine ⟨_, (pss_cons (ps_set (i := 1) sc_law.nd rfl (Or.inl rfl) (C8.pe_c (cal_law_cells T) hr (by decide) rfl (pa_cons (pv 0) (pa_cons pe_int pa_nil))))
      (pss_cons (ps_set (i := 2) sc_law.nd rfl (Or.inl rfl) (C8.pe_c (cal_law_number T) hr (by decide) rfl (pa_cons (pe_ix (ix_list : IxR _ (rIxL K)) (pv 1) pe_int (fun _ _ => rfl)) (pa_cons pe_int pa_nil))))
      (pss_cons (ps_set (i := 3) sc_law.nd rfl (Or.inl rfl) (C8.pe_mk (mak_Hasher T) hr (by decide) rfl (pa_cons (pe_ix (ix_list : IxR _ (rIxL K)) (pe_lst (pa_cons pe_int (pa_cons pe_int (pa_cons pe_int (pa_cons pe_int (pa_cons pe_int (pa_cons pe_int pa_nil))))))) (pe_op op_mod (pe_callTy call_int1 (by rfl) T.b_int (by decide +kernel) (pa_cons (pv 2) pa_nil)) pe_int) (fun _ _ => rfl)) pa_nil)))
      (pss_cons (ps_set (i := 4) sc_law.nd rfl (Or.inl rfl) (pe_ix (ix_list : IxR _ (rIxL K)) (pe_lst (pa_cons pe_int (pa_cons pe_int (pa_cons pe_int (pa_cons pe_int (pa_cons pe_int (pa_cons pe_int pa_nil))))))) (pe_op op_mod (pe_op op_fdiv (pv 2) pe_int) pe_int) (fun _ _ => rfl)))
      (pss_cons (ps_set (i := 5) sc_law.nd rfl (Or.inl rfl) (C8.pe_c (cal_law_signers T) hr (by decide) rfl (pa_cons (pv 3) (pa_cons (pv 2) (pa_cons (pe_op op_add pe_int (pe_op op_mul (pe_op op_mod (pe_op op_fdiv (pv 2) pe_int) pe_int) (pe_callTy call_int1 (by rfl) T.b_int (by decide +kernel) (pa_cons (pe_op op_mod (pe_op op_fdiv (pv 2) pe_int) pe_int) pa_nil)))) (pa_cons (pv 4) pa_nil))))))
      (pss_cons (ps_set (i := 6) sc_law.nd rfl (Or.inl rfl) (C8.pe_c (cal_law_node T) hr (by decide) rfl (pa_cons (pv 3) (pa_cons (pv 1) (pa_cons (pv 5) (pa_cons (pv 4) pa_nil))))))
      (pss_cons (ps_set (i := 7) sc_law.nd rfl (Or.inl rfl) (C8.pe_c (cal_law_corrupt T) hr (by decide) rfl (pa_cons (pv 5) (pa_cons (pe_op op_fdiv (pv 2) pe_int) pa_nil))))
      (pss_cons (ps_set (i := 8) sc_law.nd rfl (Or.inl rfl) (C8.pe_c (cal_law_server T) hr (by decide) rfl (pa_cons (pv 6) (pa_cons (pv 7) (pa_cons (pv 1) (pa_cons pe_int pa_nil))))))
      (pss_cons (ps_set (i := 9) sc_law.nd rfl (Or.inl rfl) (pe_op op_add (pe_fld (pe_fld (C8.pe_mt (met_Node_block T) hr (by decide) (pv 6) (pa_cons (C8.pe_mt0 (met_Node_height T) hr (by decide) (pv 6)) pa_nil)) rfl) rfl) (pe_op op_mod (pe_op op_fdiv (pv 2) pe_int) pe_int)))
      (pss_cons (ps_set (i := 10) sc_law.nd rfl (Or.inl rfl) (C8.pe_mk (mak_Policy T) hr (by decide) rfl (pa_cons pe_int (pa_cons (pe_op op_mod (pe_op op_fdiv (pv 2) pe_int) pe_int) pa_nil))))
      (pss_cons (ps_set (i := 11) sc_law.nd rfl (Or.inl rfl) (pe_op op_mul (pe_op op_fdiv (pe_op op_mod (pe_op op_fdiv (pv 2) pe_int) pe_int) pe_int) (pe_op op_mod (pe_op op_fdiv (pv 2) pe_int) (pe_op op_add (C8.pe_mt0 (met_Node_height T) hr (by decide) (pv 6)) pe_int))))
      (pss_cons (ps_set (i := 12) sc_law.nd rfl (Or.inl rfl) (C8.pe_mk (mak_Client T) hr (by decide) rfl (pa_cons (pv 3) (pa_cons (pv 10) (pa_cons (C8.pe_mt (met_Node_block T) hr (by decide) (pv 6) (pa_cons (pv 11) pa_nil)) pa_nil)))))
      (pss_cons (ps_set (i := 13) sc_law.nd rfl (Or.inl rfl) (pe_op op_add (pe_op op_add (pv 11) pe_int) (pe_op op_mod (pe_op op_fdiv (pv 2) pe_int) (pe_op op_sub (pe_op op_add (C8.pe_mt0 (met_Node_height T) hr (by decide) (pv 6)) pe_int) (pv 11)))))
      (pss_cons (ps_if (pt_cmpR (op_neT hr) (C8.pe_mt (met_Client_reach T) hr (by decide) (pv 12) (pa_cons (pv 8) (pa_cons (pv 13) (pa_cons (pv 9) pa_nil)))) (pe_tup (pa_cons pe_str pa_nil)) (nomark _)) (pss_one (ps_ret (pe_cmpR op_isBl (pe_fld (pv 12) rfl) pe_bl (nomark _)))) pss_nil)
      (pss_cons (ps_set (i := 14) sc_law.nd rfl (Or.inl rfl) (C8.pe_mt0 (met_Client_heights T) hr (by decide) (pv 12)))
      (pss_cons (ps_set (i := 15) sc_law.nd rfl (Or.inl rfl) (pe_ix (ix_list : IxR _ (rIxL K)) (pv 14) (pe_op op_add pe_int (pe_op op_mod (pe_op op_fdiv (pv 2) pe_int) (pe_op op_sub (pe_callB call_len_seq (by rfl) T.b_len (by decide +kernel) (pa_cons (pv 14) pa_nil)) pe_int))) (fun _ _ => rfl)))
      (pss_cons (ps_set (i := 16) sc_law.nd rfl (Or.inl rfl) (C8.pe_c (cal_law_server T) hr (by decide) rfl (pa_cons (pv 6) (pa_cons (pv 7) (pa_cons (pv 1) (pa_cons pe_int pa_nil))))))
      (pss_cons (ps_if (PW.pt (pw_and (pt_cmpR op_eq (pe_op op_mod (pe_op op_fdiv (pv 2) pe_int) pe_int) pe_int (nomark _)) (pw_and1 (pt_not (pt_val (C8.pe_c (cal_law_lying T) hr (by decide) rfl (pa_cons (pv 12) (pa_cons (pv 16) (pa_cons (pv 15) (pa_cons (pv 9) pa_nil)))))))))) (pss_one (ps_ret pe_bl)) pss_nil)
      (pss_cons (ps_if (pt_val (pe_fld (pv 12) rfl)) (pss_one (ps_ret (C8.pe_c (cal_law_stays T) hr (by decide) rfl (pa_cons (pv 12) (pa_cons (pv 6) (pa_cons (pv 9) pa_nil)))))) pss_nil)
      (pss_cons (ps_set (i := 17) sc_law.nd rfl (Or.inl rfl) (C8.pe_c (cal_law_seen T) hr (by decide) rfl (pa_cons (pv 12) (pa_cons (pv 15) pa_nil))))
      (pss_cons (ps_set (i := 18) sc_law.nd rfl (Or.inl rfl) (C8.pe_c (cal_ask_witness T) hr (by decide) rfl (pa_cons (pv 12) (pa_cons (C8.pe_mt0 (met_Node_answers T) hr (by decide) (pv 6)) (pa_cons (pv 15) (pa_cons (pv 9) pa_nil))))))
      (pss_cons (ps_if (pt_cmpR (op_neS hr) (C8.pe_c (cal_law_seen T) hr (by decide) rfl (pa_cons (pv 12) (pa_cons (pv 15) pa_nil))) (pv 17) (nomark _)) (pss_one (ps_ret pe_bl)) pss_nil)
      (pss_cons (ps_if (pt_cmpR op_gt (pv 15) (C8.pe_mt0 (met_Node_height T) hr (by decide) (pv 6)) (nomark _)) (pss_one (ps_ret (pe_and (pe_cmpR (op_eqS hr) (pv 18) (pe_tup (pa_cons pe_str pa_nil)) (nomark _)) (pe_one (pe_cmpR op_isBl (pe_fld (pv 12) rfl) pe_bl (nomark _)))))) pss_nil)
      (pss_cons (ps_if (pt_cmpR (op_own (met_Header_eq T) hr (by decide)) (pe_fld (C8.pe_mt (met_Client_block T) hr (by decide) (pv 12) (pa_cons (pv 15) pa_nil)) rfl) (pe_fld (C8.pe_mt (met_Node_block T) hr (by decide) (pv 6) (pa_cons (pv 15) pa_nil)) rfl) (nomark _)) (pss_one (ps_ret (pe_and (pe_cmpR (op_eqS hr) (pv 18) (pe_tup (pa_cons pe_str pa_nil)) (nomark _)) (pe_one (pe_cmpR op_isBl (pe_fld (pv 12) rfl) pe_bl (nomark _)))))) pss_nil)
      (pss_cons (ps_if (PW.pt (pw_or (pt_cmpR op_ne (pe_ix (ix_tup : IxR _ (rIxT K)) (pv 18) pe_int (fun _ _ => rfl)) pe_str (nomark _)) (pw_or (pt_cmpR op_notBl (pe_fld (pv 12) rfl) pe_bl (nomark _)) (pw_or1 (pt_cmpR op_notN1 (C8.pe_c (cal_judge_steps T) hr (by decide) rfl (pa_cons (pv 6) (pa_cons (pe_ix (ix_tup : IxR _ (rIxT K)) (pv 18) pe_int (fun _ _ => rfl)) pa_nil))) pe_non (nomark _)))))) (pss_one (ps_ret pe_bl)) pss_nil)
      (pss_cons (ps_for PassesOwn.never rfl (pi_list (pe_ix (ix_tup : IxR _ (rIxT K)) (pv 18) pe_int (fun _ _ => rfl))) (pg_tup (by rfl) (pgs_cons (pg_name (i := 20) sc_law.nd rfl (Or.inl rfl)) (pgs_cons (pg_name (i := 21) sc_law.nd rfl (Or.inl rfl)) pgs_nil))) (pss_one (ps_if (pt_not (pt_cmpR (op_own (met_Block_eq T) hr (by decide)) (pv 21) (C8.pe_mt (met_Node_block T) hr (by decide) (pv 6) (pa_cons (pe_fld (pe_fld (pv 21) rfl) rfl) pa_nil)) (nomark _))) (pss_one (ps_ret pe_bl)) pss_nil)))
      (pss_cons (ps_set (i := 19) sc_law.nd rfl (Or.inl rfl) (C8.pe_c (cal_judge_steps T) hr (by decide) rfl (pa_cons (pv 6) (pa_cons (pe_fld (pv 12) rfl) pa_nil))))
      (pss_cons (ps_if (PW.pt (pw_or (pt_cmpR op_isN1 (pv 19) pe_non (nomark _)) (pw_or1 (pt_cmpR op_notBl (C8.pe_c (cal_verdict_holds T) hr (by decide) rfl (pa_cons (pv 6) (pa_cons (pv 19) pa_nil))) pe_bl (nomark _))))) (pss_one (ps_ret pe_bl)) pss_nil)
      (pss_one (ps_ret (C8.pe_c (cal_law_stays T) hr (by decide) rfl (pa_cons (pv 12) (pa_cons (pv 6) (pa_cons (pv 9) pa_nil)))))))))))))))))))))))))))))))))), ?_⟩
  have fin : ∀ {v : V} {H' : Hp}, Rp K H' (.bl true) v → Q v H' := fun {v H'} rv => by
    have ev : v = .bl true := rv
    subst ev
    exact k H'
  have E : Sl K H [some (.adr a), none, none, none, none, none, none, none, none, none, none, none, none, none, none, none, none, none, none, none, none, none] _ := Sl.start (N := n_law) (.cons (d := .adr a) rfl .nil)
  -- the cells
  refine s_asgCall (ga_cons (gv_var E rfl) (ga_cons (gv_nat 10) ga_nil)) fun vs H1 e1 r1 => ?_
  obtain ⟨va, _, rfl, ra, vb, _, rfl, rb, rfl⟩ := r1
  have eva : va = .ref a := ra
  subst eva
  refine ⟨a, ns, 10, vb, by omega, by decide, rfl, hS.ext e1, rb, fun v1 H2 e2 r2 => ?_⟩
  have hcl : 10 ≤ (lcl ns 10).length ∧ (lcl ns 10).length ≤ 80 := by
    rw [lcl_len]
    omega
  generalize lcl ns 10 = cs at hcl r2
  have E2 : Sl K H2 [some (.adr a), some (.lst (cs.map D.int)), none, none, none, none, none, none, none, none, none, none, none, none, none, none, none, none, none, none, none, none] _ := (E.ext (e1.trans e2)).set (i := 1) (d := .lst (cs.map D.int)) (v := v1) r2
  obtain ⟨c0, hc0⟩ : ∃ c, cs[0]? = some c := ⟨_, List.getElem?_eq_getElem (by omega)⟩
  obtain ⟨x, hx⟩ : ∃ x, x = lnum c0 0 := ⟨_, rfl⟩
  refine s_asg (d := nD x) E2 ((gv_call (ga_cons (gv_ixLN (d := .int c0) (gv_var E2 rfl) (gv_nat 0) (by rw [List.getElem?_map, hc0]; rfl)) (ga_cons (gv_nat 0) ga_nil)) (ok_num (by decide))).is (by rw [hx])) fun v2 H3 e3 _ E3 => ?_
  -- the hasher
  obtain ⟨wd, hwd, hw⟩ := pick (l := [4, 4, 5, 6, 8, 12]) (n := x % 6) (Nat.mod_lt _ (by decide)) (Q := WOk) (fun m hm => by
    simp only [List.mem_cons, List.not_mem_nil, or_false] at hm
    unfold WOk
    omega)
  refine s_asg (d := hshD wd) E3 (gv_make (K := K) (c := "Hasher") (out := hshD) (α := Nat) (ins := fun w => [nD w]) (pre := fun _ => True) wd trivial (ga_cons (gv_ixLN (gn_lst (ds := [4, 4, 5, 6, 8, 12].map nD) (ga_cons (gv_nat 4) (ga_cons (gv_nat 4) (ga_cons (gv_nat 5) (ga_cons (gv_nat 6) (ga_cons (gv_nat 8) (ga_cons (gv_nat 12) ga_nil)))))) (by show 6 ≤ 100000; decide)).gv (gv_modN (gv_intI (gv_var (i := 2) (d := nD x) E3 rfl)) (gv_nat 6) (by decide)) (by rw [List.getElem?_map, hwd]; rfl)) ga_nil)) fun v3 H4 e4 _ E4 => ?_
  obtain ⟨bl, hbl, hbl5, hbl1⟩ := pick (l := [1, 2, 3, 3, 3, 5]) (n := x / 24 % 6) (Nat.mod_lt _ (by decide)) (Q := fun b => b ≤ 5 ∧ 1 ≤ b) (fun m hm => by
    simp only [List.mem_cons, List.not_mem_nil, or_false] at hm
    omega)
  refine s_asg (d := nD bl) E4 (gv_ixLN (gn_lst (ds := [1, 2, 3, 3, 3, 5].map nD) (ga_cons (gv_nat 1) (ga_cons (gv_nat 2) (ga_cons (gv_nat 3) (ga_cons (gv_nat 3) (ga_cons (gv_nat 3) (ga_cons (gv_nat 5) ga_nil)))))) (by show 6 ≤ 100000; decide)).gv (gv_modN (gv_divN (gv_var (i := 2) (d := nD x) E4 rfl) (gv_nat 24) (by decide) (by decide)) (gv_nat 6) (by decide)) (by rw [List.getElem?_map, hbl]; rfl)) fun v4 H5 e5 _ E5 => ?_
  -- the signers
  have hx63 : x / 6 % 3 < 3 := Nat.mod_lt _ (by decide)
  have hx18 : x / 18 % 2 < 2 := Nat.mod_lt _ (by decide)
  obtain ⟨cnt, hcnt⟩ : ∃ cnt, cnt = 2 + x / 6 % 3 * (x / 18 % 2) := ⟨_, rfl⟩
  have hcnt4 : cnt ≤ 4 := by
    have h1 := Nat.mul_le_mul (by omega : x / 6 % 3 ≤ 2) (by omega : x / 18 % 2 ≤ 1)
    omega
  refine s_asg (d := .lst ((lsg wd x bl cnt).map sgD)) E5 (gn_call (ga_cons (gv_var E5 rfl) (ga_cons (gv_var E5 rfl) (ga_cons (Gv.is (d' := nD cnt) (gv_addN (gv_nat 2) (gv_mulN (gv_modN (gv_divN (gv_var (i := 2) (d := nD x) E5 rfl) (gv_nat 6) (by decide) (by decide)) (gv_nat 3) (by decide)) (gv_intI (gv_modN (gv_divN (gv_var (i := 2) (d := nD x) E5 rfl) (gv_nat 18) (by decide) (by decide)) (gv_nat 2) (by decide))) (.inl (by omega)))) (by rw [hcnt])) (ga_cons (gv_var E5 rfl) ga_nil)))) (ok_Ss hw (by omega) (by omega))).gv fun v5 H6 e6 _ E6 => ?_
  have lok := ln_law (w := wd) (x := x) (bl := bl) (cnt := cnt) (cs := cs) hw hbl5 (by omega) (by omega) (by omega)
  generalize hss : lsg wd x bl cnt = ss at lok E6
  generalize hLL : 2 + (if 3 < bl then 1 else 0) = LL at lok
  -- the node
  refine s_asgCall (ga_cons (gv_var E6 rfl) (ga_cons (gv_var E6 rfl) (ga_cons (gv_var E6 rfl) (ga_cons (gv_var E6 rfl) ga_nil)))) fun vs H7 e7 r7 => ?_
  refine ⟨⟨wd, LL, cs, ss, bl⟩, lok, r7, fun xn n ps B8 H8 e8 nd8 g8 => ?_⟩
  obtain ⟨dxn, pB, pS, w1, xsn, ysn, nd⟩ := nd8
  have ew : n.w = wd := g8.w
  subst ew
  have E8 := (((E6.ext e7).ext e8).ext nd.ce.ext).set (i := 6) (d := .at xn (nodD n)) (v := .ref xn) ⟨rfl, nd.view⟩
  have nlen : n.bs.length = bl + 1 := g8.len
  have chn := g8.c
  have nok := chn.ok
  have cx2 := cx2_of lok g8 (x / 13)
  have tmb : ∀ (j : Nat) z, n.bs[j]? = some z → z.2.h.tm ≤ 145 := fun j z hz => by
    have h1 := (g8.tm j z hz).2
    have h2 := (List.getElem?_eq_some_iff.mp hz).1
    omega
  -- the corrupt ones
  have hsl : ss.length ≤ 60 := lok.sl
  refine s_asg (d := .lst ((lcor (x / 13) ss).map sgD)) E8 (gv_call (ga_cons (gv_var E8 rfl) (ga_cons (gv_divN (gv_var (i := 2) (d := nD x) E8 rfl) (gv_nat 13) (by decide) (by decide)) ga_nil)) (ok_Co hsl)) fun v7 H9 e9 _ E9 => ?_
  have cx2' : Cx2 n (lcor (x / 13) ss) := cx2
  generalize lcor (x / 13) ss = co at cx2' E9
  -- the server
  refine s_asgCall (ga_cons (gv_Nd T (i := 6) E9 rfl) (ga_cons (gv_var E9 rfl) (ga_cons (gv_var E9 rfl) (ga_cons (gv_nat 3) ga_nil)))) fun vs H10 e10 r10 => ?_
  refine ⟨n, co, cs, 3, ⟨cx2', by omega, by decide⟩, r10, fun pA mA lA H11 hpA e11 hA kA avA => ?_⟩
  have E11 := (E9.ext (e10.trans e11)).set (i := 8) (d := .at pA (dcD bkA lA)) (v := .ref pA) ⟨rfl, dcD_rp.mpr ⟨pA, mA, rfl, hA, kA⟩⟩
  -- now
  obtain ⟨zl, hzl⟩ : ∃ z, n.bs[n.bs.length - 1]? = some z := ⟨_, List.getElem?_eq_getElem (by omega)⟩
  obtain ⟨now, hnow⟩ : ∃ now, now = zl.2.h.tm + x / 40 % 30 := ⟨_, rfl⟩
  have x30 : x / 40 % 30 < 30 := Nat.mod_lt _ (by decide)
  have now1 : now < 1000 := by
    have := tmb _ _ hzl
    omega
  have now2 : ∀ (i : Nat) z, n.bs[i]? = some z → z.2.h.tm ≤ now := fun i z hz => by
    have hi := (List.getElem?_eq_some_iff.mp hz).1
    by_cases e : i = n.bs.length - 1
    · rw [e, hzl] at hz
      cases hz
      omega
    · have := chn.tms hz (n.bs.length - 1 - i - 1) (y := zl) (by rw [show i + (n.bs.length - 1 - i - 1) + 1 = n.bs.length - 1 by omega]; exact hzl)
      omega
  refine s_asg (d := nD now) E11 ((gv_addN (gv_Header_time T (gv_Block_header T (gv_un (gv_meth (gv_Nd T (i := 6) E11 rfl) rfl (ga_cons (gv_meth (gv_Nd T (i := 6) E11 rfl) rfl ga_nil (ok_nh nok.ne)) ga_nil) (ok_nb hzl))))) (gv_modN (gv_divN (gv_var (i := 2) (d := nD x) E11 rfl) (gv_nat 40) (by decide) (by decide)) (gv_nat 30) (by decide))).is (by rw [hnow])) fun v9 H12 e12 _ E12 => ?_
  obtain ⟨dr, hdr⟩ : ∃ dr, dr = x / 7 % 5 := ⟨_, rfl⟩
  refine s_asg (d := polD 1000 dr) E12 (gv_make (K := K) (c := "Policy") (out := fun z : Nat × Nat => polD z.1 z.2) (α := Nat × Nat) (ins := fun z => [nD z.1, nD z.2]) (pre := fun _ => True) (1000, dr) trivial (ga_cons (gv_nat 1000) (ga_cons (Gv.is (gv_modN (gv_divN (gv_var (i := 2) (d := nD x) E12 rfl) (gv_nat 7) (by decide) (by decide)) (gv_nat 5) (by decide)) (by rw [hdr])) ga_nil))) fun v10 H13 e13 _ E13 => ?_
  -- the client's first block
  obtain ⟨fi, hfi⟩ : ∃ fi, fi = x / 17 % 5 / 3 * (x / 23 % (n.bs.length - 1 + 1)) := ⟨_, rfl⟩
  have hq1 : x / 17 % 5 / 3 ≤ 1 := by
    have : x / 17 % 5 < 5 := Nat.mod_lt _ (by decide)
    omega
  have hfl : fi < n.bs.length := by
    have h1 : x / 23 % (n.bs.length - 1 + 1) < n.bs.length - 1 + 1 := Nat.mod_lt _ (by omega)
    have h2 := Nat.mul_le_mul_right (x / 23 % (n.bs.length - 1 + 1)) hq1
    omega
  obtain ⟨b, hb⟩ : ∃ z, n.bs[fi]? = some z := ⟨_, List.getElem?_eq_getElem hfl⟩
  have bht : b.2.h.ht = fi := chn.ht _ _ hb
  subst bht
  have bok := nok.ok _ _ hb
  refine s_asg (d := nD b.2.h.ht) E13 ((gv_mulN (gv_divN (gv_modN (gv_divN (gv_var (i := 2) (d := nD x) E13 rfl) (gv_nat 17) (by decide) (by decide)) (gv_nat 5) (by decide)) (gv_nat 3) (by decide) (by decide)) (gv_modN (gv_divN (gv_var (i := 2) (d := nD x) E13 rfl) (gv_nat 23) (by decide) (by decide)) (gv_addN (gv_meth (gv_Nd T (i := 6) E13 rfl) rfl ga_nil (ok_nh nok.ne)) (gv_nat 1)) (by omega)) (.inl (by omega))).is (by rw [hfi])) fun v11 H14 e14 _ E14 => ?_
  -- the client
  refine s_asgMake (ga_cons (gv_var E14 rfl) (ga_cons (gv_var E14 rfl) (ga_cons (gv_meth (gv_Nd T (i := 6) E14 rfl) rfl (ga_cons (gv_var E14 rfl) ga_nil) (ok_nb hb)) ga_nil))) fun vs H15 xc dxc e15 r15 hxc hdc nec => ?_
  refine ⟨xc, dxc, vs, H15, n.w, n.L, 1000, dr, b, ⟨bok, chn.ls _ _ hb⟩, rfl, cell_new hxc hdc nec, r15, fun W0 H16 e16 cl0 => ⟨rfl, ?_⟩⟩
  have E16B : Sl K W0 [some (.adr a), some (.lst (cs.map D.int)), some (nD x), some (hshD n.w), some (nD bl), some (.lst (ss.map sgD)), some (.at xn (nodD n)), some (.lst (co.map sgD)), some (.at pA (dcD bkA lA)), some (nD now), some (polD 1000 dr), some (nD b.2.h.ht), some (.adr xc), none, none, none, none, none, none, none, none, none] _ := ((E14.ext e15).ext e16).set (i := 12) (d := .adr xc) (v := .ref xc) rfl
  obtain ⟨dx, pT, pS, u1, u2, m, xs, cx⟩ := cl0
  have E16 := E16B.ext cx.ce.ext
  -- the height
  have hp1 : 0 < n.bs.length - 1 + 1 - b.2.h.ht := by omega
  obtain ⟨hg, hhg⟩ : ∃ hg, hg = b.2.h.ht + 1 + x / 11 % (n.bs.length - 1 + 1 - b.2.h.ht) := ⟨_, rfl⟩
  have hgm : x / 11 % (n.bs.length - 1 + 1 - b.2.h.ht) < n.bs.length - 1 + 1 - b.2.h.ht := Nat.mod_lt _ hp1
  have hbg : b.2.h.ht < hg := by omega
  refine s_asg (d := nD hg) E16 ((gv_addN (gv_addN (gv_var (i := 11) (d := nD b.2.h.ht) E16 rfl) (gv_nat 1)) (gv_modN (gv_divN (gv_var (i := 2) (d := nD x) E16 rfl) (gv_nat 11) (by decide) (by decide)) (gv_subN (gv_addN (gv_meth (gv_Nd T (i := 6) E16 rfl) rfl ga_nil (ok_nh nok.ne)) (gv_nat 1)) (gv_var (i := 11) (d := nD b.2.h.ht) E16 rfl) (by omega)) hp1)).is (by rw [hhg])) fun v13 H17 e17 r13 _ => ?_
  have E17B : Sl K W0 [some (.adr a), some (.lst (cs.map D.int)), some (nD x), some (hshD n.w), some (nD bl), some (.lst (ss.map sgD)), some (.at xn (nodD n)), some (.lst (co.map sgD)), some (.at pA (dcD bkA lA)), some (nD now), some (polD 1000 dr), some (nD b.2.h.ht), some (.adr xc), some (nD hg), none, none, none, none, none, none, none, none] _ := E16B.set (i := 13) (d := nD hg) (v := v13) r13
  have cx17 := cx.mono e17
  have E17 := E17B.ext cx17.ce.ext
  have rA0 : Rp K W0 (dcD bkA lA) (.ref pA) := by
    obtain ⟨v, _, h2⟩ := E17B.2 8 _ rfl
    have ev : v = .ref pA := h2.1
    rw [← ev]
    exact h2.2
  have rok : RP.Ok ⟨n.w, n.L, 1000, dr, now, lA⟩ := ⟨fun k y hk => avA k y hk⟩
  have rN0 : Rp K W0 (nodD n) (.ref xn) := by
    obtain ⟨v, _, h2⟩ := E17B.2 6 _ rfl
    have ev : v = .ref xn := h2.1
    rw [← ev]
    exact h2.2
  obtain ⟨rd, rdh⟩ := rch_rd rok (b := b) (h := hg) hbg
  -- it reaches the height
  refine s_ifM E17 rfl cx17.ce.at_ (by exact lookup_zip_none (fs := fCl) (by decide +kernel)) (ga_cons (gv_var (i := 8) E17 rfl) (ga_cons (gv_var E17 rfl) (ga_cons (gv_var E17 rfl) ga_nil))) fun vs H18 e18 r18 Q' hQ1 hQ2 => ?_
  obtain ⟨va, _, rfl, ra, vb, _, rfl, rb, vc, _, rfl, rc, rfl⟩ := r18
  have eva : va = .ref pA := ra.1
  subst eva
  refine ⟨W0, ⟨xc, c1st b, ⟨n.w, n.L, 1000, dr, now, lA⟩, hg⟩, _, vb, vc, ⟨rok, ⟨fun k y2 hk => by
    obtain ⟨h1, h2⟩ := lk_one hk
    subst h2
    exact ⟨bok, h1⟩⟩, by show 1 + hg ≤ 50000; omega, by show 0 + hg ≤ 50000; omega⟩, rfl, ⟨dx, pT, pS, u1, u2, m, xs, cx17.mono e18⟩, rA0, rb, rc, fun v19 W1 H19 e19 cl19 r19 => ?_⟩
  obtain ⟨dx, pT, pS, u1, u2, m, xs, cx⟩ := cl19
  dsimp only at cx r19 e19
  generalize hR : rch ⟨n.w, n.L, 1000, dr, now, lA⟩ (c1st b) hg = R at cx r19 rd rdh
  have E19B := E17B.ext e19
  have E19 := E19B.ext cx.ce.ext
  cases qr : R.1 with
  | some f =>
    rw [qr] at r19
    refine (gv_tup (K := K) (ds := [.str "trusted"]) (ga_cons gv_str ga_nil) (by simp)) H19 Ext.rfl' _ fun w6 H20 e20 r20 => ?_
    refine ⟨_, _, ⟨(r19.ext cx.ce.ext).ext e20, r20⟩, .inr ⟨"refused", "trusted", [.str f.1, nD f.2], [], rfl, rfl, by decide +kernel, .inr rfl, hQ1 _ ?_⟩⟩
    exact s_ret (d := .bl true) ((gv_isB (gv_fld (gv_view (gv_var (E19.ext e20) rfl) (cx.mono e20).view) T.cl_Client T.na_Client_halted (n := 4) (by decide +kernel) (by decide) rfl) gv_bl).is (by rw [rd.hal]; rfl)) fun v H21 e21 r21 => fin r21
  | none =>
  rw [qr] at r19
  refine (gv_tup (K := K) (ds := [.str "trusted"]) (ga_cons gv_str ga_nil) (by simp)) H19 Ext.rfl' _ fun w6 H20 e20 r20 => ?_
  refine ⟨_, _, ⟨(r19.ext cx.ce.ext).ext e20, r20⟩, .inl ⟨rfl, rfl, by show max 0 0 ≤ 50; decide, hQ2 _ (s_nop ?_)⟩⟩
  have hset := rdh qr
  obtain ⟨kn0, kn2, knA⟩ := rd.known hset hbg
  have tl64 : R.2.tr.length < 64 := by
    have := rd.tl
    omega
  have sl5 : R.2.st.length ≤ 5000 := by
    have := rd.sl
    omega
  have trk : ∀ k y, lk R.2.tr k = some y → BlkOk n.w n.L y.2 ∧ y.2.h.ht = k := fun k y hk => by
    rcases rd.tr k y hk with ⟨e1, e2⟩ | ⟨_, _, ⟨s, hs, e⟩, h4⟩
    · subst e1 e2
      exact ⟨bok, rfl⟩
    · refine ⟨?_, h4⟩
      rw [← e]
      exact rd.run.blk s hs
  have cx20 := cx.mono e20
  have E20 := E19.ext e20
  -- what it knows
  refine s_asg (d := .lst ((srtN (R.2.tr.map fun q : Nat × BkA => q.1)).map nD)) E20 (gn_meth (gv_view (gv_var E20 rfl) cx20.view) rfl ga_nil (ok_hts ⟨n.w, 1000, dr, R.2⟩ tl64)).gv fun v14 H21 e21 _ E21 => ?_
  have hkm : x / 19 % ((srtN (R.2.tr.map fun q : Nat × BkA => q.1)).length - 1) < (srtN (R.2.tr.map fun q : Nat × BkA => q.1)).length - 1 := Nat.mod_lt _ (by omega)
  obtain ⟨ask, hask⟩ : ∃ z, (srtN (R.2.tr.map fun q : Nat × BkA => q.1))[1 + x / 19 % ((srtN (R.2.tr.map fun q : Nat × BkA => q.1)).length - 1)]? = some z := ⟨_, List.getElem?_eq_getElem (by omega)⟩
  obtain ⟨ask1, ask2, z, hz, zht, zst⟩ := knA (x / 19 % ((srtN (R.2.tr.map fun q : Nat × BkA => q.1)).length - 1)) ask (by rw [Nat.add_comm]; exact hask)
  refine s_asg (d := nD ask) E21 (gv_ixLN (gv_var (i := 14) (d := .lst ((srtN (R.2.tr.map fun q : Nat × BkA => q.1)).map nD)) E21 rfl) (gv_addN (gv_nat 1) (gv_modN (gv_divN (gv_var (i := 2) (d := nD x) E21 rfl) (gv_nat 19) (by decide) (by decide)) (gv_subN ((gv_lenL (gv_var (i := 14) (d := .lst ((srtN (R.2.tr.map fun q : Nat × BkA => q.1)).map nD)) E21 rfl)).is (show D.int _ = nD (srtN (R.2.tr.map fun q : Nat × BkA => q.1)).length by rw [List.length_map])) (gv_nat 1) (by omega)) (by omega))) (by rw [List.getElem?_map, hask]; rfl)) fun v15 H22 e22 r15' E22 => ?_
  have cx22 := (cx20.mono e21).mono e22
  have E22B : Sl K W1 [some (.adr a), some (.lst (cs.map D.int)), some (nD x), some (hshD n.w), some (nD bl), some (.lst (ss.map sgD)), some (.at xn (nodD n)), some (.lst (co.map sgD)), some (.at pA (dcD bkA lA)), some (nD now), some (polD 1000 dr), some (nD b.2.h.ht), some (.adr xc), some (nD hg), none, some (nD ask), none, none, none, none, none, none] _ := ((E19B.set (i := 14) (d := .any) (v := v14) trivial).set (i := 15) (d := nD ask) (v := v15) r15').wk ⟨.inr rfl, .inr rfl, .inr rfl, .inr rfl, .inr rfl, .inr rfl, .inr rfl, .inr rfl, .inr rfl, .inr rfl, .inr rfl, .inr rfl, .inr rfl, .inr rfl, .inl rfl, .inr rfl, .inl rfl, .inl rfl, .inl rfl, .inl rfl, .inl rfl, .inl rfl, trivial⟩
  -- the server that lies
  refine s_asgCall (ga_cons (gv_Nd T (i := 6) (E22B.ext cx22.ce.ext) rfl) (ga_cons (gv_var (E22B.ext cx22.ce.ext) rfl) (ga_cons (gv_var (E22B.ext cx22.ce.ext) rfl) (ga_cons (gv_nat 6) ga_nil)))) fun vs H23 e23 r23 => ?_
  refine ⟨n, co, cs, 6, ⟨cx2', by omega, by decide⟩, r23, fun pL mL lL H24 hpL e24 hL kL avL => ?_⟩
  have rL := new_dk T (cx22.mono e23) e24 hpL hL kL
  have cx24 := ((cx22.mono e23).mono e24).wide
  have b24 := ((cx22.mono e23).mono e24).ehid
  generalize hide (clL xc dx pT pS) H24 = W2 at rL cx24 b24
  have E24B : Sl K W2 [some (.adr a), some (.lst (cs.map D.int)), some (nD x), some (hshD n.w), some (nD bl), some (.lst (ss.map sgD)), some (.at xn (nodD n)), some (.lst (co.map sgD)), some (.at pA (dcD bkA lA)), some (nD now), some (polD 1000 dr), some (nD b.2.h.ht), some (.adr xc), some (nD hg), none, some (nD ask), some (.adr pL), none, none, none, none, none] _ := (E22B.ext b24).set (i := 16) (d := .adr pL) (v := .ref pL) rfl
  have E24 := E24B.ext cx24.ce.ext
  have e02 : Ext W0 W2 := e19.trans b24
  have hgl : hg ≤ 40000 := by omega
  have awk : ∀ {A : List (Nat × BkA)} (hal : Bool), AllV (fun z : BkA => BlkOk n.w n.L z.2) A → AwOk ⟨xc, ⟨R.2.tr, R.2.st, hal⟩, ⟨n.w, n.L, 1000, dr, now, A⟩, ask, b.2.h.ht, b, z⟩ := fun {A} hal hA => ⟨⟨fun k y hk => hA k y hk⟩, tl64, kn0, rd.lo, rfl, bok, chn.ls _ _ hb, hz, by show ask ≤ 40000; omega⟩
  refine s_join (fun σ2 H2 => ∃ (W : Hp) (hal : Bool), Ext W2 W ∧ ClAt K W H2 xc n.w 1000 dr ⟨R.2.tr, R.2.st, hal⟩ ∧ Sl K W2 [some (.adr a), some (.lst (cs.map D.int)), some (nD x), some (hshD n.w), some (nD bl), some (.lst (ss.map sgD)), some (.at xn (nodD n)), some (.lst (co.map sgD)), some (.at pA (dcD bkA lA)), some (nD now), some (polD 1000 dr), some (nD b.2.h.ht), some (.adr xc), some (nD hg), none, some (nD ask), none, none, none, none, none, none] σ2) (fun nx' kj => ?_) ?_
  · have hno : Sl K W2 [some (.adr a), some (.lst (cs.map D.int)), some (nD x), some (hshD n.w), some (nD bl), some (.lst (ss.map sgD)), some (.at xn (nodD n)), some (.lst (co.map sgD)), some (.at pA (dcD bkA lA)), some (nD now), some (polD 1000 dr), some (nD b.2.h.ht), some (.adr xc), some (nD hg), none, some (nD ask), none, none, none, none, none, none] _ := E24B.wk ⟨.inr rfl, .inr rfl, .inr rfl, .inr rfl, .inr rfl, .inr rfl, .inr rfl, .inr rfl, .inr rfl, .inr rfl, .inr rfl, .inr rfl, .inr rfl, .inr rfl, .inl rfl, .inr rfl, .inl rfl, .inl rfl, .inl rfl, .inl rfl, .inl rfl, .inl rfl, trivial⟩
    by_cases h5 : x / 5 % 2 = 0
    · refine s_ifAndNotC (gt_test ((gv_eqN (gv_modN (gv_divN (gv_var (i := 2) (d := nD x) E24 rfl) (gv_nat 5) (by decide) (by decide)) (gv_nat 2) (by decide)) (gv_nat 0)).is (by rw [decide_eq_true h5]))) (ga_cons (gv_var (i := 12) E24 rfl) (ga_cons (gv_var (i := 16) E24 rfl) (ga_cons (gv_var E24 rfl) (ga_cons (gv_var E24 rfl) ga_nil)))) fun vs H25 e25 r25 Q' hQ => ?_
      obtain ⟨va, _, rfl, ra, vb, _, rfl, rb, vc, _, rfl, rc, vd, _, rfl, rdd, rfl⟩ := r25
      have eva : va = .ref xc := ra
      have evb : vb = .ref pL := rb
      subst eva evb
      refine ⟨W2, ⟨xc, R.2, ⟨n.w, n.L, 1000, dr, now, lL⟩, ask, b.2.h.ht, b, z⟩, _, vc, vd, ⟨awk R.2.hal avL, rd.hal⟩, rfl, ⟨dx, pT, pS, u1, u2, m, xs, cx24.mono e25⟩, rL, rc, rdd, fun W3 H26 e26 cl26 => hQ _ (s_nop (kj _ _ ⟨W3, _, e26, cl26, hno⟩))⟩
    · refine s_if E24 (Gt.is (b := false) (gt_and (a := false) (b := false) (gt_test ((gv_eqN (gv_modN (gv_divN (gv_var (i := 2) (d := nD x) E24 rfl) (gv_nat 5) (by decide) (by decide)) (gv_nat 2) (by decide)) (gv_nat 0)).is (by rw [decide_eq_false h5]))) fun z => nomatch z) rfl) (fun z => nomatch z) fun _ H25 e25 E25 => ?_
      exact s_nop (kj _ _ ⟨W2, R.2.hal, Ext.rfl', ⟨dx, pT, pS, u1, u2, m, xs, cx24.mono e25⟩, hno⟩)
  rintro σ2 H25 ⟨W3, hal, e23', ⟨dx, pT, pS, u1, u2, m, xs, cx⟩, E25B⟩
  have E25C := E25B.ext e23'
  have E25 := E25C.ext cx.ce.ext
  have e03 := e02.trans e23'
  have syk : SyOk ⟨xc, ⟨R.2.tr, R.2.st, true⟩, n, 1000, dr, now, b.2.h.ht, b⟩ := ⟨rfl, nok, trk, tl64, sl5, kn0, rd.lo, by show b.2.h.ht ≤ 40000; omega⟩
  refine s_if E25 (gt_B (a := hal) (gv_fld (gv_view (gv_var (i := 12) E25 rfl) cx.view) T.cl_Client T.na_Client_halted (n := 4) (by decide +kernel) (by decide) rfl)) (fun hc H26 e26 E26 => ?_) fun hc H26 e26 E26 => ?_
  · subst hc
    refine s_retCall (ga_cons (gv_var (i := 12) E26 rfl) (ga_cons (gv_var (i := 6) E26 rfl) (ga_cons (gv_var E26 rfl) ga_nil))) fun vs H27 e27 r27 => ?_
    obtain ⟨va, _, rfl, ra, vb, _, rfl, rb, vc, _, rfl, rc, rfl⟩ := r27
    have eva : va = .ref xc := ra
    have evb : vb = .ref xn := rb.1
    subst eva evb
    exact ⟨W3, ⟨xc, ⟨R.2.tr, R.2.st, true⟩, n, 1000, dr, now, b.2.h.ht, b⟩, _, vc, syk, rfl, ⟨dx, pT, pS, u1, u2, m, xs, (cx.mono e26).mono e27⟩, rN0.ext e03, rc, fun H' => fin rfl⟩
  subst hc
  refine s_nop ?_
  have cx26 := cx.mono e26
  have hnn : srtN (R.2.tr.map fun q : Nat × BkA => q.1) ≠ [] := fun z => by
    rw [z] at kn0
    cases kn0
  -- the honest witness
  refine s_asgN (ds := seenD ⟨R.2.tr, R.2.st, false⟩ ask) E26 (gn_call (ga_cons (gv_view (gv_var (i := 12) E26 rfl) cx26.view) (ga_cons (gv_var E26 rfl) ga_nil)) (ok_Sn ⟨n.w, 1000, dr, ⟨R.2.tr, R.2.st, false⟩⟩ tl64)) fun pb bs H27 hpb e27 hb27 rb27 _ => ?_
  have rbW := seen_keep T cx26 e27 hpb hb27 rb27 hnn
  have cx27 := (cx26.mono e27).wide
  have b27 := (cx26.mono e27).ehid
  generalize hide (clL xc dx pT pS) H27 = W4 at rbW cx27 b27
  have E27B : Sl K W4 [some (.adr a), some (.lst (cs.map D.int)), some (nD x), some (hshD n.w), some (nD bl), some (.lst (ss.map sgD)), some (.at xn (nodD n)), some (.lst (co.map sgD)), some (.at pA (dcD bkA lA)), some (nD now), some (polD 1000 dr), some (nD b.2.h.ht), some (.adr xc), some (nD hg), none, some (nD ask), none, some (.adr pb), none, none, none, none] _ := (E25C.ext b27).set (i := 17) (d := .adr pb) (v := .ref pb) rfl
  have E27 := E27B.ext cx27.ce.ext
  refine s_asgCallD (emb := bkA) (l := ansL b n.bs) (gda_cons (gv_var (i := 12) E27 rfl) (gad_cons (gd_ans b (by omega) (gv_Nd T (i := 6) E27 rfl)) (ga_cons (gv_var E27 rfl) (ga_cons (gv_var E27 rfl) ga_nil)))) fun va pD mD vs H28 hpD e28 ra hD kD r28 => ?_
  obtain ⟨vb, _, rfl, rb, vc, _, rfl, rc, rfl⟩ := r28
  have eva : va = .ref xc := ra
  subst eva
  have rD := new_dk T cx27 e28 hpD hD kD
  have cx28 := (cx27.mono e28).wide
  have b28 := (cx27.mono e28).ehid
  have avH : AllV (fun z : BkA => BlkOk n.w n.L z.2) (ansL b n.bs) := fun k y hk => by
    rw [ansL_lk] at hk
    exact nok.ok _ _ hk
  refine ⟨_, ⟨xc, ⟨R.2.tr, R.2.st, false⟩, ⟨n.w, n.L, 1000, dr, now, ansL b n.bs⟩, ask, b.2.h.ht, b, z⟩, _, vb, vc, awk false avH, rfl, ⟨dx, pT, pS, u1, u2, m, xs, cx28⟩, rD, rb, rc, fun v18 W5 H29 e29 cl29 r29 _ => ?_⟩
  obtain ⟨dx, pT, pS, u1, u2, m, xs, cx⟩ := cl29
  dsimp only at cx r29 e29
  rw [Bool.false_or] at cx
  generalize et : askW ⟨n.w, n.L, 1000, dr, now, ansL b n.bs⟩ b z ask = t at cx r29
  obtain ⟨a8, ea8⟩ : ∃ a, v18 = .ref a := by
    cases t with
    | silent => obtain ⟨a, _, e, _⟩ := r29; exact ⟨a, e⟩
    | same => obtain ⟨a, _, e, _⟩ := r29; exact ⟨a, e⟩
    | fork st => obtain ⟨a, _, e, _⟩ := r29; exact ⟨a, e⟩
    | ref f => obtain ⟨a, _, e, _⟩ := r29; exact ⟨a, e⟩
  subst ea8
  have e45 : Ext W4 W5 := b28.trans e29
  have E29B : Sl K W5 [some (.adr a), some (.lst (cs.map D.int)), some (nD x), some (hshD n.w), some (nD bl), some (.lst (ss.map sgD)), some (.at xn (nodD n)), some (.lst (co.map sgD)), some (.at pA (dcD bkA lA)), some (nD now), some (polD 1000 dr), some (nD b.2.h.ht), some (.adr xc), some (nD hg), none, some (nD ask), none, some (.adr pb), some (.adr a8), none, none, none] _ := (E27B.ext e45).set (i := 18) (d := .adr a8) (v := .ref a8) rfl
  have E29 := E29B.ext cx.ce.ext
  have rt29 : Rp K H29 (toldD t) (.ref a8) := r29.ext cx.ce.ext
  have halx : ∀ {H2 : Hp} {σ : L2.St} {G : Sg}, Sl K H2 G σ → G[12]? = some (some (.adr xc)) → Ext H29 H2 → Gv K (tFld K (tVar 12) "halted") σ H2 (.bl t.isF) := fun E h0 e => gv_fld (gv_view (gv_var E h0) (cx.view.ext e)) T.cl_Client T.na_Client_halted (n := 4) (by decide +kernel) (by decide) rfl
  refine s_if E29 (gt_test (gv_neS (ds := seenD ⟨R.2.tr, R.2.st, false⟩ ask) (seen_det _ _) (seen_dep _ _) (gn_call (ga_cons (gv_view (gv_var (i := 12) E29 rfl) cx.view) (ga_cons (gv_var E29 rfl) ga_nil)) (ok_Sn ⟨n.w, 1000, dr, ⟨R.2.tr, R.2.st, t.isF⟩⟩ tl64)).gv (gv_view (gv_var (i := 17) E29 rfl) ((rbW.ext e45).ext cx.ce.ext)))) (fun z => nomatch z) fun _ H30 e30 E30 => ?_
  refine s_nop ?_
  refine s_if E30 (gt_test (gv_gtN (gv_var (i := 15) (d := nD ask) E30 rfl) (gv_meth (gv_Nd T (i := 6) E30 rfl) rfl ga_nil (ok_nh nok.ne)))) (fun hc H31 e31 E31 => ?_) fun hc H31 e31 E31 => ?_
  · have h1 := of_decide_eq_true hc
    have ht : t = .silent := by
      rw [← et]
      unfold askW
      have hl : lk (ansL b n.bs) ask = none := by rw [ansL_lk, List.getElem?_eq_none (by omega)]
      dsimp only
      rw [hl]
    subst ht
    exact s_ret (d := .bl true) (gv_andV (a := true) (b := true) (gv_eqST (ds := [.str "silent"]) rfl (by show max 0 0 ≤ 50; decide) (gv_view (gv_var (i := 18) E31 rfl) ((rt29.ext e30).ext e31)) (gv_tup (ga_cons gv_str ga_nil) (by simp))) fun _ => (gv_isB (halx E31 rfl (e30.trans e31)) gv_bl).is rfl) fun v H32 e32 r32 => fin r32
  have hle : ¬ n.bs.length - 1 < ask := of_decide_eq_false hc
  refine s_nop ?_
  obtain ⟨y, hy⟩ : ∃ z, n.bs[ask]? = some z := ⟨_, List.getElem?_eq_getElem (by omega)⟩
  have e31' := e30.trans e31
  refine s_if E31 (gt_test (gv_own (sp := spHe K) (x := hdrD z.2.h) (y := hdrD y.2.h) (gv_Block_header T (gv_un (Gv.is (d' := bkA z) (gv_meth (gv_view (gv_var (i := 12) E31 rfl) (cx.view.ext e31')) rfl (ga_cons (gv_var E31 rfl) ga_nil) (ok_cb ⟨n.w, 1000, dr, ⟨R.2.tr, R.2.st, t.isF⟩⟩)) (by show opD bkA (lk R.2.tr ask) = bkA z; rw [hz]; rfl)))) (gv_Block_header T (gv_un (gv_meth (gv_Nd T (i := 6) E31 rfl) rfl (ga_cons (gv_var E31 rfl) ga_nil) (ok_nb hy)))) ok_he)) (fun hc H32 e32 E32 => ?_) fun hc H32 e32 E32 => ?_
  · have h1 := of_decide_eq_true hc
    have ht : t = .same := by
      rw [← et]
      unfold askW
      have hl : lk (ansL b n.bs) ask = some y := by rw [ansL_lk, hy]
      dsimp only
      rw [hl]
      exact if_pos h1.symm
    subst ht
    exact s_ret (d := .bl true) (gv_andV (a := true) (b := true) (gv_eqST (ds := [.str "same"]) rfl (by show max 0 0 ≤ 50; decide) (gv_view (gv_var (i := 18) E32 rfl) ((rt29.ext e31').ext e32)) (gv_tup (ga_cons gv_str ga_nil) (by simp))) fun _ => (gv_isB (halx E32 rfl (e31'.trans e32)) gv_bl).is rfl) fun v H33 e33 r33 => fin r33
  have hne : ¬ z.2.h = y.2.h := of_decide_eq_false hc
  refine s_nop ?_
  obtain ⟨st, et2, jn, jk, sth⟩ := hon_told (z0 := b) (d := dr) (z := z) chn hb now1 now2 ask1 hy fun e => hne e.symm
  rw [et] at et2
  subst et2
  obtain ⟨vd, jv, vdk, jk2⟩ := own_verd (z := z) chn hb rd.run (by omega) hy zht zst fun e => hne e.symm
  have e32' := e31'.trans e32
  have gt : ∀ {H2 : Hp} {σ : L2.St} {G : Sg}, Sl K H2 G σ → G[18]? = some (some (.adr a8)) → Ext H29 H2 → Gv K (tVar 18) σ H2 (.tup [.str "fork", .lst (st.map stD)]) := fun E h e => gv_view (gv_var E h) (rt29.ext e)
  refine s_if E32 (Gt.is (b := false) (gt_or (a := false) (b := false) (gt_test ((gv_neStr (x := "fork") (y := "fork") (gv_ixTN (gt E32 rfl e32') (gv_nat 0) rfl) gv_str).is (by rw [decide_eq_true rfl]; rfl))) fun _ => gt_or (a := false) (b := false) (gt_test ((gv_notB (halx E32 rfl e32') gv_bl).is rfl)) fun _ => gt_test ((gv_notN (a := true) (x := .non) (Gv.is (d' := .non) (gv_call (ga_cons (gv_Nd T (i := 6) E32 rfl) (ga_cons (gv_ixTN (gt E32 rfl e32') (gv_nat 1) rfl) ga_nil)) (ok_jss jk)) (by rw [jn]; rfl)) rfl).is rfl)) rfl) (fun z => nomatch z) fun _ H33 e33 E33 => ?_
  refine s_nop ?_
  have e33' := e32'.trans e33
  -- its steps are the chain's
  refine s_forL (l := st) (emb := stD) (gv_ixTN (gt E33 rfl e33') (gv_nat 1) rfl) fun vl H34 e34 rvl => ⟨fun i σ' H' => Ext H34 H' ∧ Sl K W5 [some (.adr a), some (.lst (cs.map D.int)), some (nD x), some (hshD n.w), some (nD bl), some (.lst (ss.map sgD)), some (.at xn (nodD n)), some (.lst (co.map sgD)), some (.at pA (dcD bkA lA)), some (nD now), some (polD 1000 dr), some (nD b.2.h.ht), some (.adr xc), some (nD hg), none, some (nD ask), none, some (.adr pb), some (.adr a8), none, none, none] σ', ?_, ⟨Ext.rfl', E29B⟩, ?_, ?_⟩
  · rintro i σ' H' ⟨e, _⟩
    exact rvl.ext e
  · rintro i s v σ' H' hs ⟨e, E'⟩ rv
    have eW : Ext W5 H' := ((cx.ce.ext.trans e33').trans e34).trans e
    refine g_pair (E'.ext eW) rv fun v1 v2 rv1 rv2 E35 => ?_
    have hsm := sth s (List.mem_of_getElem? hs)
    refine s_if E35 (Gt.is (b := false) (gt_not (a := true) (gt_test (gv_own (sp := spBe K) (x := bkA s.2) (y := bkA s.2) (gv_var (i := 21) E35 rfl) (gv_meth (gv_Nd T (i := 6) E35 rfl) rfl (ga_cons (gv_Header_height T (gv_Block_header T (gv_un (gv_var (i := 21) (d := bkA s.2) E35 rfl)))) ga_nil) (ok_nb hsm)) ok_be))) rfl) (fun z => nomatch z) fun _ H36 e36 E36 => ?_
    exact s_nop ⟨e.trans e36, ((E'.set (i := 20) (d := .any) (v := v1) trivial).set (i := 21) (d := .any) (v := v2) trivial).wk ⟨.inr rfl, .inr rfl, .inr rfl, .inr rfl, .inr rfl, .inr rfl, .inr rfl, .inr rfl, .inr rfl, .inr rfl, .inr rfl, .inr rfl, .inr rfl, .inr rfl, .inr rfl, .inr rfl, .inr rfl, .inr rfl, .inr rfl, .inr rfl, .inl rfl, .inl rfl, trivial⟩⟩
  rintro σ' H35 ⟨e35, E'⟩
  have e35' : Ext H29 H35 := (e33'.trans e34).trans e35
  have E35 := (E'.ext cx.ce.ext).ext e35'
  -- the verdict
  refine s_asg (d := vdD vd) E35 (Gv.is (gv_call (ga_cons (gv_Nd T (i := 6) E35 rfl) (ga_cons (gv_Cl_steps T (gv_view (gv_var (i := 12) E35 rfl) (cx.view.ext e35'))) ga_nil)) (ok_jss jk2)) (by show oV (jssF n R.2.st) = vdD vd; rw [jv]; rfl)) fun v19' H36 e36 r36 _ => ?_
  have E36 := (E35.ext e36).set (i := 19) (d := vdD vd) (v := v19') r36
  have vdn : (vdD vd).isN = some false := by cases vd <;> rfl
  refine s_if E36 (Gt.is (b := false) (gt_or (a := false) (b := false) (gt_test (gv_isN (gv_var (i := 19) (d := vdD vd) E36 rfl) vdn)) fun _ => gt_test ((gv_notB (gv_call (ga_cons (gv_Nd T (i := 6) E36 rfl) (ga_cons (gv_var (i := 19) (d := vdD vd) E36 rfl) ga_nil)) (ok_vh nok vdk)) gv_bl).is rfl)) rfl) (fun z => nomatch z) fun _ H37 e37 E37 => ?_
  refine s_nop ?_
  refine s_retCall (ga_cons (gv_var (i := 12) E37 rfl) (ga_cons (gv_var (i := 6) E37 rfl) (ga_cons (gv_var (i := 9) (d := nD now) E37 rfl) ga_nil))) fun vs H38 e38 r38 => ?_
  obtain ⟨va, _, rfl, ra, vb, _, rfl, rb, vc, _, rfl, rc, rfl⟩ := r38
  have eva : va = .ref xc := ra
  have evb : vb = .ref xn := rb.1
  subst eva evb
  exact ⟨W5, ⟨xc, ⟨R.2.tr, R.2.st, true⟩, n, 1000, dr, now, b.2.h.ht, b⟩, _, vc, syk, rfl, ⟨dx, pT, pS, u1, u2, m, xs, ((cx.mono e35').mono (e36.trans e37)).mono e38⟩, (rN0.ext e03).ext (b27.trans e45), rc, fun H' => fin rfl⟩
end
end K38

set_option Elab.async false
set_option linter.all false
set_option maxRecDepth 100000
set_option maxHeartbeats 0
namespace K38
open PySem PySem.Spec PyProof.Rows L2
/-! ### the head -/
def refsM (o : Obj) : List Addr := match o.data with
  | .dict es _ => es.toList.flatMap fun e => He.refV e.val
  | .func fd => He.refV fd.code
  | .cls cd => [cd.ns]
  | _ => []
def stepM (g : Addr → Option Obj) (as : List Addr) : List Addr := as.flatMap fun a => match g a with
  | some o => refsM o
  | none => []
def asM4 (a b c d : List Addr) : List Addr := mainGlobals :: (a ++ (b ++ (c ++ d)))
def asM3 (g : Addr → Option Obj) (a b c : List Addr) : List Addr := asM4 a b c (stepM g c)
def asM2 (g : Addr → Option Obj) (a b : List Addr) : List Addr := asM3 g a b (stepM g b)
def asM1 (g : Addr → Option Obj) (a : List Addr) : List Addr := asM2 g a (stepM g a)
def asM (g : Addr → Option Obj) : List Addr := asM1 g (stepM g [mainGlobals])
abbrev AlM : Type := Bool × He.AlD
def obK (K : PySem.W.Frag) : AlM := (exB K, He.obsD fa fn K)
def obG (g : Addr → Option Obj) : AlM := obK (He.frG g (asM g))
def hkM : PySem.W.Hook where
  α := AlM
  obs := fun s => obG s.heap.get?
  val := fun _ => (true, He.valD fn)
  says := fun _ h => ∃ K : PySem.W.Frag, K.In h ∧ obK K = (true, He.valD fn)
  of := fun _ _ e => ⟨_, He.frG_in, e⟩
  keeps := fun _ _ _ ⟨K, hK, c⟩ k => ⟨K, PySem.W.Frag.In.keeps hK k, c⟩
abbrev RR : PySem.W.OpenRow := PySem.W.OpenLaw.row PySem.Challenge.rw_offing_k38_whole_witnesses_find_out
def ob (s : PySem.W.SharedT) : AlM := obG (HandSHeadRun.getT s)
theorem ob_eq (s : PySem.W.SharedT) : ob s = hkM.obs s.abs := by
  have e : HandSHeadRun.getT s = s.abs.heap.get? := funext (HandSHeadRun.getT_eq s)
  show obG (HandSHeadRun.getT s) = obG s.abs.heap.get?
  rw [e]
def loose0 : List PySem.Str := ["_wall", "OffingError", "BadBlock", "MASK", "FIRST", "SECOND", "ONE", "OTHER", "LIMB", "WHOLE", "limbs_of", "Hasher", "collision", "is_input", "is_collision", "CHAIN", "KEY", "TREE", "SECRET", "BASE", "MOST_LEVELS", "digit_counts", "digits_of", "stepped", "key_digest", "Signer", "levels_of", "inputs_of", "verify", "MEMBERS_TAG"]
def loose1 : List PySem.Str := ["MOST_MEMBERS", "MOST_WEIGHT", "members_fault", "members_numbers", "members_root", "total", "weight_of", "more_than", "signers", "HEADER_TAG", "VOTE_TAG", "Header", "Block", "header_digest", "vote_message", "block_signers", "lists_fault", "block_fault", "AGAIN", "Policy", "is_expired", "order_fault", "link_fault", "step_fault", "Client", "second_client", "ask_witness", "members_collision", "is_own", "lists_collision"]
def loose2 : List PySem.Str := ["vote_collision", "culprits", "judge_step", "judge_steps", "verdict_holds", "LEAF", "INNER", "KEY_BITS", "bit_of", "parted", "node_input", "node_digest", "map_root", "Node", "_law_number", "_law_cells", "_law_signers", "_law_members", "_law_node", "_law_votes", "_law_forged", "_law_corrupt", "_law_row", "_law_server", "_law_seen", "_law_lying", "_law_stays"]
def looseM : List PySem.Str := loose0 ++ loose1 ++ loose2
theorem run (w : World) : HandSHeadRun.RunEq RR (PySem.W.view RR.prog [99]) hkM ob 6000 looseM w := by
  intro os
  kernel_rfl
end K38

set_option Elab.async false
set_option linter.all false
set_option maxRecDepth 100000
set_option maxHeartbeats 0
namespace K38
open PySem PySem.Spec PyProof.Rows L2
theorem facts {P : Program} {w : World} {K : PySem.W.Frag} {h : Heap} {mg : Str → Option Value} {f : Addr} (X : K.In h) (G : h.Ns mainGlobals mg) (hfa : mg ("law" : Str) = some (.ref f)) (c : obK K = (true, He.valD fn)) :
    ∃ fd : FuncData, (∀ (s : Shared) (v : Value), BindsTo s fd ⟨[v], []⟩ [("_law_script", v)]) ∧ ∀ base : Heap, K.In base → base.Ns mainGlobals mg → FnOk P w K mg base C8.CX0 21 f fd ["_law_script"] (spLaw K) := by
  have c1 : exB K = true := congrArg (fun z : AlM => z.1) c
  have c2 : He.SaysD fa fn K := congrArg (fun z : AlM => z.2) c
  have T : Txt K mg := ⟨c2, c1, h, X, G⟩
  have e := hfa.symm.trans T.g_law
  cases e
  obtain ⟨fd, F⟩ := T.f_law
  have b := FunD.bindsA (ps := ["_law_script"]) F fun _ _ _ _ _ _ us hl => match us, hl with | [_], _ => rfl
  exact ⟨fd, fun s v => b s [v] rfl, fun base _ _ => fnk_law T F⟩
end K38
open PySem PySem.W PySem.Calls PyProof.Rows
theorem PySem.Challenge.cw_offing_k38_whole_witnesses_find_out_holds : PySem.Challenge.rw_offing_k38_whole_witnesses_find_out.Holds := by
  w_on; o_law
  refine HandSHeadRun.head_any (r := OpenLaw.row PySem.Challenge.rw_offing_k38_whole_witnesses_find_out) (q := view (OpenLaw.row PySem.Challenge.rw_offing_k38_whole_witnesses_find_out).prog [99]) (H := K38.hkM) (ob := K38.ob) (M := 6000) (loose := K38.looseM) (d := HandSHeadRun.topDef (OpenLaw.row PySem.Challenge.rw_offing_k38_whole_witnesses_find_out).prog 99) (kwd := []) K38.ob_eq
    (by kernel_rfl) (fun s => by kernel_rfl) K38.run (by kernel_rfl) (by kernel_rfl) (by kernel_rfl) (by rfl) (by first | assumption | decide +kernel) (by decide +kernel) ⟨rfl, rfl, rfl, rfl, rfl, by decide +kernel⟩ ?hw ?hc
  case hw => w_witness2
  case hc =>
    refine L2.walk_ofE (l := PySem.Challenge.rw_offing_k38_whole_witnesses_find_out) (n := 63) (k := 21) (x := "_law_script") (CX := C8.CX0) rfl (by decide) (by kernel_rfl) ⟨rfl, by decide, by decide⟩ ?F (fun _ _ _ _ z => z)
    intro w mg fa h Y G hmg0
    obtain ⟨K, KX, c⟩ := Y
    have hmg : mg ("law" : PySem.Str) = some (.ref fa) := by
      have e : (HandSHeadRun.topDef (OpenLaw.row PySem.Challenge.rw_offing_k38_whole_witnesses_find_out).prog 99).name = ("law" : PySem.Str) := by kernel_rfl
      rw [← e]
      exact hmg0
    obtain ⟨fd, hb, hF⟩ := K38.facts (P := (PySem.Challenge.rw_offing_k38_whole_witnesses_find_out).prog) (w := w) KX G hmg c
    exact ⟨K, fd, K38.spLaw K, KX, hb, fun H a ns hl _ hS => ⟨a, ns, rfl, hS, hl, fun _ => rfl⟩, hF⟩

